import PyProof.Rows.All
import HandS.ForMost
import HandS.More
import HandS.SetFor
import HandS.Strs
import HandS.Keys
import HandS.Deep
import HandS.DictTup
import HandS.Walk
import KE.SortData
import KE.GoesMore
import KE.GoesEnum
import Wide.All
import OpenK.AllK
import Wide.FinOn
import HandS.Codes
import HandS.SlotsVar
import HandS.IsInst
import HandS.Defaults
import HandS.Sort
import HandS.SortOrd
import HandS.SortRule
import HandS.SortInts
import HandS.Style
import HandS.TupAny
import HandS.WideBits
import HandS.Wide
import HandS.EndBits
import HandS.ListItems
import HandS.Steps
import PySem.Challenge.RW_missedmarks_k15_whole_longer_holds_and_m
set_option linter.all false
set_option autoImplicit false
/-! The mathematics of the log, with no program in sight. -/
namespace K15
section
variable {α : Type} [DecidableEq α]

structure Ent (α : Type) where
  key : α
  val : Option Int
  gone : Bool
  passed : Option Int

abbrev Tab (α : Type) := α → Option Int

inductive Ev (α : Type) where
  | put (k : α) (v : Int) | drop (k : α) | join (r : Int) | read (r u : Int) | save (r : Int) | load (r c : Int) | wait

structure LS (α : Type) where
  hold : Int
  gds : List (Bool × Int)
  ents : List (Ent α)
  pl : Int → Option Int
  tb : Int → Tab α
  cps : List (Int × Tab α)
  time : Int

def put1 {β : Type} (f : Int → β) (r : Int) (b : β) : Int → β := fun x => if x = r then b else f x
theorem put1_same {β : Type} (f : Int → β) (r : Int) (b : β) : put1 f r b r = b := if_pos rfl
theorem put1_ne {β : Type} (f : Int → β) {r x : Int} (b : β) (h : x ≠ r) : put1 f r b x = f x := if_neg h

def seatOf (S : LS α) : Bool × Int → Option Int
  | (true, n) => if 0 ≤ n then (S.cps[n.toNat]?).map (·.1) else none
  | (false, r) => S.pl r
def guardB (S : LS α) (i : Nat) : Bool := S.gds.all fun g => match seatOf S g with | none => true | some q => decide ((i : Int) < q)
def oldB (S : LS α) (e : Ent α) : Bool := match e.passed with | none => false | some t => decide (t + S.hold ≤ S.time)
def goB (S : LS α) (i : Nat) (e : Ent α) : Bool := e.val.isNone && (!e.gone) && oldB S e && guardB S i
def letGoE (S : LS α) (i : Nat) (e : Ent α) : Ent α := if goB S i e = true then { e with gone := true } else e
def letGo (S : LS α) : LS α := { S with ents := S.ents.mapIdx (letGoE S) }
def laterB (es : List (Ent α)) (p i : Nat) (k : α) : Bool := ((es.take p).drop (i + 1)).any fun e => decide (e.key = k)
def sweepE (es : List (Ent α)) (p : Nat) (time : Int) (i : Nat) (e : Ent α) : Ent α :=
  if i < p then { e with gone := e.gone || laterB es p i e.key, passed := some (e.passed.getD time) } else e
def sweep0 (S : LS α) (p : Nat) : LS α := { S with ents := S.ents.mapIdx (sweepE S.ents p S.time) }
def sweep (S : LS α) (p : Nat) : LS α := letGo (sweep0 S p)
def goOn (S : LS α) : LS α := letGo { S with time := S.time + 1 }
def setT (T : Tab α) (k : α) (v : Option Int) : Tab α := fun x => if x = k then v else T x
/-- reading on from lo up to hi -/
def rd (lo hi : Int) : Nat → List (Ent α) → Tab α → Tab α
  | _, [], T => T
  | i, e :: es, T => rd lo hi (i + 1) es (if e.gone = false ∧ lo ≤ (i : Int) ∧ (i : Int) < hi then setT T e.key e.val else T)
def stepE (S : LS α) : Ev α → LS α
  | .put k v => goOn { S with ents := S.ents ++ [⟨k, some v, false, none⟩] }
  | .drop k => goOn { S with ents := S.ents ++ [⟨k, none, false, none⟩] }
  | .join r => goOn { S with pl := put1 S.pl r (some 0), tb := put1 S.tb r (fun _ => none) }
  | .read r u => goOn { S with tb := put1 S.tb r (rd ((S.pl r).getD 0) u 0 S.ents (S.tb r)), pl := put1 S.pl r (some u) }
  | .save r => goOn { S with cps := S.cps ++ [((S.pl r).getD 0, S.tb r)] }
  | .load r c => goOn { S with pl := put1 S.pl r ((S.cps[c.toNat]?).map (·.1)), tb := put1 S.tb r (((S.cps[c.toNat]?).map (·.2)).getD (fun _ => none)) }
  | .wait => goOn S
def runE : LS α → List (Ev α) → List Nat → LS α
  | S, e :: es, p :: ps => runE (stepE (sweep S p) e) es ps
  | S, [], p :: _ => sweep S p
  | S, _, [] => S
def init (hold : Int) (gds : List (Bool × Int)) : LS α := ⟨hold, gds, [], fun _ => none, fun _ _ => none, [], 0⟩

/-- what the generator follows -/
structure W where
  many : Nat
  seats : Int → Option Int
  cps : List Int
def W0 : W := ⟨0, fun _ => none, []⟩
def okEv (w : W) : Ev α → Prop
  | .put _ _ => True | .drop _ => True | .join _ => True | .wait => True
  | .read r u => ∃ s, w.seats r = some s ∧ s < u ∧ u ≤ (w.many : Int)
  | .save r => ∃ s, w.seats r = some s
  | .load _ c => 0 ≤ c ∧ c < (w.cps.length : Int)
def wstep (w : W) : Ev α → W
  | .put _ _ => { w with many := w.many + 1 }
  | .drop _ => { w with many := w.many + 1 }
  | .join r => { w with seats := put1 w.seats r (some 0) }
  | .read r u => { w with seats := put1 w.seats r (some u) }
  | .save r => { w with cps := w.cps ++ [(w.seats r).getD 0] }
  | .load r c => { w with seats := put1 w.seats r (w.cps[c.toNat]?) }
  | .wait => w
def Valid : W → List (Ev α) → Prop
  | _, [] => True
  | w, e :: es => okEv w e ∧ Valid (wstep w e) es
def wrun : W → List (Ev α) → W
  | w, [] => w
  | w, e :: es => wrun (wstep w e) es
theorem wrun_append (w : W) (a b : List (Ev α)) : wrun w (a ++ b) = wrun (wrun w a) b := by
  induction a generalizing w with
  | nil => rfl
  | cons e a ih => exact ih (wstep w e)
theorem valid_append (w : W) (a b : List (Ev α)) : Valid w (a ++ b) ↔ Valid w a ∧ Valid (wrun w a) b := by
  induction a generalizing w with
  | nil => exact ⟨fun h => ⟨True.intro, h⟩, fun h => h.2⟩
  | cons e a ih =>
    show okEv w e ∧ Valid (wstep w e) (a ++ b) ↔ (okEv w e ∧ Valid (wstep w e) a) ∧ Valid (wrun (wstep w e) a) b
    rw [ih, and_assoc]
theorem valid_snoc {w : W} {a : List (Ev α)} {e : Ev α} (h : Valid w a) (he : okEv (wrun w a) e) : Valid w (a ++ [e]) := (valid_append w a [e]).mpr ⟨h, he, True.intro⟩
theorem wrun_snoc (w : W) (a : List (Ev α)) (e : Ev α) : wrun w (a ++ [e]) = wstep (wrun w a) e := wrun_append w a [e]
def isPut : Ev α → Bool
  | .put _ _ => true | .drop _ => true | _ => false
def PtsOk : Nat → List (Ev α) → List Nat → Prop
  | m, e :: es, p :: ps => p ≤ m ∧ PtsOk (m + (if isPut e = true then 1 else 0)) es ps
  | m, [], [p] => p ≤ m
  | _, _, _ => False

/-- reader r is wrong at k -/
def wrong (S : LS α) (r : Int) (k : α) : Prop := ∃ (s : Int) (i : Nat) (e : Ent α), S.pl r = some s ∧ S.tb r k ≠ none ∧ S.ents[i]? = some e ∧ e.key = k ∧
  (∀ (j : Nat) (e' : Ent α), i < j → S.ents[j]? = some e' → e'.key ≠ k) ∧ e.val = none ∧ (i : Int) < s

/-! ### what stays -/
theorem letGo_at (S : LS α) (i : Nat) : (letGo S).ents[i]? = (S.ents[i]?).map (letGoE S i) := List.getElem?_mapIdx
theorem sweep0_at (S : LS α) (p i : Nat) : (sweep0 S p).ents[i]? = (S.ents[i]?).map (sweepE S.ents p S.time i) := List.getElem?_mapIdx
theorem letGoE_key (S : LS α) (i : Nat) (e : Ent α) : (letGoE S i e).key = e.key ∧ (letGoE S i e).val = e.val ∧ (letGoE S i e).passed = e.passed := by
  unfold letGoE; split <;> exact ⟨rfl, rfl, rfl⟩
theorem sweepE_key (es : List (Ent α)) (p : Nat) (t : Int) (i : Nat) (e : Ent α) : (sweepE es p t i e).key = e.key ∧ (sweepE es p t i e).val = e.val := by
  unfold sweepE; split <;> exact ⟨rfl, rfl⟩
theorem letGoE_gone (S : LS α) (i : Nat) (e : Ent α) : (letGoE S i e).gone = (e.gone || goB S i e) := by
  unfold letGoE
  cases h : goB S i e
  · rw [if_neg (by decide), Bool.or_false]
  · rw [if_pos rfl, Bool.or_true]
theorem laterB_iff {es : List (Ent α)} {p i : Nat} {k : α} : laterB es p i k = true ↔ ∃ j e, i < j ∧ j < p ∧ es[j]? = some e ∧ e.key = k := by
  unfold laterB
  rw [List.any_eq_true]
  constructor
  · rintro ⟨e, he, hk⟩
    obtain ⟨n, hn⟩ := List.getElem?_of_mem he
    rw [List.getElem?_drop, List.getElem?_take] at hn
    split at hn
    · exact ⟨i + 1 + n, e, by omega, by omega, hn, of_decide_eq_true hk⟩
    · cases hn
  · rintro ⟨j, e, h1, h2, h3, h4⟩
    refine ⟨e, ?_, decide_eq_true h4⟩
    refine List.mem_of_getElem? (i := j - (i + 1)) ?_
    rw [List.getElem?_drop, List.getElem?_take, if_pos (by omega), ← h3]
    congr 1
    omega

/-! ### the simulation: S holds more than T -/
structure Sim (S T : LS α) : Prop where
  hold : T.hold ≤ S.hold
  gds : ∀ g, g ∈ T.gds → g ∈ S.gds
  time : S.time = T.time
  len : S.ents.length = T.ents.length
  ent : ∀ (i : Nat) (e f : Ent α), S.ents[i]? = some e → T.ents[i]? = some f → e.key = f.key ∧ e.val = f.val ∧ e.passed = f.passed ∧ (e.gone = true → f.gone = true) ∧ (f.gone = true → e.gone = false → f.val = none)
  pl : S.pl = T.pl
  tb : ∀ r k v, S.tb r k = some v → T.tb r k = some v
  clen : S.cps.length = T.cps.length
  cps : ∀ (c : Nat) q (U : Tab α) q' (U' : Tab α), S.cps[c]? = some (q, U) → T.cps[c]? = some (q', U') → q = q' ∧ ∀ k v, U k = some v → U' k = some v

theorem ent_of_len {l m : List (Ent α)} (h : l.length = m.length) {i : Nat} {e : Ent α} (he : l[i]? = some e) : ∃ f, m[i]? = some f := by
  have := (List.getElem?_eq_some_iff.mp he).1
  exact ⟨m[i], List.getElem?_eq_getElem (by omega)⟩
theorem Sim.seat {S T : LS α} (h : Sim S T) (g : Bool × Int) : seatOf S g = seatOf T g := by
  obtain ⟨b, n⟩ := g
  cases b with
  | false => show S.pl n = T.pl n; rw [h.pl]
  | true =>
    show (if 0 ≤ n then (S.cps[n.toNat]?).map (·.1) else none) = (if 0 ≤ n then (T.cps[n.toNat]?).map (·.1) else none)
    by_cases hn : 0 ≤ n
    · rw [if_pos hn, if_pos hn]
      cases e1 : S.cps[n.toNat]? with
      | none =>
        have l1 := List.getElem?_eq_none_iff.mp e1
        rw [List.getElem?_eq_none (show T.cps.length ≤ n.toNat by rw [← h.clen]; exact l1)]
      | some a =>
        have l1 := (List.getElem?_eq_some_iff.mp e1).1
        have l2 : n.toNat < T.cps.length := by rw [← h.clen]; exact l1
        have e2 : T.cps[n.toNat]? = some T.cps[n.toNat] := List.getElem?_eq_getElem l2
        have e3 := (h.cps n.toNat a.1 a.2 (T.cps[n.toNat]).1 (T.cps[n.toNat]).2 e1 e2).1
        rw [e2]
        show some a.1 = some (T.cps[n.toNat]).1
        rw [e3]
    · rw [if_neg hn, if_neg hn]
theorem Sim.guard {S T : LS α} (h : Sim S T) {i : Nat} (hs : guardB S i = true) : guardB T i = true := by
  unfold guardB at hs ⊢
  rw [List.all_eq_true] at hs ⊢
  intro g hg
  rw [← h.seat g]
  exact hs g (h.gds g hg)
theorem Sim.letGo {S T : LS α} (h : Sim S T) : Sim (letGo S) (letGo T) := by
  refine ⟨h.hold, h.gds, h.time, ?_, ?_, h.pl, h.tb, h.clen, h.cps⟩
  · show (S.ents.mapIdx _).length = (T.ents.mapIdx _).length
    rw [List.length_mapIdx, List.length_mapIdx]
    exact h.len
  · intro i e f he hf
    rw [letGo_at] at he hf
    cases e1 : S.ents[i]? with
    | none => rw [e1] at he; cases he
    | some e0 =>
      cases e2 : T.ents[i]? with
      | none => rw [e2] at hf; cases hf
      | some f0 =>
        rw [e1] at he; rw [e2] at hf
        cases he; cases hf
        obtain ⟨k1, k2, k3, k4, k5⟩ := h.ent i e0 f0 e1 e2
        obtain ⟨a1, a2, a3⟩ := letGoE_key S i e0
        obtain ⟨b1, b2, b3⟩ := letGoE_key T i f0
        refine ⟨by rw [a1, b1]; exact k1, by rw [a2, b2]; exact k2, by rw [a3, b3]; exact k3, ?_, ?_⟩
        · rw [letGoE_gone, letGoE_gone, Bool.or_eq_true, Bool.or_eq_true]
          rintro (g | g)
          · exact .inl (k4 g)
          · by_cases hg : f0.gone = true
            · exact .inl hg
            · right
              unfold goB at g ⊢
              simp only [Bool.and_eq_true, Bool.not_eq_true'] at g ⊢
              obtain ⟨⟨⟨g1, g2⟩, g3⟩, g4⟩ := g
              refine ⟨⟨⟨by rw [← k2]; exact g1, by simpa using hg⟩, ?_⟩, h.guard g4⟩
              unfold oldB at g3 ⊢
              rw [k3] at g3
              cases e3 : f0.passed with
              | none => rw [e3] at g3; cases g3
              | some t =>
                rw [e3] at g3
                have g3' := of_decide_eq_true g3
                have := h.hold
                have := h.time
                exact decide_eq_true (by omega)
        · rw [letGoE_gone, letGoE_gone, b2]
          intro g1 g2
          rw [Bool.or_eq_false_iff] at g2
          rw [Bool.or_eq_true] at g1
          rcases g1 with g1 | g1
          · exact k5 g1 g2.1
          · unfold goB at g1
            simp only [Bool.and_eq_true] at g1
            exact Option.isNone_iff_eq_none.mp g1.1.1.1
theorem Sim.later {S T : LS α} (h : Sim S T) (p i : Nat) (k : α) : laterB S.ents p i k = laterB T.ents p i k := by
  rw [Bool.eq_iff_iff, laterB_iff, laterB_iff]
  constructor
  · rintro ⟨j, e, h1, h2, h3, h4⟩
    obtain ⟨f, hf⟩ := ent_of_len h.len h3
    exact ⟨j, f, h1, h2, hf, by rw [← (h.ent j e f h3 hf).1]; exact h4⟩
  · rintro ⟨j, f, h1, h2, h3, h4⟩
    obtain ⟨e, he⟩ := ent_of_len h.len.symm h3
    exact ⟨j, e, h1, h2, he, by rw [(h.ent j e f he h3).1]; exact h4⟩
theorem Sim.sweep0 {S T : LS α} (h : Sim S T) (p : Nat) : Sim (sweep0 S p) (sweep0 T p) := by
  refine ⟨h.hold, h.gds, h.time, ?_, ?_, h.pl, h.tb, h.clen, h.cps⟩
  · show (S.ents.mapIdx _).length = (T.ents.mapIdx _).length
    rw [List.length_mapIdx, List.length_mapIdx]
    exact h.len
  · intro i e f he hf
    rw [sweep0_at] at he hf
    cases e1 : S.ents[i]? with
    | none => rw [e1] at he; cases he
    | some e0 =>
      cases e2 : T.ents[i]? with
      | none => rw [e2] at hf; cases hf
      | some f0 =>
        rw [e1] at he; rw [e2] at hf
        cases he; cases hf
        obtain ⟨k1, k2, k3, k4, k5⟩ := h.ent i e0 f0 e1 e2
        unfold sweepE
        by_cases hp : i < p
        · rw [if_pos hp, if_pos hp, h.time, k3, h.later, k1]
          refine ⟨rfl, k2, rfl, ?_, ?_⟩
          · show (e0.gone || laterB T.ents p i f0.key) = true → (f0.gone || laterB T.ents p i f0.key) = true
            rw [Bool.or_eq_true, Bool.or_eq_true]
            rintro (g | g)
            · exact .inl (k4 g)
            · exact .inr g
          · show (f0.gone || laterB T.ents p i f0.key) = true → (e0.gone || laterB T.ents p i f0.key) = false → f0.val = none
            rw [Bool.or_eq_true, Bool.or_eq_false_iff]
            rintro (g | g) ⟨g1, g2⟩
            · exact k5 g g1
            · rw [g] at g2; cases g2
        · rw [if_neg hp, if_neg hp]
          exact ⟨k1, k2, k3, k4, k5⟩
theorem Sim.sweep {S T : LS α} (h : Sim S T) (p : Nat) : Sim (sweep S p) (sweep T p) := (h.sweep0 p).letGo
theorem Sim.goOn {S T : LS α} (h : Sim S T) : Sim (goOn S) (goOn T) := by
  refine Sim.letGo ⟨h.hold, h.gds, ?_, h.len, h.ent, h.pl, h.tb, h.clen, h.cps⟩
  show S.time + 1 = T.time + 1
  rw [h.time]
/-- reading keeps the order -/
theorem rd_sim (lo hi : Int) : ∀ (l m : List (Ent α)) (n : Nat) (U V : Tab α), l.length = m.length →
    (∀ (i : Nat) (e f : Ent α), l[i]? = some e → m[i]? = some f → e.key = f.key ∧ e.val = f.val ∧ (e.gone = true → f.gone = true) ∧ (f.gone = true → e.gone = false → f.val = none)) →
    (∀ k v, U k = some v → V k = some v) → ∀ k v, rd lo hi n l U k = some v → rd lo hi n m V k = some v
  | [], [], _, _, _, _, _, h => h
  | [], _ :: _, _, _, _, hl, _, _ => by simp at hl
  | _ :: _, [], _, _, _, hl, _, _ => by simp at hl
  | e :: l, f :: m, n, U, V, hl, hx, h => by
    refine rd_sim lo hi l m (n + 1) _ _ (by simpa using hl) (fun i a b ha hb => hx (i + 1) a b (by simpa using ha) (by simpa using hb)) ?_
    obtain ⟨k1, k2, k3, k4⟩ := hx 0 e f rfl rfl
    intro k v
    by_cases hr : lo ≤ (n : Int) ∧ (n : Int) < hi
    · by_cases he : e.gone = true
      · have hf := k3 he
        rw [if_neg (by rw [he]; simp), if_neg (by rw [hf]; simp)]
        exact h k v
      · have he' : e.gone = false := by simpa using he
        rw [if_pos ⟨he', hr.1, hr.2⟩]
        by_cases hf : f.gone = true
        · rw [if_neg (by rw [hf]; simp)]
          have hv := k4 hf he'
          unfold setT
          rw [k2, hv]
          intro q
          split at q
          · cases q
          · exact h k v q
        · have hf' : f.gone = false := by simpa using hf
          rw [if_pos ⟨hf', hr.1, hr.2⟩]
          unfold setT
          rw [k1, k2]
          intro q
          split at q
          · rename_i hk; rw [if_pos hk]; exact q
          · rename_i hk; rw [if_neg hk]; exact h k v q
    · rw [if_neg (fun q => hr q.2), if_neg (fun q => hr q.2)]
      exact h k v
theorem get_snoc {β : Type} {l : List β} {x y : β} {i : Nat} (h : (l ++ [x])[i]? = some y) : l[i]? = some y ∨ (i = l.length ∧ y = x) := by
  by_cases hi : i < l.length
  · rw [List.getElem?_append_left hi] at h; exact .inl h
  · rw [List.getElem?_append_right (by omega)] at h
    have h2 := (List.getElem?_eq_some_iff.mp h).1
    have : i = l.length := by simp at h2; omega
    subst this
    simp at h
    exact .inr ⟨rfl, h.symm⟩
theorem Sim.app {S T : LS α} (h : Sim S T) (k : α) (v : Option Int) : Sim { S with ents := S.ents ++ [⟨k, v, false, none⟩] } { T with ents := T.ents ++ [⟨k, v, false, none⟩] } := by
  refine ⟨h.hold, h.gds, h.time, ?_, ?_, h.pl, h.tb, h.clen, h.cps⟩
  · show (S.ents ++ _).length = (T.ents ++ _).length
    rw [List.length_append, List.length_append, h.len]
  · intro i e f he hf
    rcases get_snoc he with he | ⟨hi, he⟩
    · rcases get_snoc hf with hf | ⟨hj, hf⟩
      · exact h.ent i e f he hf
      · have := (List.getElem?_eq_some_iff.mp he).1
        have := h.len
        omega
    · rcases get_snoc hf with hf | ⟨hj, hf⟩
      · have := (List.getElem?_eq_some_iff.mp hf).1
        have := h.len
        omega
      · subst he; subst hf
        exact ⟨rfl, rfl, rfl, fun q => q, fun q _ => by cases q⟩
theorem Sim.step {S T : LS α} (h : Sim S T) (e : Ev α) : Sim (stepE S e) (stepE T e) := by
  cases e with
  | put k v => exact (h.app k (some v)).goOn
  | drop k => exact (h.app k none).goOn
  | join r =>
    refine Sim.goOn ⟨h.hold, h.gds, h.time, h.len, h.ent, ?_, ?_, h.clen, h.cps⟩
    · show put1 S.pl r (some 0) = put1 T.pl r (some 0)
      rw [h.pl]
    · intro r' k v
      show put1 S.tb r (fun _ => none) r' k = some v → put1 T.tb r (fun _ => none) r' k = some v
      unfold put1
      by_cases hr : r' = r
      · rw [if_pos hr, if_pos hr]; exact fun q => q
      · rw [if_neg hr, if_neg hr]; exact h.tb r' k v
  | read r u =>
    refine Sim.goOn ⟨h.hold, h.gds, h.time, h.len, h.ent, ?_, ?_, h.clen, h.cps⟩
    · show put1 S.pl r (some u) = put1 T.pl r (some u)
      rw [h.pl]
    · intro r' k v
      show put1 S.tb r (rd ((S.pl r).getD 0) u 0 S.ents (S.tb r)) r' k = some v → put1 T.tb r (rd ((T.pl r).getD 0) u 0 T.ents (T.tb r)) r' k = some v
      unfold put1
      by_cases hr : r' = r
      · rw [if_pos hr, if_pos hr, h.pl]
        exact rd_sim _ u S.ents T.ents 0 _ _ h.len (fun i e f he hf => let ⟨a, b, _, c, d⟩ := h.ent i e f he hf; ⟨a, b, c, d⟩) (h.tb r) k v
      · rw [if_neg hr, if_neg hr]; exact h.tb r' k v
  | save r =>
    refine Sim.goOn ⟨h.hold, h.gds, h.time, h.len, h.ent, h.pl, h.tb, ?_, ?_⟩
    · show (S.cps ++ _).length = (T.cps ++ _).length
      rw [List.length_append, List.length_append, h.clen]
      all_goals rfl
    · intro c q U q' U' hc hc'
      rcases get_snoc hc with hc | ⟨hi, hc⟩
      · rcases get_snoc hc' with hc' | ⟨hj, hc'⟩
        · exact h.cps c q U q' U' hc hc'
        · have := (List.getElem?_eq_some_iff.mp hc).1
          have := h.clen
          omega
      · rcases get_snoc hc' with hc' | ⟨hj, hc'⟩
        · have := (List.getElem?_eq_some_iff.mp hc').1
          have := h.clen
          omega
        · cases hc; cases hc'
          exact ⟨by rw [h.pl], h.tb r⟩
  | load r c =>
    refine Sim.goOn ⟨h.hold, h.gds, h.time, h.len, h.ent, ?_, ?_, h.clen, h.cps⟩
    · show put1 S.pl r ((S.cps[c.toNat]?).map (·.1)) = put1 T.pl r ((T.cps[c.toNat]?).map (·.1))
      rw [h.pl]
      have e := h.seat (true, (c.toNat : Int))
      have e' : (if (0 : Int) ≤ (c.toNat : Int) then (S.cps[((c.toNat : Nat) : Int).toNat]?).map (·.1) else none) = (if (0 : Int) ≤ (c.toNat : Int) then (T.cps[((c.toNat : Nat) : Int).toNat]?).map (·.1) else none) := e
      rw [if_pos (by omega), if_pos (by omega), Int.toNat_natCast] at e'
      rw [e']
    · intro r' k v
      show put1 S.tb r (((S.cps[c.toNat]?).map (·.2)).getD (fun _ => none)) r' k = some v → put1 T.tb r (((T.cps[c.toNat]?).map (·.2)).getD (fun _ => none)) r' k = some v
      unfold put1
      by_cases hr : r' = r
      · rw [if_pos hr, if_pos hr]
        cases e1 : S.cps[c.toNat]? with
        | none => intro q; cases q
        | some a =>
          have l1 := (List.getElem?_eq_some_iff.mp e1).1
          have l2 : c.toNat < T.cps.length := by rw [← h.clen]; exact l1
          have e2 : T.cps[c.toNat]? = some T.cps[c.toNat] := List.getElem?_eq_getElem l2
          rw [e2]
          exact (h.cps c.toNat a.1 a.2 _ _ e1 e2).2 k v
      · rw [if_neg hr, if_neg hr]; exact h.tb r' k v
  | wait => exact h.goOn
theorem Sim.run : ∀ {S T : LS α} (es : List (Ev α)) (ps : List Nat), Sim S T → Sim (runE S es ps) (runE T es ps)
  | _, _, e :: es, p :: ps, h => Sim.run es ps ((h.sweep p).step e)
  | _, _, [], p :: _, h => h.sweep p
  | _, _, [], [], h => h
  | _, _, _ :: _, [], h => h
theorem Sim.wrong {S T : LS α} (h : Sim S T) {r : Int} {k : α} (w : wrong S r k) : wrong T r k := by
  obtain ⟨s, i, e, h1, h2, h3, h4, h5, h6, h7⟩ := w
  obtain ⟨f, hf⟩ := ent_of_len h.len h3
  obtain ⟨k1, k2, _, _, _⟩ := h.ent i e f h3 hf
  refine ⟨s, i, f, by rw [← h.pl]; exact h1, ?_, hf, by rw [← k1]; exact h4, ?_, by rw [← k2]; exact h6, h7⟩
  · cases q : S.tb r k with
    | none => exact absurd q h2
    | some v => rw [h.tb r k v q]; simp
  · intro j f' hj hf'
    obtain ⟨e', he'⟩ := ent_of_len h.len.symm hf'
    rw [← (h.ent j e' f' he' hf').1]
    exact h5 j e' hj he'
theorem sim_init {h1 h2 : Int} {g1 g2 : List (Bool × Int)} (h : h2 ≤ h1) (g : ∀ x, x ∈ g2 → x ∈ g1) : Sim (init h1 g1 : LS α) (init h2 g2) :=
  ⟨h, g, rfl, rfl, fun _ _ _ q => by simp [init] at q, rfl, fun _ _ _ q => by simp [init] at q, rfl, fun _ _ _ _ _ q => by simp [init] at q⟩
/-- a longer hold, more guards: nobody is wrong who was not -/
theorem mono {h1 h2 : Int} {g1 g2 : List (Bool × Int)} (h : h2 ≤ h1) (g : ∀ x, x ∈ g2 → x ∈ g1) (es : List (Ev α)) (ps : List Nat) {r : Int} {k : α} (w : wrong (runE (init h1 g1) es ps) r k) : wrong (runE (init h2 g2) es ps) r k :=
  (Sim.run es ps (sim_init h g)).wrong w

/-! ### what every log keeps -/
def SameKV (l m : List (Ent α)) : Prop := l.length = m.length ∧ ∀ (i : Nat) (e f : Ent α), l[i]? = some e → m[i]? = some f → e.key = f.key ∧ e.val = f.val
theorem SameKV.mapIdx {l : List (Ent α)} {f : Nat → Ent α → Ent α} (h : ∀ i e, (f i e).key = e.key ∧ (f i e).val = e.val) : SameKV l (l.mapIdx f) := by
  refine ⟨by rw [List.length_mapIdx], fun i e g he hg => ?_⟩
  rw [List.getElem?_mapIdx, he] at hg
  cases hg
  exact ⟨(h i e).1.symm, (h i e).2.symm⟩
structure WF (S : LS α) (w : W) : Prop where
  many : S.ents.length = w.many
  pl : S.pl = w.seats
  cps : S.cps.map (·.1) = w.cps
  le : ∀ r s, S.pl r = some s → 0 ≤ s ∧ s ≤ (S.ents.length : Int)
  cle : ∀ (c : Nat) (q : Int) (U : Tab α), S.cps[c]? = some (q, U) → 0 ≤ q ∧ q ≤ (S.ents.length : Int)
  tin : ∀ r k, S.tb r k ≠ none → ∃ e, e ∈ S.ents ∧ e.key = k
  cin : ∀ (c : Nat) (q : Int) (U : Tab α), S.cps[c]? = some (q, U) → ∀ k, U k ≠ none → ∃ e, e ∈ S.ents ∧ e.key = k
  pas : ∀ e, e ∈ S.ents → ∀ t, e.passed = some t → 0 ≤ t
  tim : 0 ≤ S.time
theorem mem_same {l m : List (Ent α)} (h : SameKV l m) {k : α} (x : ∃ e, e ∈ l ∧ e.key = k) : ∃ e, e ∈ m ∧ e.key = k := by
  obtain ⟨e, he, hk⟩ := x
  obtain ⟨i, hi⟩ := List.getElem?_of_mem he
  obtain ⟨f, hf⟩ := ent_of_len h.1 hi
  exact ⟨f, List.mem_of_getElem? hf, by rw [← (h.2 i e f hi hf).1]; exact hk⟩
theorem WF.ents {S : LS α} {w : W} (h : WF S w) {m : List (Ent α)} (sm : SameKV S.ents m) (hp : ∀ e, e ∈ m → ∀ t, e.passed = some t → 0 ≤ t) : WF { S with ents := m } w := by
  refine ⟨by rw [← sm.1]; exact h.many, h.pl, h.cps, fun r s q => ?_, fun c q U hc => ?_, fun r k q => mem_same sm (h.tin r k q), fun c q U hc k hk => mem_same sm (h.cin c q U hc k hk), hp, h.tim⟩
  · show 0 ≤ s ∧ s ≤ (m.length : Int)
    rw [← sm.1]; exact h.le r s q
  · show 0 ≤ q ∧ q ≤ (m.length : Int)
    rw [← sm.1]; exact h.cle c q U hc
theorem WF.letGo {S : LS α} {w : W} (h : WF S w) : WF (letGo S) w := by
  refine h.ents (SameKV.mapIdx fun i e => ⟨(letGoE_key S i e).1, (letGoE_key S i e).2.1⟩) fun e he t ht => ?_
  obtain ⟨i, hi⟩ := List.getElem?_of_mem he
  rw [List.getElem?_mapIdx] at hi
  cases e1 : S.ents[i]? with
  | none => rw [e1] at hi; cases hi
  | some e0 =>
    rw [e1] at hi
    cases hi
    rw [(letGoE_key S i e0).2.2] at ht
    exact h.pas e0 (List.mem_of_getElem? e1) t ht
theorem WF.sweep0 {S : LS α} {w : W} (h : WF S w) (p : Nat) : WF (sweep0 S p) w := by
  refine h.ents (SameKV.mapIdx fun i e => sweepE_key S.ents p S.time i e) fun e he t ht => ?_
  obtain ⟨i, hi⟩ := List.getElem?_of_mem he
  rw [List.getElem?_mapIdx] at hi
  cases e1 : S.ents[i]? with
  | none => rw [e1] at hi; cases hi
  | some e0 =>
    rw [e1] at hi
    cases hi
    unfold sweepE at ht
    split at ht
    · have ht' : some (e0.passed.getD S.time) = some t := ht
      cases e2 : e0.passed with
      | none => rw [e2] at ht'; cases ht'; exact h.tim
      | some u => rw [e2] at ht'; cases ht'; exact h.pas e0 (List.mem_of_getElem? e1) u e2
    · exact h.pas e0 (List.mem_of_getElem? e1) t ht
theorem WF.sweep {S : LS α} {w : W} (h : WF S w) (p : Nat) : WF (sweep S p) w := (h.sweep0 p).letGo
theorem WF.goOn {S : LS α} {w : W} (h : WF S w) : WF (goOn S) w :=
  WF.letGo ⟨h.many, h.pl, h.cps, h.le, h.cle, h.tin, h.cin, h.pas, by have := h.tim; show 0 ≤ S.time + 1; omega⟩
theorem WF.app {S : LS α} {w : W} (h : WF S w) (k : α) (v : Option Int) : WF { S with ents := S.ents ++ [⟨k, v, false, none⟩] } { w with many := w.many + 1 } := by
  have e : (S.ents ++ [(⟨k, v, false, none⟩ : Ent α)]).length = S.ents.length + 1 := by rw [List.length_append]; rfl
  refine ⟨by rw [e, h.many], h.pl, h.cps, fun r s q => ?_, fun c q U hc => ?_, fun r k q => ?_, fun c q U hc k hk => ?_, fun f hf t ht => ?_, h.tim⟩
  · have := h.le r s q
    show 0 ≤ s ∧ s ≤ ((S.ents ++ [(⟨k, v, false, none⟩ : Ent α)]).length : Int)
    rw [e]; omega
  · have := h.cle c q U hc
    show 0 ≤ q ∧ q ≤ ((S.ents ++ [(⟨k, v, false, none⟩ : Ent α)]).length : Int)
    rw [e]; omega
  · obtain ⟨f, hf, hk⟩ := h.tin r k q
    exact ⟨f, List.mem_append_left _ hf, hk⟩
  · obtain ⟨f, hf, hk⟩ := h.cin c q U hc k hk
    exact ⟨f, List.mem_append_left _ hf, hk⟩
  · rcases List.mem_append.mp hf with hf | hf
    · exact h.pas f hf t ht
    · rcases List.mem_singleton.mp hf with rfl
      cases ht
theorem rd_in (lo hi : Int) : ∀ (l : List (Ent α)) (n : Nat) (U : Tab α) (P : α → Prop), (∀ e, e ∈ l → P e.key) → (∀ k, U k ≠ none → P k) → ∀ k, rd lo hi n l U k ≠ none → P k
  | [], _, _, _, _, h => h
  | e :: l, n, U, P, hl, h => by
    refine rd_in lo hi l (n + 1) _ P (fun f hf => hl f (List.mem_cons_of_mem _ hf)) fun k => ?_
    split
    · unfold setT
      intro q
      split at q
      · rename_i hk; rw [hk]; exact hl e List.mem_cons_self
      · exact h k q
    · exact h k
theorem cps_get {S : LS α} {w : W} (h : WF S w) (c : Nat) : (S.cps[c]?).map (·.1) = w.cps[c]? := by
  rw [← h.cps, List.getElem?_map]
theorem WF.step {S : LS α} {w : W} (h : WF S w) {e : Ev α} (ok : okEv w e) : WF (stepE S e) (wstep w e) := by
  cases e with
  | put k v => exact (h.app k (some v)).goOn
  | drop k => exact (h.app k none).goOn
  | wait => exact h.goOn
  | join r =>
    refine WF.goOn ⟨h.many, ?_, h.cps, fun r' s q => ?_, h.cle, fun r' k q => ?_, h.cin, h.pas, h.tim⟩
    · show put1 S.pl r (some 0) = put1 w.seats r (some 0)
      rw [h.pl]
    · have q' : put1 S.pl r (some 0) r' = some s := q
      unfold put1 at q'
      split at q'
      · cases q'; show (0 : Int) ≤ 0 ∧ (0 : Int) ≤ (S.ents.length : Int); omega
      · exact h.le r' s q'
    · have q' : put1 S.tb r (fun _ => none) r' k ≠ none := q
      unfold put1 at q'
      split at q'
      · exact absurd rfl q'
      · exact h.tin r' k q'
  | read r u =>
    obtain ⟨s0, hs0, h1, h2⟩ := ok
    refine WF.goOn ⟨h.many, ?_, h.cps, fun r' s q => ?_, h.cle, fun r' k q => ?_, h.cin, h.pas, h.tim⟩
    · show put1 S.pl r (some u) = put1 w.seats r (some u)
      rw [h.pl]
    · have q' : put1 S.pl r (some u) r' = some s := q
      unfold put1 at q'
      split at q'
      · cases q'
        have := h.le r s0 (by rw [h.pl]; exact hs0)
        have := h.many
        show (0 : Int) ≤ u ∧ u ≤ (S.ents.length : Int)
        omega
      · exact h.le r' s q'
    · have q' : put1 S.tb r (rd ((S.pl r).getD 0) u 0 S.ents (S.tb r)) r' k ≠ none := q
      unfold put1 at q'
      split at q'
      · exact rd_in _ u S.ents 0 (S.tb r) (fun k => ∃ e, e ∈ S.ents ∧ e.key = k) (fun e he => ⟨e, he, rfl⟩) (h.tin r) k q'
      · exact h.tin r' k q'
  | save r =>
    obtain ⟨s0, hs0⟩ := ok
    refine WF.goOn ⟨h.many, h.pl, ?_, h.le, fun c q U hc => ?_, h.tin, fun c q U hc k hk => ?_, h.pas, h.tim⟩
    · show (S.cps ++ [((S.pl r).getD 0, S.tb r)]).map (·.1) = w.cps ++ [(w.seats r).getD 0]
      rw [List.map_append, h.cps, h.pl]
      all_goals rfl
    · rcases get_snoc hc with hc | ⟨_, hc⟩
      · exact h.cle c q U hc
      · cases hc
        rw [h.pl, hs0]
        exact h.le r s0 (by rw [h.pl]; exact hs0)
    · rcases get_snoc hc with hc | ⟨_, hc⟩
      · exact h.cin c q U hc k hk
      · cases hc
        exact h.tin r k hk
  | load r c =>
    refine WF.goOn ⟨h.many, ?_, h.cps, fun r' s q => ?_, h.cle, fun r' k q => ?_, h.cin, h.pas, h.tim⟩
    · show put1 S.pl r ((S.cps[c.toNat]?).map (·.1)) = put1 w.seats r (w.cps[c.toNat]?)
      rw [h.pl, cps_get h]
    · have q' : put1 S.pl r ((S.cps[c.toNat]?).map (·.1)) r' = some s := q
      unfold put1 at q'
      split at q'
      · cases e1 : S.cps[c.toNat]? with
        | none => rw [e1] at q'; cases q'
        | some a =>
          rw [e1] at q'
          cases q'
          exact h.cle c.toNat a.1 a.2 e1
      · exact h.le r' s q'
    · have q' : put1 S.tb r (((S.cps[c.toNat]?).map (·.2)).getD (fun _ => none)) r' k ≠ none := q
      unfold put1 at q'
      split at q'
      · cases e1 : S.cps[c.toNat]? with
        | none => rw [e1] at q'; exact absurd rfl q'
        | some a =>
          rw [e1] at q'
          exact h.cin c.toNat a.1 a.2 e1 k q'
      · exact h.tin r' k q'
theorem wf_init (hold : Int) (gds : List (Bool × Int)) : WF (init hold gds : LS α) W0 :=
  ⟨rfl, rfl, rfl, fun _ _ q => (by cases q), fun _ _ _ q => (by simp [init] at q), fun _ _ q => absurd rfl q, fun _ _ _ q => (by simp [init] at q), fun _ q => (by simp [init] at q), Int.le_refl 0⟩

/-! ### nobody is wrong -/
def Clean (es : List (Ent α)) (s : Int) (T : Tab α) : Prop := ∀ (i : Nat) (e : Ent α), es[i]? = some e → (∀ (j : Nat) (f : Ent α), i < j → es[j]? = some f → f.key ≠ e.key) → e.val = none → ((i : Int) < s ∨ e.gone = true) → T e.key = none
structure Good (GR : Int → Prop) (GC : Nat → Prop) (S : LS α) : Prop where
  a : ∀ (i : Nat) (e : Ent α), S.ents[i]? = some e → e.passed ≠ none → ∀ (j : Nat) (f : Ent α), j < i → S.ents[j]? = some f → f.key = e.key → f.gone = true
  b : ∀ (i : Nat) (e : Ent α), S.ents[i]? = some e → e.gone = true → (∃ (j : Nat) (f : Ent α), i < j ∧ S.ents[j]? = some f ∧ f.key = e.key) ∨ (e.val = none ∧ e.passed ≠ none)
  r : ∀ r s, GR r → S.pl r = some s → Clean S.ents s (S.tb r)
  c : ∀ (c : Nat) (q : Int) (U : Tab α), GC c → S.cps[c]? = some (q, U) → Clean S.ents q U
/-- a mark goes only when all of the good ones are beyond it -/
def LG (GR : Int → Prop) (GC : Nat → Prop) (S : LS α) : Prop := ∀ (i : Nat) (e : Ent α), S.ents[i]? = some e → goB S i e = true → (∀ r s, GR r → S.pl r = some s → (i : Int) < s) ∧ ∀ (c : Nat) (q : Int) (U : Tab α), GC c → S.cps[c]? = some (q, U) → (i : Int) < q
theorem map_some {l : List (Ent α)} {f : Nat → Ent α → Ent α} {i : Nat} {e : Ent α} (h : (l.mapIdx f)[i]? = some e) : ∃ e0, l[i]? = some e0 ∧ e = f i e0 := by
  rw [List.getElem?_mapIdx] at h
  cases e1 : l[i]? with
  | none => rw [e1] at h; cases h
  | some e0 => rw [e1] at h; cases h; exact ⟨e0, rfl, rfl⟩
theorem map_at {l : List (Ent α)} (f : Nat → Ent α → Ent α) {i : Nat} {e : Ent α} (h : l[i]? = some e) : (l.mapIdx f)[i]? = some (f i e) := by
  rw [List.getElem?_mapIdx, h]
  rfl
theorem Good.letGo {GR : Int → Prop} {GC : Nat → Prop} {S : LS α} (h : Good GR GC S) (lg : LG GR GC S) : Good GR GC (letGo S) := by
  have clean : ∀ s T, (∀ (i : Nat) (e : Ent α), S.ents[i]? = some e → goB S i e = true → (i : Int) < s) → Clean S.ents s T → Clean (K15.letGo S).ents s T := by
    intro s T hs cl i e he hl hv hg
    obtain ⟨e0, h0, rfl⟩ := map_some he
    obtain ⟨a1, a2, a3⟩ := letGoE_key S i e0
    rw [a1]
    rw [a1] at hl
    rw [a2] at hv
    rw [letGoE_gone, Bool.or_eq_true] at hg
    refine cl i e0 h0 (fun j f hj hf => ?_) hv ?_
    · have := hl j (letGoE S j f) hj (map_at _ hf)
      rw [(letGoE_key S j f).1] at this
      exact this
    · rcases hg with hg | hg | hg
      · exact .inl hg
      · exact .inr hg
      · exact .inl (hs i e0 h0 hg)
  refine ⟨?_, ?_, fun r s g hs => clean s _ (fun i e he hg => (lg i e he hg).1 r s g hs) (h.r r s g hs), fun c q U g hc => clean q U (fun i e he hg => (lg i e he hg).2 c q U g hc) (h.c c q U g hc)⟩
  · intro i e he hp j f hj hf hk
    obtain ⟨e0, h0, rfl⟩ := map_some he
    obtain ⟨f0, g0, rfl⟩ := map_some hf
    rw [(letGoE_key S i e0).1, (letGoE_key S j f0).1] at hk
    rw [(letGoE_key S i e0).2.2] at hp
    rw [letGoE_gone, h.a i e0 h0 hp j f0 hj g0 hk]
    all_goals rfl
  · intro i e he hg
    obtain ⟨e0, h0, rfl⟩ := map_some he
    obtain ⟨a1, a2, a3⟩ := letGoE_key S i e0
    rw [a1, a2, a3]
    rw [letGoE_gone, Bool.or_eq_true] at hg
    rcases hg with hg | hg
    · rcases h.b i e0 h0 hg with ⟨j, f, h1, h2, h3⟩ | q
      · exact .inl ⟨j, letGoE S j f, h1, map_at _ h2, by rw [(letGoE_key S j f).1]; exact h3⟩
      · exact .inr q
    · right
      unfold goB at hg
      simp only [Bool.and_eq_true] at hg
      refine ⟨Option.isNone_iff_eq_none.mp hg.1.1.1, fun q => ?_⟩
      have := hg.1.2
      unfold oldB at this
      rw [q] at this
      cases this
theorem Good.sweep0 {GR : Int → Prop} {GC : Nat → Prop} {S : LS α} (h : Good GR GC S) (p : Nat) : Good GR GC (sweep0 S p) := by
  have gone : ∀ i e, (sweepE S.ents p S.time i e).gone = true ↔ e.gone = true ∨ (i < p ∧ laterB S.ents p i e.key = true) := by
    intro i e
    unfold sweepE
    by_cases hp : i < p
    · rw [if_pos hp]
      show (e.gone || laterB S.ents p i e.key) = true ↔ _
      rw [Bool.or_eq_true]
      exact ⟨fun q => q.imp id fun z => ⟨hp, z⟩, fun q => q.imp id fun z => z.2⟩
    · rw [if_neg hp]
      exact ⟨.inl, fun q => q.elim id fun z => absurd z.1 hp⟩
  have clean : ∀ s T, Clean S.ents s T → Clean (K15.sweep0 S p).ents s T := by
    intro s T cl i e he hl hv hg
    obtain ⟨e0, h0, rfl⟩ := map_some he
    obtain ⟨a1, a2⟩ := sweepE_key S.ents p S.time i e0
    rw [a1]
    rw [a1] at hl
    rw [a2] at hv
    have hl' : ∀ (j : Nat) (f : Ent α), i < j → S.ents[j]? = some f → f.key ≠ e0.key := fun j f hj hf => by
      have := hl j _ hj (map_at _ hf)
      rw [(sweepE_key S.ents p S.time j f).1] at this
      exact this
    refine cl i e0 h0 hl' hv ?_
    rcases hg with hg | hg
    · exact .inl hg
    · rcases (gone i e0).mp hg with q | ⟨_, q⟩
      · exact .inr q
      · obtain ⟨j, f, h1, _, h3, h4⟩ := laterB_iff.mp q
        exact absurd h4 (hl' j f h1 h3)
  refine ⟨?_, ?_, fun r s g hs => clean s _ (h.r r s g hs), fun c q U g hc => clean q U (h.c c q U g hc)⟩
  · intro i e he hp j f hj hf hk
    obtain ⟨e0, h0, rfl⟩ := map_some he
    obtain ⟨f0, g0, rfl⟩ := map_some hf
    rw [(sweepE_key S.ents p S.time i e0).1, (sweepE_key S.ents p S.time j f0).1] at hk
    rw [gone]
    by_cases hip : i < p
    · exact .inr ⟨by omega, laterB_iff.mpr ⟨i, e0, hj, hip, h0, hk.symm⟩⟩
    · unfold sweepE at hp
      rw [if_neg hip] at hp
      exact .inl (h.a i e0 h0 hp j f0 hj g0 hk)
  · intro i e he hg
    obtain ⟨e0, h0, rfl⟩ := map_some he
    obtain ⟨a1, a2⟩ := sweepE_key S.ents p S.time i e0
    rw [a1, a2]
    rcases (gone i e0).mp hg with hg | ⟨_, hg⟩
    · rcases h.b i e0 h0 hg with ⟨j, f, h1, h2, h3⟩ | ⟨q1, q2⟩
      · exact .inl ⟨j, _, h1, map_at _ h2, by rw [(sweepE_key S.ents p S.time j f).1]; exact h3⟩
      · refine .inr ⟨q1, ?_⟩
        unfold sweepE
        split
        · simp
        · exact q2
    · obtain ⟨j, f, h1, _, h3, h4⟩ := laterB_iff.mp hg
      exact .inl ⟨j, _, h1, map_at _ h3, by rw [(sweepE_key S.ents p S.time j f).1]; exact h4⟩
/-- what reading does to a key of which there is nothing to read -/
theorem rd_none (lo hi : Int) (k : α) : ∀ (l : List (Ent α)) (n : Nat) (U : Tab α), (∀ (i : Nat) (e : Ent α), l[i]? = some e → e.key = k → e.gone = true ∨ ((n + i : Nat) : Int) < lo ∨ hi ≤ ((n + i : Nat) : Int)) → rd lo hi n l U k = U k
  | [], _, _, _ => rfl
  | e :: l, n, U, h => by
    show rd lo hi (n + 1) l _ k = U k
    rw [rd_none lo hi k l (n + 1) _ fun i f hf hk => by
      have := h (i + 1) f (by simpa using hf) hk
      rw [show n + 1 + i = n + (i + 1) by omega]; exact this]
    split
    · rename_i hc
      unfold setT
      split
      · rename_i hk
        have := h 0 e rfl hk.symm
        rw [hc.1] at this
        simp only [Nat.add_zero] at this
        rcases this with z | z | z
        · cases z
        · omega
        · omega
      · rfl
    · rfl
/-- the last of a key that is read tells -/
theorem rd_last (lo hi : Int) (k : α) : ∀ (l : List (Ent α)) (n m : Nat) (U : Tab α) (x : Ent α), l[m]? = some x → x.key = k → x.gone = false → lo ≤ ((n + m : Nat) : Int) → ((n + m : Nat) : Int) < hi →
    (∀ (j : Nat) (f : Ent α), m < j → l[j]? = some f → f.key ≠ k) → rd lo hi n l U k = x.val
  | [], _, _, _, _, h, _, _, _, _, _ => by simp at h
  | e :: l, n, 0, U, x, h, hk, hg, h1, h2, hl => by
    simp at h
    subst h
    show rd lo hi (n + 1) l _ k = e.val
    rw [rd_none lo hi k l (n + 1) _ fun i f hf hk' => absurd hk' (hl (i + 1) f (by omega) (by simpa using hf))]
    rw [if_pos ⟨hg, h1, h2⟩]
    unfold setT
    rw [if_pos hk.symm]
  | e :: l, n, m + 1, U, x, h, hk, hg, h1, h2, hl => by
    show rd lo hi (n + 1) l _ k = x.val
    exact rd_last lo hi k l (n + 1) m _ x (by simpa using h) hk hg (by rw [show n + 1 + m = n + (m + 1) by omega]; exact h1) (by rw [show n + 1 + m = n + (m + 1) by omega]; exact h2) fun j f hj hf => hl (j + 1) f (by omega) (by simpa using hf)
theorem Good.goOn {GR : Int → Prop} {GC : Nat → Prop} {S : LS α} (h : Good GR GC S) (lg : LG GR GC { S with time := S.time + 1 }) : Good GR GC (goOn S) :=
  Good.letGo ⟨h.a, h.b, h.r, h.c⟩ lg
theorem Good.app {GR : Int → Prop} {GC : Nat → Prop} {S : LS α} {w : W} (wf : WF S w) (h : Good GR GC S) (k : α) (v : Option Int) : Good GR GC { S with ents := S.ents ++ [⟨k, v, false, none⟩] } := by
  have old : ∀ {i : Nat} {e : Ent α}, S.ents[i]? = some e → (S.ents ++ [(⟨k, v, false, none⟩ : Ent α)])[i]? = some e := fun {i e} q => by
    rw [List.getElem?_append_left (List.getElem?_eq_some_iff.mp q).1]; exact q
  have clean : ∀ s T, s ≤ (S.ents.length : Int) → Clean S.ents s T → Clean (S.ents ++ [(⟨k, v, false, none⟩ : Ent α)]) s T := by
    intro s T hs cl i e he hl hv hg
    rcases get_snoc he with he | ⟨hi, he⟩
    · exact cl i e he (fun j f hj hf => hl j f hj (old hf)) hv hg
    · subst he
      rcases hg with hg | hg
      · omega
      · cases hg
  refine ⟨?_, ?_, fun r s g hs => clean s _ (wf.le r s hs).2 (h.r r s g hs), fun c q U g hc => clean q U (wf.cle c q U hc).2 (h.c c q U g hc)⟩
  · intro i e he hp j f hj hf hk
    rcases get_snoc he with he | ⟨hi, he⟩
    · rcases get_snoc hf with hf | ⟨hj', hf⟩
      · exact h.a i e he hp j f hj hf hk
      · have := (List.getElem?_eq_some_iff.mp he).1
        omega
    · subst he
      exact absurd rfl hp
  · intro i e he hg
    rcases get_snoc he with he | ⟨hi, he⟩
    · rcases h.b i e he hg with ⟨j, f, h1, h2, h3⟩ | q
      · exact .inl ⟨j, f, h1, old h2, h3⟩
      · exact .inr q
    · subst he
      cases hg
/-- a reader's table behind a read -/
theorem Good.reads {GR : Int → Prop} {GC : Nat → Prop} {S : LS α} (h : Good GR GC S) {s u : Int} {T : Tab α} (hs : Clean S.ents s T) : Clean S.ents u (rd s u 0 S.ents T) := by
  intro i e he hl hv hg
  by_cases hgone : e.gone = true
  · have hk : rd s u 0 S.ents T e.key = T e.key := rd_none s u e.key S.ents 0 T fun j f hf hk => by
      left
      rcases Nat.lt_trichotomy j i with hji | hji | hji
      · rcases h.b i e he hgone with ⟨j', f', h1, h2, h3⟩ | ⟨_, q⟩
        · exact absurd h3 (hl j' f' h1 h2)
        · exact h.a i e he q j f hji hf hk
      · subst hji
        rw [he] at hf
        cases hf
        exact hgone
      · exact absurd hk (hl j f hji hf)
    rw [hk]
    exact hs i e he hl hv (.inr hgone)
  · have hg' : e.gone = false := by simpa using hgone
    have hiu : (i : Int) < u := hg.elim id fun z => absurd z hgone
    by_cases hlo : s ≤ (i : Int)
    · rw [rd_last s u e.key S.ents 0 i T e he rfl hg' (by rw [Nat.zero_add]; exact hlo) (by rw [Nat.zero_add]; exact hiu) hl]
      exact hv
    · rw [rd_none s u e.key S.ents 0 T fun j f hf hk => by
        right; left
        have : ¬ i < j := fun z => hl j f z hf hk
        rw [Nat.zero_add]
        omega]
      exact hs i e he hl hv (.inl (by omega))
/-- the closing of the good ones -/
def GOk (GR : Int → Prop) (GC : Nat → Prop) : Nat → List (Ev α) → Prop
  | _, [] => True
  | n, .save r :: es => (GC n → GR r) ∧ GOk GR GC (n + 1) es
  | n, .load r c :: es => (GR r → GC c.toNat) ∧ GOk GR GC n es
  | n, _ :: es => GOk GR GC n es
def isSave : Ev α → Bool
  | .save _ => true | _ => false
def GStep (GR : Int → Prop) (GC : Nat → Prop) (n : Nat) : Ev α → Prop
  | .save r => GC n → GR r
  | .load r c => GR r → GC c.toNat
  | _ => True
theorem gok_cons {GR : Int → Prop} {GC : Nat → Prop} {n : Nat} {e : Ev α} {es : List (Ev α)} : GOk GR GC n (e :: es) ↔ GStep GR GC n e ∧ GOk GR GC (n + (if isSave e = true then 1 else 0)) es := by
  cases e <;> simp [GOk, GStep, isSave]
theorem Good.step {GR : Int → Prop} {GC : Nat → Prop} {S : LS α} {w : W} (wf : WF S w) (h : Good GR GC S) {e : Ev α} (ok : okEv w e) (g : GStep GR GC S.cps.length e)
    (lg : ∀ S' : LS α, S'.hold = S.hold → S'.gds = S.gds → S'.time = S.time + 1 → (∀ e, e ∈ S'.ents → ∀ t, e.passed = some t → 0 ≤ t) → LG GR GC S') : Good GR GC (stepE S e) := by
  cases e with
  | put k v => exact (h.app wf k (some v)).goOn (lg _ rfl rfl rfl (wf.app k (some v)).pas)
  | drop k => exact (h.app wf k none).goOn (lg _ rfl rfl rfl (wf.app k none).pas)
  | wait => exact h.goOn (lg _ rfl rfl rfl wf.pas)
  | join r =>
    refine Good.goOn ⟨h.a, h.b, fun r' s gr hs => ?_, h.c⟩ (lg _ rfl rfl rfl wf.pas)
    have hs' : put1 S.pl r (some 0) r' = some s := hs
    show Clean S.ents s (put1 S.tb r (fun _ => none) r')
    unfold put1 at hs' ⊢
    split at hs'
    · rename_i hr
      rw [if_pos hr]
      exact fun _ _ _ _ _ _ => rfl
    · rename_i hr
      rw [if_neg hr]
      exact h.r r' s gr hs'
  | read r u =>
    obtain ⟨s0, hs0, _, _⟩ := ok
    have e0 : S.pl r = some s0 := by rw [wf.pl]; exact hs0
    refine Good.goOn ⟨h.a, h.b, fun r' s gr hs => ?_, h.c⟩ (lg _ rfl rfl rfl wf.pas)
    have hs' : put1 S.pl r (some u) r' = some s := hs
    show Clean S.ents s (put1 S.tb r (rd ((S.pl r).getD 0) u 0 S.ents (S.tb r)) r')
    unfold put1 at hs' ⊢
    split at hs'
    · rename_i hr
      rw [if_pos hr]
      cases hs'
      rw [e0]
      rw [hr] at gr
      exact h.reads (h.r r s0 gr e0)
    · rename_i hr
      rw [if_neg hr]
      exact h.r r' s gr hs'
  | save r =>
    obtain ⟨s0, hs0⟩ := ok
    have e0 : S.pl r = some s0 := by rw [wf.pl]; exact hs0
    refine Good.goOn ⟨h.a, h.b, h.r, fun c q U gc hc => ?_⟩ (lg _ rfl rfl rfl wf.pas)
    rcases get_snoc hc with hc | ⟨hi, hc⟩
    · exact h.c c q U gc hc
    · cases hc
      rw [e0]
      rw [hi] at gc
      exact h.r r s0 (g gc) e0
  | load r c =>
    refine Good.goOn ⟨h.a, h.b, fun r' s gr hs => ?_, h.c⟩ (lg _ rfl rfl rfl wf.pas)
    have hs' : put1 S.pl r ((S.cps[c.toNat]?).map (·.1)) r' = some s := hs
    show Clean S.ents s (put1 S.tb r (((S.cps[c.toNat]?).map (·.2)).getD (fun _ => none)) r')
    unfold put1 at hs' ⊢
    split at hs'
    · rename_i hr
      rw [if_pos hr]
      rw [hr] at gr
      cases e1 : S.cps[c.toNat]? with
      | none => rw [e1] at hs'; cases hs'
      | some a =>
        rw [e1] at hs'
        cases hs'
        exact h.c c.toNat a.1 a.2 (g gr) e1
    · rename_i hr
      rw [if_neg hr]
      exact h.r r' s gr hs'
theorem step_const (S : LS α) (e : Ev α) : (stepE S e).hold = S.hold ∧ (stepE S e).gds = S.gds ∧ (stepE S e).time = S.time + 1 ∧ (stepE S e).cps.length = S.cps.length + (if isSave e = true then 1 else 0) := by
  cases e <;> refine ⟨rfl, rfl, rfl, ?_⟩ <;> first
    | rfl
    | (show (S.cps ++ [_]).length = _; rw [List.length_append]; rfl)
theorem Good.run {GR : Int → Prop} {GC : Nat → Prop} {hold N : Int} {gds : List (Bool × Int)} (lg : ∀ S' : LS α, S'.hold = hold → S'.gds = gds → S'.time ≤ N → (∀ e, e ∈ S'.ents → ∀ t, e.passed = some t → 0 ≤ t) → LG GR GC S') :
    ∀ (es : List (Ev α)) (ps : List Nat) (S : LS α) (w : W), WF S w → Good GR GC S → S.hold = hold → S.gds = gds → S.time + (es.length : Int) ≤ N → Valid w es → GOk GR GC S.cps.length es → Good GR GC (runE S es ps)
  | e :: es, p :: ps, S, w, wf, g, h1, h2, h3, v, gok => by
    obtain ⟨g1, g2⟩ := gok_cons.mp gok
    have h3' : S.time + ((es.length : Int) + 1) ≤ N := by rw [List.length_cons] at h3; omega
    have wf1 := wf.sweep p
    have good1 : Good GR GC (K15.sweep S p) := (g.sweep0 p).letGo (lg (K15.sweep0 S p) h1 h2 (by show S.time ≤ N; omega) (wf.sweep0 p).pas)
    have good2 : Good GR GC (stepE (K15.sweep S p) e) := good1.step wf1 v.1 g1 fun S' a b c d => lg S' (a.trans h1) (b.trans h2) (by rw [c]; show S.time + 1 ≤ N; omega) d
    obtain ⟨c1, c2, c3, c4⟩ := step_const (K15.sweep S p) e
    refine Good.run lg es ps (stepE (K15.sweep S p) e) (wstep w e) (wf1.step v.1) good2 (c1.trans h1) (c2.trans h2) ?_ v.2 ?_
    · rw [c3]; show S.time + 1 + (es.length : Int) ≤ N; omega
    · rw [c4]; exact g2
  | [], p :: ps, S, w, wf, g, h1, h2, h3, _, _ => (g.sweep0 p).letGo (lg (K15.sweep0 S p) h1 h2 (by show S.time ≤ N; simp at h3; exact h3) (wf.sweep0 p).pas)
  | [], [], _, _, _, g, _, _, _, _, _ => g
  | _ :: _, [], _, _, _, g, _, _, _, _, _ => g
theorem WF.run : ∀ (es : List (Ev α)) (ps : List Nat) (S : LS α) (w : W), WF S w → Valid w es → ps.length = es.length + 1 → WF (runE S es ps) (wrun w es)
  | e :: es, p :: ps, S, w, wf, v, hl => WF.run es ps _ _ ((wf.sweep p).step v.1) v.2 (by simpa using hl)
  | [], p :: ps, S, w, wf, _, _ => wf.sweep p
  | [], [], _, _, _, _, hl => by simp at hl
  | _ :: _, [], _, _, _, _, hl => by simp at hl
theorem good_init (GR : Int → Prop) (GC : Nat → Prop) (hold : Int) (gds : List (Bool × Int)) : Good GR GC (init hold gds : LS α) :=
  ⟨fun _ _ q => (by simp [init] at q), fun _ _ q => (by simp [init] at q), fun _ _ _ q => (by simp [init] at q), fun _ _ _ _ q => (by simp [init] at q)⟩
theorem Good.not {GR : Int → Prop} {GC : Nat → Prop} {S : LS α} (h : Good GR GC S) {r : Int} {k : α} (gr : GR r) : ¬ wrong S r k := by
  rintro ⟨s, i, e, h1, h2, h3, h4, h5, h6, h7⟩
  subst h4
  exact h2 (h.r r s gr h1 i e h3 h5 h6 (.inl h7))
/-- a hold as long as the timetable: nobody -/
theorem long {hold : Int} {gds : List (Bool × Int)} {es : List (Ev α)} {ps : List Nat} (hh : (es.length : Int) < hold) (v : Valid W0 es) (r : Int) (k : α) : ¬ wrong (runE (init hold gds) es ps) r k := by
  have gok : ∀ (es : List (Ev α)) (n : Nat), GOk (fun _ => True) (fun _ => True) n es := by
    intro es
    induction es with
    | nil => intro n; exact True.intro
    | cons e es ih => intro n; exact gok_cons.mpr ⟨by cases e <;> simp [GStep], ih _⟩
  refine (Good.run (GR := fun _ => True) (GC := fun _ => True) (hold := hold) (gds := gds) (N := (es.length : Int)) (fun S' h1 h2 h3 hp => ?_) es ps (init hold gds) W0 (wf_init hold gds) (good_init _ _ hold gds) rfl rfl (by show (0 : Int) + _ ≤ _; omega) v (gok es _)).not True.intro
  intro i e he hg
  exfalso
  unfold goB at hg
  simp only [Bool.and_eq_true] at hg
  have ho := hg.1.2
  unfold oldB at ho
  cases e2 : e.passed with
  | none => rw [e2] at ho; cases ho
  | some t =>
    rw [e2] at ho
    have := of_decide_eq_true ho
    have := hp e (List.mem_of_getElem? he) t e2
    omega
/-- guards keep the marks -/
theorem lg_guards {GR : Int → Prop} {GC : Nat → Prop} {gds : List (Bool × Int)} (hr : ∀ r, GR r → (false, r) ∈ gds) (hc : ∀ c : Nat, GC c → (true, (c : Int)) ∈ gds) (S : LS α) (h : S.gds = gds) : LG GR GC S := by
  intro i e he hg
  unfold goB at hg
  simp only [Bool.and_eq_true] at hg
  have hb := hg.2
  unfold guardB at hb
  rw [h, List.all_eq_true] at hb
  refine ⟨fun r s gr hs => ?_, fun c q U gc hq => ?_⟩
  · have := hb _ (hr r gr)
    rw [show seatOf S (false, r) = some s from hs] at this
    exact of_decide_eq_true this
  · have := hb _ (hc c gc)
    rw [show seatOf S (true, (c : Int)) = some q by
      show (if (0 : Int) ≤ (c : Int) then (S.cps[((c : Nat) : Int).toNat]?).map (·.1) else none) = some q
      rw [if_pos (by omega), Int.toNat_natCast, hq]; rfl] at this
    exact of_decide_eq_true this
/-- a reader that never loads, as its own guard -/
theorem self {hold : Int} {gds : List (Bool × Int)} {es : List (Ev α)} {ps : List Nat} (v : Valid W0 es) {r : Int} (hg : (false, r) ∈ gds) (hl : ∀ c, Ev.load r c ∉ es) (k : α) : ¬ wrong (runE (init hold gds) es ps) r k := by
  have gok : ∀ (l : List (Ev α)) (n : Nat), (∀ e, e ∈ l → e ∈ es) → GOk (fun x => x = r) (fun _ => False) n l := by
    intro l
    induction l with
    | nil => intro n _; exact True.intro
    | cons e l ih =>
      intro n h
      refine gok_cons.mpr ⟨?_, ih _ fun x hx => h x (List.mem_cons_of_mem _ hx)⟩
      cases e with
      | load r' c =>
        intro hr
        exact hl c (by rw [← (show r' = r from hr)]; exact h _ List.mem_cons_self)
      | save r' => exact fun z => z.elim
      | put _ _ => exact True.intro
      | drop _ => exact True.intro
      | join _ => exact True.intro
      | read _ _ => exact True.intro
      | wait => exact True.intro
  exact (Good.run (GR := fun x => x = r) (GC := fun _ => False) (hold := hold) (gds := gds) (N := (es.length : Int)) (fun S' h1 h2 h3 hp => lg_guards (fun x hx => by rw [hx]; exact hg) (fun _ z => z.elim) S' h2) es ps (init hold gds) W0 (wf_init hold gds) (good_init _ _ hold gds) rfl rfl (by show (0 : Int) + _ ≤ _; omega) v (gok es _ fun _ h => h)).not rfl
def saves : List (Ev α) → Nat
  | [] => 0
  | e :: es => (if isSave e = true then 1 else 0) + saves es
/-- all readers and copies as guards: nobody -/
theorem all {hold : Int} {gds : List (Bool × Int)} {es : List (Ev α)} {ps : List Nat} (hps : ps.length = es.length + 1) (v : Valid W0 es) (hr : ∀ r, Ev.join r ∈ es ∨ (∃ c, Ev.load r c ∈ es) → (false, r) ∈ gds) (hc : ∀ c : Nat, c < saves es → (true, (c : Int)) ∈ gds) (r : Int) (k : α) : ¬ wrong (runE (init hold gds) es ps) r k := by
  -- who has a seat is named
  have seats : ∀ (l : List (Ev α)) (w : W), (∀ e, e ∈ l → e ∈ es) → (∀ r, w.seats r ≠ none → (false, r) ∈ gds) → Valid w l → (∀ r, (wrun w l).seats r ≠ none → (false, r) ∈ gds) ∧ ∀ n, w.cps.length = n → (∀ c : Nat, c < n + saves l → (true, (c : Int)) ∈ gds) → GOk (fun r => (false, r) ∈ gds) (fun c => (true, (c : Int)) ∈ gds) n l := by
    intro l
    induction l with
    | nil => intro w _ h _; exact ⟨h, fun _ _ _ => True.intro⟩
    | cons e l ih =>
      intro w hm h hv
      have h' : ∀ r, (wstep w e).seats r ≠ none → (false, r) ∈ gds := by
        intro r' hs
        cases e with
        | put _ _ => exact h r' hs
        | drop _ => exact h r' hs
        | wait => exact h r' hs
        | save _ => exact h r' hs
        | join r0 =>
          have hs' : put1 w.seats r0 (some 0) r' ≠ none := hs
          unfold put1 at hs'
          split at hs'
          · rename_i hq; rw [hq]; exact hr r0 (.inl (hm _ List.mem_cons_self))
          · exact h r' hs'
        | read r0 u =>
          have hs' : put1 w.seats r0 (some u) r' ≠ none := hs
          unfold put1 at hs'
          split at hs'
          · rename_i hq
            obtain ⟨s, hs0, _⟩ := hv.1
            rw [hq]
            exact h r0 (by rw [hs0]; simp)
          · exact h r' hs'
        | load r0 c =>
          have hs' : put1 w.seats r0 (w.cps[c.toNat]?) r' ≠ none := hs
          unfold put1 at hs'
          split at hs'
          · rename_i hq; rw [hq]; exact hr r0 (.inr ⟨c, hm _ List.mem_cons_self⟩)
          · exact h r' hs'
      obtain ⟨i1, i2⟩ := ih (wstep w e) (fun x hx => hm x (List.mem_cons_of_mem _ hx)) h' hv.2
      refine ⟨i1, fun n hn hcc => gok_cons.mpr ⟨?_, i2 _ ?_ fun c hlt => hcc c ?_⟩⟩
      · cases e with
        | save r0 =>
          intro _
          obtain ⟨s, hs0⟩ := hv.1
          exact h r0 (by rw [hs0]; simp)
        | load r0 c =>
          intro _
          obtain ⟨c1, c2⟩ := hv.1
          exact hcc c.toNat (by omega)
        | put _ _ => exact True.intro
        | drop _ => exact True.intro
        | join _ => exact True.intro
        | read _ _ => exact True.intro
        | wait => exact True.intro
      · cases e <;> first
          | exact hn
          | (show (w.cps ++ [_]).length = _; rw [List.length_append, hn]; rfl)
      · show c < n + ((if isSave e = true then 1 else 0) + saves l)
        omega
  obtain ⟨s1, s2⟩ := seats es W0 (fun _ h => h) (fun _ h => absurd rfl h) v
  have wf := WF.run es ps (init hold gds) W0 (wf_init hold gds) v hps
  intro hw
  have hw' := hw
  obtain ⟨s, _, _, hs, _⟩ := hw'
  have gr : (false, r) ∈ gds := s1 r (by rw [← wf.pl, hs]; simp)
  exact (Good.run (GR := fun r => (false, r) ∈ gds) (GC := fun c => (true, (c : Int)) ∈ gds) (hold := hold) (gds := gds) (N := (es.length : Int)) (fun S' h1 h2 h3 hp => lg_guards (fun x hx => hx) (fun _ z => z) S' h2) es ps (init hold gds) W0 (wf_init hold gds) (good_init _ _ hold gds) rfl rfl (by show (0 : Int) + _ ≤ _; omega) v (s2 0 rfl fun c h => hc c (by omega))).not gr hw
end
end K15

set_option Elab.async false
set_option linter.all false
set_option autoImplicit false
set_option maxRecDepth 100000
set_option maxHeartbeats 4000000
/-! Rules that the layer lacks: enumerate of a tuple; sorted of a list of alike data (some arrangement); sorted(d.items()); set(list of ints). -/
namespace K15R
open PySem PySem.Spec PyProof.Rows L2

/-! ### enumerate(t), t a tuple -/
theorem enumNew {v : Value} {o : Obj} {G : Heap → Prop} (B : PySem.Begins v o G) :
    Meets (Builtin.«enumerate.__new__» ⟨[.type "enumerate", v], []⟩) (fun _ R s => G s.heap ∧
      R (.ok (.ret (.ref (s.heap.push o).objs.size))) { s with heap := (s.heap.push o).push { cls := .type "enumerate", data := .fields #[.none, .bool false, .ref s.heap.objs.size, rawInt 0, .none, .none] } }) :=
  .of_wp fun prog w A R s h => by
    obtain ⟨hp, g, d, tk, os⟩ := s
    obtain ⟨h1, h⟩ := h
    have hsub := sub_enumerate
    have q1 : ∀ {A' : Around} {E : Value → Shared → Prop} {Q : Value → Shared → Prop}, Q (.ref hp.objs.size) ⟨hp.push o, g, d, tk, os⟩ → wpAny (model prog w) A' (pyIter v) Q E ⟨hp, g, d, tk, os⟩ := fun q => B.iter prog w _ _ ⟨hp, g, d, tk, os⟩ _ h1 q
    wp_walk using q1
    refine wpAny_stack_any fun st => wpAny_pure ?_
    split
    · rename_i c _ _ _ _ _
      cases (c == Value.type "enumerate") <;> (wp_walk using q1; exact ⟨_, rfl, h⟩)
    · wp_walk using q1
      exact ⟨_, rfl, h⟩
theorem enumTup {prog : Program} {w : World} {A : Around} {E : Value → Shared → Prop} {s : Shared} {t : Addr} {items : Array Value} {Q : Value → Shared → Prop} (ht : s.heap.IsTuple t items)
    (h : ∀ h', IsEnum h' (s.heap.objs.size + 1) s.heap.objs.size 0 .none → h'.IsTupleIter s.heap.objs.size t 0 → (∀ b o, s.heap.get? b = some o → h'.get? b = some o) → Q (.ref (s.heap.objs.size + 1)) { s with heap := h' }) :
    wpAny (model prog w) A (call (.type "enumerate") [.ref t]) Q E s := by
  refine callType_new F.called_enumerate (by decide) (F.typeCall_enumerate_1 _) (F.newCall_enumerate_1 _) (fun obj => F.args_object_init_2 obj _) F.entry_enumerate_new (enumNew (PySem.begins_tuple t items)) ⟨ht, ?_⟩
  have z1 : (s.heap.push { cls := .type "tuple_iterator", data := .fields #[.ref t, .int 0 0] }).objs.size = s.heap.objs.size + 1 := Heap.size_push ..
  show _ ∧ _
  rw [z1]
  have en : IsEnum ((s.heap.push { cls := .type "tuple_iterator", data := .fields #[.ref t, .int 0 0] }).push { cls := .type "enumerate", data := .fields #[.none, .bool false, .ref s.heap.objs.size, rawInt 0, .none, .none] }) (s.heap.objs.size + 1) s.heap.objs.size 0 .none := by
    have z2 := Heap.get?_push_size (s.heap.push { cls := .type "tuple_iterator", data := .fields #[.ref t, .int 0 0] }) (o := { cls := .type "enumerate", data := .fields #[.none, .bool false, .ref s.heap.objs.size, rawInt 0, .none, .none] }) rfl
    rw [z1] at z2
    exact z2
  exact ⟨⟨_, en, rfl⟩, h _ en ⟨_, Heap.get?_push_of_some _ (Heap.get?_push_size _ rfl), rfl, rfl⟩ fun b o x => Heap.get?_push_of_some _ (Heap.get?_push_of_some _ x)⟩
/-- what is counted off the tuple at a -/
def ItU (K : PySem.W.Frag) (a : Addr) : It :=
  ⟨fun i H => ∃ (xs : List V) (x : V), SqT K H a xs ∧ xs[i]? = some x, fun i H v H' => ∃ T x, v = .ref T ∧ H T = none ∧ H' = upd H T (.tup [.int (i : Nat), x]) ∧ ∀ xs, SqT K H a xs → xs[i]? = some x,
    fun i H => ∃ xs : List V, SqT K H a xs ∧ xs.length = i⟩
theorem enum_apart {h : Heap} {e it a : Addr} {i : Int} {old : Value} {items : Array Value} (he : IsEnum h e it i old) (ha : h.IsTuple a items) : e ≠ a := by
  intro z
  subst z
  obtain ⟨o, ho, hc, _⟩ := ha
  have he' : h.get? e = some _ := he
  rw [he'] at ho
  cases ho
  exact absurd (Value.type.inj hc) (by decide)
theorem turnU {P : Program} {w : World} {K : PySem.W.Frag} {elts : List Expr} {kk : Nat} {tpos : Pos} (a e it : Addr) :
    Turn P w K (.Tuple elts kk tpos) (ItU K a) [e, it] e (fun i h => (∃ old, IsEnum h e it ((i : Nat) : Int) old) ∧ h.IsTupleIter it a i ∧ e ≠ it ∧ a ≠ it) where
  mem := by simp
  obj := fun i h st b hb => by
    obtain ⟨⟨old, he⟩, ⟨o, ho, hc, hd⟩, _⟩ := st
    rcases List.mem_cons.mp hb with z | z
    · rw [z]; exact ⟨_, he, fun v q => nomatch q⟩
    · rw [List.mem_singleton.mp z]; exact ⟨o, ho, fun v q => by rw [hd] at q; cases q⟩
  keep := fun i h h' st k => let ⟨⟨old, he⟩, hi, hne⟩ := st; ⟨⟨old, k e (by simp) _ he⟩, hi.at fun o q => k it (by simp) o q, hne⟩
  item := by
    intro X hP hw hK hc i pins s σ H E I hf st hg
    subst hP hw hK
    obtain ⟨⟨old, he⟩, hit, hne, hai⟩ := st
    obtain ⟨xs, x, hq, hx⟩ := hg
    obtain ⟨its, rv, p, hz⟩ := I.tuple hq
    have p' : s.heap.IsTuple a its.toArray := p
    have hi : i < its.toArray.size := by rw [List.size_toArray, ← rv.length]; exact (List.getElem?_eq_some_iff.mp hx).1
    have hh : X.A.in1.handled = none := by rw [show X.A.in1.handled = X.A.handled from rfl]; exact I.ok.hd hc
    have he1 : e < s.heap.objs.size := Heap.lt_size he
    have hi1 : it < s.heap.objs.size := by obtain ⟨_, q, _⟩ := hit; exact Heap.lt_size q
    refine wpAny_pyNext_enum_itemD (Draws.tuple hh it a hai its.toArray) he ⟨hit, p'⟩ hi hne (by simp [hne, enum_apart he p']) fun u h' tk hu ho hst hT hsz hk => ?_
    refine ⟨_, rfl, wpAny_letOwnedTupleGo_enum (s := { s with heap := h', toks := tk + 1 }) ho fun h'' he' sb => ?_⟩
    have ru : RelV x u := by
      obtain ⟨u', e1, e2⟩ := rv.get hx
      rw [List.getElem?_toArray, e1] at hu
      cases hu
      exact e2
    have hT2 : h''.get? s.heap.objs.size = some { cls := .type "tuple", data := .seq #[.int i tk, u] } := (sb.2 _ (Nat.ne_of_gt he1)).trans hT
    have new : ObjOk X.prog X.w (upd H s.heap.objs.size (.tup [.int (i : Nat), x])) h'' s.heap.objs.size (.tup [.int (i : Nat), x]) :=
      ⟨by show 2 ≤ sizeLine; decide, [.int i tk, u], .cons ⟨_, rfl⟩ (.cons ru .nil), ⟨_, hT2, rfl, _, rfl⟩⟩
    have I1 : Inv X pins σ (upd H s.heap.objs.size (.tup [.int (i : Nat), x])) { s with heap := h'', toks := tk + 1 } :=
      I.turnedNew (ch := [e, it]) (fun b ob hb q => by
        have b1 : b ≠ e := fun z => hb (by simp [z])
        have b2 : b ≠ it := fun z => hb (by simp [z])
        exact (sb.2 b b1).trans (hk b ob b1 b2 q)) hf (Nat.le_refl _) new
    refine ⟨.ref s.heap.objs.size, _, I1, rfl, ⟨_, x, rfl, I.hok.fresh (Nat.le_refl _), rfl, fun ys hy => by rw [I.tuple_inj hy hq]; exact hx⟩, ⟨⟨u, ?_⟩, hst.1.at fun o q => (sb.2 it (Ne.symm hne)).trans q, hne, hai⟩, fun b hb => ?_⟩
    · rw [show ((i + 1 : Nat) : Int) = (i : Int) + 1 by omega]
      exact he'
    · have hb' : b < s.heap.objs.size := by
        rcases List.mem_cons.mp hb with z | z
        · rw [z]; exact he1
        · rw [List.mem_singleton.mp z]; exact hi1
      rw [upd_ne (Nat.ne_of_lt hb')]
      exact (hf b hb).1
  done := by
    intro X hP hw hK hc i pins s σ H E I hf st hg
    subst hP hw hK
    obtain ⟨⟨old, he⟩, hit, hne, hai⟩ := st
    obtain ⟨xs, hq, hx⟩ := hg
    obtain ⟨its, rv, p, hz⟩ := I.tuple hq
    have hh : X.A.in1.handled = none := by rw [show X.A.in1.handled = X.A.handled from rfl]; exact I.ok.hd hc
    obtain ⟨f0, f1, f2, f3, f4, f5⟩ := hf it (by simp)
    have p' : s.heap.IsTuple a its.toArray := p
    have hn : its.toArray.size = i := by rw [List.size_toArray, ← rv.length]; exact hx
    refine wpAny_pyNext_enum_endD (Draws.tuple hh it a hai its.toArray) he (by rw [hn]; exact ⟨hit, p'⟩) fun h' eb => ⟨rfl, I.turned (t' := s.toks) (fun b o hb q => eb b o hb q) f0 f1 f3 f4 f5⟩
  self := fun A i s Q E st h => let ⟨⟨_, he⟩, _⟩ := st; wpAny_pyIter_enum he h
def iEnumU (K : PySem.W.Frag) (ta : TA) : TI := fun σ H R => ta σ H fun vs H1 => ∃ a xs, vs = [.ref a] ∧ SqT K H1 a xs ∧ R (ItU K a) H1
theorem pi_enumT {X : Cx} {e : Expr} {ta : TA} {p pos tpos : Pos} {elts : List Expr} {kk : Nat} (hg : Gl X "enumerate") (hm : X.mg "enumerate" = none) (ha : PA X [e] ta) (hs : starEach [e] X.env = [(false, eval e X.env)] := by rfl) :
    PI X (.Tuple elts kk tpos) (.Call (.Name "enumerate" p) [e] [] pos) (iEnumU X.K ta) := by
  refine ⟨fun pins s σ H R I h => ?_⟩
  refine Call_ (ld_blt I hg hm boot_enumerate (PyProof.Rows.callWith_type1 (thn (ha.run pos pins s σ H _ I h) fun us s1 ⟨vs, H1, I1, r1, q1⟩ => ?_) hs rfl))
  obtain ⟨a, xs, rfl, hq, q⟩ := q1
  rw [Vals.ref1 r1]
  obtain ⟨its, rv, p', hz⟩ := I1.tuple hq
  refine enumTup p' fun h' he hit hk => wpAny_pyIter_enum he ?_
  have I2 : Inv X pins σ H1 { s1 with heap := h' } := I1.kept (t' := s1.toks) hk
  have al : a < s1.heap.objs.size := p'.lt
  refine ⟨_, [s1.heap.objs.size + 1, s1.heap.objs.size], _, _, H1, rfl, I2, turnU a (s1.heap.objs.size + 1) s1.heap.objs.size, ⟨⟨.none, he⟩, hit, Nat.succ_ne_self _, Nat.ne_of_lt al⟩, fun b hb => ?_, q⟩
  have hle : s1.heap.objs.size ≤ b := by
    rcases List.mem_cons.mp hb with z | z
    · rw [z]; exact Nat.le_add_right _ _
    · rw [List.mem_singleton.mp z]; exact Nat.le_refl _
  exact I1.fpOk hle (I1.hok.fresh hle)

/-! ### sorted of alike data: some arrangement -/
abbrev TI2 := Addr × Str × Int
abbrev enc2 (t : TI2) : PyData := .tuple [.str t.2.1, .int t.2.2]
theorem enc2_alike (ts : List TI2) : PySem.W.AllAlike (ts.map enc2) := PySem.W.AllAlike.of fun _ _ => by simp [PySem.W.alike, PySem.W.alikeAll, enc2]
theorem enc2_sortable (ts : List TI2) : PySem.W.Sortable (ts.map enc2) := PySem.W.Sortable.tuples fun _ => ⟨_, _, rfl⟩
theorem enc2_depth (t : TI2) : (enc2 t).depth = 1 := by simp [enc2, PyData.depth, PyData.depthAll]
theorem enc2_reads {h : Heap} {a : Addr} {x : Str} {i : Int} {its : List Value} (rv : Vals [.str x, .int i] its) (p : IsTup h a its.toArray) : Reads h (.ref a) (.tuple [.str x, .int i]) [] := by
  obtain ⟨u, w', rfl, ⟨t1, rfl⟩, ⟨t2, rfl⟩⟩ := vals2 rv
  obtain ⟨o, ho, hc, n, hd⟩ := p
  have r : ReadsAll h [Value.str x t1, Value.int i t2] [.str x, .int i] ([] ++ ([] ++ [])) := .cons (.str x t1) (.cons (.int i t2) .nil)
  exact .tuple ho hc hd r
theorem each_refs {P : TI2 → Prop} : ∀ {ts : List TI2} {vs : List Value}, Vals (ts.map fun t => V.ref t.1) vs → (∀ t ∈ ts, P t) → PySem.W.EachIs (fun v t => v = Value.ref t.1 ∧ P t) vs ts
  | [], _, h, _ => by cases h; exact .nil
  | t :: ts, _, h, hp => by
    cases h with
    | cons r q => exact .cons ⟨r, hp t List.mem_cons_self⟩ (each_refs q fun x hx => hp x (List.mem_cons_of_mem _ hx))
theorem refs_each : ∀ {ts : List TI2} {vs : List Value} {P : TI2 → Prop}, PySem.W.EachIs (fun v t => v = Value.ref t.1 ∧ P t) vs ts → Vals (ts.map fun t => V.ref t.1) vs
  | _, _, _, .nil => .nil
  | _, _, _, .cons h t => .cons h.1 (refs_each t)
/-- a list of pairs of a text and an int, in some order -/
def rSortedG (K : PySem.W.Frag) : List V → Hp → VK → Prop := fun vs H Q => ∃ (a : Addr) (ts : List TI2), vs = [.ref a] ∧ SqL K H a (ts.map fun t => V.ref t.1) ∧ (∀ t ∈ ts, SqT K H t.1 [.str t.2.1, .int t.2.2]) ∧
  ∀ (us : List TI2) (p : Addr), us.Perm ts → H p = none → Q (.ref p) (upd H p (.lst (us.map fun t => V.ref t.1)))
theorem cr_sortedG {X : Cx} (hu : X.A.units + 64 < cLine) : CallR X (.builtin "sorted") (rSortedG X.K) := by
  intro pins s σ H vs us Q I r h
  obtain ⟨a, ts, rfl, hs, ht, q⟩ := h
  obtain ⟨its, rv, hl, hz⟩ := I.list hs
  rw [Vals.ref1 r]
  rw [List.length_map] at hz
  have er : PySem.W.EachIs (fun v t => v = Value.ref t.1 ∧ ∃ as, Reads s.heap (.ref t.1) (enc2 t) as) its ts := each_refs rv fun t hm => by
    obtain ⟨jts, rj, pj, _⟩ := I.tuple (ht t hm)
    exact ⟨[], enc2_reads rj pj⟩
  refine PySem.W.sorted_data (bs := ts) (enc := enc2) (R := fun v t => v = Value.ref t.1 ∧ True) hl.isList (er.mono fun _ _ x => ⟨x.1, trivial⟩) (er.mono fun v t x => by rw [x.1]; exact x.2) (enc2_alike ts) (enc2_sortable ts) hz (fun b _ => ?_) fun out hn eo => ?_
  · rw [enc2_depth]; omega
  · obtain ⟨ep, he'⟩ := PyProof.Rows.sortedAll_at s.heap its out.toArray
    have pm : (ts.mergeSort (PySem.W.dataLe false enc2)).Perm ts := List.mergeSort_perm _ _
    have hlen : ((ts.mergeSort (PySem.W.dataLe false enc2)).map fun t => V.ref t.1).length ≤ sizeLine := by
      rw [List.length_map, pm.length_eq]; exact hz
    exact ⟨.ref _, upd H (s.heap.objs.size + 1) (.lst _), I.laid (t' := s.toks) (fun _ _ => PyProof.Rows.sortedAll_old) (Nat.le_succ _) ⟨hlen, out, ep, refs_each eo, he'⟩, rfl, q _ _ pm (I.hok.fresh (Nat.le_succ _))⟩

/-! ### sorted(d.items()), the keys texts, the values ints -/
def rItemsK : V → List V → Hp → VK → Prop := fun x xs H Q => ∃ (a : Addr) (kvs : List (L2.Key × V)), x = .ref a ∧ xs = [] ∧ H a = some (.dK kvs) ∧ ∀ p, H p = none → Q (.ref p) (upd H p (L2.DX.itemsO p a))
theorem mt_itemsK {X : Cx} : MtR X "dict.items" rItemsK := by
  intro pins s σ H x xs v us Q I rx rxs h
  obtain ⟨a, kvs, rfl, rfl, ha, q⟩ := h
  cases rx
  cases rxs
  obtain ⟨z, hd, vs, rel, o, es, ep, ho, hx, hdat, _⟩ := dk_of I.hok ha
  refine DT.callItems (es := es) (ep := ep) hd ⟨o, ho, hx, hdat⟩ ?_
  exact ⟨.ref s.heap.objs.size, upd H s.heap.objs.size (L2.DX.itemsO s.heap.objs.size a), I.laid (t' := s.toks) (fun b u e => Heap.get?_push_of_some _ e) (Nat.le_refl _) (L2.DX.itemsO_ok (Heap.get?_push_size _ rfl)), rfl, q _ (I.hok.fresh (Nat.le_refl _))⟩
abbrev entK (e : Str × Int) : L2.Key × V := (Sum.inr e.1, .int e.2)
def rSortItK : List V → Hp → VK → Prop := fun vs H Q => ∃ (p a : Addr) (es : List (Str × Int)), vs = [.ref p] ∧ H p = some (L2.DX.itemsO p a) ∧ H a = some (.dK (es.map entK)) ∧
  ∀ (H' : Hp) (l : Addr) (ts : List TI2), (∀ b o, H b = some o → H' b = some o) → (ts.map (·.2)).Perm es → H l = none → H' l = some (.lst (ts.map fun t => V.ref t.1)) → (∀ t ∈ ts, H' t.1 = some (.tup [.str t.2.1, .int t.2.2])) → Q (.ref l) H'
theorem ents_at {P : Program} {w : World} : ∀ (es : List (Str × Int)) (ds : List DictEntry) (vs : List (L2.Key × Value)), Pairs (mixKind P w) ds vs → KV (es.map entK) vs → ∀ (j : Nat) (d : DictEntry), ds[j]? = some d →
    ∃ (x : Str) (i : Int) (t u : Tok), es[j]? = some (x, i) ∧ d.key = .str x t ∧ d.val = .int i u := by
  intro es
  induction es with
  | nil =>
    intro ds vs h k j d hj
    cases k
    cases h
    simp at hj
  | cons e es ih =>
    intro ds vs h k j d hj
    rw [List.map_cons] at k
    cases k with
    | cons k1 k2 =>
      cases h with
      | cons h1 h2 h3 =>
        cases j with
        | zero =>
          rw [List.getElem?_cons_zero] at hj
          cases hj
          obtain ⟨q1, u, q2⟩ := k1
          rw [← q1] at h1
          obtain ⟨t, et⟩ := Value.isStrOf_shape (x := e.1) h1
          exact ⟨e.1, e.2, t, u, rfl, et, h2.trans q2⟩
        | succ j =>
          rw [List.getElem?_cons_succ] at hj ⊢
          exact ih _ _ h3 k2 j d hj
theorem each_get {R : Value → TI2 → Prop} : ∀ {ts : List TI2} {vs : List Value}, vs.length = ts.length → (∀ (j : Nat) (v : Value) (t : TI2), vs[j]? = some v → ts[j]? = some t → R v t) → PySem.W.EachIs R vs ts
  | [], [], _, _ => .nil
  | [], _ :: _, h, _ => by simp at h
  | _ :: _, [], h, _ => by simp at h
  | t :: ts, v :: vs, h, r => .cons (r 0 v t rfl rfl) (each_get (by simpa using h) fun j x y hx hy => r (j + 1) x y (by simpa using hx) (by simpa using hy))
theorem units_room {A : Around} (hu : A.units + 64 < cLine) : A.in1.units + 1 + 1 < cLine := by
  have e : A.in1.units = A.units + 1 := rfl
  rw [e]
  omega
theorem cr_sortedItemsK {X : Cx} (hc : X.calm = true) (hu : X.A.units + 64 < cLine) : CallR X (.builtin "sorted") rSortItK := by
  intro pins s σ H xs us Q I r h
  obtain ⟨p, a, es, rfl, hp, ha, q⟩ := h
  rw [Vals.ref1 r]
  have view : s.heap.IsItemsView p a := (show ObjOk X.prog X.w H s.heap p (L2.DX.itemsO p a) from I.hok p _ hp).1
  obtain ⟨z, hd, vs, rel, o, ds, ep, ho, hx, hdat, hko, hpr, hnd⟩ := dk_of I.hok ha
  have l1 : es.length = ds.size := by
    have e1 := Paired.length rel
    have e2 : ∀ {l : List DictEntry} {m : List (L2.Key × Value)}, Pairs (mixKind X.prog X.w) l m → l.length = m.length := by
      intro l m h
      induction h with
      | nil => rfl
      | cons _ _ _ ih => exact congrArg Nat.succ ih
    have e3 := e2 hpr
    rw [List.length_map] at e1
    rw [Array.length_toList] at e3
    omega
  rw [List.length_map] at z
  refine DT.sortedI (es := ds) (ep := ep) (I.ok.hd hc) view ⟨o, ho, hx, hdat⟩ (by omega) fun h' tk as hk hlt hl hG => ?_
  have nd : as.Nodup := List.Pairwise.imp (fun h => Nat.ne_of_lt h) hG.rise
  have pr : ∀ (j : Nat) (b : Addr), as[j]? = some b → ∃ (x : Str) (i : Int) (t u : Tok), es[j]? = some (x, i) ∧ h'.get? b = some { cls := .type "tuple", data := .seq #[Value.str x t, Value.int i u] } := by
    intro j b hj
    obtain ⟨en, he, hg⟩ := hG.pairs j b hj
    obtain ⟨x, i, t, u, e1, e2, e3⟩ := ents_at es _ _ hpr rel j en (by rw [Array.getElem?_toList]; exact he)
    exact ⟨x, i, t, u, e1, by rw [hg, e2, e3]⟩
  have hob : (h'.push { cls := .type "list", data := .seq (as.map Value.ref).toArray }).get? h'.objs.size = some (seqObj "list" (as.map Value.ref).toArray 0) := Heap.get?_push_size _ rfl
  have ka : ∀ b o, h'.get? b = some o → (h'.push { cls := .type "list", data := .seq (as.map Value.ref).toArray }).get? b = some o := fun b o e => Heap.get?_push_of_some _ e
  generalize h'.push { cls := .type "list", data := .seq (as.map Value.ref).toArray } = h2 at hob ka ⊢
  have ne0 : ∀ b o, h'.get? b = some o → b ≠ h'.objs.size := fun b o e => Nat.ne_of_lt (Heap.lt_size e)
  have er : PySem.W.EachIs (fun v (t : TI2) => v = Value.ref t.1 ∧ ∃ (k u : Tok), h'.get? t.1 = some { cls := .type "tuple", data := .seq #[Value.str t.2.1 k, Value.int t.2.2 u] }) (as.map Value.ref) (as.zip es) := by
    refine each_get (by rw [List.length_map, List.length_zip]; omega) fun j v t hv ht => ?_
    obtain ⟨t1, t2⟩ := List.getElem?_zip_eq_some.mp ht
    rw [List.getElem?_map, t1] at hv
    cases hv
    obtain ⟨x, i, k, u, e1, e2⟩ := pr j t.1 t1
    rw [t2] at e1
    have e3 := Option.some.inj e1
    exact ⟨rfl, k, u, by rw [e3]; exact e2⟩
  have hzl : (as.zip es).length ≤ sizeLine := by rw [List.length_zip]; omega
  refine PySem.W.list_sort_data (s := { s with heap := h2, toks := tk }) (bs := as.zip es) (enc := enc2) (R := fun v (t : TI2) => v = Value.ref t.1 ∧ True) hob (er.mono fun _ _ x => ⟨x.1, trivial⟩) (er.mono fun v t x => ?_) (enc2_alike _) (enc2_sortable _) hzl (fun b _ => ?_) fun out hn eo => ?_
  · obtain ⟨x1, k, u, x2⟩ := x
    rw [x1]
    have r : ReadsAll h2 [Value.str t.2.1 k, Value.int t.2.2 u] [.str t.2.1, .int t.2.2] ([] ++ ([] ++ [])) := .cons (.str _ k) (.cons (.int _ u) .nil)
    exact ⟨[], .tuple (ka _ _ x2) rfl rfl r, by simp⟩
  · rw [enc2_depth]
    exact units_room hu
  · show EP X pins σ Q (.ref h'.objs.size) { s with heap := sortedHeap h2 h'.objs.size (as.map Value.ref) out.toArray, toks := tk }
    have pm : ((as.zip es).mergeSort (PySem.W.dataLe false enc2)).Perm (as.zip es) := List.mergeSort_perm _ _
    generalize (as.zip es).mergeSort (PySem.W.dataLe false enc2) = us at eo pm
    have kF : ∀ b o, b ≠ h'.objs.size → h2.get? b = some o → (sortedHeap h2 h'.objs.size (as.map Value.ref) out.toArray).get? b = some o := fun b o hb e => (PyProof.Rows.sortedHeap_old hb (Heap.lt_size e)).trans e
    have kS : ∀ b o, s.heap.get? b = some o → (sortedHeap h2 h'.objs.size (as.map Value.ref) out.toArray).get? b = some o := fun b o e => kF b o (ne0 _ _ (hk b o e)) (ka _ _ (hk b o e))
    obtain ⟨eF, heF⟩ := PyProof.Rows.sortedHeap_at (vs := as.map Value.ref) (out := out.toArray) hob
    have I1 : Inv X pins σ H { s with heap := sortedHeap h2 h'.objs.size (as.map Value.ref) out.toArray, toks := tk } := I.kept (t' := tk) kS
    have hn0 : H h'.objs.size = none := I.hok.fresh (Nat.le_of_lt hlt)
    have hlen : (us.map fun t => V.ref t.1).length ≤ sizeLine := by rw [List.length_map, pm.length_eq]; exact hzl
    have I2 : Inv X pins σ (upd H h'.objs.size (.lst (us.map fun t => V.ref t.1))) { s with heap := sortedHeap h2 h'.objs.size (as.map Value.ref) out.toArray, toks := tk } :=
      I1.take (h' := sortedHeap h2 h'.objs.size (as.map Value.ref) out.toArray) (t' := tk) (fun b ob _ e => e) (I.fpOk (Nat.le_of_lt hlt) hn0) ⟨hlen, out, eF, refs_each eo, heF⟩
    obtain ⟨H2, I3, g, qt⟩ := L2.DX.takeT (P := fun b vs => ∃ (j : Nat) (x : Str) (i : Int), as[j]? = some b ∧ es[j]? = some (x, i) ∧ vs = [.str x, .int i]) I as _ I2 nd fun b hb => by
      obtain ⟨j, hj⟩ := List.mem_iff_getElem?.mp hb
      obtain ⟨x, i, k, u, e1, e2⟩ := pr j b hj
      have hbl : s.heap.objs.size ≤ b := Nat.le_of_lt (hG.above b hb)
      refine ⟨hbl, ?_, [.str x, .int i], ⟨j, x, i, hj, e1, rfl⟩, fun H3 => ⟨(by show 2 ≤ sizeLine; decide), [Value.str x k, Value.int i u], .cons ⟨_, rfl⟩ (.cons ⟨_, rfl⟩ .nil), ⟨_, kF _ _ (ne0 _ _ e2) (ka _ _ e2), rfl, 0, rfl⟩⟩⟩
      rw [upd_ne (ne0 _ _ e2)]
      exact I.hok.fresh hbl
    refine ⟨.ref h'.objs.size, H2, I3, rfl, q H2 h'.objs.size us (fun b o e => g b o (by rw [upd_ne (ne_of_none e hn0)]; exact e)) ?_ hn0 (g _ _ upd_same) fun t ht => ?_⟩
    · have e := pm.map (·.2)
      rw [List.map_snd_zip (by omega)] at e
      exact e
    · obtain ⟨j, hj⟩ := List.mem_iff_getElem?.mp (pm.mem_iff.mp ht)
      obtain ⟨t1, t2⟩ := List.getElem?_zip_eq_some.mp hj
      obtain ⟨vs', ⟨i, x, n, j1, j2, ev⟩, hH⟩ := qt t.1 (List.mem_of_getElem? t1)
      have eij : j = i := (List.getElem?_inj (List.getElem?_eq_some_iff.mp t1).1 nd).mp (t1.trans j1.symm)
      subst eij
      have e3 : t.2 = (x, n) := Option.some.inj (t2.symm.trans j2)
      rw [e3, ← ev]
      exact hH

/-! ### set(xs), xs a list of ints -/
abbrev setObj0 (w : World) : Obj := { cls := .type "set", dict := none, data := .set #[] 0 (.fresh 0 0 (!w.params.followText "set-order")) }
section
variable {P : Program} {w : World} {A : Around} {E : Value → Shared → Prop} {s : Shared}
/-- set.__init__ of a new set over a list of ints -/
theorem set_fill {R : PySem.Fin → Shared → Prop} {l : Addr} {items : Array Value} (ns : List Int) (hh : A.handled = none) (hl : s.heap.IsList l items) (hit : IntsAre items.toList ns) (hb : ns.length + 1 < scanBound)
    (h : ∀ (h' : Heap) (tk c : Nat), SetR w h' s.heap.objs.size (fun j => decide (j ∈ ns)) c → c ≤ ns.length → (∀ b o, s.heap.get? b = some o → h'.get? b = some o) → R (.done (.ret .none)) { s with heap := h', toks := tk }) :
    wpAny (model P w) A (Builtin.«set.__init__» ⟨[.ref s.heap.objs.size, .ref l], []⟩) R E { s with heap := s.heap.push (setObj0 w) } := by
  have hsz : items.size = ns.length := by
    have e := IntsAre.length hit
    rwa [Array.length_toList] at e
  have hS : (s.heap.push (setObj0 w)).get? s.heap.objs.size = some (setObj0 w) := Heap.get?_push_size _ rfl
  have hT : Shared.TypeIs { s with heap := s.heap.push (setObj0 w) } (.ref s.heap.objs.size) "set" := ⟨_, hS, rfl⟩
  obtain ⟨ol, hol, hcl, nl, hdl⟩ := hl
  obtain ⟨ocls, odict, odata, oslots⟩ := ol
  simp only at hcl hdl
  subst hcl hdl
  have hol' : (s.heap.push (setObj0 w)).get? l = some { cls := .type "list", dict := odict, data := .seq items nl, slots := oslots } := Heap.get?_push_of_some _ hol
  have f1 := F.sub_list_set
  have f2 := F.sub_list_frozenset
  have f3 : (Value.type "list" == Value.type "dict") = false := by decide
  have hl1 : (s.heap.push (setObj0 w)).IsList l items := ⟨_, hol', rfl, nl, rfl⟩
  have lS : l < s.heap.objs.size := Heap.lt_size hol
  have z1 : (s.heap.push (setObj0 w)).objs.size = s.heap.objs.size + 1 := Heap.size_push ..
  have lI : l ≠ (s.heap.push (setObj0 w)).objs.size := by rw [z1]; exact Nat.ne_of_lt (Nat.lt_succ_of_lt lS)
  have nf : s.heap.objs.size ∉ [(s.heap.push (setObj0 w)).objs.size, l] := by
    rw [z1]
    intro z
    rcases List.mem_cons.mp z with z | z
    · exact absurd z (Nat.ne_of_lt (Nat.lt_succ_self _))
    · exact absurd (List.mem_singleton.mp z) (Nat.ne_of_gt lS)
  have hval : ∀ (i : Nat) (v : Value), items[i]? = some v → ∃ k t, ns[i]? = some k ∧ v = .int k t := fun i v hv => by
    have hi : i < ns.length := by rw [← hsz]; exact (Array.getElem?_eq_some_iff.mp hv).1
    obtain ⟨t, e⟩ := PyProof.Rows.IntsAre.int_at hit i v (by rw [Array.getElem?_toList]; exact hv)
    refine ⟨ns[i], t, List.getElem?_eq_getElem hi, e.trans ?_⟩
    rw [List.getD_eq_getElem?_getD, List.getElem?_eq_getElem hi]
    all_goals rfl
  unfold Builtin.«set.__init__» noKeywords Builtin.Frozenset.updateFrom
  generalize hPI : pyIter = PI
  wp_walk
  subst hPI
  refine wpAny_pyIter_list hl1 (wpAny_bind (wpAny_runValue ?_))
  refine set_update_ints ((Walks.list (by first | exact hh | simp [hh]) _ l lI items).toS) s.heap.objs.size nf ns hsz hb hval (items.size - 0) 0 _ (by omega) (Nat.zero_le _) ⟨⟨_, Heap.get?_push_size _ rfl, rfl, rfl⟩, (hl1.push _)⟩ ⟨0, Nat.le_refl 0, setR_new_at (Heap.get?_push_of_some _ hS)⟩ fun s' c hm hc hR => ?_
  obtain ⟨h', g2, d', tk', os'⟩ := s'
  cases (show g2 = s.gens from hm.gens)
  cases (show d' = s.drawn from hm.drawn)
  cases (show os' = s.os from hm.os)
  show wpAny _ _ _ _ _ _
  refine wpAny_pure ?_
  show wpAny _ _ (ret Value.none) _ _ _
  refine wpAny_pure (h h' tk' c hR (by omega) fun b o e => ?_)
  have b0 : b < s.heap.objs.size := Heap.lt_size e
  refine hm.heap b o (fun z => ?_) (Heap.get?_push_of_some _ (Heap.get?_push_of_some _ e))
  rcases List.mem_cons.mp z with z | z
  · exact absurd z (Nat.ne_of_lt b0)
  · have q := List.mem_singleton.mp z
    rw [z1] at q
    exact absurd q (Nat.ne_of_lt (Nat.lt_succ_of_lt b0))
theorem set_of_list {l : Addr} {items : Array Value} (ns : List Int) {Q : Value → Shared → Prop} (hh : A.handled = none) (hl : s.heap.IsList l items) (hit : IntsAre items.toList ns) (hb : ns.length + 1 < scanBound)
    (h : ∀ (h' : Heap) (tk c : Nat), SetR w h' s.heap.objs.size (fun j => decide (j ∈ ns)) c → c ≤ ns.length → (∀ b o, s.heap.get? b = some o → h'.get? b = some o) → Q (.ref s.heap.objs.size) { s with heap := h', toks := tk }) :
    wpAny (model P w) A (call (.type "set") [.ref l]) Q E s := by
  obtain ⟨c, tl, hmro⟩ := F.called_set.mro
  have q1 := F.called_set.made
  have q2 := F.called_set.sub
  refine wpAny_call (codeAny_of_tree ?_)
  show wpAny _ _ (callAny (.type "set") _) _ _ _
  refine wpAny_pure ⟨Code.quiet_builtin _ (by decide +kernel), codeAny_builtin F.entry_type_call ?_⟩
  rw [Around.under_plain (weight_type_call_type "set" [.ref l] []) rfl]
  have q3 := F.called_set.notType
  have q4 := F.called_set.canCreate
  have q5 := F.typeCall_set_1 (.ref l)
  repeat (any_goals (first | assumption | wp_step))
  refine codeAny_mono (code_set_led1 (.ref l) (E := E) (Q₁ := fun obj s₁ => obj = .ref s.heap.objs.size ∧ s₁ = { s with heap := s.heap.push (setObj0 w) }) ⟨rfl, rfl⟩) fun r s₁ hr => ?_
  cases r with
  | error e => exact hr
  | ok fl =>
    cases fl with
    | next => exact hr.elim
    | brk => exact hr.elim
    | cont => exact hr.elim
    | ret obj =>
      obtain ⟨rfl, rfl⟩ := hr
      have hT : Shared.TypeIs { s with heap := s.heap.push (setObj0 w) } (.ref s.heap.objs.size) "set" := ⟨_, Heap.get?_push_size _ rfl, rfl⟩
      have q6 := F.called_set.init.lookup
      have q7 := F.called_set.init.bind (.ref s.heap.objs.size)
      repeat (any_goals (first | assumption | wp_step))
      refine codeAny_mono (codeAny_call_builtin (R := wants (fun r s₂ => r = .none ∧ Q (.ref s.heap.objs.size) s₂) E) F.called_set.init.plain F.entry_set_init (check_set_init_1 hT ?_)) fun r₂ s₂ hr₂ => ?_
      · exact set_fill ns hh hl hit hb fun h' tk c hR hc hk => ⟨rfl, h h' tk c hR hc hk⟩
      · cases r₂ with
        | error e => exact hr₂
        | ok fl₂ =>
          cases fl₂ with
          | next => exact hr₂.elim
          | brk => exact hr₂.elim
          | cont => exact hr₂.elim
          | ret r =>
            obtain ⟨rfl, hq⟩ := hr₂
            repeat (any_goals (first | assumption | wp_step))
end
def rSetOfL (K : PySem.W.Frag) (w : World) : List V → Hp → VK → Prop := fun vs H Q => ∃ (a : Addr) (ns : List Int), vs = [.ref a] ∧ SqL K H a (ns.map V.int) ∧ ns.length < 64 ∧
  ∀ (p : Addr) (c : Nat), c < 64 → H p = none → Q (.ref p) (upd H p (SetO w p (fun j => decide (j ∈ ns)) c))
theorem cr_setOfL {X : Cx} (hc : X.calm = true) : CallR X (.type "set") (rSetOfL X.K X.w) := by
  intro pins s σ H vs us Q I r h
  obtain ⟨a, ns, rfl, hs, hn, q⟩ := h
  obtain ⟨its, rv, hl, hz⟩ := I.list hs
  rw [Vals.ref1 r]
  refine set_of_list ns (I.ok.hd hc) hl.isList rv.ints (by unfold scanBound; omega) fun h' tk c hR hcn hk => ?_
  exact ⟨.ref _, upd H s.heap.objs.size (SetO X.w s.heap.objs.size (fun j => decide (j ∈ ns)) c), I.laid (t' := tk) hk (Nat.le_refl _) (setO_new hR), rfl, q _ c (by omega) (I.hok.fresh (Nat.le_refl _))⟩
end K15R

set_option Elab.async false
set_option linter.all false
set_option autoImplicit false
set_option maxRecDepth 100000
set_option maxHeartbeats 4000000
/-! The text by places; what the top has made. -/
namespace K15
open PySem L2
/-- len of a list or tuple -/
abbrev rLenQ (K : PySem.W.Frag) : List V → Hp → VK → Prop := fun vs H Q => ∃ p ys, vs = [V.ref p] ∧ (SqL K H p ys ∨ SqT K H p ys) ∧ Q (.int ys.length) H
def top (i : Nat) : Stmt := PySem.Challenge.pw_missedmarks_k15_whole_longer_holds_and_m.main.body.getD i (.Pass ⟨0, 0, 0, 0⟩)
/-- where classes and slots' descriptors stand -/
structure Adr where
  CL : Addr
  CE : Addr
  pk : Addr
  pv : Addr
  pg : Addr
  pp : Addr
structure Txt (K : PySem.W.Frag) (mg : Str → Option Value) (A : Adr) : Prop where
  cl : Cls K A.CL
  n_hold : NoAttr K A.CL "own_hold"
  n_guards : NoAttr K A.CL "own_guards"
  n_entries : NoAttr K A.CL "own_entries"
  n_places : NoAttr K A.CL "own_places"
  n_tables : NoAttr K A.CL "own_tables"
  n_copies : NoAttr K A.CL "own_copies"
  n_time : NoAttr K A.CL "own_time"
  scl : SCls K A.CE
  sl_is_gone : Slt K A.CE "is_gone" 0 A.pg
  sl_key : Slt K A.CE "key" 1 A.pk
  sl_passed : Slt K A.CE "passed" 2 A.pp
  sl_value : Slt K A.CE "value" 3 A.pv
  gPUT : ∃ u, mg "PUT" = some u ∧ RelV (.str "put") u
  gDROP : ∃ u, mg "DROP" = some u ∧ RelV (.str "drop") u
  gJOIN : ∃ u, mg "JOIN" = some u ∧ RelV (.str "join") u
  gREAD : ∃ u, mg "READ" = some u ∧ RelV (.str "read") u
  gSAVE : ∃ u, mg "SAVE" = some u ∧ RelV (.str "save") u
  gLOAD : ∃ u, mg "LOAD" = some u ∧ RelV (.str "load") u
  gCOPY : ∃ u, mg "COPY" = some u ∧ RelV (.str "copy") u
  b_len : mg "len" = none
  b_int : mg "int" = none
  b_abs : mg "abs" = none
  b_min : mg "min" = none
  b_sorted : mg "sorted" = none
  b_set : mg "set" = none
  b_tuple : mg "tuple" = none
  b_list : mg "list" = none
  b_dict : mg "dict" = none
  b_sum : mg "sum" = none
  b_all : mg "all" = none
  b_range : mg "range" = none
  b_enumerate : mg "enumerate" = none
  b_isinstance : mg "isinstance" = none

/-! ### the heap but for some places -/
/-- what is tracked stays as it is, but for P -/
def Exc (P : Addr → Prop) (H H' : Hp) : Prop := ∀ a o, H a = some o → ¬ P a → H' a = some o
theorem Exc.refl (P : Addr → Prop) (H : Hp) : Exc P H H := fun _ _ h _ => h
theorem Exc.trans {P : Addr → Prop} {H H1 H2 : Hp} (a : Exc P H H1) (b : Exc P H1 H2) : Exc P H H2 := fun c o h n => b c o (a c o h n) n
theorem Exc.mono {P P' : Addr → Prop} {H H' : Hp} (a : Exc P H H') (h : ∀ x, P x → P' x) : Exc P' H H' := fun c o e n => a c o e fun z => n (h c z)
theorem Exc.new {P : Addr → Prop} {H H' : Hp} {p : Addr} {o : HO} (a : Exc P H H') (h : H' p = none) : Exc P H (upd H' p o) := fun c u e n => by
  rw [upd_ne (ne_of_none (a c u e n) h)]
  exact a c u e n
theorem Exc.at {P : Addr → Prop} {H H' : Hp} {p : Addr} {o : HO} (a : Exc P H H') (h : P p) : Exc P H (upd H' p o) := fun c u e n => by
  rw [upd_ne (fun z => n (by rw [z]; exact h))]
  exact a c u e n
/-- a place that was new ahead -/
theorem Exc.born {P : Addr → Prop} {H H' : Hp} {p : Addr} {o : HO} (a : Exc P H H') (h : H p = none) : Exc P H (upd H' p o) := fun c u e n => by
  rw [upd_ne (ne_of_none e h)]
  exact a c u e n
theorem Exc.seq {P : Addr → Prop} {K : PySem.W.Frag} {H H' : Hp} {a : Addr} {xs : List V} (e : Exc P H H') (h : SqL K H a xs) (n : ¬ P a) : SqL K H' a xs := by
  rcases h with (h | ⟨o, h⟩) | h
  · exact .inl (.inl (e _ _ h n))
  · exact .inl (.inr ⟨o, e _ _ h n⟩)
  · exact .inr h
theorem Exc.none {P : Addr → Prop} {H H' : Hp} {p : Addr} (e : Exc P H H') (h : H' p = Option.none) (n : ¬ P p) : H p = Option.none := by
  cases q : H p with
  | none => rfl
  | some o => rw [e p o q n] at h; cases h
theorem same_exc {H H' : Hp} (h : Same H H') (P : Addr → Prop) : Exc P H H' := fun a o e _ => h a o e

/-! ### the box of draws -/
structure BoxAt (H : Hp) (b : Addr) (c : Int) : Prop where
  ex : ∃ x y z : Int, H b = some (.lst [.int x, .int y, .int z]) ∧ 0 ≤ x ∧ 0 ≤ y ∧ y < 2147483563 ∧ 0 ≤ z ∧ z ≤ c
theorem BoxAt.exc {P : Addr → Prop} {H H' : Hp} {b : Addr} {c : Int} (h : BoxAt H b c) (e : Exc P H H') (n : ¬ P b) : BoxAt H' b c := by
  obtain ⟨x, y, z, h1, h2⟩ := h.ex
  exact ⟨x, y, z, e b _ h1 n, h2⟩
theorem BoxAt.mono {H : Hp} {b : Addr} {c d : Int} (h : BoxAt H b c) (e : c ≤ d) : BoxAt H b d := by
  obtain ⟨x, y, z, h1, h2, h3, h4, h5, h6⟩ := h.ex
  exact ⟨x, y, z, h1, h2, h3, h4, h5, by omega⟩
theorem BoxAt.upd {H : Hp} {b p : Addr} {c : Int} {o : HO} (h : BoxAt H b c) (n : b ≠ p) : BoxAt (upd H p o) b c := by
  obtain ⟨x, y, z, h1, h2⟩ := h.ex
  exact ⟨x, y, z, by rw [upd_ne n]; exact h1, h2⟩
theorem BoxAt.ne {H : Hp} {b p : Addr} {c : Int} (h : BoxAt H b c) (n : H p = none) : b ≠ p := by
  obtain ⟨x, y, z, h1, h2⟩ := h.ex
  exact ne_of_none h1 n
end K15

set_option Elab.async false
set_option linter.all false
set_option autoImplicit false
set_option maxRecDepth 100000
set_option maxHeartbeats 4000000
namespace K15
open PySem L2
abbrev s__law_take : Stmt := top 24
abbrev N__law_take : List Str := ["_law_box_here", "_law_below", "_law_found", "_law_once", "_law_odd"]
abbrev P__law_take : List Str := ["_law_box_here", "_law_below"]
theorem sc__law_take : FnScope N__law_take P__law_take (C8.fnScope s__law_take) := C8.fnScope_by (by decide +kernel)
/-- a draw -/
def spTake : Sp := fun vs H Q _ => ∃ (b : Addr) (n c : Int), vs = [.ref b, .int n] ∧ 0 < n ∧ n < 1000 ∧ BoxAt H b c ∧ c ≤ 1000000 ∧
  ∀ (r : Int) (H' : Hp), 0 ≤ r → r < n → BoxAt H' b (c + 1) → Exc (fun a => a = b) H H' → Q (.int r) H'
section
variable {P : Program} {w : World} {K : PySem.W.Frag} {mg : Str → Option Value} {base : Heap} {A : Adr}
theorem take_ok {f : Addr} {fd : FuncData} (T : Txt K mg A) (F : C8.Def K mg "_law_take" s__law_take f fd) (b : Binds K fd P__law_take []) : C8.Cal P w K mg base 1 "_law_take" spTake [] := by
  refine C8.cal0 F b .nil sc__law_take (fun vs H Q E h => ?_) (fun cdv A outer s H vs Q E hr h => ?_)
  · obtain ⟨b, n, c, rfl, _⟩ := h
    rfl
  · obtain ⟨b, n, c, rfl, hn, hn2, hb, hc, k⟩ := h
    obtain ⟨x, y, z, hb, hx, hy, hy2, hz, hzc⟩ := hb.ex
    refine ⟨_, (pss_cons (ps_if (pt_cmpR op_gt (pe_ix (r := rIxL K) ix_list (pv 0) pe_int (fun _ _ => rfl)) pe_int (nomark _)) (pss_cons (ps_set (i := 2) sc__law_take.nd rfl (Or.inl rfl) (pe_op op_mod (pe_callTy call_int1 (by rfl) T.b_int (by decide +kernel) (pa_cons (pe_ix (r := rIxL K) ix_list (pv 0) pe_int (fun _ _ => rfl)) pa_nil)) (pv 1)))
      (pss_cons (ps_asg (pe_op op_fdiv (pe_ix (r := rIxL K) ix_list (pv 0) pe_int (fun _ _ => rfl)) (pv 1)) (pg_sub (pv 0) pe_int set_list))
      (pss_one (ps_ret (pv 2))))) pss_nil)
      (pss_cons (ps_asg (pe_op op_add (pe_ix (r := rIxL K) ix_list (pv 0) pe_int (fun _ _ => rfl)) pe_int) (pg_sub (pv 0) pe_int set_list))
      (pss_cons (ps_set (i := 3) sc__law_take.nd rfl (Or.inl rfl) (pe_op op_mod (pe_callTy call_int1 (by rfl) T.b_int (by decide +kernel) (pa_cons (pe_op op_pow (pe_op op_add (pe_ix (r := rIxL K) ix_list (pv 0) pe_int (fun _ _ => rfl)) (pe_op op_mul pe_int (pe_ix (r := rIxL K) ix_list (pv 0) pe_int (fun _ _ => rfl)))) pe_int) pa_nil)) pe_int))
      (pss_cons (ps_set (i := 4) sc__law_take.nd rfl (Or.inl rfl) (pe_op op_add (pe_op op_mod (pe_callTy call_int1 (by rfl) T.b_int (by decide +kernel) (pa_cons (pv 3) pa_nil)) pe_int) pe_int))
      (pss_one (ps_ret (pe_op op_mod (pe_callTy call_int1 (by rfl) T.b_int (by decide +kernel) (pa_cons (pe_op op_fdiv (pe_op op_mod (pe_callTy call_int1 (by rfl) T.b_int (by decide +kernel) (pa_cons (pe_op op_add (pe_op op_mul (pv 3) (pv 4)) (pe_op op_mul (pe_ix (r := rIxL K) ix_list (pv 0) pe_int (fun _ _ => rfl)) pe_int)) pa_nil)) pe_int) pe_int) pa_nil)) (pv 1)))))))), ?_⟩
    refine ⟨_, rfl, _, _, _, _, rfl, rfl, SqL.of hb, rfl, _, _, rfl, rfl, _, rfl, ?_⟩
    refine ite2 (fun hpos => ?_) (fun hpos => ?_)
    · have hpos' : 0 < x := of_decide_eq_true hpos
      refine ⟨_, rfl, _, _, _, _, rfl, rfl, SqL.of hb, rfl, .inl ⟨_, rfl, _, rfl, _, _, rfl, rfl, hn, ?_⟩⟩
      refine ⟨_, rfl, _, _, _, _, rfl, rfl, SqL.of hb, rfl, _, rfl, _, _, rfl, rfl, ⟨hn, by omega⟩, ?_⟩
      refine ⟨_, rfl, _, _, _, 0, rfl, rfl, hb, rfl, _, rfl, ?_⟩
      exact k _ _ (Int.emod_nonneg _ (by omega)) (Int.emod_lt_of_pos _ hn) ⟨x / n, y, z, upd_same, Int.ediv_nonneg hx (by omega), hy, hy2, hz, by omega⟩ ((Exc.refl _ H).at rfl)
    · refine ⟨_, rfl, _, _, _, _, rfl, rfl, SqL.of hb, rfl, _, _, rfl, rfl, _, rfl, _, _, _, 2, rfl, rfl, hb, rfl, ?_⟩
      refine ⟨_, rfl, _, _, _, _, rfl, rfl, SqL.of upd_same, rfl, _, rfl, _, _, _, _, rfl, rfl, SqL.of upd_same, rfl, _, _, rfl, rfl, .inl ⟨by decide, by decide⟩, _, _, rfl, rfl, _, _, rfl, rfl, ⟨by decide, by decide, ?_⟩, .inl ⟨_, rfl, _, _, rfl, rfl, (by show (0 : Int) < 2147483549; decide), ?_⟩⟩
      · omega
      refine ⟨_, rfl, .inl ⟨_, rfl, _, _, rfl, rfl, (by show (0 : Int) < 30011; decide), _, _, rfl, rfl, ?_⟩⟩
      refine ⟨_, rfl, _, rfl, _, _, rfl, rfl, .inl ?_, _, rfl, _, _, _, _, rfl, rfl, SqL.of upd_same, rfl, _, _, rfl, rfl, .inr ⟨by decide, by decide⟩, _, _, rfl, rfl, .inl ⟨_, rfl, _, _, rfl, rfl, (by show (0 : Int) < 2147483629; decide), _, _, rfl, rfl, ⟨by decide, by decide⟩, .inl ⟨_, rfl, _, rfl, _, _, rfl, rfl, hn, ?_⟩⟩⟩
      · exact ⟨Int.lt_of_lt_of_le (by decide) (Int.emod_nonneg _ (by decide)), Int.lt_trans (Int.emod_lt_of_pos _ (by decide)) (by decide)⟩
      exact k _ _ (Int.emod_nonneg _ (by omega)) (Int.emod_lt_of_pos _ hn) ⟨x, y, z + 1, upd_same, hx, hy, hy2, by omega, by omega⟩ ((Exc.refl _ H).at rfl)
end
end K15

set_option Elab.async false
set_option linter.all false
set_option autoImplicit false
set_option maxRecDepth 100000
set_option maxHeartbeats 4000000
namespace K15
open PySem L2
abbrev s__law_box : Stmt := top 23
abbrev N__law_box : List Str := ["_law_script", "_law_k", "_law_cell", "_law_seed"]
abbrev P__law_box : List Str := ["_law_script", "_law_k"]
theorem sc__law_box : FnScope N__law_box P__law_box (C8.fnScope s__law_box) := C8.fnScope_by (by decide +kernel)
theorem bits_abs (i : Int) : Builtin.Int.intBits (if i < 0 then -i else i) = Builtin.Int.intBits i := by
  unfold Builtin.Int.intBits
  by_cases h : i < 0
  · rw [if_pos h, Int.natAbs_neg]
    by_cases h0 : i = 0
    · omega
    · have e1 : (-i == 0) = false := by simp; omega
      have e2 : (i == 0) = false := by simp; omega
      rw [e1, e2]
  · rw [if_neg h]
theorem bits_bool (k : Bool) : Builtin.Int.intBits (if k then 1 else 0) ≤ 1 := by cases k <;> decide
theorem box_mul {cell : Int} (k : Bool) (h : Builtin.Int.intBits cell ≤ 1048576) : CMulX (if cell < 0 then -cell else cell) (if k then 1 else 0) := by
  unfold CMulX
  rw [bits_abs]
  have := bits_bool k
  omega
theorem box_nn (cell : Int) (k : Bool) : 0 ≤ (if cell < 0 then -cell else cell) * (if k then 1 else 0) := by
  refine Int.mul_nonneg ?_ ?_
  · split <;> omega
  · cases k <;> decide
/-- the box of the k-th number -/
def spBox (K : PySem.W.Frag) : Sp := fun vs H Q _ => ∃ (a : Addr) (ns : List Int) (k : Int), vs = [.ref a, .int k] ∧ SqL K H a (ns.map V.int) ∧ (∀ n ∈ ns, Builtin.Int.intBits n ≤ 1048576) ∧ 0 ≤ k ∧ k ≤ 2 ∧
  ∀ (p : Addr) (H' : Hp), H p = none → BoxAt H' p 0 → Same H H' → Q (.ref p) H'
section
variable {P : Program} {w : World} {K : PySem.W.Frag} {mg : Str → Option Value} {base : Heap} {A : Adr}
theorem box_ok {f : Addr} {fd : FuncData} (T : Txt K mg A) (F : C8.Def K mg "_law_box" s__law_box f fd) (b : Binds K fd P__law_box []) : C8.Cal P w K mg base 1 "_law_box" (spBox K) [] := by
  refine C8.cal0 F b .nil sc__law_box (fun vs H Q E h => ?_) (fun cdv A outer s H vs Q E hr h => ?_)
  · obtain ⟨a, ns, k, rfl, _⟩ := h
    rfl
  · obtain ⟨a, ns, k, rfl, hS, hbit, hk0, hk2, q⟩ := h
    refine ⟨_, (pss_cons (ps_set (i := 2) sc__law_box.nd rfl (Or.inl rfl) (pe_ifExp (pt_cmpR op_lt (pv 1) (pe_callB (r := rLenQ K) call_len_seq (by rfl) T.b_len PySem.boot_len (pa_cons (pv 0) pa_nil)) (nomark _)) (pe_ix (r := rIxL K) ix_list (pv 0) (pv 1) (fun _ _ => rfl)) pe_int))
      (pss_cons (ps_set (i := 3) sc__law_box.nd rfl (Or.inl rfl) (pe_op op_mod (pe_callTy call_int1 (by rfl) T.b_int (by decide +kernel) (pa_cons (pe_op op_mul (pe_op op_add (pe_op op_add (pe_op op_mod (pe_callTy call_int1 (by rfl) T.b_int (by decide +kernel) (pa_cons (pv 2) pa_nil)) pe_int) (pe_op op_mul pe_int (pv 1))) pe_int) pe_int) pa_nil)) pe_int))
      (pss_one (ps_ret (pe_lst (pa_cons (pe_op op_mulX (pe_callB call_abs (by rfl) T.b_abs (by decide +kernel) (pa_cons (pv 2) pa_nil)) (pe_callTy call_int1 (by rfl) T.b_int (by decide +kernel) (pa_cons (pe_cmpR op_ge (pe_callB call_abs (by rfl) T.b_abs (by decide +kernel) (pa_cons (pv 2) pa_nil)) (pe_op op_pow pe_int pe_int) (nomark _)) pa_nil))) (pa_cons (pv 3) (pa_cons pe_int pa_nil)))))))), ?_⟩
    refine ⟨_, rfl, _, rfl, _, _, rfl, .inl hS, _, _, rfl, rfl, _, rfl, ?_⟩
    refine ite2 (fun hlt => ?_) (fun hlt => ?_)
    · have hlt' : k < ((ns.map V.int).length : Int) := of_decide_eq_true hlt
      rw [List.length_map] at hlt'
      have hlt2 : k.toNat < ns.length := by omega
      have e1 : (ns.map V.int)[k.toNat]? = some (V.int ns[k.toNat]) := by rw [List.getElem?_map, List.getElem?_eq_getElem hlt2]; rfl
      have e2 : atI (ns.map V.int) k = some (V.int ns[k.toNat]) := by
        have := atI_nat e1
        rw [Int.toNat_of_nonneg hk0] at this
        exact this
      have hb := hbit _ (List.getElem_mem hlt2)
      refine ⟨_, rfl, _, rfl, _, _, _, _, rfl, rfl, hS, e2, ?_⟩
      refine ⟨_, rfl, .inl ⟨_, rfl, _, _, rfl, rfl, (by show (0 : Int) < 2305843009213693921; decide), _, rfl, _, _, rfl, rfl, .inl ⟨by decide, by decide⟩, _, _, rfl, rfl, _, _, rfl, rfl, _, _, rfl, rfl, .inr ⟨by decide, by decide⟩, .inl ⟨_, rfl, _, _, rfl, rfl, (by show (0 : Int) < 2147483563; decide), ?_⟩⟩⟩
      refine ⟨_, rfl, _, rfl, _, rfl, _, rfl, _, _, rfl, rfl, ⟨by decide, by decide, by decide⟩, _, _, rfl, rfl, .inr ⟨_, rfl, _, _, rfl, rfl, box_mul _ hb, _, rfl, (by show 3 ≤ sizeLine; decide), fun p hp => ?_⟩⟩
      exact q p _ hp ⟨_, _, _, upd_same, box_nn _ _, Int.emod_nonneg _ (by decide), Int.emod_lt_of_pos _ (by decide), Int.le_refl 0, Int.le_refl 0⟩ fun b o e => by rw [upd_ne (ne_of_none e hp)]; exact e
    · have hb : Builtin.Int.intBits 0 ≤ 1048576 := by decide
      refine ⟨_, rfl, .inl ⟨_, rfl, _, _, rfl, rfl, (by show (0 : Int) < 2305843009213693921; decide), _, rfl, _, _, rfl, rfl, .inl ⟨by decide, by decide⟩, _, _, rfl, rfl, _, _, rfl, rfl, _, _, rfl, rfl, .inr ⟨by decide, by decide⟩, .inl ⟨_, rfl, _, _, rfl, rfl, (by show (0 : Int) < 2147483563; decide), ?_⟩⟩⟩
      refine ⟨_, rfl, _, rfl, _, rfl, _, rfl, _, _, rfl, rfl, ⟨by decide, by decide, by decide⟩, _, _, rfl, rfl, .inr ⟨_, rfl, _, _, rfl, rfl, box_mul _ hb, _, rfl, (by show 3 ≤ sizeLine; decide), fun p hp => ?_⟩⟩
      exact q p _ hp ⟨_, _, _, upd_same, box_nn _ _, Int.emod_nonneg _ (by decide), Int.emod_lt_of_pos _ (by decide), Int.le_refl 0, Int.le_refl 0⟩ fun b o e => by rw [upd_ne (ne_of_none e hp)]; exact e
end
abbrev s__law_of : Stmt := top 25
abbrev N__law_of : List Str := ["_law_box_here", "_law_some"]
abbrev P__law_of : List Str := ["_law_box_here", "_law_some"]
theorem sc__law_of : FnScope N__law_of P__law_of (C8.fnScope s__law_of) := C8.fnScope_by (by decide +kernel)
/-- one of some things -/
def spOf (K : PySem.W.Frag) : Sp := fun vs H Q _ => ∃ (b a : Addr) (xs : List V) (c : Int), vs = [.ref b, .ref a] ∧ SqL K H a xs ∧ a ≠ b ∧ 0 < xs.length ∧ xs.length < 1000 ∧ BoxAt H b c ∧ c ≤ 1000000 ∧
  ∀ (v : V) (H' : Hp), v ∈ xs → BoxAt H' b (c + 1) → Exc (fun a => a = b) H H' → Q v H'
section
variable {P : Program} {w : World} {K : PySem.W.Frag} {mg : Str → Option Value} {base : Heap} {A : Adr}
theorem of_ok {f : Addr} {fd : FuncData} (T : Txt K mg A) (F : C8.Def K mg "_law_of" s__law_of f fd) (b : Binds K fd P__law_of []) (c_l_take : C8.Cal P w K mg base 1 "_law_take" spTake []) : C8.Cal P w K mg base 2 "_law_of" (spOf K) [] := by
  refine C8.cal0 F b .nil sc__law_of (fun vs H Q E h => ?_) (fun cdv A outer s H vs Q E hr h => ?_)
  · obtain ⟨b, a, xs, c, rfl, _⟩ := h
    rfl
  · obtain ⟨b, a, xs, c, rfl, hS, hab, h0, h1, hb, hc, q⟩ := h
    refine ⟨_, (pss_one (ps_ret (pe_ix (r := rIxL K) ix_list (pv 1) (C8.pe_c c_l_take hr (by decide) rfl (pa_cons (pv 0) (pa_cons (pe_callB (r := rLenQ K) call_len_seq (by rfl) T.b_len PySem.boot_len (pa_cons (pv 1) pa_nil)) pa_nil))) (fun _ _ => rfl)))), ?_⟩
    refine ⟨_, rfl, _, rfl, _, rfl, _, _, rfl, .inl hS, b, _, c, rfl, by omega, by omega, hb, hc, fun r H' r0 r1 hb' ex => ?_⟩
    have hr : r.toNat < xs.length := by omega
    have e2 : atI xs r = some xs[r.toNat] := by
      have := atI_nat (List.getElem?_eq_getElem hr)
      rw [Int.toNat_of_nonneg r0] at this
      exact this
    exact ⟨_, _, _, _, rfl, rfl, ex.seq hS hab, e2, q _ H' (List.getElem_mem hr) hb' ex⟩
end
end K15

set_option Elab.async false
set_option linter.all false
set_option autoImplicit false
set_option maxRecDepth 100000
set_option maxHeartbeats 4000000
/-! Events, copies and readers' places on the heap; values without a change of the heap. -/
namespace K15
open PySem L2
abbrev EvS := Ev Str
def evV : EvS → List V
  | .put k v => [.str "put", .str k, .int v]
  | .drop k => [.str "drop", .str k]
  | .join r => [.str "join", .int r]
  | .read r u => [.str "read", .int r, .int u]
  | .save r => [.str "save", .int r]
  | .load r c => [.str "load", .int r, .int c]
  | .wait => [.str "wait"]
/-- at each address its tuple -/
def TupsAt (H : Hp) (as : List Addr) (xss : List (List V)) : Prop := Paired (fun a xs => H a = some (.tup xs)) as xss
theorem TupsAt.len {H : Hp} {as : List Addr} {xss : List (List V)} (h : TupsAt H as xss) : as.length = xss.length := Paired.length h
theorem TupsAt.imp {H H' : Hp} {as : List Addr} {xss : List (List V)} (h : TupsAt H as xss) (k : ∀ a xs, H a = some (.tup xs) → H' a = some (.tup xs)) : TupsAt H' as xss := Paired.mapP h fun a xs e => k a xs e
/-- P holds of no tuple -/
def NoTup (P : Addr → Prop) (H : Hp) : Prop := ∀ a xs, H a = some (.tup xs) → ¬ P a
theorem TupsAt.exc {P : Addr → Prop} {H H' : Hp} {as : List Addr} {xss : List (List V)} (h : TupsAt H as xss) (e : Exc P H H') (n : NoTup P H) : TupsAt H' as xss := h.imp fun a xs z => e a _ z (n a xs z)
theorem TupsAt.same {H H' : Hp} {as : List Addr} {xss : List (List V)} (h : TupsAt H as xss) (e : Same H H') : TupsAt H' as xss := h.imp fun a xs z => e a _ z
theorem TupsAt.get {H : Hp} : ∀ {as : List Addr} {xss : List (List V)} {i : Nat} {a : Addr}, TupsAt H as xss → as[i]? = some a → ∃ xs, xss[i]? = some xs ∧ H a = some (.tup xs)
  | _, _, i, a, .nil, h => by simp at h
  | _, _, 0, a, .cons r t, h => by
    simp at h
    subst h
    exact ⟨_, rfl, r⟩
  | _, _, i + 1, a, .cons r t, h => by
    rw [List.getElem?_cons_succ] at h ⊢
    exact TupsAt.get t h
theorem TupsAt.snoc {H : Hp} {as : List Addr} {xss : List (List V)} {a : Addr} {xs : List V} (h : TupsAt H as xss) (e : H a = some (.tup xs)) : TupsAt H (as ++ [a]) (xss ++ [xs]) := Paired.snoc h e
theorem refs_ix {as : List Addr} {i : Nat} {x : V} (h : (as.map V.ref)[i]? = some x) : ∃ a, as[i]? = some a ∧ x = .ref a := by
  rw [List.getElem?_map] at h
  cases e : as[i]? with
  | none => rw [e] at h; cases h
  | some a => rw [e] at h; cases h; exact ⟨a, rfl, rfl⟩
/-- a list of events -/
abbrev EvsAt (H : Hp) (as : List Addr) (es : List EvS) : Prop := TupsAt H as (es.map evV)
theorem EvsAt.get {H : Hp} {as : List Addr} {es : List EvS} (h : EvsAt H as es) {i : Nat} {a : Addr} (e : as[i]? = some a) : ∃ ev, es[i]? = some ev ∧ H a = some (.tup (evV ev)) := by
  obtain ⟨xs, h1, h2⟩ := TupsAt.get h e
  rw [List.getElem?_map] at h1
  cases e1 : es[i]? with
  | none => rw [e1] at h1; cases h1
  | some ev => rw [e1] at h1; cases h1; exact ⟨ev, rfl, h2⟩
theorem EvsAt.snoc {H : Hp} {as : List Addr} {es : List EvS} {a : Addr} {ev : EvS} (h : EvsAt H as es) (e : H a = some (.tup (evV ev))) : EvsAt H (as ++ [a]) (es ++ [ev]) := by
  show TupsAt H (as ++ [a]) ((es ++ [ev]).map evV)
  rw [List.map_append]
  exact TupsAt.snoc h e
theorem EvsAt.len {H : Hp} {as : List Addr} {es : List EvS} (h : EvsAt H as es) : as.length = es.length := by
  have := TupsAt.len h
  rwa [List.length_map] at this
/-- a dict with int keys -/
structure DI (kvs : List (L2.Key × V)) (f : Int → Option V) : Prop where
  nd : (kvs.map (·.1)).Nodup
  ks : ∀ p, p ∈ kvs → ∃ r, p.1 = Sum.inl r
  at_ : ∀ r, valV kvs (Sum.inl r) = f r
theorem DI.nil : DI [] (fun _ => none) := ⟨List.nodup_nil, fun _ h => absurd h (by simp), fun _ => rfl⟩
theorem nd_put {kvs : List (L2.Key × V)} (k : L2.Key) (v : V) (h : (kvs.map (·.1)).Nodup) : ((putK kvs k v).map (·.1)).Nodup := by
  cases e : valV kvs k with
  | none => exact nd_putK v h e
  | some x =>
    unfold putK
    rw [valV_any, e]
    rw [if_pos (by rfl)]
    have q : (kvs.map fun kv => if kv.1 = k then (kv.1, v) else kv).map (·.1) = kvs.map (·.1) := by
      rw [List.map_map]
      apply List.map_congr_left
      intro p _
      show (if p.1 = k then (p.1, v) else p).1 = p.1
      split <;> rfl
    rw [q]
    exact h
theorem put_mem {kvs : List (L2.Key × V)} {k : L2.Key} {v : V} {p : L2.Key × V} (h : p ∈ putK kvs k v) : p.1 = k ∨ p ∈ kvs := by
  unfold putK at h
  split at h
  · obtain ⟨q, hq, e⟩ := List.mem_map.mp h
    split at e
    · rename_i hk
      left
      rw [← e]
      exact hk
    · right
      rw [← e]
      exact hq
  · rcases List.mem_append.mp h with h | h
    · exact .inr h
    · left
      rw [List.mem_singleton.mp h]
theorem DI.put {kvs : List (L2.Key × V)} {f : Int → Option V} (h : DI kvs f) (r : Int) (v : V) : DI (putK kvs (Sum.inl r) v) (put1 f r (some v)) := by
  refine ⟨nd_put _ v h.nd, fun p hp => ?_, fun x => ?_⟩
  · rcases put_mem hp with e | e
    · exact ⟨r, e⟩
    · exact h.ks p e
  · rw [valV_put]
    unfold put1
    by_cases hx : x = r
    · rw [if_pos (by rw [hx]), if_pos hx]
    · rw [if_neg (fun q => hx (Sum.inl.inj q)), if_neg hx]
      exact h.at_ x
/-- the generator's dict -/
def wK (s c : Addr) (m : Int) : List (L2.Key × V) := [(Sum.inr "seats", .ref s), (Sum.inr "copies", .ref c), (Sum.inr "many", .int m)]
theorem k_sc : ¬ (Sum.inr "seats" : L2.Key) = (Sum.inr "copies" : L2.Key) := by decide +kernel
theorem k_sm : ¬ (Sum.inr "seats" : L2.Key) = (Sum.inr "many" : L2.Key) := by decide +kernel
theorem k_cm : ¬ (Sum.inr "copies" : L2.Key) = (Sum.inr "many" : L2.Key) := by decide +kernel
structure WAt (H : Hp) (w s c : Addr) (W : K15.W) (n : Nat) : Prop where
  hd : H w = some (.dK (wK s c W.many))
  hs : ∃ kvs, H s = some (.dK kvs) ∧ DI kvs (fun r => (W.seats r).map V.int) ∧ kvs.length ≤ n
  hc : H c = some (.lst (W.cps.map V.int))
  ws : w ≠ s
  cn : W.cps.length ≤ n
theorem WAt.imp {H H' : Hp} {w s c : Addr} {W : K15.W} {n : Nat} (h : WAt H w s c W n) (k : ∀ a o, a = w ∨ a = s ∨ a = c → H a = some o → H' a = some o) : WAt H' w s c W n := by
  obtain ⟨kvs, h1, h2, h3⟩ := h.hs
  exact ⟨k _ _ (.inl rfl) h.hd, ⟨kvs, k _ _ (.inr (.inl rfl)) h1, h2, h3⟩, k _ _ (.inr (.inr rfl)) h.hc, h.ws, h.cn⟩
theorem WAt.same {H H' : Hp} {w s c : Addr} {W : K15.W} {n : Nat} (h : WAt H w s c W n) (e : Same H H') : WAt H' w s c W n := h.imp fun a o _ q => e a o q
theorem WAt.mono {H : Hp} {w s c : Addr} {W : K15.W} {n m : Nat} (h : WAt H w s c W n) (l : n ≤ m) : WAt H w s c W m := by
  obtain ⟨kvs, h1, h2, h3⟩ := h.hs
  exact ⟨h.hd, ⟨kvs, h1, h2, by omega⟩, h.hc, h.ws, by have := h.cn; omega⟩
/-- the three objects -/
def WP (w s c : Addr) : Addr → Prop := fun a => a = w ∨ a = s ∨ a = c
theorem WAt.exc {P : Addr → Prop} {H H' : Hp} {w s c : Addr} {W : K15.W} {n : Nat} (h : WAt H w s c W n) (e : Exc P H H') (h1 : ¬ P w) (h2 : ¬ P s) (h3 : ¬ P c) : WAt H' w s c W n := h.imp fun a o z q => e a o q (by
  rcases z with z | z | z <;> (rw [z]; assumption))
theorem WAt.sc {H : Hp} {w s c : Addr} {W : K15.W} {n : Nat} (h : WAt H w s c W n) : s ≠ c := by
  obtain ⟨kvs, h1, _⟩ := h.hs
  exact ne_of h1 h.hc (by intro z; cases z)
theorem WAt.wc {H : Hp} {w s c : Addr} {W : K15.W} {n : Nat} (h : WAt H w s c W n) : w ≠ c := ne_of h.hd h.hc (by intro z; cases z)
theorem WAt.noTup {H : Hp} {w s c : Addr} {W : K15.W} {n : Nat} (h : WAt H w s c W n) : NoTup (WP w s c) H := by
  intro a xs e z
  obtain ⟨kvs, h1, _⟩ := h.hs
  rcases z with z | z | z
  · rw [z, h.hd] at e; cases e
  · rw [z, h1] at e; cases e
  · rw [z, h.hc] at e; cases e
theorem wK_val (s c : Addr) (m : Int) : valV (wK s c m) (Sum.inr "seats") = some (.ref s) ∧ valV (wK s c m) (Sum.inr "copies") = some (.ref c) ∧ valV (wK s c m) (Sum.inr "many") = some (.int m) := by
  refine ⟨rfl, ?_, ?_⟩
  · unfold wK
    rw [valV_neg k_sc, valV_pos rfl]
  · unfold wK
    rw [valV_neg k_sm, valV_neg k_cm, valV_pos rfl]
theorem WAt.gS {H : Hp} {w s c : Addr} {W : K15.W} {n : Nat} (h : WAt H w s c W n) : DGet H w (.str "seats") (some (.ref s)) := by
  have e := DGet.k (k := Sum.inr "seats") h.hd
  rw [(wK_val s c W.many).1] at e
  exact e
theorem WAt.gC {H : Hp} {w s c : Addr} {W : K15.W} {n : Nat} (h : WAt H w s c W n) : DGet H w (.str "copies") (some (.ref c)) := by
  have e := DGet.k (k := Sum.inr "copies") h.hd
  rw [(wK_val s c W.many).2.1] at e
  exact e
theorem WAt.gM {H : Hp} {w s c : Addr} {W : K15.W} {n : Nat} (h : WAt H w s c W n) : DGet H w (.str "many") (some (.int W.many)) := by
  have e := DGet.k (k := Sum.inr "many") h.hd
  rw [(wK_val s c W.many).2.2] at e
  exact e
theorem WAt.gR {H : Hp} {w s c : Addr} {W : K15.W} {n : Nat} (h : WAt H w s c W n) (r : Int) : DGet H s (.int r) ((W.seats r).map V.int) := by
  obtain ⟨kvs, h1, h2, _⟩ := h.hs
  have e := DGet.k (k := Sum.inl r) h1
  rw [h2.at_ r] at e
  exact e
theorem wK_put (s c : Addr) (m z : Int) : putK (wK s c m) (Sum.inr "many") (.int z) = wK s c z := by
  unfold putK
  rw [valV_any, (wK_val s c m).2.2]
  rw [if_pos (by rfl)]
  unfold wK
  rw [List.map_cons, List.map_cons, List.map_cons, if_neg k_sm, if_neg k_cm, if_pos rfl]
  rfl
theorem wK_merge (s c : Addr) (m : Int) : mergeK [] (wK s c m) = wK s c m := by
  show putK (putK (putK [] (Sum.inr "seats" : L2.Key) (.ref s)) (Sum.inr "copies" : L2.Key) (.ref c)) (Sum.inr "many" : L2.Key) (.int m) = wK s c m
  have e1 : putK [] (Sum.inr "seats" : L2.Key) (.ref s) = [((Sum.inr "seats" : L2.Key), V.ref s)] := rfl
  have e2 : putK [((Sum.inr "seats" : L2.Key), V.ref s)] (Sum.inr "copies" : L2.Key) (.ref c) = [((Sum.inr "seats" : L2.Key), V.ref s), (Sum.inr "copies", .ref c)] := putK_new _ (by rw [valV_neg k_sc]; rfl)
  rw [e1, e2, putK_new _ (by rw [valV_neg k_sm, valV_neg k_cm]; rfl)]
  rfl
section
variable {σ : L2.St} {H : Hp} {v x y : V} {ta tb te : TE} {K : PySem.W.Frag} {a p : Addr} {xs : List V} {i j : Int}
theorem val_dget (ha : Val ta σ H (.ref a)) (hb : Val tb σ H y) (g : DGet H a y (some v)) : Val (tDGet ta tb) σ H v := fun Q q => ha _ (hb _ ⟨a, v, rfl, g, q⟩)
theorem val_ixT (ha : Val ta σ H (.ref p)) (hb : Val tb σ H (.int i)) (h : SqT K H p xs) (e : atI xs i = some v) : Val (tOp (rIxT K) ta tb) σ H v := fun Q q => ha _ (hb _ ⟨p, xs, i, v, rfl, rfl, h, e, q⟩)
theorem val_ixL (ha : Val ta σ H (.ref p)) (hb : Val tb σ H (.int i)) (h : SqL K H p xs) (e : atI xs i = some v) : Val (tOp (rIxL K) ta tb) σ H v := fun Q q => ha _ (hb _ ⟨p, xs, i, v, rfl, rfl, h, e, q⟩)
theorem val_I0 {g : Int → Int → V} (ha : Val ta σ H (.int i)) (hb : Val tb σ H (.int j)) : Val (tOp (rI0 g) ta tb) σ H (g i j) := fun Q q => ha _ (hb _ ⟨i, j, rfl, rfl, q⟩)
theorem val_len (ha : Val ta σ H (.ref p)) (h : SqL K H p xs ∨ SqT K H p xs) : Val (tCB (fun vs H Q => ∃ p ys, vs = [V.ref p] ∧ (SqL K H p ys ∨ SqT K H p ys) ∧ Q (.int ys.length) H) (tCons ta tNil)) σ H (.int xs.length) := fun Q q => ha _ ⟨p, xs, rfl, h, q⟩
theorem val_din {o : Option V} (ha : Val ta σ H (.ref a)) (hb : Val tb σ H y) (g : DGet H a y o) : Val (tDIn tb ta) σ H (.bl o.isSome) := fun Q q => hb _ (ha _ ⟨a, o, rfl, g, q⟩)
theorem ans_din {o : Option V} {b : Bool} (ha : Val ta σ H (.ref a)) (hb : Val tb σ H y) (g : DGet H a y o) (e : o.isSome = b) : Ans (tB (tDIn tb ta)) σ H b := fun Q q => hb _ (ha _ ⟨a, o, rfl, g, b, by rw [e], q⟩)
theorem ans_dnin {o : Option V} {b : Bool} (ha : Val ta σ H (.ref a)) (hb : Val tb σ H y) (g : DGet H a y o) (e : (!o.isSome) = b) : Ans (tB (tDNotIn tb ta)) σ H b := fun Q q => hb _ (ha _ ⟨a, o, rfl, g, b, by rw [e], q⟩)
theorem ans_I0 {g : Int → Int → Bool} {b : Bool} (ha : Val ta σ H (.int i)) (hb : Val tb σ H (.int j)) (e : g i j = b) : Ans (tTest (tOp (rI0 fun i j => .bl (g i j)) ta tb)) σ H b := fun Q q => ha _ (hb _ ⟨i, j, rfl, rfl, b, congrArg V.bl e, q⟩)
end
end K15

set_option Elab.async false
set_option linter.all false
set_option autoImplicit false
set_option maxRecDepth 100000
set_option maxHeartbeats 4000000
namespace K15
open PySem L2
abbrev s__law_moved : Stmt := top 28
abbrev N__law_moved : List Str := ["_law_w", "_law_event_so", "_law_word"]
abbrev P__law_moved : List Str := ["_law_w", "_law_event_so"]
theorem sc__law_moved : FnScope N__law_moved P__law_moved (C8.fnScope s__law_moved) := C8.fnScope_by (by decide +kernel)
/-- what is behind an event -/
def spMoved : Sp := fun vs H Q _ => ∃ (w s c e : Addr) (W : K15.W) (ev : EvS) (n : Nat), vs = [.ref w, .ref e] ∧ WAt H w s c W n ∧ H e = some (.tup (evV ev)) ∧ okEv W ev ∧ n ≤ 1000 ∧
  ∀ H' : Hp, WAt H' w s c (wstep W ev) (n + 1) → Exc (WP w s c) H H' → Q .non H'
theorem WAt.put {H : Hp} {w s c : Addr} {W : K15.W} {n : Nat} {kvs : List (L2.Key × V)} (h : WAt H w s c W n) (h1 : H s = some (.dK kvs)) (h2 : DI kvs (fun r => (W.seats r).map V.int)) (h3 : kvs.length ≤ n) (r z : Int) :
    WAt (upd H s (.dK (putK kvs (Sum.inl r) (.int z)))) w s c { W with seats := put1 W.seats r (some z) } (n + 1) := by
  refine ⟨by rw [upd_ne h.ws]; exact h.hd, ⟨_, upd_same, ?_, ?_⟩, by rw [upd_ne h.sc.symm]; exact h.hc, h.ws, by have := h.cn; show W.cps.length ≤ n + 1; omega⟩
  · have e : put1 (fun r => (W.seats r).map V.int) r (some (.int z)) = fun x => (put1 W.seats r (some z) x).map V.int := by
      funext x
      unfold put1
      by_cases hx : x = r
      · rw [if_pos hx, if_pos hx]
        rfl
      · rw [if_neg hx, if_neg hx]
    have d := h2.put r (.int z)
    rw [e] at d
    exact d
  · have := length_putK kvs (Sum.inl r : L2.Key) (V.int z)
    omega
theorem ix1 (x y : V) (l : List V) : atI (x :: y :: l) 1 = some y := atI_nat (j := 1) rfl
theorem ix2 (x y z : V) (l : List V) : atI (x :: y :: z :: l) 2 = some z := atI_nat (j := 2) rfl
theorem ix0 (x : V) (l : List V) : atI (x :: l) 0 = some x := atI_nat (j := 0) rfl
theorem line_of {n : Nat} (h : n ≤ 100000) : n < sizeLine := Nat.lt_of_le_of_lt h (by decide)
section
variable {P : Program} {w : World} {K : PySem.W.Frag} {mg : Str → Option Value} {base : Heap} {A : Adr}
theorem moved_ok {f : Addr} {fd : FuncData} (T : Txt K mg A) (F : C8.Def K mg "_law_moved" s__law_moved f fd) (b : Binds K fd P__law_moved []) : C8.Cal P w K mg base 1 "_law_moved" spMoved [] := by
  refine C8.cal0 F b .nil sc__law_moved (fun vs H Q E h => ?_) (fun cdv A outer s H vs Q E hr h => ?_)
  · obtain ⟨w, s, c, e, W, ev, n, rfl, _⟩ := h
    rfl
  · obtain ⟨w, s, c, e, W, ev, n, rfl, hW, he, hok, hn, q⟩ := h
    have hu := hu_of hr
    refine ⟨_, (pss_cons (ps_set (i := 2) sc__law_moved.nd rfl (Or.inl rfl) (pe_ix (r := rIxT K) ix_tup (pv 1) pe_int (fun _ _ => rfl)))
      (pss_one (ps_if (pt_cmpR (r := rIn K false) op_in_seq (pv 2) (pe_tup (pa_cons pe_str (pa_cons pe_str pa_nil))) (by with_unfolding_all rfl)) (pss_one (ps_dput hu (pv 0) pe_str (pe_op op_add (pe_dget hu (pv 0) pe_str (fun _ _ => rfl)) pe_int) rfl)) (pss_one (ps_if (pt_cmpR op_eq (pv 2) pe_str (nomark _)) (pss_one (ps_dput hu (pe_dget hu (pv 0) pe_str (fun _ _ => rfl)) (pe_ix (r := rIxT K) ix_tup (pv 1) pe_int (fun _ _ => rfl)) pe_int rfl)) (pss_one (ps_if (pt_cmpR op_eq (pv 2) pe_str (nomark _)) (pss_one (ps_dput hu (pe_dget hu (pv 0) pe_str (fun _ _ => rfl)) (pe_ix (r := rIxT K) ix_tup (pv 1) pe_int (fun _ _ => rfl)) (pe_ix (r := rIxT K) ix_tup (pv 1) pe_int (fun _ _ => rfl)) rfl)) (pss_one (ps_if (pt_cmpR op_eq (pv 2) pe_str (nomark _)) (pss_one (ps_expr (pe_bm PySem.F.plainAttrs_list PySem.F.slot_list_append PySem.F.type_list_append mt_append (pe_dget hu (pv 0) pe_str (fun _ _ => rfl)) (pa_cons (pe_dget hu (pe_dget hu (pv 0) pe_str (fun _ _ => rfl)) (pe_ix (r := rIxT K) ix_tup (pv 1) pe_int (fun _ _ => rfl)) (fun _ _ => rfl)) pa_nil)))) (pss_one (ps_if (pt_cmpR op_eq (pv 2) pe_str (nomark _)) (pss_one (ps_dput hu (pe_dget hu (pv 0) pe_str (fun _ _ => rfl)) (pe_ix (r := rIxT K) ix_tup (pv 1) pe_int (fun _ _ => rfl)) (pe_ix (r := rIxL K) ix_list (pe_dget hu (pv 0) pe_str (fun _ _ => rfl)) (pe_ix (r := rIxT K) ix_tup (pv 1) pe_int (fun _ _ => rfl)) (fun _ _ => rfl)) rfl)) pss_nil))))))))))), ?_⟩
    obtain ⟨kvs, hs, hD, hl⟩ := hW.hs
    have new : ∀ (H1 : Hp), (∃ p, H p = none ∧ H1 = upd H p (.tup [.str "put", .str "drop"])) → Same H H1 := fun H1 ⟨p, np, e1⟩ a o z => by
      rw [e1, upd_ne (ne_of_none z np)]
      exact z
    cases ev with
    | put k v =>
      refine ⟨_, rfl, _, _, _, _, rfl, rfl, SqT.of he, rfl, ?_⟩
      refine st_yesH (ans_in2 (val_var rfl) rfl rfl rfl (by decide +kernel)) fun H1 h1 => ?_
      have sm := new H1 h1
      have hW1 := hW.same sm
      refine ⟨_, rfl, w, _, rfl, hW1.gM, _, _, rfl, rfl, _, rfl, w, _, rfl, DPut.k (k := Sum.inr "many") hW1.hd (by show 3 < sizeLine; decide), ?_⟩
      rw [wK_put]
      refine q _ ⟨upd_same, ⟨kvs, by rw [upd_ne hW.ws.symm]; exact sm _ _ hs, hD, by omega⟩, by rw [upd_ne hW.wc.symm]; exact sm _ _ hW.hc, hW.ws, by have := hW.cn; show W.cps.length ≤ n + 1; omega⟩ ((same_exc sm _).at (.inl rfl))
    | drop k =>
      refine ⟨_, rfl, _, _, _, _, rfl, rfl, SqT.of he, rfl, ?_⟩
      refine st_yesH (ans_in2 (val_var rfl) rfl rfl rfl (by decide +kernel)) fun H1 h1 => ?_
      have sm := new H1 h1
      have hW1 := hW.same sm
      refine ⟨_, rfl, w, _, rfl, hW1.gM, _, _, rfl, rfl, _, rfl, w, _, rfl, DPut.k (k := Sum.inr "many") hW1.hd (by show 3 < sizeLine; decide), ?_⟩
      rw [wK_put]
      refine q _ ⟨upd_same, ⟨kvs, by rw [upd_ne hW.ws.symm]; exact sm _ _ hs, hD, by omega⟩, by rw [upd_ne hW.wc.symm]; exact sm _ _ hW.hc, hW.ws, by have := hW.cn; show W.cps.length ≤ n + 1; omega⟩ ((same_exc sm _).at (.inl rfl))
    | join r =>
      refine ⟨_, rfl, _, _, _, _, rfl, rfl, SqT.of he, rfl, ?_⟩
      refine st_noH (ans_in2 (val_var rfl) rfl rfl rfl (by decide +kernel)) fun H1 h1 => ?_
      have sm := new H1 h1
      have hW1 := hW.same sm
      refine st_yes (ans_eq (val_var rfl) val_c rfl (by decide +kernel)) ?_
      refine ⟨_, rfl, w, _, rfl, hW1.gS, _, rfl, _, _, _, _, rfl, rfl, SqT.of (sm _ _ he), ix1 _ _ _, s, _, rfl, DPut.k (k := Sum.inl r) (sm _ _ hs) (line_of (by omega)), ?_⟩
      exact q _ (hW1.put (sm _ _ hs) hD hl r 0) ((same_exc sm _).at (.inr (.inl rfl)))
    | read r u =>
      refine ⟨_, rfl, _, _, _, _, rfl, rfl, SqT.of he, rfl, ?_⟩
      refine st_noH (ans_in2 (val_var rfl) rfl rfl rfl (by decide +kernel)) fun H1 h1 => ?_
      have sm := new H1 h1
      have hW1 := hW.same sm
      refine st_no (ans_eq (val_var rfl) val_c rfl (by decide +kernel)) ?_
      refine st_yes (ans_eq (val_var rfl) val_c rfl (by decide +kernel)) ?_
      refine ⟨_, rfl, _, _, _, _, rfl, rfl, SqT.of (sm _ _ he), ix2 _ _ _ _, _, rfl, w, _, rfl, hW1.gS, _, rfl, _, _, _, _, rfl, rfl, SqT.of (sm _ _ he), ix1 _ _ _, s, _, rfl, DPut.k (k := Sum.inl r) (sm _ _ hs) (line_of (by omega)), ?_⟩
      exact q _ (hW1.put (sm _ _ hs) hD hl r u) ((same_exc sm _).at (.inr (.inl rfl)))
    | save r =>
      obtain ⟨s0, hs0⟩ := hok
      refine ⟨_, rfl, _, _, _, _, rfl, rfl, SqT.of he, rfl, ?_⟩
      refine st_noH (ans_in2 (val_var rfl) rfl rfl rfl (by decide +kernel)) fun H1 h1 => ?_
      have sm := new H1 h1
      have hW1 := hW.same sm
      refine st_no (ans_eq (val_var rfl) val_c rfl (by decide +kernel)) ?_
      refine st_no (ans_eq (val_var rfl) val_c rfl (by decide +kernel)) ?_
      refine st_yes (ans_eq (val_var rfl) val_c rfl (by decide +kernel)) ?_
      have g := hW1.gR r
      rw [hs0] at g
      refine ⟨_, rfl, w, _, rfl, hW1.gC, .inl ⟨rfl, _, SqL.of hW1.hc⟩, _, rfl, w, _, rfl, hW1.gS, _, rfl, _, _, _, _, rfl, rfl, SqT.of (sm _ _ he), ix1 _ _ _, s, _, rfl, g, c, _, _, rfl, rfl, hW1.hc, line_of (by rw [List.length_map]; have := hW.cn; omega), ?_⟩
      have e1 : W.cps.map V.int ++ [V.int s0] = (W.cps ++ [(W.seats r).getD 0]).map V.int := by
        rw [hs0, List.map_append]
        rfl
      rw [e1]
      refine q _ ⟨by rw [upd_ne hW.wc]; exact hW1.hd, ⟨kvs, by rw [upd_ne hW.sc]; exact sm _ _ hs, hD, by omega⟩, upd_same, hW.ws, ?_⟩ ((same_exc sm _).at (.inr (.inr rfl)))
      show (W.cps ++ [(W.seats r).getD 0]).length ≤ n + 1
      rw [List.length_append]
      have := hW.cn
      show W.cps.length + 1 ≤ n + 1
      omega
    | load r cc =>
      obtain ⟨c1, c2⟩ := hok
      have hlt : cc.toNat < W.cps.length := by omega
      have e1 : W.cps[cc.toNat]? = some W.cps[cc.toNat] := List.getElem?_eq_getElem hlt
      refine ⟨_, rfl, _, _, _, _, rfl, rfl, SqT.of he, rfl, ?_⟩
      refine st_noH (ans_in2 (val_var rfl) rfl rfl rfl (by decide +kernel)) fun H1 h1 => ?_
      have sm := new H1 h1
      have hW1 := hW.same sm
      refine st_no (ans_eq (val_var rfl) val_c rfl (by decide +kernel)) ?_
      refine st_no (ans_eq (val_var rfl) val_c rfl (by decide +kernel)) ?_
      refine st_no (ans_eq (val_var rfl) val_c rfl (by decide +kernel)) ?_
      refine st_yes (ans_eq (val_var rfl) val_c rfl (by decide +kernel)) ?_
      have e2 : atI (W.cps.map V.int) cc = some (.int W.cps[cc.toNat]) := by
        have e3 : (W.cps.map V.int)[cc.toNat]? = some (.int W.cps[cc.toNat]) := by rw [List.getElem?_map, e1]; rfl
        have := atI_nat e3
        rwa [Int.toNat_of_nonneg c1] at this
      refine ⟨_, rfl, w, _, rfl, hW1.gC, _, rfl, _, _, _, _, rfl, rfl, SqT.of (sm _ _ he), ix2 _ _ _ _, _, _, _, _, rfl, rfl, SqL.of hW1.hc, e2, _, rfl, w, _, rfl, hW1.gS, _, rfl, _, _, _, _, rfl, rfl, SqT.of (sm _ _ he), ix1 _ _ _, s, _, rfl, DPut.k (k := Sum.inl r) (sm _ _ hs) (line_of (by omega)), ?_⟩
      have z := hW1.put (sm _ _ hs) hD hl r W.cps[cc.toNat]
      rw [← e1] at z
      exact q _ z ((same_exc sm _).at (.inr (.inl rfl)))
    | wait =>
      refine ⟨_, rfl, _, _, _, _, rfl, rfl, SqT.of he, rfl, ?_⟩
      refine st_noH (ans_in2 (val_var rfl) rfl rfl rfl (by decide +kernel)) fun H1 h1 => ?_
      have sm := new H1 h1
      refine st_no (ans_eq (val_var rfl) val_c rfl (by decide +kernel)) ?_
      refine st_no (ans_eq (val_var rfl) val_c rfl (by decide +kernel)) ?_
      refine st_no (ans_eq (val_var rfl) val_c rfl (by decide +kernel)) ?_
      refine st_no (ans_eq (val_var rfl) val_c rfl (by decide +kernel)) ?_
      exact q _ ((hW.same sm).mono (Nat.le_succ n)) (same_exc sm _)
end
end K15

set_option Elab.async false
set_option linter.all false
set_option autoImplicit false
set_option maxRecDepth 100000
set_option maxHeartbeats 4000000
namespace K15
open PySem L2
theorem new_w {σ : L2.St} {H : Hp} {Q : VK} (k : ∀ (w s c : Addr) (H' : Hp), Same H H' → H w = none → H s = none → H c = none → WAt H' w s c W0 0 → Q (.ref w) H') :
    tDisp [(tC (.str "seats"), tDNewK), (tC (.str "copies"), tLst tNil), (tC (.str "many"), tC (.int 0))] σ H Q := by
  intro w nw s ns
  refine ⟨Nat.zero_le _, fun c nc => ?_⟩
  have ws : w ≠ s := ne_of_none (upd_same (H := H) (a := w) (o := .dK [])) ns
  have h1 : upd (upd H w (.dK [])) s (.dK []) s = some (.dK []) := upd_same
  have sc : s ≠ c := ne_of_none h1 nc
  have h2 : upd (upd H w (.dK [])) s (.dK []) w = some (.dK []) := by rw [upd_ne ws]; exact upd_same
  have wc : w ≠ c := ne_of_none h2 nc
  have sm : Same H (upd (upd (upd H w (.dK [])) s (.dK [])) c (.lst [])) := fun a o e => by
    have e1 : upd H w (.dK []) a = some o := by rw [upd_ne (ne_of_none e nw)]; exact e
    have e2 : upd (upd H w (.dK [])) s (.dK []) a = some o := by rw [upd_ne (ne_of_none e1 ns)]; exact e1
    rw [upd_ne (ne_of_none e2 nc)]
    exact e2
  have ns' : H s = none := by rw [upd_ne ws.symm] at ns; exact ns
  have nc' : H c = none := by rw [upd_ne sc.symm, upd_ne wc.symm] at nc; exact nc
  refine ⟨by rw [upd_ne wc]; exact h2, wK s c 0, rfl, by show 3 ≤ 15; decide, ?_⟩
  rw [wK_merge]
  refine k w s c _ (fun a o e => ?_) nw ns' nc' ⟨upd_same, ⟨[], ?_, DI.nil, Nat.le_refl _⟩, ?_, ws, Nat.le_refl _⟩
  · rw [upd_ne (ne_of_none e nw)]
    exact sm a o e
  · rw [upd_ne ws.symm, upd_ne sc]
    exact h1
  · rw [upd_ne wc.symm]
    exact upd_same
theorem asg_of {te : TE} {g : TG} {D : Ends} {σ : L2.St} {H : Hp} (h : te σ H fun x H1 => g x σ H1 D.nx) : tAsg te g D σ H := h
theorem take_snoc {α : Type} {l : List α} {i : Nat} {e : α} (h : l[i]? = some e) : l.take (i + 1) = l.take i ++ [e] := by
  rw [List.take_add_one, h]
  rfl
theorem valid_at {w : K15.W} {es : List EvS} (h : Valid w es) {i : Nat} {e : EvS} (hi : es[i]? = some e) : okEv (wrun w (es.take i)) e ∧ wrun w (es.take (i + 1)) = wstep (wrun w (es.take i)) e := by
  refine ⟨?_, by rw [take_snoc hi, wrun_snoc]⟩
  have e1 : es = es.take (i + 1) ++ es.drop (i + 1) := (List.take_append_drop (i + 1) es).symm
  rw [e1] at h
  have h1 := ((valid_append w _ _).mp h).1
  rw [take_snoc hi] at h1
  exact ((valid_append w _ _).mp h1).2.1
theorem nodup_of_map {α β : Type} (f : α → β) {l : List α} (h : (l.map f).Nodup) : l.Nodup := List.Pairwise.imp (fun h e => h (congrArg f e)) (List.pairwise_map.mp h)
theorem DI.keys : ∀ {kvs : List (L2.Key × V)} {f : Int → Option V}, DI kvs f → ∃ ks : List Int, kvs.map (·.1) = ks.map Sum.inl ∧ ks.Nodup ∧ ks.length = kvs.length ∧ ∀ r, r ∈ ks → f r ≠ none := by
  intro kvs f h
  have key : ∀ l : List (L2.Key × V), (∀ p, p ∈ l → ∃ r, p.1 = Sum.inl r) → ∃ ks : List Int, l.map (·.1) = ks.map Sum.inl := by
    intro l
    induction l with
    | nil => intro _; exact ⟨[], rfl⟩
    | cons p l ih =>
      intro hk
      obtain ⟨r, hr⟩ := hk p List.mem_cons_self
      obtain ⟨ks, hks⟩ := ih fun x hx => hk x (List.mem_cons_of_mem _ hx)
      exact ⟨r :: ks, by rw [List.map_cons, List.map_cons, hr, hks]⟩
  obtain ⟨ks, hks⟩ := key kvs h.ks
  have nd := h.nd
  rw [hks] at nd
  refine ⟨ks, hks, nodup_of_map _ nd, by have := congrArg List.length hks; simpa using this.symm, fun r hr => ?_⟩
  rw [← h.at_ r]
  intro z
  refine valV_not z ?_
  rw [hks]
  exact List.mem_map_of_mem hr
theorem Paired.append' {α β : Type} {F : α → β → Prop} {a b : List α} {c d : List β} (h : Paired F a c) (k : Paired F b d) : Paired F (a ++ b) (c ++ d) := by
  induction h with
  | nil => exact k
  | cons r _ ih => exact .cons r ih
abbrev s__law_ended : Stmt := top 30
abbrev N__law_ended : List Str := ["_law_table_here", "_law_w", "_law_event_so", "_law_p"]
abbrev P__law_ended : List Str := ["_law_table_here"]
theorem sc__law_ended : FnScope N__law_ended P__law_ended (C8.fnScope s__law_ended) := C8.fnScope_by (by decide +kernel)
/-- the same, and in the end all read all that there is -/
def spEnded : Sp := fun vs H Q _ => ∃ (t : Addr) (as : List Addr) (es : List EvS), vs = [.ref t] ∧ H t = some (.tup (as.map V.ref)) ∧ EvsAt H as es ∧ Valid W0 es ∧ es.length < 64 ∧
  ∀ (p : Addr) (as' : List Addr) (es' : List EvS) (H' : Hp), Same H H' → H' p = some (.tup (as'.map V.ref)) → EvsAt H' as' es' → Valid W0 es' → es'.length ≤ 2 * es.length → (∀ e, e ∈ es' → e ∈ es ∨ ∃ r u, e = .read r u) → Q (.ref p) H'
theorem wipe3 (a b c : Option V) (x : V) : wipe (([a, b, c, none] : L2.St).set 3 (some x)) [3] = wipe [a, b, c, none] [3] := rfl
theorem nd_take {α : Type} {l : List α} (h : l.Nodup) {i : Nat} {x : α} (hx : l[i]? = some x) : x ∉ l.take i := by
  intro hm
  obtain ⟨j, hj⟩ := List.getElem?_of_mem hm
  rw [List.getElem?_take] at hj
  split at hj
  · rename_i hji
    have := (List.getElem?_inj (List.getElem?_eq_some_iff.mp hj).1 h).mp (hj.trans hx.symm)
    omega
  · cases hj
section
variable {P : Program} {w : World} {K : PySem.W.Frag} {mg : Str → Option Value} {base : Heap} {A : Adr}
theorem ended_ok {f : Addr} {fd : FuncData} (T : Txt K mg A) (F : C8.Def K mg "_law_ended" s__law_ended f fd) (b : Binds K fd P__law_ended []) (c_l_moved : C8.Cal P w K mg base 1 "_law_moved" spMoved []) : C8.Cal P w K mg base 2 "_law_ended" spEnded [] := by
  refine C8.cal0 F b .nil sc__law_ended (fun vs H Q E h => ?_) (fun cdv A outer s H vs Q E hr h => ?_)
  · obtain ⟨t, as, es, rfl, _⟩ := h
    rfl
  · obtain ⟨t, as, es, rfl, ht, hes, hv, hlen, q⟩ := h
    have hu := hu_of hr
    have hal := hes.len
    refine ⟨_, (pss_cons (ps_set (i := 1) sc__law_ended.nd rfl (Or.inr rfl) (pe_disp (pps_cons pe_str pe_dnewK (pps_cons pe_str (pe_lst pa_nil) (pps_cons pe_str pe_int pps_nil))) (by rfl) (by rfl) (fun z => by cases z) (by decide)))
      (pss_cons (ps_for PassesOwn.never rfl (pi_tup (pv 0)) (pg_name (i := 2) sc__law_ended.nd rfl (Or.inl rfl)) (pss_one (ps_expr (C8.pe_c c_l_moved hr (by decide) rfl (pa_cons (pv 1) (pa_cons (pv 2) pa_nil))))))
      (pss_one (ps_ret (pe_op (r := rCatA K) op_catA (pv 0) (pe_callTy call_tuple_of (by rfl) T.b_tuple (by decide +kernel) (pa_cons (pe_lc (own := [("_law_p", 3)]) (g := (gName 3)) (by rfl) sc__law_ended.nd  (pi_list (pe_callB (call_sortedDI rfl) (by rfl) T.b_sorted (by decide +kernel) (pa_cons (pe_dget hu (pv 1) pe_str (fun _ _ => rfl)) pa_nil))) (blkOk_by (own := [("_law_p", 3)]) (N := N__law_ended) (sc := C8.fnScope s__law_ended) (by decide +kernel)) (fun _ _ _ _ _ => (pg_name (i := 3) sc__law_ended.nd rfl (Or.inl rfl))) (fun _ _ _ _ _ => (pts_one (pt_cmpR op_lt (pe_dget hu (pe_dget hu (pv 1) pe_str (fun _ _ => rfl)) (pv 3) (fun _ _ => rfl)) (pe_dget hu (pv 1) pe_str (fun _ _ => rfl)) (nomark _)))) (fun _ _ _ _ _ => (pe_tup (pa_cons pe_str (pa_cons (pv 3) (pa_cons (pe_dget hu (pv 1) pe_str (fun _ _ => rfl)) pa_nil)))))) pa_nil))))))), ?_⟩
    refine st_seq (asg_of (new_w fun w s c H0 sm nw ns nc hW => ?_))
    have nP : ∀ a o, H a = some o → ¬ WP w s c a := fun a o e z => by
      rcases z with z | z | z <;> (rw [z] at e; first | (rw [nw] at e; cases e) | (rw [ns] at e; cases e) | (rw [nc] at e; cases e))
    refine ⟨_, rfl, t, rfl, ⟨_, SqT.of (sm _ _ ht)⟩, for_tup (K := K) (a := t) (xs := as.map V.ref) (fun i σ H1 => ∃ v : Option V, σ = [some (.ref t), some (.ref w), v, none] ∧ Same H H1 ∧ WAt H1 w s c (wrun W0 (es.take i)) i)
      ⟨none, rfl, sm, hW⟩ (fun i σ H1 _ ⟨_, _, s1, _⟩ => SqT.of (s1 _ _ ht)) ?_ ?_⟩
    · rintro i x σ H1 hi ⟨v, rfl, s1, hW1⟩
      obtain ⟨a, ha, rfl⟩ := refs_ix hi
      obtain ⟨ev, he, hev⟩ := hes.get ha
      obtain ⟨ok, st⟩ := valid_at hv he
      have hil := (List.getElem?_eq_some_iff.mp he).1
      refine ⟨_, rfl, _, rfl, w, s, c, a, _, ev, i, rfl, hW1, s1 _ _ hev, ok, by omega, fun H2 hW2 ex => ?_⟩
      rw [← st] at hW2
      exact ⟨some (.ref a), rfl, fun a o e => ex a o (s1 a o e) (nP a o e), hW2⟩
    · rintro σ H1 ⟨v, rfl, s1, hW1⟩
      rw [List.length_map, hal, List.take_length] at hW1
      obtain ⟨kvs, hs, hD, hl⟩ := hW1.hs
      obtain ⟨ks, hks, hnd, hkl, hin⟩ := hD.keys
      refine ⟨_, rfl, _, rfl, w, _, rfl, hW1.gS, s, kvs, ks, rfl, .inl hs, hks, by omega, fun ys l pm _ nl => ?_⟩
      have hyl : ys.length ≤ es.length := by rw [pm.length_eq]; omega
      have ynd : ys.Nodup := pm.nodup_iff.mpr hnd
      have s2 : Same H1 (upd H1 l (.lst (ys.map V.int))) := fun a o e => by rw [upd_ne (ne_of_none e nl)]; exact e
      have hW2 := hW1.same s2
      refine ⟨l, rfl, ⟨_, SqL.of upd_same⟩, fun D nD => ?_⟩
      have nDl : l ≠ D := ne_of_none (upd_same (H := H1)) nD
      have nD1 : H1 D = none := by rw [upd_ne nDl.symm] at nD; exact nD
      have nDw : ¬ WP w s c D := fun z => by
        obtain ⟨_, z2, _⟩ := hW2.hs
        rcases z with z | z | z
        · rw [z, hW2.hd] at nD; cases nD
        · rw [z, z2] at nD; cases nD
        · rw [z, hW2.hc] at nD; cases nD
      refine lc_list (K := K) (a := l) (xs := ys.map V.int) (fun i H3 => Same H1 H3 ∧ H3 l = some (.lst (ys.map V.int)) ∧ WAt H3 w s c (wrun W0 es) es.length ∧ ∃ (bs : List Addr) (more : List EvS), H3 D = some (.lst (bs.map V.ref)) ∧ EvsAt H3 bs more ∧ Valid (wrun W0 es) more ∧ more.length ≤ i ∧ (∀ e, e ∈ more → ∃ r u, e = .read r u) ∧
        (wrun (wrun W0 es) more).many = (wrun W0 es).many ∧ ∀ r, r ∉ ys.take i → (wrun (wrun W0 es) more).seats r = (wrun W0 es).seats r) ?_ (fun i H3 _ h3 => SqL.of h3.2.1) ?_ ?_
      · have e1 : Same (upd H1 l (.lst (ys.map V.int))) (upd (upd H1 l (.lst (ys.map V.int))) D (.lst [])) := fun a o e => by rw [upd_ne (ne_of_none e nD)]; exact e
        exact ⟨s2.trans e1, e1 _ _ upd_same, hW2.same e1, [], [], upd_same, .nil, True.intro, Nat.le_refl _, fun _ h => (by cases h), rfl, fun _ _ => rfl⟩
      · rintro i x H3 hi ⟨s3, hl3, hW3, bs, more, hb, hm, vm, ml, mr, mm, ms⟩
        rw [List.getElem?_map] at hi
        cases hyi : ys[i]? with
        | none => rw [hyi] at hi; cases hi
        | some r =>
          rw [hyi] at hi
          cases hi
          have hil := (List.getElem?_eq_some_iff.mp hyi).1
          have hr : r ∈ ks := pm.mem_iff.mp (List.mem_of_getElem? hyi)
          obtain ⟨z, hz⟩ : ∃ z, (wrun W0 es).seats r = some z := by
            cases e : (wrun W0 es).seats r with
            | none => exact absurd (show ((wrun W0 es).seats r).map V.int = none by rw [e]; rfl) (hin r hr)
            | some z => exact ⟨z, rfl⟩
          have g := hW3.gR r
          rw [hz] at g
          have nt : ∀ x, x ∈ ys.take (i + 1) ↔ x ∈ ys.take i ∨ x = r := fun x => by rw [take_snoc hyi, List.mem_append, List.mem_singleton]
          refine ⟨rfl, _, rfl, w, _, rfl, hW3.gS, _, rfl, s, _, rfl, g, _, rfl, w, _, rfl, hW3.gM, _, _, rfl, rfl, _, rfl, ?_⟩
          refine ite2 (fun hlt => ?_) (fun hlt => ?_)
          · have hlt' : z < ((wrun W0 es).many : Int) := of_decide_eq_true hlt
            refine ⟨_, rfl, _, rfl, w, _, rfl, hW3.gM, by show 3 ≤ sizeLine; decide, fun p np => ?_⟩
            have s4 : Same H3 (upd H3 p (.tup [.str "read", .int r, .int (wrun W0 es).many])) := fun a o e => by rw [upd_ne (ne_of_none e np)]; exact e
            have nDp : D ≠ p := ne_of_none hb np
            have e5 : Exc (fun a => a = D) H3 (upd (upd H3 p (.tup [.str "read", .int r, .int (wrun W0 es).many])) D (.lst (bs.map V.ref ++ [.ref p]))) := (same_exc s4 _).at rfl
            refine ⟨bs.map V.ref, s4 _ _ hb, line_of (by rw [List.length_map, hm.len]; omega), ?_⟩
            generalize hHn : upd (upd H3 p (.tup [.str "read", .int r, .int (wrun W0 es).many])) D (.lst (bs.map V.ref ++ [.ref p])) = Hn at e5 ⊢
            have at_p : Hn p = some (.tup [.str "read", .int r, .int (wrun W0 es).many]) := by rw [← hHn, upd_ne nDp.symm]; exact upd_same
            have at_D : Hn D = some (.lst ((bs ++ [p]).map V.ref)) := by rw [← hHn, List.map_append]; exact upd_same
            have hz2 := ms r (nd_take ynd hyi)
            refine ⟨fun a o e => e5 a o (s3 a o e) (fun z => by rw [z, nD1] at e; cases e), e5 l _ hl3 nDl, hW3.imp fun a o z e => e5 a o e (fun z2 => nDw (by rw [z2] at z; exact z)), bs ++ [p], more ++ [.read r (wrun W0 es).many], at_D, ?_, ?_, ?_, ?_, ?_, ?_⟩
            · exact EvsAt.snoc (ev := .read r (wrun W0 es).many) (TupsAt.exc hm e5 fun a xs e z => by rw [z, hb] at e; cases e) at_p
            · exact valid_snoc vm ⟨z, by rw [hz2, hz], hlt', by rw [mm]; omega⟩
            · rw [List.length_append]
              show more.length + 1 ≤ i + 1
              omega
            · intro e he
              rcases List.mem_append.mp he with he | he
              · exact mr e he
              · exact ⟨_, _, List.mem_singleton.mp he⟩
            · rw [wrun_snoc]
              exact mm
            · intro x hx
              rw [wrun_snoc]
              show put1 _ r (some _) x = _
              rw [put1_ne _ _ fun z => hx ((nt x).mpr (.inr z))]
              exact ms x fun z => hx ((nt x).mpr (.inl z))
          · exact ⟨s3, hl3, hW3, bs, more, hb, hm, vm, by omega, mr, mm, fun x hx => ms x fun z => hx ((nt x).mpr (.inl z))⟩
      · rintro H3 ⟨s3, hl3, hW3, bs, more, hb, hm, vm, ml, mr, mm, ms⟩
        refine ⟨D, _, rfl, .inl ⟨SqL.of hb, fun k nk => ?_⟩⟩
        have s4 : Same H3 (upd H3 k (.tup (bs.map V.ref))) := fun a o e => by rw [upd_ne (ne_of_none e nk)]; exact e
        have st := (s1.trans s3).trans s4
        rw [List.length_map] at ml
        have v2 : Valid W0 (es ++ more) := (valid_append _ _ _).mpr ⟨hv, vm⟩
        have ev2 : ∀ {Hn : Hp}, Same (upd H3 k (.tup (bs.map V.ref))) Hn → EvsAt Hn (as ++ bs) (es ++ more) := fun {Hn} e => by
          show TupsAt Hn (as ++ bs) ((es ++ more).map evV)
          rw [List.map_append]
          exact K15.Paired.append' ((TupsAt.same hes st).same e) ((TupsAt.same hm s4).same e)
        have l2 : (es ++ more).length ≤ 2 * es.length := by rw [List.length_append]; omega
        have hbl := hm.len
        have mr2 : ∀ e, e ∈ es ++ more → e ∈ es ∨ ∃ r u, e = .read r u := fun e he => by
          rcases List.mem_append.mp he with he | he
          · exact .inl he
          · exact .inr (mr e he)
        refine ⟨t, k, as.map V.ref, bs.map V.ref, rfl, rfl, SqT.of (st _ _ ht), SqT.of upd_same, Nat.le_of_lt (line_of (by rw [List.length_map, List.length_map]; omega)), fun e => ?_, fun e1 e2 => ?_, fun e1 e2 k2 nk2 => ?_⟩
        · have ea : as = [] := List.map_eq_nil_iff.mp e
          refine q k (as ++ bs) (es ++ more) _ st ?_ (ev2 (Same.refl _)) v2 l2 mr2
          have e9 : as ++ bs = bs := by rw [ea, List.nil_append]
          rw [e9]
          exact upd_same
        · have eb : bs = [] := List.map_eq_nil_iff.mp e2
          refine q t (as ++ bs) (es ++ more) _ st ?_ (ev2 (Same.refl _)) v2 l2 mr2
          have e9 : as ++ bs = as := by rw [eb, List.append_nil]
          rw [e9]
          exact st _ _ ht
        · have s5 : Same (upd H3 k (.tup (bs.map V.ref))) (upd (upd H3 k (.tup (bs.map V.ref))) k2 (.tup (as.map V.ref ++ bs.map V.ref))) := fun a o e => by rw [upd_ne (ne_of_none e nk2)]; exact e
          refine q k2 (as ++ bs) (es ++ more) _ (st.trans s5) ?_ (ev2 s5) v2 l2 mr2
          rw [List.map_append]
          exact upd_same
end
end K15

set_option Elab.async false
set_option linter.all false
set_option autoImplicit false
set_option maxRecDepth 100000
set_option maxHeartbeats 4000000
/-! == and in over lists of flat tuples. -/
namespace K15
open PySem L2
def dV : V → PyData
  | .bl b => .bool b
  | .int i => .int i
  | .str x => .str x
  | _ => .none
/-- a number or a text that can be laid -/
def okV : V → Bool
  | .int _ => true
  | .str x => PyData.strOk x
  | _ => false
abbrev okVs (xs : List V) : Prop := xs.all okV = true
theorem dp_flat {K : PySem.W.Frag} {H : Hp} : ∀ {xs : List V}, okVs xs → DpAll K H xs (xs.map dV)
  | [], _ => .nil
  | x :: xs, h => by
    have h : (x :: xs).all okV = true := h
    rw [List.all_cons, Bool.and_eq_true] at h
    have t := dp_flat (K := K) (H := H) h.2
    rw [List.map_cons]
    cases x with
    | int i => exact .cons (.int i) t
    | str z => exact .cons (.str z) t
    | non => cases h.1
    | bl b => cases h.1
    | byt b => cases h.1
    | flt b => cases h.1
    | ref a => cases h.1
    | ty n => cases h.1
theorem dV_lay {x : V} (h : okV x = true) : (dV x).canLay0 = true := by cases x <;> first | (cases h; done) | exact h | simp [dV, PyData.canLay0]
theorem dV_depth (x : V) : (dV x).depth = 0 := by cases x <;> simp [dV, PyData.depth]
theorem dVs_lay : ∀ {xs : List V}, okVs xs → PyData.canLayAll0 (xs.map dV) = true
  | [], _ => by simp [PyData.canLayAll0]
  | x :: xs, h => by
    have h : (x :: xs).all okV = true := h
    rw [List.all_cons, Bool.and_eq_true] at h
    rw [List.map_cons]
    show ((dV x).canLay0 && PyData.canLayAll0 (xs.map dV)) = true
    rw [dV_lay h.1, dVs_lay h.2]
    rfl
theorem dVs_depth : ∀ xs : List V, PyData.depthAll (xs.map dV) = 0
  | [] => by simp [PyData.depthAll]
  | x :: xs => by
    have h1 := dVs_depth xs
    have h2 := dV_depth x
    simp only [List.map_cons, PyData.depthAll]
    omega
abbrev dT (xs : List V) : PyData := .tuple (xs.map dV)
theorem dT_lay {xs : List V} (h : okVs xs) : (dT xs).canLay0 = true := by simp [dT, PyData.canLay0, dVs_lay h]
theorem dT_depth (xs : List V) : (dT xs).depth ≤ 1 := by
  have := dVs_depth xs
  simp [dT, PyData.depth, this]
abbrev okTs (xss : List (List V)) : Prop := ∀ xs, xs ∈ xss → okVs xs
theorem dTs_lay : ∀ {xss : List (List V)}, okTs xss → PyData.canLayAll0 (xss.map dT) = true
  | [], _ => by simp [PyData.canLayAll0]
  | x :: xs, h => by
    rw [List.map_cons]
    show ((dT x).canLay0 && PyData.canLayAll0 (xs.map dT)) = true
    rw [dT_lay (h x List.mem_cons_self), dTs_lay fun y hy => h y (List.mem_cons_of_mem _ hy)]
    rfl
theorem dTs_depth : ∀ xss : List (List V), PyData.depthAll (xss.map dT) ≤ 1
  | [] => by simp [PyData.depthAll]
  | x :: xs => by
    have h1 := dTs_depth xs
    have h2 := dT_depth x
    rw [List.map_cons]
    show max (dT x).depth (PyData.depthAll (xs.map dT)) ≤ 1
    omega
theorem shaped_of {d : PyData} (h1 : d.canLay0 = true) (h2 : d.depth ≤ 64) : SeqAt.shaped d = true := by
  show (d.canLay0 && decide (d.depth ≤ 64)) = true
  rw [h1, decide_eq_true h2]
  rfl
theorem dT_shaped {xs : List V} (h : okVs xs) : SeqAt.shaped (dT xs) = true := shaped_of (dT_lay h) (by have := dT_depth xs; omega)
theorem dLT_shaped {xss : List (List V)} (h : okTs xss) : SeqAt.shaped (.list (xss.map dT)) = true := shaped_of (by simp only [PyData.canLay0]; exact dTs_lay h) (by
  have := dTs_depth xss
  show PyData.depthAll (xss.map dT) + 1 ≤ 64
  omega)
theorem dLV_shaped {xs : List V} (h : okVs xs) : SeqAt.shaped (.list (xs.map dV)) = true := shaped_of (by simp only [PyData.canLay0]; exact dVs_lay h) (by
  have := dVs_depth xs
  show PyData.depthAll (xs.map dV) + 1 ≤ 64
  omega)
theorem nil_shaped : SeqAt.shaped (.list []) = true := dLV_shaped (xs := []) rfl
/-- a list of lists of flat tuples -/
abbrev dLT (xss : List (List V)) : PyData := .list (xss.map dT)
theorem dLTs_lay : ∀ {xsss : List (List (List V))}, (∀ xss, xss ∈ xsss → okTs xss) → PyData.canLayAll0 (xsss.map dLT) = true
  | [], _ => by simp [PyData.canLayAll0]
  | x :: xs, h => by
    rw [List.map_cons]
    show ((dLT x).canLay0 && PyData.canLayAll0 (xs.map dLT)) = true
    have e : (dLT x).canLay0 = true := by simp only [PyData.canLay0]; exact dTs_lay (h x List.mem_cons_self)
    rw [e, dLTs_lay fun y hy => h y (List.mem_cons_of_mem _ hy)]
    rfl
theorem dLTs_depth : ∀ xsss : List (List (List V)), PyData.depthAll (xsss.map dLT) ≤ 2
  | [] => by simp [PyData.depthAll]
  | x :: xs => by
    have h1 := dLTs_depth xs
    have h2 := dTs_depth x
    have h3 : (dLT x).depth ≤ 2 := by
      show PyData.depthAll (x.map dT) + 1 ≤ 2
      omega
    rw [List.map_cons]
    show max (dLT x).depth (PyData.depthAll (xs.map dLT)) ≤ 2
    omega
theorem dLLT_shaped {xsss : List (List (List V))} (h : ∀ xss, xss ∈ xsss → okTs xss) : SeqAt.shaped (.list (xsss.map dLT)) = true := shaped_of (by simp only [PyData.canLay0]; exact dLTs_lay h) (by
  have := dLTs_depth xsss
  show PyData.depthAll (xsss.map dLT) + 1 ≤ 64
  omega)
theorem dp_tup {K : PySem.W.Frag} {H : Hp} {a : Addr} {xs : List V} (h : H a = some (.tup xs)) (f : okVs xs) : Dp K H (.ref a) (dT xs) := .tup (SqT.of h) (dp_flat f)
theorem dp_tups {K : PySem.W.Frag} {H : Hp} : ∀ {as : List Addr} {xss : List (List V)}, TupsAt H as xss → okTs xss → DpAll K H (as.map V.ref) (xss.map dT)
  | _, _, .nil, _ => .nil
  | _, _, .cons r t, f => .cons (dp_tup r (f _ List.mem_cons_self)) (dp_tups t fun xs hx => f xs (List.mem_cons_of_mem _ hx))
theorem dp_list {K : PySem.W.Frag} {H : Hp} {a : Addr} {as : List Addr} {xss : List (List V)} (h : SqL K H a (as.map V.ref)) (t : TupsAt H as xss) (f : okTs xss) : Dp K H (.ref a) (.list (xss.map dT)) := .lst h (dp_tups t f)
theorem dp_flats {K : PySem.W.Frag} {H : Hp} {a : Addr} {xs : List V} (h : SqL K H a xs) (f : okVs xs) : Dp K H (.ref a) (.list (xs.map dV)) := .lst h (dp_flat f)
theorem ok_ints (ns : List Int) : okVs (ns.map V.int) := by
  show (ns.map V.int).all okV = true
  rw [List.all_eq_true]
  intro x hx
  obtain ⟨i, _, rfl⟩ := List.mem_map.mp hx
  rfl
theorem eqv_nil (ds : List PyData) : PyData.eqv (.list ds) (.list []) = ds.isEmpty := by cases ds <;> simp [PyData.eqv, PyData.eqvAll]
theorem dV_inj {x y : V} (hx : okV x = true) (hy : okV y = true) : PyData.eqv (dV x) (dV y) = decide (x = y) := by
  cases x <;> first | (cases hx; done) | skip
  all_goals cases y <;> first | (cases hy; done) | skip
  · simp only [dV, PyData.eqv, V.int.injEq, Bool.beq_eq_decide_eq]
  · simp [dV, PyData.eqv]
  · simp [dV, PyData.eqv]
  · simp only [dV, PyData.eqv, V.str.injEq, Bool.beq_eq_decide_eq]
theorem eqv_flat : ∀ {xs ys : List V}, okVs xs → okVs ys → PyData.eqvAll (xs.map dV) (ys.map dV) = decide (xs = ys)
  | [], [], _, _ => by simp [PyData.eqvAll]
  | [], y :: ys, _, _ => by simp [PyData.eqvAll]
  | x :: xs, [], _, _ => by simp [PyData.eqvAll]
  | x :: xs, y :: ys, hx, hy => by
    have fx : (x :: xs).all okV = true := hx
    have fy : (y :: ys).all okV = true := hy
    rw [List.all_cons, Bool.and_eq_true] at fx fy
    rw [List.map_cons, List.map_cons]
    show (PyData.eqv (dV x) (dV y) && PyData.eqvAll (xs.map dV) (ys.map dV)) = _
    rw [dV_inj fx.1 fy.1, eqv_flat fx.2 fy.2]
    by_cases h1 : x = y
    · by_cases h2 : xs = ys
      · rw [decide_eq_true h1, decide_eq_true h2, decide_eq_true (by rw [h1, h2])]
        rfl
      · rw [decide_eq_false h2, decide_eq_false fun z => h2 (List.cons.inj z).2]
        simp
    · rw [decide_eq_false h1, decide_eq_false fun z => h1 (List.cons.inj z).1]
      rfl
theorem eqv_tup {xs ys : List V} (hx : okVs xs) (hy : okVs ys) : PyData.eqv (dT xs) (dT ys) = decide (xs = ys) := by
  show PyData.eqv (.tuple (xs.map dV)) (.tuple (ys.map dV)) = _
  rw [PyData.eqv]
  exact eqv_flat hx hy
theorem any_eqv {xs : List V} (hx : okVs xs) : ∀ {yss : List (List V)}, okTs yss → ((yss.map dT).any fun z => PyData.eqv z (dT xs)) = decide (xs ∈ yss)
  | [], _ => by simp
  | ys :: yss, h => by
    rw [List.map_cons, List.any_cons, eqv_tup (h ys List.mem_cons_self) hx, any_eqv hx fun z hz => h z (List.mem_cons_of_mem _ hz)]
    by_cases h1 : ys = xs
    · rw [decide_eq_true h1, decide_eq_true (show xs ∈ ys :: yss from h1 ▸ List.mem_cons_self)]
      rfl
    · rw [decide_eq_false h1, Bool.false_or]
      by_cases h2 : xs ∈ yss
      · rw [decide_eq_true h2, decide_eq_true (List.mem_cons_of_mem _ h2)]
      · rw [decide_eq_false h2, decide_eq_false]
        intro z
        rcases List.mem_cons.mp z with z | z
        · exact h1 z.symm
        · exact h2 z
/-- the keys can be laid -/
abbrev evOk (e : EvS) : Prop := okVs (evV e)
theorem evs_ok {es : List EvS} (h : ∀ e, e ∈ es → evOk e) : okTs (es.map evV) := fun xs hx => by
  obtain ⟨e, he, rfl⟩ := List.mem_map.mp hx
  exact h e he
section
variable {σ : L2.St} {H : Hp} {x : V} {ta tb te : TE} {K : PySem.W.Frag} {ds : List PyData}
/-- xs != [] -/
theorem ans_neNil {b : Bool} (ha : Val ta σ H x) (hd : ∀ H', Same H H' → Dp K H' x (.list ds)) (sh : SeqAt.shaped (.list ds) = true) (e : (!ds.isEmpty) = b) : AnsH (tTest (tOp (rNeD K) ta (tLst tNil))) σ H b (fun H' => Same H H') := by
  intro Q q
  refine ha _ ⟨Nat.zero_le _, fun p np => ?_⟩
  have sm : Same H (upd H p (.lst [])) := fun a o z => by rw [upd_ne (ne_of_none z np)]; exact z
  refine ⟨_, _, hd _ sm, .lst (SqL.of upd_same) .nil, sh, nil_shaped, b, ?_, q _ sm⟩
  rw [eqv_nil, e]
/-- xs == [] -/
theorem val_eqNil {b : Bool} (ha : Val ta σ H x) (hd : ∀ H', Same H H' → Dp K H' x (.list ds)) (sh : SeqAt.shaped (.list ds) = true) (e : ds.isEmpty = b) : ValH (tOp (rEqD K) ta (tLst tNil)) σ H (fun v H' => v = .bl b ∧ Same H H') := by
  intro Q q
  refine ha _ ⟨Nat.zero_le _, fun p np => ?_⟩
  have sm : Same H (upd H p (.lst [])) := fun a o z => by rw [upd_ne (ne_of_none z np)]; exact z
  refine ⟨_, _, hd _ sm, .lst (SqL.of upd_same) .nil, sh, nil_shaped, q _ _ ⟨?_, sm⟩⟩
  rw [eqv_nil, e]
end
end K15

set_option Elab.async false
set_option linter.all false
set_option autoImplicit false
set_option maxRecDepth 100000
set_option maxHeartbeats 4000000
namespace K15
open PySem L2
/-- readers' places lie in the log -/
structure WOk (W : K15.W) : Prop where
  seats : ∀ r s, W.seats r = some s → 0 ≤ s ∧ s ≤ (W.many : Int)
  cps : ∀ c, c ∈ W.cps → 0 ≤ c ∧ c ≤ (W.many : Int)
theorem wok0 : WOk W0 := ⟨fun _ _ h => (by cases h), fun _ h => (by cases h)⟩
theorem wok_put {W : K15.W} (h : WOk W) (r z : Int) (h0 : 0 ≤ z) (h1 : z ≤ (W.many : Int)) : WOk { W with seats := put1 W.seats r (some z) } := by
  refine ⟨fun x s e => ?_, h.cps⟩
  by_cases hx : x = r
  · have e : put1 W.seats r (some z) x = some s := e
    rw [hx, put1_same] at e
    cases e
    exact ⟨h0, h1⟩
  · have e : put1 W.seats r (some z) x = some s := e
    rw [put1_ne _ _ hx] at e
    exact h.seats x s e
theorem wok_many {W : K15.W} (h : WOk W) : WOk { W with many := W.many + 1 } := ⟨fun r s e => by
  have := h.seats r s e
  show 0 ≤ s ∧ s ≤ ((W.many + 1 : Nat) : Int)
  omega, fun c hc => by
  have := h.cps c hc
  show 0 ≤ c ∧ c ≤ ((W.many + 1 : Nat) : Int)
  omega⟩
theorem wok_step {W : K15.W} {e : EvS} (h : WOk W) (k : okEv W e) : WOk (wstep W e) := by
  cases e with
  | put a v => exact wok_many h
  | drop a => exact wok_many h
  | join r => exact wok_put h r 0 (Int.le_refl 0) (Int.natCast_nonneg _)
  | read r u =>
    obtain ⟨s, h1, h2, h3⟩ := k
    have := (h.seats r s h1).1
    exact wok_put h r u (by omega) h3
  | save r =>
    obtain ⟨s, h1⟩ := k
    refine ⟨h.seats, fun c hc => ?_⟩
    have hc : c ∈ W.cps ++ [(W.seats r).getD 0] := hc
    rcases List.mem_append.mp hc with hc | hc
    · exact h.cps c hc
    · rw [List.mem_singleton.mp hc, h1]
      exact h.seats r s h1
  | load r c =>
    obtain ⟨h1, h2⟩ := k
    have hl : c.toNat < W.cps.length := by omega
    have e : W.cps[c.toNat]? = some W.cps[c.toNat] := List.getElem?_eq_getElem hl
    have := h.cps _ (List.getElem_mem hl)
    show WOk { W with seats := put1 W.seats r (W.cps[c.toNat]?) }
    rw [e]
    exact wok_put h r _ this.1 this.2
  | wait => exact h
theorem wok_run : ∀ {es : List EvS} {W : K15.W}, WOk W → Valid W es → WOk (wrun W es)
  | [], _, h, _ => h
  | e :: es, W, h, v => by
    show WOk (wrun (wstep W e) es)
    exact wok_run (wok_step h v.1) v.2
theorem many_step (W : K15.W) (e : EvS) : (wstep W e).many ≤ W.many + 1 := by
  cases e <;> first | exact Nat.le_refl _ | exact Nat.le_succ _
theorem many_run : ∀ (es : List EvS) (W : K15.W), (wrun W es).many ≤ W.many + es.length
  | [], _ => Nat.le_refl _
  | e :: es, W => by
    have := many_run es (wstep W e)
    have := many_step W e
    show (wrun (wstep W e) es).many ≤ W.many + (es.length + 1)
    omega
theorem BoxAt.upd' {H : Hp} {b p : Addr} {c : Int} {o : HO} (h : BoxAt H b c) (n : H p = none) : BoxAt (L2.upd H p o) b c := h.upd (h.ne n)
theorem okE_put {k : Str} (h : PyData.strOk k = true) (v : Int) : evOk (.put k v) := by
  show ((PyData.strOk "put") && (PyData.strOk k && true)) = true
  rw [h]
  decide +kernel
theorem okE_drop {k : Str} (h : PyData.strOk k = true) : evOk (.drop k) := by
  show ((PyData.strOk "drop") && (PyData.strOk k && true)) = true
  rw [h]
  decide +kernel
theorem okE_join (r : Int) : evOk (.join r) := by
  show ((PyData.strOk "join") && true) = true
  decide +kernel
theorem okE_read (r u : Int) : evOk (.read r u) := by
  show ((PyData.strOk "read") && true) = true
  decide +kernel
theorem okE_save (r : Int) : evOk (.save r) := by
  show ((PyData.strOk "save") && true) = true
  decide +kernel
theorem okE_load (r c : Int) : evOk (.load r c) := by
  show ((PyData.strOk "load") && true) = true
  decide +kernel
theorem okE_wait : evOk .wait := by
  show ((PyData.strOk "wait") && true) = true
  decide +kernel
/-- names of keys -/
def Names (xs : List V) : Prop := ∀ x, x ∈ xs → ∃ k, x = .str k ∧ PyData.strOk k = true
abbrev s__law_event : Stmt := top 27
abbrev N__law_event : List Str := ["_law_box_here", "_law_w", "_law_folk", "_law_names", "_law_words", "_law_way", "_law_p", "_law_key_so", "_law_gap"]
abbrev P__law_event : List Str := ["_law_box_here", "_law_w", "_law_folk", "_law_names", "_law_words"]
theorem sc__law_event : FnScope N__law_event P__law_event (C8.fnScope s__law_event) := C8.fnScope_by (by decide +kernel)
/-- one event, or none -/
def spEvent (K : PySem.W.Frag) : Sp := fun vs H Q _ => ∃ (b w s c nm : Addr) (folk cc : Int) (words : Str) (names : List V) (W : K15.W) (n : Nat), vs = [.ref b, .ref w, .int folk, .ref nm, .str words] ∧ WAt H w s c W n ∧ WOk W ∧ n ≤ 900 ∧ W.many ≤ 900 ∧
  b ≠ c ∧ nm ≠ b ∧ BoxAt H b cc ∧ cc ≤ 900000 ∧ 0 < folk ∧ folk < 1000 ∧ SqL K H nm names ∧ Names names ∧ 0 < words.length ∧ words.length < 1000 ∧ 0 < names.length ∧ names.length < 1000 ∧
  ∀ (v : V) (H' : Hp), BoxAt H' b (cc + 4) → Exc (fun a => a = b) H H' → (v = .non ∨ ∃ p ev, v = .ref p ∧ H' p = some (.tup (evV ev)) ∧ okEv W ev ∧ evOk ev) → Q v H'
section
variable {P : Program} {w : World} {K : PySem.W.Frag} {mg : Str → Option Value} {base : Heap} {A : Adr}
theorem event_ok {f : Addr} {fd : FuncData} (T : Txt K mg A) (F : C8.Def K mg "_law_event" s__law_event f fd) (b : Binds K fd P__law_event []) (c_l_take : C8.Cal P w K mg base 1 "_law_take" spTake []) (c_l_of : C8.Cal P w K mg base 2 "_law_of" (spOf K) []) : C8.Cal P w K mg base 3 "_law_event" (spEvent K) [] := by
  refine C8.cal0 F b .nil sc__law_event (fun vs H Q E h => ?_) (fun cdv A outer s H vs Q E hr h => ?_)
  · obtain ⟨b, w, s, c, nm, folk, cc, words, names, W, n, rfl, _⟩ := h
    rfl
  · obtain ⟨b, w, s, c, nm, folk, cc, words, names, W, n, rfl, hW, ok, hn, hm, hbc, hnb, hb, hcc, hf0, hf1, hN, nN, hw0, hw1, hN0, hN1, q⟩ := h
    have hu := hu_of hr
    refine ⟨_, (pss_cons (ps_par3 (i := 5) (j := 6) (l := 7) (by rfl) sc__law_event.nd rfl rfl rfl (by decide) (by decide) (by decide) rfl rfl rfl (pa_cons (pe_ix ix_str (pv 4) (C8.pe_c c_l_take hr (by decide) rfl (pa_cons (pv 0) (pa_cons (pe_callB call_len (by rfl) T.b_len PySem.boot_len (pa_cons (pv 4) pa_nil)) pa_nil))) (fun _ _ => rfl)) (pa_cons (C8.pe_c c_l_take hr (by decide) rfl (pa_cons (pv 0) (pa_cons (pv 2) pa_nil))) (pa_cons (C8.pe_c c_l_of hr (by decide) rfl (pa_cons (pv 0) (pa_cons (pv 3) pa_nil))) pa_nil))) (by rfl))
      (pss_cons (ps_if (pt_cmpR op_eq (pv 5) pe_str (nomark _)) (pss_one (ps_ret (pe_tup (pa_cons pe_str (pa_cons (pv 7) (pa_cons (C8.pe_c c_l_take hr (by decide) rfl (pa_cons (pv 0) (pa_cons pe_int pa_nil))) pa_nil)))))) pss_nil)
      (pss_cons (ps_if (pt_cmpR (r := rIn K false) op_in_seq (pv 5) (pe_tup (pa_cons pe_str (pa_cons pe_str pa_nil))) (by with_unfolding_all rfl)) (pss_one (ps_ret (pe_ifExp (pt_cmpR op_eq (pv 5) pe_str (nomark _)) (pe_tup (pa_cons pe_str (pa_cons (pv 7) pa_nil))) (pe_tup (pa_cons pe_str pa_nil))))) pss_nil)
      (pss_cons (ps_if (pt_cmpR op_eq (pv 5) pe_str (nomark _)) (pss_one (ps_ret (pe_tup (pa_cons pe_str (pa_cons (pv 6) pa_nil))))) pss_nil)
      (pss_cons (ps_if (pt_cmpR op_eq (pv 5) pe_str (nomark _)) (pss_one (ps_ret (pe_ifExp (pt_cmpR (r := rNeD K) (op_neD hr.units) (pe_dget hu (pv 1) pe_str (fun _ _ => rfl)) (pe_lst pa_nil) (nomark _)) (pe_tup (pa_cons pe_str (pa_cons (pv 6) (pa_cons (C8.pe_c c_l_take hr (by decide) rfl (pa_cons (pv 0) (pa_cons (pe_callB (r := rLenQ K) call_len_seq (by rfl) T.b_len PySem.boot_len (pa_cons (pe_dget hu (pv 1) pe_str (fun _ _ => rfl)) pa_nil)) pa_nil))) pa_nil)))) pe_non))) pss_nil)
      (pss_cons (ps_if (pt_cmp (pc_dnotin hu (pv 6) (pe_dget hu (pv 1) pe_str (fun _ _ => rfl)))) (pss_one (ps_ret (pe_tup (pa_cons pe_str (pa_cons (pv 6) pa_nil))))) pss_nil)
      (pss_cons (ps_if (pt_cmpR op_eq (pv 5) pe_str (nomark _)) (pss_one (ps_ret (pe_tup (pa_cons pe_str (pa_cons (pv 6) pa_nil))))) pss_nil)
      (pss_cons (ps_set (i := 8) sc__law_event.nd rfl (Or.inl rfl) (pe_op op_sub (pe_dget hu (pv 1) pe_str (fun _ _ => rfl)) (pe_dget hu (pe_dget hu (pv 1) pe_str (fun _ _ => rfl)) (pv 6) (fun _ _ => rfl))))
      (pss_one (ps_ret (pe_ifExp (pt_cmpR op_gt (pv 8) pe_int (nomark _)) (pe_tup (pa_cons pe_str (pa_cons (pv 6) (pa_cons (pe_op op_add (pe_op op_add (pe_dget hu (pe_dget hu (pv 1) pe_str (fun _ _ => rfl)) (pv 6) (fun _ _ => rfl)) pe_int) (C8.pe_c c_l_take hr (by decide) rfl (pa_cons (pv 0) (pa_cons (pv 8) pa_nil)))) pa_nil)))) pe_non))))))))))), ?_⟩
    have bw : b ≠ w := fun z => by
      obtain ⟨_, _, _, h1, _⟩ := hb.ex
      rw [z, hW.hd] at h1
      cases h1
    have bs : b ≠ s := fun z => by
      obtain ⟨_, _, _, h1, _⟩ := hb.ex
      obtain ⟨_, h2, _⟩ := hW.hs
      rw [z, h2] at h1
      cases h1
    have step : ∀ {H1 : Hp}, Exc (fun a => a = b) H H1 → WAt H1 w s c W n := fun e => hW.exc e bw.symm bs.symm hbc.symm
    refine ⟨_, rfl, _, rfl, _, rfl, _, _, rfl, ⟨by show words.length ≤ sizeLine; exact Nat.le_of_lt (line_of (by omega)), rfl⟩, b, _, cc, rfl, by omega, by omega, hb, by omega, fun r H1 r0 r1 hb1 e1 => ?_⟩
    have hrl : r.toNat < words.cps.toList.length := by
      have : words.cps.toList.length = words.length := rfl
      omega
    have ex := atI_nat (List.getElem?_eq_getElem hrl)
    rw [Int.toNat_of_nonneg r0] at ex
    refine ⟨words, r, words.cps.toList[r.toNat], rfl, rfl, Nat.le_of_lt (line_of (by omega)), ex, ?_⟩
    generalize words.cps.toList[r.toNat] = sg
    refine ⟨_, rfl, _, rfl, b, _, _, rfl, hf0, by omega, hb1, by omega, fun pp H2 p0 p1 hb2 e2 => ?_⟩
    have e2 := e1.trans e2
    refine ⟨_, rfl, _, rfl, b, nm, names, _, rfl, e2.seq hN hnb, hnb, hN0, hN1, hb2, by omega, fun key H3 hkey hb3 e3 => ?_⟩
    have e3 := e2.trans e3
    obtain ⟨k, rfl, hk⟩ := nN _ hkey
    have W3 := step e3
    refine ⟨_, _, _, rfl, ?_⟩
    by_cases h1 : V.str ⟨#[sg]⟩ = V.str "p"
    · refine st_yes (ans_eq (val_var rfl) val_c rfl (decide_eq_true h1)) ?_
      refine ⟨_, rfl, _, rfl, b, 9, _, rfl, by decide, by decide, hb3, by omega, fun x H4 x0 x1 hb4 e4 => ?_⟩
      refine ⟨by show 3 ≤ sizeLine; decide, fun p np => ?_⟩
      refine q _ _ ((hb4.upd' np).mono (by omega)) ((e3.trans e4).new np) (.inr ⟨p, .put k x, rfl, upd_same, True.intro, ?_⟩)
      exact okE_put hk x
    · refine st_no (ans_eq (val_var rfl) val_c rfl (decide_eq_false h1)) ?_
      have fin : ∀ (xs : List V) (H4 : Hp) (ev : EvS) (c' : Int), xs = evV ev → BoxAt H4 b c' → c' ≤ cc + 4 → Exc (fun a => a = b) H H4 → okEv W ev → evOk ev → ∀ p, H4 p = none → Q (.ref p) (upd H4 p (.tup xs)) := fun xs H4 ev c' e hb4 hc4 e4 o1 o2 p np =>
        q _ _ ((hb4.upd' np).mono hc4) (e4.new np) (.inr ⟨p, ev, rfl, by rw [e]; exact upd_same, o1, o2⟩)
      have newT : ∀ {H4 H5 : Hp} {o : HO}, (∃ p, H4 p = none ∧ H5 = upd H4 p o) → Same H4 H5 := fun ⟨p, np, e1⟩ a o z => by
        rw [e1, upd_ne (ne_of_none z np)]
        exact z
      have ne2 : ∀ {H5 : Hp}, Same H3 H5 → BoxAt H5 b (cc + 1 + 1 + 1) ∧ WAt H5 w s c W n ∧ Exc (fun a => a = b) H H5 := fun sm => by
        obtain ⟨_, _, _, z1, z2⟩ := hb3.ex
        exact ⟨⟨_, _, _, sm _ _ z1, z2⟩, W3.same sm, e3.trans (same_exc sm _)⟩
      by_cases h2 : inV (V.str ⟨#[sg]⟩) [.str "d", .str "w"] = true
      · refine st_yesH (ans_in2 (val_var rfl) rfl rfl rfl h2) fun H4 n4 => ?_
        obtain ⟨hb4, W4, e4⟩ := ne2 (newT n4)
        refine ⟨_, rfl, rfl, _, rfl, ?_⟩
        refine ite2 (fun _ => ?_) (fun _ => ?_)
        · exact ⟨_, rfl, by show 2 ≤ sizeLine; decide, fun p np => fin _ _ (.drop k) _ rfl hb4 (by omega) e4 True.intro (okE_drop hk) p np⟩
        · exact ⟨by show 1 ≤ sizeLine; decide, fun p np => fin _ _ .wait _ rfl hb4 (by omega) e4 True.intro okE_wait p np⟩
      · refine st_noH (ans_in2 (val_var rfl) rfl rfl rfl (Bool.eq_false_iff.mpr h2)) fun H4 n4 => ?_
        obtain ⟨hb4, W4, e4⟩ := ne2 (newT n4)
        have okJ : evOk (.join pp : EvS) := okE_join pp
        by_cases h3 : V.str ⟨#[sg]⟩ = V.str "j"
        · refine st_yes (ans_eq (val_var rfl) val_c rfl (decide_eq_true h3)) ?_
          exact ⟨_, rfl, by show 2 ≤ sizeLine; decide, fun p np => fin _ _ (.join pp) _ rfl hb4 (by omega) e4 True.intro okJ p np⟩
        refine st_no (ans_eq (val_var rfl) val_c rfl (decide_eq_false h3)) ?_
        by_cases h4 : V.str ⟨#[sg]⟩ = V.str "l"
        · refine st_yes (ans_eq (val_var rfl) val_c rfl (decide_eq_true h4)) ?_
          refine ans_neNil (val_dget (val_var rfl) val_c W4.gC) (fun H5 sm => dp_flats (SqL.of (sm _ _ W4.hc)) (ok_ints _)) (dLV_shaped (ok_ints _)) rfl _ (fun H5 sm => ?_)
          have W5 := W4.same sm
          refine ite2 (fun hne => ?_) (fun _ => ?_)
          · have hpos : 0 < W.cps.length := by
              cases e : W.cps with
              | nil => rw [e] at hne; cases hne
              | cons _ _ => exact Nat.succ_pos _
            have := W.cps
            have hb5 : BoxAt H5 b (cc + 1 + 1 + 1) := by
              obtain ⟨_, _, _, z1, z2⟩ := hb4.ex
              exact ⟨_, _, _, sm _ _ z1, z2⟩
            refine ⟨_, rfl, _, rfl, _, rfl, w, _, rfl, W5.gC, _, _, rfl, .inl (SqL.of W5.hc), b, _, _, rfl, ?_, ?_, hb5, by omega, fun x H6 x0 x1 hb6 e6 => ?_⟩
            · rw [List.length_map]; omega
            · have := W5.cn
              rw [List.length_map]; omega
            rw [List.length_map] at x1
            exact ⟨by show 3 ≤ sizeLine; decide, fun p np => fin _ _ (.load pp x) _ rfl hb6 (by omega) ((e4.trans (same_exc sm _)).trans e6) ⟨x0, x1⟩ (okE_load ..) p np⟩
          · have hb5 : BoxAt H5 b (cc + 1 + 1 + 1) := by
              obtain ⟨_, _, _, z1, z2⟩ := hb4.ex
              exact ⟨_, _, _, sm _ _ z1, z2⟩
            exact q _ _ (hb5.mono (by omega)) (e4.trans (same_exc sm _)) (.inl rfl)
        refine st_no (ans_eq (val_var rfl) val_c rfl (decide_eq_false h4)) ?_
        cases hs : W.seats pp with
        | none =>
          have g := W4.gR pp
          rw [hs] at g
          refine st_yes (ans_dnin (val_dget (val_var rfl) val_c W4.gS) (val_var rfl) g rfl) ?_
          exact ⟨_, rfl, by show 2 ≤ sizeLine; decide, fun p np => fin _ _ (.join pp) _ rfl hb4 (by omega) e4 True.intro okJ p np⟩
        | some z =>
          have g := W4.gR pp
          rw [hs] at g
          refine st_no (ans_dnin (val_dget (val_var rfl) val_c W4.gS) (val_var rfl) g rfl) ?_
          by_cases h5 : V.str ⟨#[sg]⟩ = V.str "s"
          · refine st_yes (ans_eq (val_var rfl) val_c rfl (decide_eq_true h5)) ?_
            exact ⟨_, rfl, by show 2 ≤ sizeLine; decide, fun p np => fin _ _ (.save pp) _ rfl hb4 (by omega) e4 ⟨z, hs⟩ (okE_save ..) p np⟩
          refine st_no (ans_eq (val_var rfl) val_c rfl (decide_eq_false h5)) ?_
          have zz := ok.seats pp z hs
          refine ⟨_, rfl, w, _, rfl, W4.gM, _, rfl, w, _, rfl, W4.gS, _, rfl, s, _, rfl, g, _, _, rfl, rfl, ?_⟩
          refine ⟨_, rfl, _, _, rfl, rfl, _, rfl, ?_⟩
          refine ite2 (fun hlt => ?_) (fun _ => ?_)
          · have hlt' : 0 < (W.many : Int) - z := of_decide_eq_true hlt
            refine ⟨_, rfl, _, rfl, w, _, rfl, W4.gS, _, rfl, s, _, rfl, g, _, _, rfl, rfl, _, rfl, _, rfl, b, _, _, rfl, hlt', by omega, hb4, by omega, fun x H6 x0 x1 hb6 e6 => ?_⟩
            exact ⟨_, _, rfl, rfl, by show 3 ≤ sizeLine; decide, fun p np => fin _ _ (.read pp (z + 1 + x)) _ rfl hb6 (by omega) (e4.trans e6) ⟨z, hs, by omega, by omega⟩ (okE_read ..) p np⟩
          · exact q _ _ (hb4.mono (by omega)) e4 (.inl rfl)
end
end K15

set_option Elab.async false
set_option linter.all false
set_option autoImplicit false
set_option maxRecDepth 100000
set_option maxHeartbeats 4000000
namespace K15
open PySem L2
/-- amid the making of a table -/
structure Gen (H0 H : Hp) (b w s c D : Addr) (ews es : List EvS) (as : List Addr) (n : Nat) (cc : Int) : Prop where
  ex : Exc (fun a => a = b) H0 H
  nw : H0 w = none
  ns : H0 s = none
  nc : H0 c = none
  nD : H0 D = none
  box : BoxAt H b cc
  wat : WAt H w s c (wrun W0 ews) n
  val : Valid W0 es
  oke : ∀ e, e ∈ es → evOk e
  lst : H D = some (.lst (as.map V.ref))
  evs : EvsAt H as es
  dc : D ≠ c
  bc : b ≠ c
  bD : b ≠ D
theorem noTup_b {H : Hp} {b : Addr} {cc : Int} (hb : BoxAt H b cc) : NoTup (fun a => a = b) H := fun a xs e z => by
  obtain ⟨_, _, _, h1, _⟩ := hb.ex
  have z : a = b := z
  rw [z, h1] at e
  cases e
theorem box_w {H : Hp} {b w s c : Addr} {W : K15.W} {n : Nat} {cc : Int} (hb : BoxAt H b cc) (hW : WAt H w s c W n) : b ≠ w ∧ b ≠ s := by
  obtain ⟨_, _, _, h1, _⟩ := hb.ex
  obtain ⟨_, h2, _⟩ := hW.hs
  exact ⟨fun z => (by rw [z, hW.hd] at h1; cases h1), fun z => (by rw [z, h2] at h1; cases h1)⟩
theorem Gen.D_w {H0 H : Hp} {b w s c D : Addr} {ews es : List EvS} {as : List Addr} {n : Nat} {cc : Int} (g : Gen H0 H b w s c D ews es as n cc) : D ≠ w ∧ D ≠ s := by
  obtain ⟨_, h2, _⟩ := g.wat.hs
  exact ⟨fun z => (by have := g.lst; rw [z, g.wat.hd] at this; cases this), fun z => (by have := g.lst; rw [z, h2] at this; cases this)⟩
theorem Gen.drawn {H0 H H' : Hp} {b w s c D : Addr} {ews es : List EvS} {as : List Addr} {n : Nat} {cc cc' : Int} (g : Gen H0 H b w s c D ews es as n cc) (e : Exc (fun a => a = b) H H') (hb : BoxAt H' b cc') : Gen H0 H' b w s c D ews es as n cc' :=
  ⟨g.ex.trans e, g.nw, g.ns, g.nc, g.nD, hb, g.wat.exc e (box_w g.box g.wat).1.symm (box_w g.box g.wat).2.symm g.bc.symm, g.val, g.oke, e _ _ g.lst g.bD.symm, TupsAt.exc g.evs e (noTup_b g.box), g.dc, g.bc, g.bD⟩
theorem box_same {H H' : Hp} {b : Addr} {cc : Int} (h : BoxAt H b cc) (s : Same H H') : BoxAt H' b cc := by
  obtain ⟨_, _, _, z1, z2⟩ := h.ex
  exact ⟨_, _, _, s _ _ z1, z2⟩
theorem Gen.same {H0 H H' : Hp} {b w s c D : Addr} {ews es : List EvS} {as : List Addr} {n : Nat} {cc : Int} (g : Gen H0 H b w s c D ews es as n cc) (sm : Same H H') : Gen H0 H' b w s c D ews es as n cc := g.drawn (same_exc sm _) (box_same g.box sm)
theorem Gen.mono {H0 H : Hp} {b w s c D : Addr} {ews es : List EvS} {as : List Addr} {n n' : Nat} {cc cc' : Int} (g : Gen H0 H b w s c D ews es as n cc) (h1 : n ≤ n') (h2 : cc ≤ cc') : Gen H0 H b w s c D ews es as n' cc' :=
  ⟨g.ex, g.nw, g.ns, g.nc, g.nD, g.box.mono h2, g.wat.mono h1, g.val, g.oke, g.lst, g.evs, g.dc, g.bc, g.bD⟩
theorem Exc.out {P P' : Addr → Prop} {H0 H H' : Hp} (a : Exc P H0 H) (e : Exc P' H H') (h : ∀ x, P' x → P x ∨ H0 x = Option.none) : Exc P H0 H' := fun x o e0 n => e x o (a x o e0 n) fun z => by
  rcases h x z with q | q
  · exact n q
  · rw [q] at e0
    cases e0
theorem Gen.moved {H0 H H' : Hp} {b w s c D : Addr} {ews es : List EvS} {as : List Addr} {n : Nat} {cc : Int} {ev : EvS} (g : Gen H0 H b w s c D ews es as n cc) (hW : WAt H' w s c (wstep (wrun W0 ews) ev) (n + 1)) (e : Exc (WP w s c) H H') : Gen H0 H' b w s c D (ews ++ [ev]) es as (n + 1) cc := by
  have nb : ¬ WP w s c b := fun z => by
    rcases z with z | z | z
    · exact (box_w g.box g.wat).1 z
    · exact (box_w g.box g.wat).2 z
    · exact g.bc z
  have nD : ¬ WP w s c D := fun z => by
    rcases z with z | z | z
    · exact g.D_w.1 z
    · exact g.D_w.2 z
    · exact g.dc z
  refine ⟨g.ex.out e fun x z => .inr ?_, g.nw, g.ns, g.nc, g.nD, g.box.exc e nb, by rw [wrun_snoc]; exact hW, g.val, g.oke, e _ _ g.lst nD, TupsAt.exc g.evs e g.wat.noTup, g.dc, g.bc, g.bD⟩
  rcases z with z | z | z
  · rw [z]; exact g.nw
  · rw [z]; exact g.ns
  · rw [z]; exact g.nc
theorem Gen.append {H0 H : Hp} {b w s c D p : Addr} {ews es : List EvS} {as : List Addr} {n : Nat} {cc : Int} {ev : EvS} (g : Gen H0 H b w s c D ews es as n cc) (he : H p = some (.tup (evV ev))) (o1 : okEv (wrun W0 es) ev) (o2 : evOk ev) :
    Gen H0 (upd H D (.lst (as.map V.ref ++ [.ref p]))) b w s c D ews (es ++ [ev]) (as ++ [p]) n cc := by
  have e1 : Exc (fun a => a = D) H (upd H D (.lst (as.map V.ref ++ [.ref p]))) := (Exc.refl _ H).at rfl
  have nt : NoTup (fun a => a = D) H := fun a xs e z => by
    have z : a = D := z
    rw [z, g.lst] at e
    cases e
  refine ⟨g.ex.out e1 fun x z => .inr (by have z : x = D := z; rw [z]; exact g.nD), g.nw, g.ns, g.nc, g.nD, g.box.exc e1 g.bD, g.wat.exc e1 g.D_w.1.symm g.D_w.2.symm g.dc.symm, valid_snoc g.val o1, fun e h => ?_, by rw [List.map_append]; exact upd_same, EvsAt.snoc (TupsAt.exc g.evs e1 nt) (e1 _ _ he fun z => nt _ _ he z), g.dc, g.bc, g.bD⟩
  rcases List.mem_append.mp h with h | h
  · exact g.oke e h
  · rw [List.mem_singleton.mp h]
    exact o2
theorem ref_scal (p : Addr) : (!decide (V.ref p = V.non)) = true := by rfl
abbrev s__law_table : Stmt := top 29
abbrev N__law_table : List Str := ["_law_box_here", "_law_many", "_law_most", "_law_folk", "_law_names", "_law_words", "_law_found", "_law_w", "_law_turn", "_law_event_so", "_law_is_full"]
abbrev P__law_table : List Str := ["_law_box_here", "_law_many", "_law_most", "_law_folk", "_law_names", "_law_words"]
theorem sc__law_table : FnScope N__law_table P__law_table (C8.fnScope s__law_table) := C8.fnScope_by (by decide +kernel)
/-- a table of events -/
def spTable (K : PySem.W.Frag) : Sp := fun vs H Q _ => ∃ (b nm : Addr) (many most folk cc : Int) (words : Str) (names : List V), vs = [.ref b, .int many, .int most, .int folk, .ref nm, .str words] ∧
  0 ≤ many ∧ many ≤ 20 ∧ nm ≠ b ∧ BoxAt H b cc ∧ cc ≤ 800000 ∧ 0 < folk ∧ folk < 1000 ∧ SqL K H nm names ∧ Names names ∧ 0 < words.length ∧ words.length < 1000 ∧ 0 < names.length ∧ names.length < 1000 ∧
  ∀ (p : Addr) (as : List Addr) (es : List EvS) (H' : Hp), BoxAt H' b (cc + 100) → Exc (fun a => a = b) H H' → H' p = some (.tup (as.map V.ref)) → EvsAt H' as es → Valid W0 es → (∀ e, e ∈ es → evOk e) → es.length ≤ 20 → Q (.ref p) H'
section
variable {P : Program} {w : World} {K : PySem.W.Frag} {mg : Str → Option Value} {base : Heap} {A : Adr}
theorem table_ok {f : Addr} {fd : FuncData} (T : Txt K mg A) (F : C8.Def K mg "_law_table" s__law_table f fd) (b : Binds K fd P__law_table []) (c_l_event : C8.Cal P w K mg base 3 "_law_event" (spEvent K) []) (c_l_moved : C8.Cal P w K mg base 1 "_law_moved" spMoved []) : C8.Cal P w K mg base 4 "_law_table" (spTable K) [] := by
  refine C8.cal0 F b .nil sc__law_table (fun vs H Q E h => ?_) (fun cdv A outer s H vs Q E hr h => ?_)
  · obtain ⟨b, nm, many, most, folk, cc, words, names, rfl, _⟩ := h
    rfl
  · obtain ⟨b, nm, many, most, folk, cc, words, names, rfl, hm0, hm1, hnb, hb, hcc, hf0, hf1, hN, nN, hw0, hw1, hN0, hN1, q⟩ := h
    have hu := hu_of hr
    refine ⟨_, (pss_cons (ps_par (i := 6) (j := 7) (by rfl) sc__law_table.nd rfl rfl (by decide) rfl rfl (pa_cons (pe_lst pa_nil) (pa_cons (pe_disp (pps_cons pe_str pe_dnewK (pps_cons pe_str (pe_lst pa_nil) (pps_cons pe_str pe_int pps_nil))) (by rfl) (by rfl) (fun z => by cases z) (by decide)) pa_nil)) (by rfl))
      (pss_cons (ps_for PassesOwn.never rfl (pi_range1 rfl T.b_range (pa_cons (pv 1) pa_nil)) (pg_name (i := 8) sc__law_table.nd rfl (Or.inl rfl)) (pss_cons (ps_set (i := 9) sc__law_table.nd rfl (Or.inl rfl) (C8.pe_c c_l_event hr (by decide) rfl (pa_cons (pv 0) (pa_cons (pv 7) (pa_cons (pv 3) (pa_cons (pv 4) (pa_cons (pv 5) pa_nil)))))))
      (pss_cons (ps_set (i := 10) sc__law_table.nd rfl (Or.inl rfl) (pe_and (pe_cmpR op_notN (pv 9) pe_non (nomark _)) (pe_and (pe_cmpR (r := rIn K false) op_in_seq (pe_ix (r := rIxT K) ix_tup (pv 9) pe_int (fun _ _ => rfl)) (pe_tup (pa_cons pe_str (pa_cons pe_str pa_nil))) (by with_unfolding_all rfl)) (pe_one (pe_cmpR op_ge (pe_dget hu (pv 7) pe_str (fun _ _ => rfl)) (pv 2) (nomark _))))))
      (pss_one (ps_if (PW.pt (pw_and (pt_cmpR op_notN (pv 9) pe_non (nomark _)) (pw_and (pt_not (pt_val (pv 10))) (pw_and1 (PW.pt (pw_or (pt_cmpR op_ne (pe_ix (r := rIxT K) ix_tup (pv 9) pe_int (fun _ _ => rfl)) pe_str (nomark _)) (pw_or1 (pt_cmpR op_lt (pe_callB (r := rLenQ K) call_len_seq (by rfl) T.b_len PySem.boot_len (pa_cons (pe_dget hu (pv 7) pe_str (fun _ _ => rfl)) pa_nil)) pe_int (nomark _))))))))) (pss_cons (ps_expr (C8.pe_c c_l_moved hr (by decide) rfl (pa_cons (pv 7) (pa_cons (pv 9) pa_nil))))
      (pss_one (ps_expr (pe_bm PySem.F.plainAttrs_list PySem.F.slot_list_append PySem.F.type_list_append mt_append (pv 6) (pa_cons (pv 9) pa_nil))))) pss_nil)))))
      (pss_one (ps_ret (pe_callTy call_tuple_of (by rfl) T.b_tuple (by decide +kernel) (pa_cons (pv 6) pa_nil)))))), ?_⟩
    refine ⟨Nat.zero_le _, fun D nD => ?_⟩
    refine new_w fun w s c H1 sm nw ns nc hW => ⟨_, _, rfl, ?_⟩
    have smD : Same H (upd H D (.lst [])) := fun a o e => by rw [upd_ne (ne_of_none e nD)]; exact e
    have hne : ∀ {x : Addr}, upd H D (.lst []) x = none → x ≠ D ∧ H x = none := fun {x} e => by
      have h1 : x ≠ D := fun z => by rw [z, upd_same] at e; cases e
      rw [upd_ne h1] at e
      exact ⟨h1, e⟩
    have g0 : Gen H H1 b w s c D [] [] [] 0 cc := ⟨same_exc (smD.trans sm) _, (hne nw).2, (hne ns).2, (hne nc).2, nD, box_same hb (smD.trans sm), hW, True.intro, fun e h => (by cases h), sm _ _ upd_same, .nil, (hne nc).1.symm, hb.ne (hne nc).2, hb.ne nD⟩
    have hN1' : ∀ {H' : Hp}, Exc (fun a => a = b) H H' → SqL K H' nm names := fun e => e.seq hN hnb
    refine ⟨_, rfl, many, rfl, by omega, by omega, for_range (fun i σ H2 => ∃ (x y z : Option V) (as : List Addr) (es : List EvS), σ = [some (.ref b), some (.int many), some (.int most), some (.int folk), some (.ref nm), some (.str words), some (.ref D), some (.ref w), x, y, z] ∧
      Gen H H2 b w s c D es es as i (cc + 4 * i) ∧ es.length ≤ i) ⟨none, none, none, [], [], rfl, g0.mono (Nat.le_refl _) (by omega), Nat.le_refl _⟩ ?_ ?_⟩
    · rintro i σ H2 hi ⟨x, y, z, as, es, rfl, g, hl⟩
      have hmr := many_run es W0
      have hm : (wrun W0 es).many ≤ es.length := by have h0 : W0.many = 0 := rfl; omega
      refine ⟨_, rfl, _, rfl, _, rfl, _, rfl, _, rfl, b, w, s, c, nm, folk, _, words, names, _, i, rfl, g.wat, wok_run wok0 g.val, by omega, by omega, g.bc, hnb, g.box, by omega, hf0, hf1, hN1' g.ex, nN, hw0, hw1, hN0, hN1, fun v H3 hb3 e3 hv => ?_⟩
      have g3 := (g.drawn e3 hb3).mono (Nat.le_refl _) (show cc + 4 * (i : Int) + 4 ≤ cc + 4 * ((i + 1 : Nat) : Int) by omega)
      have same : ∀ (x y z : Option V) (H4 : Hp), Gen H H4 b w s c D es es as i (cc + 4 * ((i + 1 : Nat) : Int)) → ∃ (x' y' z' : Option V) (as' : List Addr) (es' : List EvS), [some (V.ref b), some (.int many), some (.int most), some (.int folk), some (.ref nm), some (.str words), some (.ref D), some (.ref w), x, y, z] = [some (.ref b), some (.int many), some (.int most), some (.int folk), some (.ref nm), some (.str words), some (.ref D), some (.ref w), x', y', z'] ∧
          Gen H H4 b w s c D es' es' as' (i + 1) (cc + 4 * ((i + 1 : Nat) : Int)) ∧ es'.length ≤ i + 1 := fun x y z H4 g4 => ⟨x, y, z, as, es, rfl, g4.mono (Nat.le_succ _) (Int.le_refl _), by omega⟩
      rcases hv with rfl | ⟨p, ev, rfl, hp, o1, o2⟩
      · refine ⟨_, rfl, rfl, _, rfl, ?_⟩
        refine st_no (ans_and0 (ans_notN (val_var rfl) rfl)) ?_
        exact same _ _ _ _ g3
      · obtain ⟨h0, r0, e0⟩ : ∃ (wd : Str) (rest : List V), evV ev = .str wd :: rest := by cases ev <;> exact ⟨_, _, rfl⟩
        have hx0 : atI (evV ev) 0 = some (.str h0) := by rw [e0]; exact ix0 _ _
        dsimp only [gName]
        refine st_seq (st_setH (PV := fun v H' => ∃ k, v = .bl k ∧ Same H3 H') ?_ ?_)
        · intro Q q
          refine ⟨_, rfl, rfl, _, rfl, ite2 (fun _ => ?_) (fun h => absurd rfl h)⟩
          refine ⟨_, rfl, p, _, _, _, rfl, rfl, SqT.of hp, hx0, by show 2 ≤ sizeLine; decide, fun k nk => ?_⟩
          have s4 : Same H3 (upd H3 k (.tup [.str "put", .str "drop"])) := fun a o e => by rw [upd_ne (ne_of_none e nk)]; exact e
          refine ⟨k, _, rfl, .inr (SqT.of upd_same), rfl, rfl, _, rfl, ?_⟩
          refine ite2 (fun _ => ?_) (fun h => q _ _ ⟨_, rfl, s4⟩)
          exact ⟨_, rfl, w, _, rfl, (g3.wat.same s4).gM, _, rfl, _, _, rfl, rfl, q _ _ ⟨_, rfl, s4⟩⟩
        · rintro v4 H4 ⟨k, rfl, s4⟩
          have g4 := g3.same s4
          have hp4 := s4 _ _ hp
          have skip := same (some (V.int (0 + i))) (some (.ref p)) (some (.bl k)) H4 g4
          have body : ∀ (Dn : Ends) (σ : L2.St), σ[6]? = some (some (.ref D)) → σ[7]? = some (some (.ref w)) → σ[9]? = some (some (.ref p)) → (∀ H5, Gen H H5 b w s c D (es ++ [ev]) (es ++ [ev]) (as ++ [p]) (i + 1) (cc + 4 * ((i + 1 : Nat) : Int)) → Dn.nx σ H5) →
              tSeq (tDrop (tCall spMoved [] C8.E0 (tCons (tVar 7) (tCons (tVar 9) tNil)))) (tDrop (tBM K "list" rAppend (tVar 6) (tCons (tVar 9) tNil))) Dn σ H4 := by
            intro Dn σ h6 h7 h9 hq
            refine ⟨_, h7, _, h9, w, s, c, p, _, ev, i, rfl, g4.wat, hp4, o1, by omega, fun H5 W5 e5 => ?_⟩
            have g5 := g4.moved W5 e5
            have hp5 : H5 p = some (.tup (evV ev)) := e5 _ _ hp4 fun z => g4.wat.noTup _ _ hp4 z
            have g6 := g5.append (p := p) hp5 o1 o2
            refine ⟨_, h6, .inl ⟨rfl, _, SqL.of g5.lst⟩, _, h9, D, _, _, rfl, rfl, g5.lst, line_of (by rw [List.length_map, g5.evs.len]; omega), hq _ ?_⟩
            exact g6
          refine ⟨_, rfl, rfl, _, rfl, ite2 (fun _ => ?_) (fun h => absurd rfl h)⟩
          refine ⟨_, rfl, _, rfl, ite2 (fun _ => ?_) (fun h => iteF skip)⟩
          refine ⟨_, rfl, p, _, _, _, rfl, rfl, SqT.of hp4, hx0, rfl, _, rfl, ite2 (fun _ => ?_) (fun _ => ?_)⟩
          · exact body _ _ rfl rfl rfl fun H5 g5 => ⟨_, _, _, _, _, rfl, g5, by rw [List.length_append]; show es.length + 1 ≤ i + 1; omega⟩
          · refine ⟨_, rfl, w, _, rfl, g4.wat.gC, _, _, rfl, .inl (SqL.of g4.wat.hc), _, _, rfl, rfl, _, rfl, ite2 (fun _ => ?_) (fun _ => skip)⟩
            exact body _ _ rfl rfl rfl fun H5 g5 => ⟨_, _, _, _, _, rfl, g5, by rw [List.length_append]; show es.length + 1 ≤ i + 1; omega⟩
    · rintro σ H2 ⟨x, y, z, as, es, rfl, g, hl⟩
      refine ⟨_, rfl, D, _, rfl, .inl ⟨SqL.of g.lst, fun k nk => ?_⟩⟩
      have s4 : Same H2 (upd H2 k (.tup (as.map V.ref))) := fun a o e => by rw [upd_ne (ne_of_none e nk)]; exact e
      have g4 := g.same s4
      exact q k as es _ (g4.box.mono (by omega)) g4.ex upd_same g4.evs g4.val g4.oke (by omega)
end
end K15

set_option Elab.async false
set_option linter.all false
set_option autoImplicit false
set_option maxRecDepth 100000
set_option maxHeartbeats 4000000
/-! Comprehensions whose turns keep what was. -/
namespace K15
open PySem L2
theorem wipe_put (σ : L2.St) (j : Nat) (v : Option V) : wipe ((wipe σ [j]).set j v) [j] = wipe σ [j] := by
  show ((σ.set j none).set j v).set j none = σ.set j none
  rw [List.set_set, List.set_set]
theorem wipe_at {σ : L2.St} {j : Nat} {v : Option V} (h : j < σ.length) : ((wipe σ [j]).set j v)[j]? = some v := by
  show ((σ.set j none).set j v)[j]? = some v
  rw [List.getElem?_set_self]
  rw [List.length_set]
  exact h
theorem wipe_ne {σ : L2.St} {i j : Nat} {v : Option V} (h : j ≠ i) : ((wipe σ [j]).set j v)[i]? = σ[i]? := by
  show ((σ.set j none).set j v)[i]? = σ[i]?
  rw [List.getElem?_set_ne h, List.getElem?_set_ne h]
theorem line9 {n : Nat} (h : n ≤ 1000000) : n < sizeLine := Nat.lt_of_le_of_lt h (by decide)
theorem same_new {H : Hp} {p : Addr} {o : HO} (h : H p = none) : Same H (upd H p o) := fun a u e => by
  rw [upd_ne (ne_of_none e h)]
  exact e
section
variable {J : It} {n : Nat} {G : Hp → Prop} {Y : Nat → Hp → V → Hp → Prop} {wi : TI} {g : TG} {tt : TT} {te : TE} {vs : List Nat} {σ : L2.St} {H : Hp}
/-- values are taken -/
theorem lcF (w : Walk J n G Y) (hw : ∀ R : It → Hp → Prop, R J H → wi σ H R) (hG : ∀ H', Same H H' → G H') (hn : n ≤ 900000) (F : Nat → List V) (h0 : F 0 = []) (hl : ∀ i, i ≤ n → (F i).length ≤ i)
    (hs : ∀ i x H1 H2, i < n → Same H H1 → Y i H1 x H2 → ∃ σ2, wipe σ2 vs = wipe σ vs ∧ Same H1 H2 ∧ (∀ Q : L2.St → Hp → Prop, Q σ2 H2 → g x (wipe σ vs) H2 Q) ∧
      ((AnsH tt σ2 H2 true (Same H2) ∧ ∃ y, (∀ H3, Same H2 H3 → Val te σ2 H3 y) ∧ F (i + 1) = F i ++ [y]) ∨ (AnsH tt σ2 H2 false (Same H2) ∧ F (i + 1) = F i))) :
    ValH (tLc wi g tt te vs) σ H (fun v H' => ∃ p, v = .ref p ∧ H p = none ∧ Same H H' ∧ H' p = some (.lst (F n))) := by
  intro Q q
  refine hw _ fun D nD => ?_
  refine lc_it w (fun i H1 => Same H H1 ∧ H1 D = some (.lst (F i))) ⟨same_new nD, by rw [h0]; exact upd_same⟩ (fun i H1 _ h => hG H1 h.1) ?_ (fun H1 h => q _ _ ⟨D, rfl, nD, h.1, h.2⟩)
  rintro i x H1 H2 hi ⟨s1, hD⟩ y
  obtain ⟨σ2, e1, s2, hg, h⟩ := hs i x H1 H2 hi s1 y
  refine hg _ ⟨e1, ?_⟩
  rcases h with ⟨ha, y, hy, hF⟩ | ⟨ha, hF⟩
  · refine ha _ fun H3 s3 => iteT ?_
    refine hy H3 s3 _ ?_
    have hD3 := s3 _ _ (s2 _ _ hD)
    refine ⟨F i, hD3, line9 (by have := hl i (Nat.le_of_lt hi); omega), ?_, by rw [hF]; exact upd_same⟩
    intro a o e
    rw [upd_ne (fun z => by rw [z, nD] at e; cases e)]
    exact s3 _ _ (s2 _ _ (s1 _ _ e))
  · refine ha _ fun H3 s3 => iteF ?_
    exact ⟨(s1.trans s2).trans s3, by rw [hF]; exact s3 _ _ (s2 _ _ hD)⟩
/-- new tuples are taken -/
theorem lcT (w : Walk J n G Y) (hw : ∀ R : It → Hp → Prop, R J H → wi σ H R) (hG : ∀ H', Same H H' → G H') (hn : n ≤ 90000) (F : Nat → List (List V)) (h0 : F 0 = []) (hl : ∀ i, i ≤ n → (F i).length ≤ i)
    (hs : ∀ i x H1 H2, i < n → Same H H1 → Y i H1 x H2 → ∃ σ2, wipe σ2 vs = wipe σ vs ∧ Same H1 H2 ∧ (∀ Q : L2.St → Hp → Prop, Q σ2 H2 → g x (wipe σ vs) H2 Q) ∧
      ((AnsH tt σ2 H2 true (Same H2) ∧ ∃ xs, (∀ H3, Same H2 H3 → ValH te σ2 H3 (fun y H4 => ∃ p, y = .ref p ∧ Same H3 H4 ∧ H4 p = some (.tup xs))) ∧ F (i + 1) = F i ++ [xs]) ∨ (AnsH tt σ2 H2 false (Same H2) ∧ F (i + 1) = F i))) :
    ValH (tLc wi g tt te vs) σ H (fun v H' => ∃ p as, v = .ref p ∧ H p = none ∧ Same H H' ∧ H' p = some (.lst (as.map V.ref)) ∧ TupsAt H' as (F n)) := by
  intro Q q
  refine hw _ fun D nD => ?_
  refine lc_it w (fun i H1 => Same H H1 ∧ ∃ as, H1 D = some (.lst (as.map V.ref)) ∧ TupsAt H1 as (F i)) ⟨same_new nD, [], upd_same, by rw [h0]; exact .nil⟩ (fun i H1 _ h => hG H1 h.1) ?_ (fun H1 h => q _ _ (by
    obtain ⟨s1, as, h2, h3⟩ := h
    exact ⟨D, as, rfl, nD, s1, h2, h3⟩))
  rintro i x H1 H2 hi ⟨s1, as, hD, hT⟩ y
  obtain ⟨σ2, e1, s2, hg, h⟩ := hs i x H1 H2 hi s1 y
  refine hg _ ⟨e1, ?_⟩
  rcases h with ⟨ha, xs, hy, hF⟩ | ⟨ha, hF⟩
  · refine ha _ fun H3 s3 => iteT ?_
    refine hy H3 s3 _ ?_
    rintro v H4 ⟨p, rfl, s4, hp⟩
    have hD4 := s4 _ _ (s3 _ _ (s2 _ _ hD))
    have hT4 := TupsAt.same (TupsAt.same (TupsAt.same hT s2) s3) s4
    refine ⟨as.map V.ref, hD4, line_of (by rw [List.length_map, hT.len]; have := hl i (Nat.le_of_lt hi); omega), ?_, as ++ [p], by rw [List.map_append]; exact upd_same, ?_⟩
    · intro a o e
      rw [upd_ne (fun z => by rw [z, nD] at e; cases e)]
      exact s4 _ _ (s3 _ _ (s2 _ _ (s1 _ _ e)))
    · rw [hF]
      have e1 : Exc (fun a => a = D) H4 (upd H4 D (.lst (as.map V.ref ++ [.ref p]))) := (Exc.refl _ H4).at rfl
      have nt : NoTup (fun a => a = D) H4 := fun a xs e z => by
        have z : a = D := z
        rw [z, hD4] at e
        cases e
      exact TupsAt.snoc (TupsAt.exc hT4 e1 nt) (e1 _ _ hp fun z => nt _ _ hp z)
  · refine ha _ fun H3 s3 => iteF ?_
    exact ⟨(s1.trans s2).trans s3, as, s3 _ _ (s2 _ _ hD), by rw [hF]; exact TupsAt.same (TupsAt.same hT s2) s3⟩
theorem yes_same : AnsH tYes σ H true (Same H) := fun Q q => q H (Same.refl H)
theorem ansH {b : Bool} (h : Ans tt σ H b) : AnsH tt σ H b (Same H) := fun Q q => h Q (q H (Same.refl H))
end
end K15

set_option Elab.async false
set_option linter.all false
set_option autoImplicit false
set_option maxRecDepth 100000
set_option maxHeartbeats 4000000
/-! Guards' lists. -/
namespace K15
open PySem L2
theorem flat_len {α β : Type} {f : α → List β} (h : ∀ a, (f a).length ≤ 1) : ∀ l : List α, (l.flatMap f).length ≤ l.length
  | [] => Nat.le_refl _
  | a :: l => by
    rw [List.flatMap_cons, List.length_append, List.length_cons]
    have := flat_len h l
    have := h a
    omega
theorem take_flat {α β : Type} (f : α → List β) {l : List α} {i : Nat} {a : α} (h : l[i]? = some a) : (l.take (i + 1)).flatMap f = (l.take i).flatMap f ++ f a := by
  rw [take_snoc h, List.flatMap_append, List.flatMap_cons, List.flatMap_nil, List.append_nil]
theorem flat_len_take {α β : Type} {f : α → List β} (h : ∀ a, (f a).length ≤ 1) (l : List α) (i : Nat) : ((l.take i).flatMap f).length ≤ i := by
  have h1 := flat_len h (l.take i)
  have h2 : (l.take i).length ≤ i := by rw [List.length_take]; omega
  omega
theorem zip_at {α β : Type} : ∀ {as : List α} {bs : List β} {i : Nat} {a : α} {b : β}, as[i]? = some a → bs[i]? = some b → (as.zip bs)[i]? = some (a, b)
  | [], _, _, _, _, h, _ => by simp at h
  | _ :: _, [], _, _, _, _, h => by simp at h
  | a :: as, b :: bs, 0, _, _, h1, h2 => by
    simp at h1 h2
    rw [h1, h2]
    rfl
  | a :: as, b :: bs, i + 1, _, _, h1, h2 => by
    rw [List.getElem?_cons_succ] at h1 h2
    rw [List.zip_cons_cons, List.getElem?_cons_succ]
    exact zip_at h1 h2
def svF : Addr × EvS → List V := fun p => if isSave p.2 = true then [.ref p.1] else []
theorem svF_len : ∀ p, (svF p).length ≤ 1 := fun p => by
  unfold svF
  split
  · exact Nat.le_refl _
  · exact Nat.zero_le _
theorem svF_saves : ∀ (as : List Addr) (es : List EvS), as.length = es.length → ((as.zip es).flatMap svF).length = saves es
  | [], [], _ => rfl
  | a :: as, [], h => by cases h
  | [], e :: es, h => by cases h
  | a :: as, e :: es, h => by
    have h : as.length + 1 = es.length + 1 := h
    rw [List.zip_cons_cons, List.flatMap_cons, List.length_append, svF_saves as es (Nat.succ.inj h)]
    show (svF (a, e)).length + saves es = (if isSave e = true then 1 else 0) + saves es
    unfold svF
    split <;> rfl
def jlE : EvS → List Int
  | .join r => [r]
  | .load r _ => [r]
  | _ => []
def jl (es : List EvS) : List Int := es.flatMap jlE
theorem jl_mem {es : List EvS} {r : Int} : r ∈ jl es ↔ Ev.join r ∈ es ∨ ∃ c, Ev.load r c ∈ es := by
  unfold jl
  rw [List.mem_flatMap]
  constructor
  · rintro ⟨e, he, hr⟩
    cases e <;> first | (cases hr; done) | skip
    · have hr := List.mem_singleton.mp hr
      exact .inl (hr ▸ he)
    · have hr := List.mem_singleton.mp hr
      exact .inr ⟨_, hr ▸ he⟩
  · rintro (h | ⟨c, h⟩)
    · exact ⟨_, h, List.mem_singleton.mpr rfl⟩
    · exact ⟨_, h, List.mem_singleton.mpr rfl⟩
def jvE (e : EvS) : List V := (jlE e).map V.int
theorem jvE_len : ∀ e, (jvE e).length ≤ 1 := fun e => by cases e <;> simp [jvE, jlE]
theorem jv_all : ∀ es : List EvS, es.flatMap jvE = (jl es).map V.int
  | [] => rfl
  | e :: es => by
    rw [List.flatMap_cons, jv_all es]
    show (jlE e).map V.int ++ (jl es).map V.int = (jlE e ++ jl es).map V.int
    rw [List.map_append]
theorem jl_len (es : List EvS) : (jl es).length ≤ es.length := flat_len (f := jlE) (fun e => by cases e <;> simp [jlE]) es
def gdV : Bool × Int → List V
  | (true, k) => [.str "copy", .int k]
  | (false, r) => [.str "reader", .int r]
theorem gd_ok (g : Bool × Int) : okVs (gdV g) := by
  obtain ⟨b, k⟩ := g
  cases b
  · show ((PyData.strOk "reader") && true) = true
    decide +kernel
  · show ((PyData.strOk "copy") && true) = true
    decide +kernel
theorem ev_ix0 (e : EvS) : ∃ wd, atI (evV e) 0 = some (.str wd) ∧ (decide (V.str wd = V.str "save") = isSave e) ∧ (inV (V.str wd) [.str "join", .str "load"] = !(jlE e).isEmpty) := by
  cases e <;> refine ⟨_, ix0 _ _, ?_, ?_⟩ <;> first | (show _ = true; decide +kernel) | (show _ = false; decide +kernel)
section
variable {σ : L2.St} {H : Hp} {K : PySem.W.Frag} {w : World} {t : Addr} {as : List Addr} {es : List EvS} {i j : Nat}
/-- [e for e in t if e[0] == "save"] -/
theorem lc_saves (hv : σ[i]? = some (some (.ref t))) (ht : H t = some (.tup (as.map V.ref))) (he : EvsAt H as es) (hj : j < σ.length) (hl : es.length ≤ 1000) :
    ValH (tLc (iTup K (tVar i)) (gName j) (tTest (tOp rEq (tOp (rIxT K) (tVar j) (tC (.int 0))) (tC (.str "save")))) (tVar j) [j]) σ H (fun v H' => ∃ p ys, v = .ref p ∧ H p = none ∧ Same H H' ∧ H' p = some (.lst ys) ∧ ys.length = saves es) := by
  have hal := he.len
  intro Q q
  refine lcF (walk_tup (K := K) (a := t) (xs := as.map V.ref)) (fun R r => ⟨_, hv, t, rfl, ⟨_, SqT.of ht⟩, r⟩) (fun H' s => SqT.of (s _ _ ht)) (by rw [List.length_map]; omega) (fun k => ((as.zip es).take k).flatMap svF) rfl (fun k _ => flat_len_take svF_len _ _) ?_ Q ?_
  · rintro k x H1 H2 hk s1 ⟨rfl, hx⟩
    obtain ⟨a, ha, rfl⟩ := refs_ix hx
    obtain ⟨e, hee, hat⟩ := he.get ha
    obtain ⟨wd, w0, w1, _⟩ := ev_ix0 e
    refine ⟨_, wipe_put σ j _, Same.refl _, fun Q q => q, ?_⟩
    have e1 := take_flat svF (zip_at ha hee)
    have an := ansH (ans_eq (b := isSave e) (val_ixT (K := K) (val_var (wipe_at hj)) val_c (SqT.of (s1 _ _ hat)) w0) (val_c (v := .str "save")) rfl w1)
    cases hs : isSave e with
    | true =>
      rw [hs] at an
      exact .inl ⟨an, .ref a, fun H3 _ => val_var (wipe_at hj), by rw [e1]; unfold svF; rw [if_pos hs]⟩
    | false =>
      rw [hs] at an
      refine .inr ⟨an, ?_⟩
      rw [e1]
      unfold svF
      rw [if_neg (by rw [hs]; decide), List.append_nil]
  · rintro v H' ⟨p, rfl, np, sm, hp⟩
    refine q _ _ ⟨p, _, rfl, np, sm, hp, ?_⟩
    have e2 : (as.zip es).take (as.map V.ref).length = as.zip es := by
      rw [List.length_map]
      refine List.take_of_length_le ?_
      rw [List.length_zip]
      omega
    rw [e2]
    exact svF_saves as es hal
/-- len([..]) -/
theorem v_count (hv : σ[i]? = some (some (.ref t))) (ht : H t = some (.tup (as.map V.ref))) (he : EvsAt H as es) (hj : j < σ.length) (hl : es.length ≤ 1000) :
    ValH (tCB (rLenQ K) (tCons (tLc (iTup K (tVar i)) (gName j) (tTest (tOp rEq (tOp (rIxT K) (tVar j) (tC (.int 0))) (tC (.str "save")))) (tVar j) [j]) tNil)) σ H (fun v H' => v = .int ((saves es : Nat) : Int) ∧ Same H H') := by
  intro Q q
  unfold tCB tCons
  refine lc_saves (K := K) hv ht he hj hl _ ?_
  rintro v H1 ⟨p, ys, rfl, np, s1, hp, hy⟩
  refine ⟨p, ys, rfl, .inl (SqL.of hp), ?_⟩
  rw [hy]
  exact q _ _ ⟨rfl, s1⟩
/-- [e[1] for e in t if e[0] in ("join", "load")] -/
theorem lc_jl (hv : σ[i]? = some (some (.ref t))) (ht : H t = some (.tup (as.map V.ref))) (he : EvsAt H as es) (hj : j < σ.length) (hl : es.length ≤ 1000) :
    ValH (tLc (iTup K (tVar i)) (gName j) (tTest (tOp (rIn K false) (tOp (rIxT K) (tVar j) (tC (.int 0))) (tTup (tCons (tC (.str "join")) (tCons (tC (.str "load")) tNil))))) (tOp (rIxT K) (tVar j) (tC (.int 1))) [j]) σ H (fun v H' => ∃ p, v = .ref p ∧ H p = none ∧ Same H H' ∧ H' p = some (.lst ((jl es).map V.int))) := by
  have hal := he.len
  intro Q q
  refine lcF (walk_tup (K := K) (a := t) (xs := as.map V.ref)) (fun R r => ⟨_, hv, t, rfl, ⟨_, SqT.of ht⟩, r⟩) (fun H' s => SqT.of (s _ _ ht)) (by rw [List.length_map]; omega) (fun k => (es.take k).flatMap jvE) rfl (fun k _ => flat_len_take jvE_len _ _) ?_ Q ?_
  · rintro k x H1 H2 hk s1 ⟨rfl, hx⟩
    obtain ⟨a, ha, rfl⟩ := refs_ix hx
    obtain ⟨e, hee, hat⟩ := he.get ha
    obtain ⟨wd, w0, _, w2⟩ := ev_ix0 e
    refine ⟨_, wipe_put σ j _, Same.refl _, fun Q q => q, ?_⟩
    have e1 := take_flat jvE hee
    have an : AnsH (tTest (tOp (rIn K false) (tOp (rIxT K) (tVar j) (tC (.int 0))) (tTup (tCons (tC (.str "join")) (tCons (tC (.str "load")) tNil))))) ((wipe σ [j]).set j (some (.ref a))) H2 (!(jlE e).isEmpty) (Same H2) := fun Q q => ans_in2 (val_ixT (K := K) (val_var (wipe_at hj)) val_c (SqT.of (s1 _ _ hat)) w0) rfl rfl rfl w2 Q (fun H3 ⟨p, np, e3⟩ => q _ (by rw [e3]; exact same_new np))
    cases hs : (jlE e).isEmpty with
    | false =>
      rw [hs] at an
      obtain ⟨r, hr, hr1⟩ : ∃ r, jlE e = [r] ∧ atI (evV e) 1 = some (.int r) := by
        cases e <;> first | (cases hs; done) | exact ⟨_, rfl, ix1 _ _ _⟩
      refine .inl ⟨an, .int r, fun H3 s3 => val_ixT (K := K) (val_var (wipe_at hj)) val_c (SqT.of (s3 _ _ (s1 _ _ hat))) hr1, ?_⟩
      rw [e1]
      unfold jvE
      rw [hr]
      rfl
    | true =>
      rw [hs] at an
      refine .inr ⟨an, ?_⟩
      rw [e1]
      unfold jvE
      rw [List.isEmpty_iff.mp hs, List.map_nil, List.append_nil]
  · rintro v H' ⟨p, rfl, np, sm, hp⟩
    refine q _ _ ⟨p, rfl, np, sm, ?_⟩
    rw [List.length_map, hal, List.take_length, jv_all] at hp
    exact hp
/-- sorted(set(..)) -/
theorem v_readers (hv : σ[i]? = some (some (.ref t))) (ht : H t = some (.tup (as.map V.ref))) (he : EvsAt H as es) (hj : j < σ.length) (hl : es.length < 64) :
    ValH (tCB (rSortedSet w) (tCons (tCB (K15R.rSetOfL K w) (tCons (tLc (iTup K (tVar i)) (gName j) (tTest (tOp (rIn K false) (tOp (rIxT K) (tVar j) (tC (.int 0))) (tTup (tCons (tC (.str "join")) (tCons (tC (.str "load")) tNil))))) (tOp (rIxT K) (tVar j) (tC (.int 1))) [j]) tNil)) tNil)) σ H
      (fun v H' => ∃ (p : Addr) (ns : List Int), v = .ref p ∧ H p = none ∧ Same H H' ∧ H' p = some (.lst (ns.map V.int)) ∧ (∀ r : Int, r ∈ ns ↔ r ∈ jl es) ∧ ns.length < 64) := by
  intro Q q
  unfold tCB tCons
  refine lc_jl (K := K) hv ht he hj (by omega) _ ?_
  rintro v H1 ⟨p, rfl, np, s1, hp⟩
  refine ⟨p, jl es, rfl, SqL.of hp, by have := jl_len es; omega, fun z c hc nz => ?_⟩
  have s2 := s1.trans (same_new (o := SetO w z (fun j => decide (j ∈ jl es)) c) nz)
  refine ⟨z, _, c, rfl, upd_same, hc, fun ns l _ hm hn nl => ?_⟩
  refine q _ _ ⟨l, ns, rfl, ?_, s2.trans (same_new nl), upd_same, fun r => (hm r).trans decide_eq_true_iff, by omega⟩
  cases hh : H l with
  | none => rfl
  | some o => rw [s2 _ _ hh] at nl; cases nl
/-- [("copy", k) for k in range(n)] + [("reader", r) for r in rs] -/
theorem v_every {m i2 j2 : Nat} {rs : Addr} {ns : List Int} (hv : σ[i]? = some (some (.int (m : Int)))) (hm : m ≤ 1000) (hj : j < σ.length) (hv2 : σ[i2]? = some (some (.ref rs))) (hr : H rs = some (.lst (ns.map V.int))) (hj2 : j2 < σ.length) (hn : ns.length ≤ 1000) :
    ValH (tOp rCat (tLc (iRng1 (tCons (tVar i) tNil)) (gName j) tYes (tTup (tCons (tC (.str "copy")) (tCons (tVar j) tNil))) [j]) (tLc (iList K (tVar i2)) (gName j2) tYes (tTup (tCons (tC (.str "reader")) (tCons (tVar j2) tNil))) [j2])) σ H
      (fun v H' => ∃ p as, v = .ref p ∧ H p = none ∧ Same H H' ∧ H' p = some (.lst (as.map V.ref)) ∧ TupsAt H' as (((List.range m).map (fun (k : Nat) => ((true, (k : Int)) : Bool × Int)) ++ ns.map (fun (r : Int) => ((false, r) : Bool × Int))).map gdV)) := by
  intro Q q
  have tupV : ∀ (s : Str) (σ2 : L2.St) (j : Nat) (z : V) (H3 : Hp), σ2[j]? = some (some z) → ValH (tTup (tCons (tC (.str s)) (tCons (tVar j) tNil))) σ2 H3 (fun y H4 => ∃ p, y = .ref p ∧ Same H3 H4 ∧ H4 p = some (.tup [.str s, z])) := by
    intro s σ2 j z H3 h Q q
    exact ⟨_, h, by show 2 ≤ sizeLine; decide, fun p np => q _ _ ⟨p, rfl, same_new np, upd_same⟩⟩
  refine lcT (walk_range (lo := 0) (n := m)) (fun R r => ⟨_, hv, (m : Int), rfl, by omega, by omega, r⟩) (fun _ _ => True.intro) (by omega) (fun k => (List.range k).map (fun (k : Nat) => gdV (true, (k : Int)))) rfl (fun k _ => by rw [List.length_map, List.length_range]; exact Nat.le_refl _) ?_ _ ?_
  · rintro k x H1 H2 hk s1 ⟨rfl, rfl⟩
    refine ⟨_, wipe_put σ j _, Same.refl _, fun Q q => q, .inl ⟨yes_same, _, fun H3 _ => tupV _ _ _ _ _ (wipe_at hj), ?_⟩⟩
    rw [List.range_succ, List.map_append]
    show _ = _ ++ [[_, V.int (0 + (k : Int))]]
    rw [Int.zero_add]
    rfl
  · rintro v H1 ⟨p, as, rfl, np, s1, hp, hT⟩
    refine lcT (walk_list (K := K) (a := rs) (xs := ns.map V.int)) (fun R r => ⟨_, hv2, rs, rfl, ⟨_, SqL.of (s1 _ _ hr)⟩, r⟩) (fun H' s => SqL.of (s _ _ (s1 _ _ hr))) (by rw [List.length_map]; omega) (fun k => (ns.take k).map (fun r => gdV (false, r))) rfl (fun k _ => by rw [List.length_map, List.length_take]; omega) ?_ _ ?_
    · rintro k x H2 H3 hk s2 ⟨rfl, hx⟩
      rw [List.getElem?_map] at hx
      cases hy : ns[k]? with
      | none => rw [hy] at hx; cases hx
      | some r =>
        rw [hy] at hx
        cases hx
        refine ⟨_, wipe_put σ j2 _, Same.refl _, fun Q q => q, .inl ⟨yes_same, _, fun H4 _ => tupV _ _ _ _ _ (wipe_at hj2), ?_⟩⟩
        rw [take_snoc hy, List.map_append]
        rfl
    · rintro v H2 ⟨p2, as2, rfl, np2, s2, hp2, hT2⟩
      rw [List.length_map, List.take_length] at hT2
      have l1 := hT.len
      have l2 := hT2.len
      rw [List.length_map, List.length_range] at l1
      rw [List.length_map] at l2
      refine ⟨p, p2, _, _, rfl, rfl, s2 _ _ hp, hp2, Nat.le_of_lt (line_of (by rw [List.length_map, List.length_map]; omega)), fun l nl => ?_⟩
      have s3 := s1.trans s2
      refine q _ _ ⟨l, as ++ as2, rfl, ?_, s3.trans (same_new nl), by rw [List.map_append]; exact upd_same, ?_⟩
      · cases hh : H l with
        | none => rfl
        | some o => rw [s3 _ _ hh] at nl; cases nl
      · rw [List.map_append, List.map_map, List.map_map]
        exact K15.Paired.append' (TupsAt.same (TupsAt.same hT s2) (same_new nl)) (TupsAt.same hT2 (same_new nl))
end
end K15

set_option Elab.async false
set_option linter.all false
set_option autoImplicit false
set_option maxRecDepth 100000
set_option maxHeartbeats 4000000
namespace K15
open PySem L2
theorem saves_le : ∀ es : List EvS, saves es ≤ es.length
  | [] => Nat.le_refl _
  | e :: es => by
    have := saves_le es
    show (if isSave e = true then 1 else 0) + saves es ≤ es.length + 1
    split <;> omega
abbrev s__law_watch : Stmt := top 31
abbrev N__law_watch : List Str := ["_law_box_here", "_law_table_here", "_law_event_so", "_law_count", "_law_readers_so", "_law_k", "_law_p", "_law_some", "_law_own"]
abbrev P__law_watch : List Str := ["_law_box_here", "_law_table_here"]
theorem sc__law_watch : FnScope N__law_watch P__law_watch (C8.fnScope s__law_watch) := C8.fnScope_by (by decide +kernel)
abbrev s__law_strewn : Stmt := top 26
abbrev N__law_strewn : List Str := ["_law_box_here", "_law_some", "_law_pool", "_law_found"]
abbrev P__law_strewn : List Str := ["_law_box_here", "_law_some"]
theorem sc__law_strewn : FnScope N__law_strewn P__law_strewn (C8.fnScope s__law_strewn) := C8.fnScope_by (by decide +kernel)
/-- some guards -/
def spWatch (K : PySem.W.Frag) : Sp := fun vs H Q _ => ∃ (b t : Addr) (as : List Addr) (es : List EvS) (cc : Int), vs = [.ref b, .ref t] ∧ H t = some (.tup (as.map V.ref)) ∧ EvsAt H as es ∧ es.length < 64 ∧ BoxAt H b cc ∧ cc ≤ 800000 ∧
  ∀ (p : Addr) (gas : List Addr) (gs : List (Bool × Int)) (H' : Hp), BoxAt H' b (cc + 200) → Exc (fun a => a = b) H H' → H' p = some (.tup (gas.map V.ref)) → TupsAt H' gas (gs.map gdV) → gs.length ≤ 200 → (∀ k, (true, k) ∈ gs → 0 ≤ k) → Q (.ref p) H'
/-- the same in another order -/
def spStrewn (K : PySem.W.Frag) : Sp := fun vs H Q _ => ∃ (b l : Addr) (as : List Addr) (cc : Int), vs = [.ref b, .ref l] ∧ H l = some (.lst (as.map V.ref)) ∧ (∀ a, a ∈ as → ∃ xs, H a = some (.tup xs) ∧ okVs xs) ∧ as.length ≤ 200 ∧ BoxAt H b cc ∧ cc ≤ 800000 ∧
  ∀ (p : Addr) (as' : List Addr) (H' : Hp), BoxAt H' b (cc + 200) → Exc (fun a => a = b) H H' → H p = none → H' p = some (.lst (as'.map V.ref)) → as'.Perm as → Q (.ref p) H'
theorem tups_of {H : Hp} : ∀ {bs : List Addr}, (∀ a, a ∈ bs → ∃ xs, H a = some (.tup xs) ∧ okVs xs) → ∃ xss, TupsAt H bs xss ∧ okTs xss
  | [], _ => ⟨[], .nil, fun _ h => (by cases h)⟩
  | b :: bs, h => by
    obtain ⟨xs, h1, h2⟩ := h b List.mem_cons_self
    obtain ⟨xss, h3, h4⟩ := tups_of fun a ha => h a (List.mem_cons_of_mem _ ha)
    refine ⟨xs :: xss, .cons h1 h3, fun ys hy => ?_⟩
    rcases List.mem_cons.mp hy with e | e
    · rw [e]; exact h2
    · exact h4 ys e
theorem isE_map {α β : Type} (f : α → β) (l : List α) : (l.map f).isEmpty = l.isEmpty := by cases l <;> rfl
theorem er_map {α β : Type} (f : α → β) : ∀ (l : List α) (i : Nat), (l.map f).eraseIdx i = (l.eraseIdx i).map f
  | [], _ => rfl
  | _ :: _, 0 => rfl
  | a :: l, i + 1 => by
    show f a :: (l.map f).eraseIdx i = f a :: (l.eraseIdx i).map f
    rw [er_map f l i]
theorem er_perm {α : Type} : ∀ (l : List α) (i : Nat) (h : i < l.length), (l[i] :: l.eraseIdx i).Perm l
  | [], _, h => absurd h (Nat.not_lt_zero _)
  | _ :: _, 0, _ => List.Perm.refl _
  | a :: l, i + 1, h => (List.Perm.swap a _ _).trans ((er_perm l i (Nat.lt_of_succ_lt_succ h)).cons a)
section
variable {P : Program} {w : World} {K : PySem.W.Frag} {mg : Str → Option Value} {base : Heap} {A : Adr}
theorem watch_ok {f : Addr} {fd : FuncData} (T : Txt K mg A) (F : C8.Def K mg "_law_watch" s__law_watch f fd) (b : Binds K fd P__law_watch []) (c_l_take : C8.Cal P w K mg base 1 "_law_take" spTake []) : C8.Cal P w K mg base 2 "_law_watch" (spWatch K) [] := by
  refine C8.cal0 F b .nil sc__law_watch (fun vs H Q E h => ?_) (fun cdv A outer s H vs Q E hr h => ?_)
  · obtain ⟨b, t, as, es, cc, rfl, _⟩ := h
    rfl
  · obtain ⟨b, t, as, es, cc, rfl, ht, he, hl, hb, hcc, q⟩ := h
    have hu := hu_of hr
    refine ⟨_, (pss_cons (ps_set (i := 3) sc__law_watch.nd rfl (Or.inl rfl) (pe_callB (r := rLenQ K) call_len_seq (by rfl) T.b_len PySem.boot_len (pa_cons (pe_lc (own := [("_law_event_so", 2)]) (g := (gName 2)) (by rfl) sc__law_watch.nd  (pi_tup (pv 1)) (blkOk_by (own := [("_law_event_so", 2)]) (N := N__law_watch) (sc := C8.fnScope s__law_watch) (by decide +kernel)) (fun _ _ _ _ _ => (pg_name (i := 2) sc__law_watch.nd rfl (Or.inl rfl))) (fun _ _ _ _ _ => (pts_one (pt_cmpR op_eq (pe_ix (r := rIxT K) ix_tup (pv 2) pe_int (fun _ _ => rfl)) pe_str (nomark _)))) (fun _ _ _ _ _ => (pv 2))) pa_nil)))
      (pss_cons (ps_set (i := 4) sc__law_watch.nd rfl (Or.inl rfl) (pe_callB (cr_sortedSet rfl) (by rfl) T.b_sorted (by decide +kernel) (pa_cons (pe_callTy (K15R.cr_setOfL rfl) (by rfl) T.b_set (by decide +kernel) (pa_cons (pe_lc (own := [("_law_event_so", 2)]) (g := (gName 2)) (by rfl) sc__law_watch.nd  (pi_tup (pv 1)) (blkOk_by (own := [("_law_event_so", 2)]) (N := N__law_watch) (sc := C8.fnScope s__law_watch) (by decide +kernel)) (fun _ _ _ _ _ => (pg_name (i := 2) sc__law_watch.nd rfl (Or.inl rfl))) (fun _ _ _ _ _ => (pts_one (pt_cmpR (r := rIn K false) op_in_seq (pe_ix (r := rIxT K) ix_tup (pv 2) pe_int (fun _ _ => rfl)) (pe_tup (pa_cons pe_str (pa_cons pe_str pa_nil))) (by with_unfolding_all rfl)))) (fun _ _ _ _ _ => (pe_ix (r := rIxT K) ix_tup (pv 2) pe_int (fun _ _ => rfl)))) pa_nil)) pa_nil)))
      (pss_cons (ps_set (i := 7) sc__law_watch.nd rfl (Or.inl rfl) (pe_op op_cat (pe_lc (own := [("_law_k", 5)]) (g := (gName 5)) (by rfl) sc__law_watch.nd  (pi_range1 rfl T.b_range (pa_cons (pv 3) pa_nil)) (blkOk_by (own := [("_law_k", 5)]) (N := N__law_watch) (sc := C8.fnScope s__law_watch) (by decide +kernel)) (fun _ _ _ _ _ => (pg_name (i := 5) sc__law_watch.nd rfl (Or.inl rfl))) (fun _ _ _ _ _ => pts_nil) (fun _ _ _ _ _ => (pe_tup (pa_cons pe_str (pa_cons (pv 5) pa_nil))))) (pe_lc (own := [("_law_p", 6)]) (g := (gName 6)) (by rfl) sc__law_watch.nd  (pi_list (pv 4)) (blkOk_by (own := [("_law_p", 6)]) (N := N__law_watch) (sc := C8.fnScope s__law_watch) (by decide +kernel)) (fun _ _ _ _ _ => (pg_name (i := 6) sc__law_watch.nd rfl (Or.inl rfl))) (fun _ _ _ _ _ => pts_nil) (fun _ _ _ _ _ => (pe_tup (pa_cons pe_str (pa_cons (pv 6) pa_nil)))))))
      (pss_one (ps_ret (pe_callTy call_tuple_of (by rfl) T.b_tuple (by decide +kernel) (pa_cons (pe_lc (own := [("_law_own", 8)]) (g := (gName 8)) (by rfl) sc__law_watch.nd  (pi_list (pv 7)) (blkOk_by (own := [("_law_own", 8)]) (N := N__law_watch) (sc := C8.fnScope s__law_watch) (by decide +kernel)) (fun _ _ _ _ _ => (pg_name (i := 8) sc__law_watch.nd rfl (Or.inl rfl))) (fun _ _ _ _ _ => (pts_one (pt_cmpR op_eq (C8.pe_c c_l_take hr (by decide) rfl (pa_cons (pv 0) (pa_cons pe_int pa_nil))) pe_int (nomark _)))) (fun _ _ _ _ _ => (pv 8))) pa_nil))))))), ?_⟩
    refine st_seq (st_setH (v_count (K := K) (i := 1) (j := 2) rfl ht he (Nat.le_of_ble_eq_true rfl) (by omega)) ?_)
    rintro v H1 ⟨rfl, s1⟩
    refine st_seq (st_setH (v_readers (K := K) (i := 1) (j := 2) rfl (s1 _ _ ht) (TupsAt.same he s1) (Nat.le_of_ble_eq_true rfl) hl) ?_)
    rintro v H2 ⟨p2, ns, rfl, n2, s2, hp2, hns, hnl⟩
    refine st_seq (st_setH (v_every (K := K) (m := saves es) (i := 3) (j := 5) (i2 := 4) (j2 := 6) rfl (by have := saves_le es; omega) (Nat.le_of_ble_eq_true rfl) rfl hp2 (Nat.le_of_ble_eq_true rfl) (by omega)) ?_)
    rintro v H3 ⟨p3, bs, rfl, n3, s3, hp3, hT⟩
    have st := (s1.trans s2).trans s3
    generalize hgs : (List.range (saves es)).map (fun (k : Nat) => ((true, (k : Int)) : Bool × Int)) ++ ns.map (fun (r : Int) => ((false, r) : Bool × Int)) = gs at hT
    have gl : gs.length ≤ 130 := by
      rw [← hgs, List.length_append, List.length_map, List.length_map, List.length_range]
      have := saves_le es
      omega
    have gnn : ∀ k, (true, k) ∈ gs → 0 ≤ k := fun k hk => by
      rw [← hgs] at hk
      rcases List.mem_append.mp hk with hk | hk
      · obtain ⟨j, _, e⟩ := List.mem_map.mp hk
        cases e
        exact Int.natCast_nonneg _
      · obtain ⟨j, _, e⟩ := List.mem_map.mp hk
        cases e
    have hb3 := box_same hb st
    have bl := hT.len
    rw [List.length_map] at bl
    have p3b : p3 ≠ b := fun z => by
      obtain ⟨_, _, _, h1, _⟩ := hb3.ex
      rw [z] at n3
      obtain ⟨_, _, _, h1, _⟩ := hb.ex
      rw [(s1.trans s2) _ _ h1] at n3
      cases n3
    refine ⟨_, rfl, p3, rfl, ⟨_, SqL.of hp3⟩, fun D nD => ?_⟩
    have bD := hb3.ne nD
    have h3D : p3 ≠ D := ne_of_none hp3 nD
    refine lc_list (K := K) (a := p3) (xs := bs.map V.ref) (fun i H4 => Exc (fun a => a = b) H3 H4 ∧ BoxAt H4 b (cc + i) ∧ ∃ (cs : List Addr) (g2 : List (Bool × Int)), H4 D = some (.lst (cs.map V.ref)) ∧ TupsAt H4 cs (g2.map gdV) ∧ g2.length ≤ i ∧ ∀ k, (true, k) ∈ g2 → 0 ≤ k) ?_ (fun i H4 _ h => SqL.of (h.1 _ _ hp3 p3b)) ?_ ?_
    · exact ⟨same_exc (same_new nD) _, (hb3.upd bD).mono (by omega), [], [], upd_same, .nil, Nat.le_refl _, fun _ h => (by cases h)⟩
    · rintro i x H4 hx ⟨e4, hb4, cs, g2, hD, hT2, hg2, hg0⟩
      obtain ⟨a, ha, rfl⟩ := refs_ix hx
      have hil := (List.getElem?_eq_some_iff.mp ha).1
      refine ⟨rfl, _, rfl, b, 3, _, rfl, by decide, by decide, hb4, by omega, fun r H5 r0 r1 hb5 e5 => ?_⟩
      have hD5 := e5 _ _ hD bD.symm
      have hT5 := TupsAt.exc hT2 e5 (noTup_b hb4)
      obtain ⟨xs, hxs, hat⟩ := TupsAt.get hT ha
      rw [List.getElem?_map] at hxs
      have hat5 := (e4.trans e5) _ _ hat (noTup_b hb3 _ _ hat)
      refine ⟨rfl, _, rfl, ite2 (fun _ => ?_) (fun _ => ?_)⟩
      · refine ⟨_, rfl, cs.map V.ref, hD5, line_of (by rw [List.length_map, hT2.len, List.length_map]; omega), ?_⟩
        cases hg : gs[i]? with
        | none => rw [hg] at hxs; cases hxs
        | some g =>
          rw [hg] at hxs
          have hxs : gdV g = xs := Option.some.inj hxs
          have e6 : Exc (fun a => a = D) H5 (upd H5 D (.lst (cs.map V.ref ++ [.ref a]))) := (Exc.refl _ H5).at rfl
          have nt : NoTup (fun a => a = D) H5 := fun a xs e z => by
            have z : a = D := z
            rw [z, hD5] at e
            cases e
          refine ⟨(e4.trans e5).out e6 fun x z => .inr (by have z : x = D := z; rw [z]; exact nD), (hb5.exc e6 bD).mono (by omega), cs ++ [a], g2 ++ [g], by rw [List.map_append]; exact upd_same, ?_, by rw [List.length_append]; show g2.length + 1 ≤ i + 1; omega, fun k hk => ?_⟩
          rotate_left
          · rcases List.mem_append.mp hk with hk | hk
            · exact hg0 k hk
            · exact gnn k (List.mem_singleton.mp hk ▸ List.mem_of_getElem? hg)
          rw [List.map_append]
          exact TupsAt.snoc (TupsAt.exc hT5 e6 nt) (by rw [hxs]; exact e6 _ _ hat5 fun z => nt _ _ hat5 z)
      · exact ⟨e4.trans e5, hb5.mono (by omega), cs, g2, hD5, hT5, by omega, hg0⟩
    · rintro H4 ⟨e4, hb4, cs, g2, hD, hT2, hg2, hg0⟩
      rw [List.length_map] at hg2 hb4
      refine ⟨D, _, rfl, .inl ⟨SqL.of hD, fun k nk => ?_⟩⟩
      have s5 := same_new (o := .tup (cs.map V.ref)) nk
      exact q k cs g2 _ ((box_same hb4 s5).mono (by omega)) (((same_exc st _).trans e4).trans (same_exc s5 _)) upd_same (TupsAt.same hT2 s5) (by omega) hg0
theorem strewn_ok {f : Addr} {fd : FuncData} (T : Txt K mg A) (F : C8.Def K mg "_law_strewn" s__law_strewn f fd) (b : Binds K fd P__law_strewn []) (c_l_take : C8.Cal P w K mg base 1 "_law_take" spTake []) : C8.Cal P w K mg base 2 "_law_strewn" (spStrewn K) [] := by
  refine C8.cal0 F b .nil sc__law_strewn (fun vs H Q E h => ?_) (fun cdv A outer s H vs Q E hr h => ?_)
  · obtain ⟨b, l, as, cc, rfl, _⟩ := h
    rfl
  · obtain ⟨b, l, as, cc, rfl, hl, hT, hn, hb, hcc, q⟩ := h
    have hu := hu_of hr
    refine ⟨_, (pss_cons (ps_par (i := 2) (j := 3) (by rfl) sc__law_strewn.nd rfl rfl (by decide) rfl rfl (pa_cons (pe_callTy call_list_of (by rfl) T.b_list (by decide +kernel) (pa_cons (pv 1) pa_nil)) (pa_cons (pe_lst pa_nil) pa_nil)) (by rfl))
      (pss_cons (ps_while PassesOwn.never (pt_cmpR (r := rNeD K) (op_neD hr.units) (pv 2) (pe_lst pa_nil) (nomark _)) (pss_one (ps_expr (pe_bm PySem.F.plainAttrs_list PySem.F.slot_list_append PySem.F.type_list_append mt_append (pv 3) (pa_cons (pe_bm PySem.F.plainAttrs_list PySem.F.slot_list_pop PySem.F.type_list_pop mt_popAt (pv 2) (pa_cons (C8.pe_c c_l_take hr (by decide) rfl (pa_cons (pv 0) (pa_cons (pe_callB (r := rLenQ K) call_len_seq (by rfl) T.b_len PySem.boot_len (pa_cons (pv 2) pa_nil)) pa_nil))) pa_nil)) pa_nil)))))
      (pss_one (ps_ret (pv 3))))), ?_⟩
    refine ⟨_, rfl, l, _, rfl, .inl (SqL.of hl), fun p1 n1 => ⟨Nat.zero_le _, fun p2 n2 => ⟨_, _, rfl, ?_⟩⟩⟩
    have h12 : p1 ≠ p2 := fun z => by rw [z] at n2; rw [upd_same] at n2; cases n2
    have n2' : H p2 = none := by rw [upd_ne h12.symm] at n2; exact n2
    have s1 := same_new (o := .lst (as.map V.ref)) n1
    have s2 := s1.trans (same_new (o := .lst []) n2)
    have b1 := hb.ne n1
    have b2 := hb.ne n2'
    refine while_by (fun σ H1 => ∃ (bs ds : List Addr), σ = [some (.ref b), some (.ref l), some (.ref p1), some (.ref p2)] ∧ Exc (fun a => a = b) H H1 ∧ BoxAt H1 b (cc + ds.length) ∧ H1 p1 = some (.lst (bs.map V.ref)) ∧ H1 p2 = some (.lst (ds.map V.ref)) ∧ (bs ++ ds).Perm as)
      (fun σ H1 => match H1 p1 with | some (.lst xs) => xs.length | _ => 0) ⟨as, [], rfl, same_exc s2 _, (box_same hb s2).mono (by omega), by rw [upd_ne h12]; exact upd_same, upd_same, by rw [List.append_nil]⟩ ?_ ?_
    · rintro σ H1 ⟨bs, ds, rfl, e1, hb1, h1, h2, pm⟩
      have nt := noTup_b hb
      have hT1 : ∀ a, a ∈ as → ∃ xs, H1 a = some (.tup xs) ∧ okVs xs := fun a ha => by
        obtain ⟨xs, k1, k2⟩ := hT a ha
        exact ⟨xs, e1 _ _ k1 (nt _ _ k1), k2⟩
      obtain ⟨xss, t1, t2⟩ := tups_of (bs := bs) fun a ha => hT1 a (pm.mem_iff.mp (List.mem_append_left _ ha))
      have hlen := pm.length_eq
      rw [List.length_append] at hlen
      have tl := t1.len
      refine ans_neNil (b := !bs.isEmpty) (val_var rfl) (fun H' sm => dp_list (SqL.of (sm _ _ h1)) (TupsAt.same t1 sm) t2) (dLT_shaped t2) (by rw [isE_map]; cases xss <;> cases bs <;> first | rfl | cases tl) _ (fun H2 sm => ?_)
      refine ite2 (fun hne => ?_) (fun hne => ?_)
      · have hpos : 0 < bs.length := by
          cases bs with
          | nil => cases hne
          | cons _ _ => exact Nat.succ_pos _
        have h1' := sm _ _ h1
        have h2' := sm _ _ h2
        refine ⟨_, rfl, .inl ⟨rfl, _, SqL.of h2'⟩, _, rfl, .inl ⟨rfl, _, SqL.of h1'⟩, _, rfl, _, rfl, p1, _, rfl, .inl (SqL.of h1'), b, _, _, rfl, by rw [List.length_map]; omega, by rw [List.length_map]; omega, box_same hb1 sm, by omega, fun r H3 r0 r1 hb3 e3 => ?_⟩
        rw [List.length_map] at r1
        have h13 := e3 _ _ h1' b1.symm
        have h23 := e3 _ _ h2' b2.symm
        have hk : r.toNat < bs.length := by omega
        refine ⟨p1, bs.map V.ref, r, r.toNat, .ref bs[r.toNat], rfl, rfl, h13, by omega, by omega, ?_, ?_, ?_⟩
        · unfold seqIndex?
          rw [List.length_map]
          simp only [Int.not_lt.mpr r0, if_false]
          rw [if_pos]
          simp
          omega
        · rw [List.getElem?_map, List.getElem?_eq_getElem hk]
          rfl
        have h24 : upd H3 p1 (.lst ((bs.map V.ref).eraseIdx r.toNat)) p2 = some (.lst (ds.map V.ref)) := by rw [upd_ne h12.symm]; exact h23
        refine ⟨p2, _, _, rfl, rfl, h24, line_of (by rw [List.length_map]; omega), ?_⟩
        have e4 := (((e1.trans (same_exc sm _)).trans e3).born (p := p1) (o := .lst ((bs.map V.ref).eraseIdx r.toNat)) n1).born (p := p2) (o := .lst (ds.map V.ref ++ [.ref bs[r.toNat]])) n2'
        have h15 : upd (upd H3 p1 (.lst ((bs.map V.ref).eraseIdx r.toNat))) p2 (.lst (ds.map V.ref ++ [.ref bs[r.toNat]])) p1 = some (.lst ((bs.map V.ref).eraseIdx r.toNat)) := by rw [upd_ne h12]; exact upd_same
        refine ⟨⟨bs.eraseIdx r.toNat, ds ++ [bs[r.toNat]], rfl, e4, ?_, ?_, ?_, ?_⟩, ?_⟩
        · have := (hb3.upd b1 (o := .lst ((bs.map V.ref).eraseIdx r.toNat))).upd b2 (o := .lst (ds.map V.ref ++ [.ref bs[r.toNat]]))
          refine this.mono ?_
          rw [List.length_append]
          show cc + (ds.length : Int) + 1 ≤ cc + ((ds.length + 1 : Nat) : Int)
          omega
        · rw [h15, er_map]
        · rw [List.map_append]; exact upd_same
        · refine (List.Perm.trans ?_ pm)
          have q1 := er_perm bs r.toNat hk
          refine List.Perm.trans ?_ (q1.append_right ds)
          show (bs.eraseIdx r.toNat ++ (ds ++ [bs[r.toNat]])).Perm (bs[r.toNat] :: (bs.eraseIdx r.toNat ++ ds))
          rw [← List.append_assoc]
          exact List.perm_append_comm
        · show (match upd _ p2 _ p1 with | some (.lst xs) => xs.length | _ => 0) < (match H1 p1 with | some (.lst xs) => xs.length | _ => 0)
          rw [h15, h1]
          show ((bs.map V.ref).eraseIdx r.toNat).length < (bs.map V.ref).length
          rw [List.length_eraseIdx, List.length_map]
          split <;> omega
      · have hb0 : bs = [] := by
          cases bs with
          | nil => rfl
          | cons _ _ => exact absurd rfl hne
        subst hb0
        have hdl : ds.length ≤ 200 := by
          have : ([] : List Addr).length = 0 := rfl
          omega
        refine ⟨_, rfl, q p2 ds _ ((box_same hb1 sm).mono (by omega)) (e1.trans (same_exc sm _)) n2' (sm _ _ h2) pm⟩
    · intro σ H1 Q Q' hq ⟨v, hv, h0, h⟩
      refine ⟨v, hv, h0, fun p np => ?_⟩
      obtain ⟨d, e, a1, a2, a3, a4, k, ek, hk⟩ := h p np
      exact ⟨d, e, a1, a2, a3, a4, k, ek, hq _ _ hk⟩
end
end K15

set_option Elab.async false
set_option linter.all false
set_option autoImplicit false
set_option maxRecDepth 100000
set_option maxHeartbeats 4000000
namespace K15
open PySem L2
/-- W' is behind W -/
structure Ext (W W' : K15.W) : Prop where
  many : W.many ≤ W'.many
  seats : ∀ r, W.seats r ≠ none → W'.seats r ≠ none
  cps : W.cps.length ≤ W'.cps.length
theorem Ext.refl (W : K15.W) : Ext W W := ⟨Nat.le_refl _, fun _ h => h, Nat.le_refl _⟩
theorem Ext.trans {A B C : K15.W} (a : Ext A B) (b : Ext B C) : Ext A C := ⟨Nat.le_trans a.many b.many, fun r h => b.seats r (a.seats r h), Nat.le_trans a.cps b.cps⟩
theorem put_some {f : Int → Option Int} {r x : Int} {z : Option Int} (hz : z ≠ none) (h : f x ≠ none) : put1 f r z x ≠ none := by
  by_cases e : x = r
  · rw [e, put1_same]; exact hz
  · rw [put1_ne _ _ e]; exact h
theorem ext_step {W : K15.W} {e : EvS} (h : okEv W e) : Ext W (wstep W e) := by
  cases e with
  | put a v => exact ⟨Nat.le_succ _, fun _ h => h, Nat.le_refl _⟩
  | drop a => exact ⟨Nat.le_succ _, fun _ h => h, Nat.le_refl _⟩
  | join r => exact ⟨Nat.le_refl _, fun _ h => put_some (fun z => by cases z) h, Nat.le_refl _⟩
  | read r u => exact ⟨Nat.le_refl _, fun _ h => put_some (fun z => by cases z) h, Nat.le_refl _⟩
  | save r => exact ⟨Nat.le_refl _, fun _ h => h, by show _ ≤ (W.cps ++ [_]).length; rw [List.length_append]; exact Nat.le_add_right _ _⟩
  | load r c =>
    have hl : c.toNat < W.cps.length := by have := h.1; have := h.2; omega
    exact ⟨Nat.le_refl _, fun _ h => put_some (by rw [List.getElem?_eq_getElem hl]; intro z; cases z) h, Nat.le_refl _⟩
  | wait => exact Ext.refl W
/-- whose place it moves -/
def touch : EvS → Int → Prop
  | .join r, x => x = r
  | .read r _, x => x = r
  | .load r _, x => x = r
  | _, _ => False
theorem touch_step {W : K15.W} {e : EvS} {x : Int} (h : ¬ touch e x) : (wstep W e).seats x = W.seats x := by
  cases e with
  | join r => exact put1_ne _ _ h
  | read r u => exact put1_ne _ _ h
  | load r c => exact put1_ne _ _ h
  | put a v => rfl
  | drop a => rfl
  | save r => rfl
  | wait => rfl
/-- whatever part of it is done is valid -/
def SubOk (W : K15.W) (n : Int) (evs : List EvS) : Prop := ∀ sub, List.Sublist sub evs → Valid W sub ∧ Ext W (wrun W sub) ∧ ∀ r : Int, n ≤ r → (wrun W sub).seats r = W.seats r
theorem SubOk.nil (W : K15.W) (n : Int) : SubOk W n [] := fun sub h => by
  rw [List.sublist_nil.mp h]
  exact ⟨True.intro, Ext.refl W, fun _ _ => rfl⟩
theorem SubOk.mono {W : K15.W} {n n' : Int} {evs : List EvS} (h : SubOk W n evs) (l : n ≤ n') : SubOk W n' evs := fun sub hs => ⟨(h sub hs).1, (h sub hs).2.1, fun r hr => (h sub hs).2.2 r (by omega)⟩
theorem SubOk.snoc {W : K15.W} {n n' : Int} {evs : List EvS} {e : EvS} (h : SubOk W n evs) (l : n ≤ n') (k : ∀ W' : K15.W, Ext W W' → (∀ r : Int, n ≤ r → W'.seats r = W.seats r) → okEv W' e) (t : ∀ r, touch e r → r < n') : SubOk W n' (evs ++ [e]) := by
  intro sub hs
  obtain ⟨a, b, rfl, ha, hb⟩ := List.sublist_append_iff.mp hs
  obtain ⟨v, x, s⟩ := h a ha
  rcases List.sublist_cons_iff.mp hb with hb | ⟨r, rfl, hr⟩
  · rw [List.sublist_nil.mp hb, List.append_nil]
    exact ⟨v, x, fun r hr => s r (by omega)⟩
  · rw [List.sublist_nil.mp hr]
    have o := k _ x s
    rw [wrun_snoc]
    refine ⟨valid_snoc v o, x.trans (ext_step o), fun r hr => ?_⟩
    rw [touch_step fun z => by have := t r z; omega]
    exact s r (by omega)
/-- amid the making of a list of events -/
structure Bes (H0 H : Hp) (b D : Addr) (W : K15.W) (evs : List EvS) (as : List Addr) (n : Int) (cc : Int) : Prop where
  ex : Exc (fun a => a = b) H0 H
  nD : H0 D = none
  box : BoxAt H b cc
  lst : H D = some (.lst (as.map V.ref))
  hev : EvsAt H as evs
  oke : ∀ e, e ∈ evs → evOk e
  sub : SubOk W n evs
  bD : b ≠ D
theorem Bes.drawn {H0 H H' : Hp} {b D : Addr} {W : K15.W} {evs : List EvS} {as : List Addr} {n cc cc' : Int} (g : Bes H0 H b D W evs as n cc) (e : Exc (fun a => a = b) H H') (hb : BoxAt H' b cc') : Bes H0 H' b D W evs as n cc' :=
  ⟨g.ex.trans e, g.nD, hb, e _ _ g.lst g.bD.symm, TupsAt.exc g.hev e (noTup_b g.box), g.oke, g.sub, g.bD⟩
theorem Bes.same {H0 H H' : Hp} {b D : Addr} {W : K15.W} {evs : List EvS} {as : List Addr} {n cc : Int} (g : Bes H0 H b D W evs as n cc) (sm : Same H H') : Bes H0 H' b D W evs as n cc := g.drawn (same_exc sm _) (box_same g.box sm)
theorem Bes.mono {H0 H : Hp} {b D : Addr} {W : K15.W} {evs : List EvS} {as : List Addr} {n n' cc cc' : Int} (g : Bes H0 H b D W evs as n cc) (h1 : n ≤ n') (h2 : cc ≤ cc') : Bes H0 H b D W evs as n' cc' :=
  ⟨g.ex, g.nD, g.box.mono h2, g.lst, g.hev, g.oke, g.sub.mono h1, g.bD⟩
theorem Bes.add {H0 H : Hp} {b D p : Addr} {W : K15.W} {evs : List EvS} {as : List Addr} {n n' cc : Int} {e : EvS} {xs : List V} (g : Bes H0 H b D W evs as n cc) (hx : xs = evV e) (np : H p = none) (l : n ≤ n') (k : ∀ W' : K15.W, Ext W W' → (∀ r : Int, n ≤ r → W'.seats r = W.seats r) → okEv W' e) (t : ∀ r, touch e r → r < n') (o : evOk e) :
    Bes H0 (upd (upd H p (.tup xs)) D (.lst (as.map V.ref ++ [.ref p]))) b D W (evs ++ [e]) (as ++ [p]) n' cc := by
  have s1 := same_new (o := .tup xs) np
  have g1 := g.same s1
  generalize hH1 : upd H p (.tup xs) = H1 at g1
  have hp : H1 p = some (.tup (evV e)) := by rw [← hH1, ← hx]; exact upd_same
  have e1 : Exc (fun a => a = D) H1 (upd H1 D (.lst (as.map V.ref ++ [.ref p]))) := (Exc.refl _ H1).at rfl
  have nt : NoTup (fun a => a = D) H1 := fun a xs e z => by
    have z : a = D := z
    rw [z, g1.lst] at e
    cases e
  refine ⟨g1.ex.out e1 fun x z => .inr (by have z : x = D := z; rw [z]; exact g.nD), g.nD, g1.box.exc e1 g.bD, by rw [List.map_append]; exact upd_same, EvsAt.snoc (TupsAt.exc g1.hev e1 nt) (e1 _ _ hp fun z => nt _ _ hp z), fun e' h => ?_, g.sub.snoc l k t, g.bD⟩
  rcases List.mem_append.mp h with h | h
  · exact g.oke e' h
  · rw [List.mem_singleton.mp h]
    exact o
theorem cutS {t1 t2 : TS} {D : Ends} {σ : L2.St} {H : Hp} (Pr : Hp → Prop) (h1 : ∀ D' : Ends, (∀ H', Pr H' → D'.nx σ H') → t1 D' σ H) (h2 : ∀ H', Pr H' → t2 D σ H') : tSeq t1 t2 D σ H := h1 _ h2
abbrev s__law_beside : Stmt := top 33
abbrev N__law_beside : List Str := ["_law_box_here", "_law_w", "_law_folk", "_law_found", "_law_p", "_law_gap", "_law_way"]
abbrev P__law_beside : List Str := ["_law_box_here", "_law_w", "_law_folk"]
theorem sc__law_beside : FnScope N__law_beside P__law_beside (C8.fnScope s__law_beside) := C8.fnScope_by (by decide +kernel)
/-- what happens beside -/
def spBeside : Sp := fun vs H Q _ => ∃ (b w s c : Addr) (folk cc : Int) (W : K15.W) (n : Nat), vs = [.ref b, .ref w, .int folk] ∧ WAt H w s c W n ∧ WOk W ∧ n ≤ 900 ∧ W.many ≤ 900 ∧ b ≠ c ∧ (∀ r : Int, 0 ≤ r → r < folk → W.seats r ≠ none) ∧ BoxAt H b cc ∧ cc ≤ 800000 ∧ 0 < folk ∧ folk ≤ 10 ∧
  ∀ (p : Addr) (as : List Addr) (evs : List EvS) (H' : Hp), BoxAt H' b (cc + 50) → Exc (fun a => a = b) H H' → H p = none → H' p = some (.lst (as.map V.ref)) → EvsAt H' as evs → (∀ e, e ∈ evs → evOk e) → evs.length ≤ 20 → (∀ sub, List.Sublist sub evs → Valid W sub) → Q (.ref p) H'
section
variable {P : Program} {w : World} {K : PySem.W.Frag} {mg : Str → Option Value} {base : Heap} {A : Adr}
theorem beside_ok {f : Addr} {fd : FuncData} (T : Txt K mg A) (F : C8.Def K mg "_law_beside" s__law_beside f fd) (b : Binds K fd P__law_beside []) (c_l_take : C8.Cal P w K mg base 1 "_law_take" spTake []) : C8.Cal P w K mg base 2 "_law_beside" spBeside [] := by
  refine C8.cal0 F b .nil sc__law_beside (fun vs H Q E h => ?_) (fun cdv A outer s H vs Q E hr h => ?_)
  · obtain ⟨b, w, s, c, folk, cc, W, n, rfl, _⟩ := h
    rfl
  · obtain ⟨b, w, s, c, folk, cc, W, n, rfl, hW, ok, hn, hm, hbc, hj, hb, hcc, hf0, hf1, q⟩ := h
    have hu := hu_of hr
    refine ⟨_, (pss_cons (ps_set (i := 3) sc__law_beside.nd rfl (Or.inl rfl) (pe_lst pa_nil))
      (pss_cons (ps_for PassesOwn.never rfl (pi_range1 rfl T.b_range (pa_cons (pv 2) pa_nil)) (pg_name (i := 4) sc__law_beside.nd rfl (Or.inl rfl)) (pss_cons (ps_set (i := 5) sc__law_beside.nd rfl (Or.inl rfl) (pe_op op_sub (pe_dget hu (pv 1) pe_str (fun _ _ => rfl)) (pe_dget hu (pe_dget hu (pv 1) pe_str (fun _ _ => rfl)) (pv 4) (fun _ _ => rfl))))
      (pss_one (ps_if (PW.pt (pw_and (pt_cmpR op_gt (pv 5) pe_int (nomark _)) (pw_and1 (pt_cmpR op_eq (C8.pe_c c_l_take hr (by decide) rfl (pa_cons (pv 0) (pa_cons pe_int pa_nil))) pe_int (nomark _))))) (pss_one (ps_expr (pe_bm PySem.F.plainAttrs_list PySem.F.slot_list_append PySem.F.type_list_append mt_append (pv 3) (pa_cons (pe_tup (pa_cons pe_str (pa_cons (pv 4) (pa_cons (pe_op op_add (pe_op op_add (pe_dget hu (pe_dget hu (pv 1) pe_str (fun _ _ => rfl)) (pv 4) (fun _ _ => rfl)) pe_int) (C8.pe_c c_l_take hr (by decide) rfl (pa_cons (pv 0) (pa_cons (pv 5) pa_nil)))) pa_nil)))) pa_nil)))) pss_nil))))
      (pss_cons (ps_par (i := 6) (j := 4) (by rfl) sc__law_beside.nd rfl rfl (by decide) rfl rfl (pa_cons (C8.pe_c c_l_take hr (by decide) rfl (pa_cons (pv 0) (pa_cons pe_int pa_nil))) (pa_cons (C8.pe_c c_l_take hr (by decide) rfl (pa_cons (pv 0) (pa_cons (pv 2) pa_nil))) pa_nil)) (by rfl))
      (pss_cons (ps_if (pt_cmpR op_eq (pv 6) pe_int (nomark _)) (pss_one (ps_expr (pe_bm PySem.F.plainAttrs_list PySem.F.slot_list_append PySem.F.type_list_append mt_append (pv 3) (pa_cons (pe_tup (pa_cons pe_str pa_nil)) pa_nil)))) pss_nil)
      (pss_cons (ps_if (PW.pt (pw_and (pt_cmpR op_eq (pv 6) pe_int (nomark _)) (pw_and1 (pt_cmpR op_lt (pe_callB (r := rLenQ K) call_len_seq (by rfl) T.b_len PySem.boot_len (pa_cons (pe_dget hu (pv 1) pe_str (fun _ _ => rfl)) pa_nil)) pe_int (nomark _))))) (pss_one (ps_expr (pe_bm PySem.F.plainAttrs_list PySem.F.slot_list_append PySem.F.type_list_append mt_append (pv 3) (pa_cons (pe_tup (pa_cons pe_str (pa_cons (pv 4) pa_nil))) pa_nil)))) pss_nil)
      (pss_cons (ps_if (PW.pt (pw_and (pt_cmpR op_eq (pv 6) pe_int (nomark _)) (pw_and1 (pt_cmpR (r := rNeD K) (op_neD hr.units) (pe_dget hu (pv 1) pe_str (fun _ _ => rfl)) (pe_lst pa_nil) (nomark _))))) (pss_one (ps_expr (pe_bm PySem.F.plainAttrs_list PySem.F.slot_list_append PySem.F.type_list_append mt_append (pv 3) (pa_cons (pe_tup (pa_cons pe_str (pa_cons (pv 4) (pa_cons (C8.pe_c c_l_take hr (by decide) rfl (pa_cons (pv 0) (pa_cons (pe_callB (r := rLenQ K) call_len_seq (by rfl) T.b_len PySem.boot_len (pa_cons (pe_dget hu (pv 1) pe_str (fun _ _ => rfl)) pa_nil)) pa_nil))) pa_nil)))) pa_nil)))) pss_nil)
      (pss_cons (ps_if (pt_cmpR op_eq (pv 6) pe_int (nomark _)) (pss_one (ps_expr (pe_bm PySem.F.plainAttrs_list PySem.F.slot_list_append PySem.F.type_list_append mt_append (pv 3) (pa_cons (pe_tup (pa_cons pe_str (pa_cons (pv 4) pa_nil))) pa_nil)))) pss_nil)
      (pss_one (ps_ret (pv 3)))))))))), ?_⟩
    refine ⟨Nat.zero_le _, fun D nD => ?_⟩
    have bw := (box_w hb hW).1
    have bs := (box_w hb hW).2
    have at_w : ∀ {H1 : Hp}, Exc (fun a => a = b) H H1 → WAt H1 w s c W n := fun e => hW.exc e bw.symm bs.symm hbc.symm
    have g0 : Bes H (upd H D (.lst [])) b D W [] [] 0 cc := ⟨same_exc (same_new nD) _, nD, hb.upd' nD, upd_same, .nil, fun _ h => (by cases h), SubOk.nil W 0, hb.ne nD⟩
    refine ⟨_, rfl, folk, rfl, by omega, by omega, for_range (fun i σ H2 => ∃ (x y : Option V) (as : List Addr) (evs : List EvS), σ = [some (.ref b), some (.ref w), some (.int folk), some (.ref D), x, y, none] ∧ Bes H H2 b D W evs as i (cc + 2 * i) ∧ evs.length ≤ i)
      ⟨none, none, [], [], rfl, g0.mono (Int.le_refl _) (by omega), Nat.le_refl _⟩ ?_ ?_⟩
    · rintro i σ H2 hi ⟨x, y, as, evs, rfl, g, hl⟩
      have W2 := at_w g.ex
      obtain ⟨z, hz⟩ : ∃ z, W.seats (0 + (i : Int)) = some z := by
        cases e : W.seats (0 + (i : Int)) with
        | none => exact absurd e (hj _ (by omega) (by omega))
        | some z => exact ⟨z, rfl⟩
      have gr := W2.gR (0 + (i : Int))
      rw [hz] at gr
      have zz := ok.seats _ z hz
      have hgl := g.hev.len
      have skip : ∀ (x y : Option V) (H4 : Hp) (c' : Int), Bes H H4 b D W evs as i c' → c' ≤ cc + 2 * ((i + 1 : Nat) : Int) → ∃ (x' y' : Option V) (as' : List Addr) (evs' : List EvS), [some (V.ref b), some (.ref w), some (.int folk), some (.ref D), x, y, none] = [some (.ref b), some (.ref w), some (.int folk), some (.ref D), x', y', none] ∧ Bes H H4 b D W evs' as' ((i + 1 : Nat) : Int) (cc + 2 * ((i + 1 : Nat) : Int)) ∧ evs'.length ≤ i + 1 :=
        fun x y H4 c' g4 hc => ⟨x, y, as, evs, rfl, g4.mono (by omega) hc, by omega⟩
      refine ⟨_, rfl, w, _, rfl, W2.gM, _, rfl, w, _, rfl, W2.gS, _, rfl, s, _, rfl, gr, _, _, rfl, rfl, ?_⟩
      refine ⟨_, rfl, _, _, rfl, rfl, _, rfl, ite2 (fun hlt => ?_) (fun _ => iteF (skip _ _ _ _ g (by omega)))⟩
      have hlt' : 0 < (W.many : Int) - z := of_decide_eq_true hlt
      refine ⟨_, rfl, b, 2, _, rfl, by decide, by decide, g.box, by omega, fun r H3 r0 r1 hb3 e3 => ⟨rfl, _, rfl, ite2 (fun _ => ?_) (fun _ => ?_)⟩⟩
      · have g3 := g.drawn e3 hb3
        have W3 := at_w g3.ex
        have gr3 := W3.gR (0 + (i : Int))
        rw [hz] at gr3
        refine ⟨_, rfl, .inl ⟨rfl, _, SqL.of g3.lst⟩, _, rfl, _, rfl, w, _, rfl, W3.gS, _, rfl, s, _, rfl, gr3, _, _, rfl, rfl, _, rfl, _, rfl, b, _, _, rfl, hlt', by omega, hb3, by omega, fun x H4 x0 x1 hb4 e4 => ?_⟩
        have g4 := g3.drawn e4 hb4
        refine ⟨_, _, rfl, rfl, by show 3 ≤ sizeLine; decide, fun p np => ?_⟩
        have hD4 := same_new (o := .tup [.str "read", .int (0 + (i : Int)), .int (z + 1 + x)]) np _ _ g4.lst
        refine ⟨D, _, _, rfl, rfl, hD4, line_of (by rw [List.length_map]; omega), ?_⟩
        have g5 := g4.add (e := .read (0 + (i : Int)) (z + 1 + x)) (n' := ((i + 1 : Nat) : Int)) rfl np (by omega) (fun W' x1 hs => ⟨z, by rw [hs _ (by omega)]; exact hz, by omega, by have := x1.many; omega⟩) (fun r hr => by have hr : r = 0 + (i : Int) := hr; omega) (okE_read ..)
        refine ⟨_, _, _, _, rfl, g5.mono (Int.le_refl _) (by omega), by rw [List.length_append]; show evs.length + 1 ≤ i + 1; omega⟩
      · exact skip _ _ _ _ (g.drawn e3 hb3) (by omega)
    · rintro σ H2 ⟨x, y, as, evs, rfl, g, hl⟩
      have hfn : ((folk.toNat : Nat) : Int) = folk := Int.toNat_of_nonneg (by omega)
      refine ⟨_, rfl, b, 11, _, rfl, by decide, by decide, g.box, by omega, fun way H3 w0 w1 hb3 e3 => ?_⟩
      have g3 := g.drawn e3 hb3
      refine ⟨_, rfl, _, rfl, b, _, _, rfl, hf0, by omega, hb3, by omega, fun pp H4 p0 p1 hb4 e4 => ⟨_, _, rfl, ?_⟩⟩
      have g4 : Bes H H4 b D W evs as folk (cc + 30) := (g3.drawn e4 hb4).mono (by omega) (by omega)
      have hl4 : evs.length ≤ 10 := by omega
      clear g3 g hl e3 e4 hb3 hb4
      let Pr : Nat → Hp → Prop := fun k H5 => ∃ (as : List Addr) (evs : List EvS), Bes H H5 b D W evs as folk (cc + 30 + k) ∧ evs.length ≤ 10 + k
      -- a tuple of one's own at the end
      have add : ∀ (k : Nat) (e : EvS) (xs : List V) (H5 : Hp) (p : Addr) (as : List Addr) (evs : List EvS) (c' : Int), Bes H H5 b D W evs as folk c' → c' ≤ cc + 30 + ((k + 1 : Nat) : Int) → evs.length ≤ 10 + k → xs = evV e → H5 p = none →
          (∀ W' : K15.W, Ext W W' → okEv W' e) → (∀ r, touch e r → r < folk) → evOk e → Pr (k + 1) (upd (upd H5 p (.tup xs)) D (.lst (as.map V.ref ++ [.ref p]))) := by
        intro k e xs H5 p as evs c' g hc hl hx np o1 o2 o3
        exact ⟨_, _, (g.add hx np (Int.le_refl _) (fun W' x1 _ => o1 W' x1) o2 o3).mono (Int.le_refl _) hc, by rw [List.length_append]; show evs.length + 1 ≤ 10 + (k + 1); omega⟩
      have keep : ∀ (k : Nat) (H5 : Hp), Pr k H5 → Pr (k + 1) H5 := fun k H5 ⟨as, evs, g, l⟩ => ⟨as, evs, g.mono (Int.le_refl _) (by omega), by omega⟩
      have sD : ∀ {H5 : Hp} {as : List Addr} {evs : List EvS} {c' : Int} {p : Addr} {o : HO}, Bes H H5 b D W evs as folk c' → H5 p = none → upd H5 p o D = some (.lst (as.map V.ref)) := fun g np => same_new np _ _ g.lst
      dsimp only
      refine cutS (Pr 1) (fun D' hD => ?_) (fun H5 p5 => ?_)
      · refine ⟨_, rfl, rfl, _, rfl, ite2 (fun _ => ?_) (fun _ => hD _ ⟨as, evs, g4.mono (Int.le_refl _) (by omega), by omega⟩)⟩
        refine ⟨_, rfl, .inl ⟨rfl, _, SqL.of g4.lst⟩, by show 1 ≤ sizeLine; decide, fun p np => ⟨D, _, _, rfl, rfl, sD g4 np, line_of (by rw [List.length_map, g4.hev.len]; omega), hD _ ?_⟩⟩
        exact add 0 .wait _ _ _ _ _ _ g4 (by omega) (by omega) rfl np (fun _ _ => True.intro) (fun _ h => h.elim) okE_wait
      refine cutS (Pr 2) (fun D' hD => ?_) (fun H6 p6 => ?_)
      · obtain ⟨as, evs, g5, hl5⟩ := p5
        have W5 := at_w g5.ex
        have skip := hD _ (keep 1 _ ⟨as, evs, g5, hl5⟩)
        refine ⟨_, rfl, rfl, _, rfl, ite2 (fun _ => ?_) (fun _ => iteF skip)⟩
        refine ⟨_, rfl, w, _, rfl, W5.gC, _, _, rfl, .inl (SqL.of W5.hc), _, _, rfl, rfl, _, rfl, ite2 (fun _ => ?_) (fun _ => skip)⟩
        refine ⟨_, rfl, .inl ⟨rfl, _, SqL.of g5.lst⟩, _, rfl, by show 2 ≤ sizeLine; decide, fun p np => ⟨D, _, _, rfl, rfl, sD g5 np, line_of (by rw [List.length_map, g5.hev.len]; omega), hD _ ?_⟩⟩
        refine add 1 (.save pp) _ _ _ _ _ _ g5 (by omega) (by omega) rfl np (fun W' x => ?_) (fun _ h => h.elim) (okE_save ..)
        cases e : W'.seats pp with
        | none => exact absurd e (x.seats _ (hj _ p0 p1))
        | some z => exact ⟨z, e⟩
      refine cutS (Pr 3) (fun D' hD => ?_) (fun H7 p7 => ?_)
      · obtain ⟨as, evs, g5, hl5⟩ := p6
        have W5 := at_w g5.ex
        have skip := hD _ (keep 2 _ ⟨as, evs, g5, hl5⟩)
        refine ⟨_, rfl, rfl, _, rfl, ite2 (fun _ => ?_) (fun _ => iteF skip)⟩
        refine ans_neNil (val_dget (val_var rfl) val_c W5.gC) (fun H5 sm => dp_flats (SqL.of (sm _ _ W5.hc)) (ok_ints _)) (dLV_shaped (ok_ints _)) rfl _ (fun H6 sm => ?_)
        have g6 := g5.same sm
        have W6 := W5.same sm
        refine ite2 (fun hne => ?_) (fun _ => hD _ (keep 2 _ ⟨as, evs, g6, hl5⟩))
        have hpos : 0 < W.cps.length := by
          cases e : W.cps with
          | nil => rw [e] at hne; cases hne
          | cons _ _ => exact Nat.succ_pos _
        refine ⟨_, rfl, .inl ⟨rfl, _, SqL.of g6.lst⟩, _, rfl, _, rfl, _, rfl, w, _, rfl, W6.gC, _, _, rfl, .inl (SqL.of W6.hc), b, _, _, rfl, by rw [List.length_map]; omega, by have := W6.cn; rw [List.length_map]; omega, g6.box, by omega, fun x H7 x0 x1 hb7 e7 => ?_⟩
        rw [List.length_map] at x1
        have g7 := g6.drawn e7 hb7
        refine ⟨by show 3 ≤ sizeLine; decide, fun p np => ⟨D, _, _, rfl, rfl, sD g7 np, line_of (by rw [List.length_map, g7.hev.len]; omega), hD _ ?_⟩⟩
        exact add 2 (.load pp x) _ _ _ _ _ _ g7 (by omega) (by omega) rfl np (fun W' z => ⟨x0, by have := z.cps; omega⟩) (fun r h => by have h : r = pp := h; omega) (okE_load ..)
      refine cutS (Pr 4) (fun D' hD => ?_) (fun H8 p8 => ?_)
      · obtain ⟨as, evs, g5, hl5⟩ := p7
        refine ⟨_, rfl, rfl, _, rfl, ite2 (fun _ => ?_) (fun _ => hD _ (keep 3 _ ⟨as, evs, g5, hl5⟩))⟩
        refine ⟨_, rfl, .inl ⟨rfl, _, SqL.of g5.lst⟩, _, rfl, by show 2 ≤ sizeLine; decide, fun p np => ⟨D, _, _, rfl, rfl, sD g5 np, line_of (by rw [List.length_map, g5.hev.len]; omega), hD _ ?_⟩⟩
        exact add 3 (.join pp) _ _ _ _ _ _ g5 (by omega) (by omega) rfl np (fun _ _ => True.intro) (fun r h => by have h : r = pp := h; omega) (okE_join ..)
      obtain ⟨as, evs, g8, hl8⟩ := p8
      exact ⟨_, rfl, q D as evs H8 (g8.box.mono (by omega)) g8.ex nD g8.lst g8.hev g8.oke (by omega) (fun sub hs => (g8.sub sub hs).1)⟩
end
end K15

set_option Elab.async false
set_option linter.all false
set_option autoImplicit false
set_option maxRecDepth 100000
set_option maxHeartbeats 4000000
namespace K15
open PySem L2
/-- lists of events -/
def LotsAt (H : Hp) (ls : List Addr) (evss : List (List EvS)) : Prop := Paired (fun l evs => ∃ as, H l = some (.lst (as.map V.ref)) ∧ EvsAt H as evs) ls evss
theorem LotsAt.len {H : Hp} {ls : List Addr} {evss : List (List EvS)} (h : LotsAt H ls evss) : ls.length = evss.length := Paired.length h
theorem LotsAt.exc {P : Addr → Prop} {H H' : Hp} {ls : List Addr} {evss : List (List EvS)} (h : LotsAt H ls evss) (e : Exc P H H') (n : NoTup P H) (d : ∀ l, l ∈ ls → ¬ P l) : LotsAt H' ls evss := by
  unfold LotsAt at h ⊢
  induction h with
  | nil => exact .nil
  | cons r t ih =>
    obtain ⟨as, h1, h2⟩ := r
    exact .cons ⟨as, e _ _ h1 (d _ List.mem_cons_self), TupsAt.exc h2 e n⟩ (ih fun l hl => d l (List.mem_cons_of_mem _ hl))
theorem LotsAt.same {H H' : Hp} {ls : List Addr} {evss : List (List EvS)} (h : LotsAt H ls evss) (s : Same H H') : LotsAt H' ls evss := h.exc (same_exc s fun _ => False) (fun _ _ _ z => z) (fun _ _ z => z)
theorem LotsAt.get {H : Hp} {ls : List Addr} {evss : List (List EvS)} (h : LotsAt H ls evss) : ∀ {i : Nat} {l : Addr}, ls[i]? = some l → ∃ evs as, evss[i]? = some evs ∧ H l = some (.lst (as.map V.ref)) ∧ EvsAt H as evs := by
  unfold LotsAt at h
  induction h with
  | nil => intro i l h; simp at h
  | cons r t ih =>
    intro i l hi
    cases i with
    | zero =>
      simp at hi
      subst hi
      obtain ⟨as, h1, h2⟩ := r
      exact ⟨_, as, rfl, h1, h2⟩
    | succ i =>
      rw [List.getElem?_cons_succ] at hi
      obtain ⟨evs, as, h1, h2⟩ := ih hi
      exact ⟨evs, as, by rw [List.getElem?_cons_succ]; exact h1, h2⟩
theorem LotsAt.mem {H : Hp} {ls : List Addr} {evss : List (List EvS)} (h : LotsAt H ls evss) {l : Addr} (hl : l ∈ ls) : ∃ evs as, evs ∈ evss ∧ H l = some (.lst (as.map V.ref)) ∧ EvsAt H as evs := by
  obtain ⟨i, hi⟩ := List.getElem?_of_mem hl
  obtain ⟨evs, as, h1, h2⟩ := h.get hi
  exact ⟨evs, as, List.mem_of_getElem? h1, h2⟩
/-- all together -/
def tot (evss : List (List EvS)) : Nat := (evss.map List.length).sum
theorem tot_cons (e : List EvS) (l : List (List EvS)) : tot (e :: l) = e.length + tot l := by
  unfold tot
  rw [List.map_cons, List.sum_cons]
theorem tot_snoc (l : List (List EvS)) (e : List EvS) : tot (l ++ [e]) = tot l + e.length := by
  unfold tot
  rw [List.map_append, List.sum_append]
  simp
section
variable {σ : L2.St} {H : Hp} {ta tb : TE} {i j : Int}
theorem Val.int {v : V} (h : Val ta σ H v) : ValH ta σ H (fun v' H' => v' = v ∧ Same H H') := fun Q q => h Q (q v H ⟨rfl, Same.refl H⟩)
theorem valH_I0 {g : Int → Int → V} (ha : ValH ta σ H (fun v H' => v = .int i ∧ Same H H')) (hb : ∀ H', Same H H' → ValH tb σ H' (fun v H'' => v = .int j ∧ Same H' H'')) : ValH (tOp (rI0 g) ta tb) σ H (fun v H' => v = g i j ∧ Same H H') := by
  intro Q q
  refine ha _ ?_
  rintro v H1 ⟨rfl, s1⟩
  refine hb H1 s1 _ ?_
  rintro v H2 ⟨rfl, s2⟩
  exact ⟨i, j, rfl, rfl, q _ _ ⟨rfl, s1.trans s2⟩⟩
theorem ansH_I0 {g : Int → Int → Bool} {b : Bool} (ha : ValH ta σ H (fun v H' => v = .int i ∧ Same H H')) (hb : ∀ H', Same H H' → ValH tb σ H' (fun v H'' => v = .int j ∧ Same H' H'')) (e : g i j = b) : AnsH (tTest (tOp (rI0 fun i j => .bl (g i j)) ta tb)) σ H b (Same H) := by
  intro Q q
  refine valH_I0 (g := fun i j => .bl (g i j)) ha hb _ ?_
  rintro v H1 ⟨rfl, s1⟩
  exact ⟨b, congrArg V.bl e, q _ s1⟩
end
def lenV (e : List EvS) : V := .int (e.length : Int)
section
variable {σ : L2.St} {H : Hp} {K : PySem.W.Frag} {D : Addr} {ls : List Addr} {evss : List (List EvS)} {i j : Nat}
/-- sum([len(x) for x in lots]) -/
theorem v_sumlen (hv : σ[i]? = some (some (.ref D))) (hD : H D = some (.lst (ls.map V.ref))) (hl : LotsAt H ls evss) (hj : j < σ.length) (hn : ls.length ≤ 1000) :
    ValH (tCB (rSum K) (tCons (tLc (iList K (tVar i)) (gName j) tYes (tCB (rLenQ K) (tCons (tVar j) tNil)) [j]) tNil)) σ H (fun v H' => v = .int ((tot evss : Nat) : Int) ∧ Same H H') := by
  intro Q q
  have hal := hl.len
  unfold tCB tCons
  refine lcF (walk_list (K := K) (a := D) (xs := ls.map V.ref)) (fun R r => ⟨_, hv, D, rfl, ⟨_, SqL.of hD⟩, r⟩) (fun H' s => SqL.of (s _ _ hD)) (by rw [List.length_map]; omega) (fun k => (evss.take k).map lenV) rfl (fun k _ => by rw [List.length_map, List.length_take]; omega) ?_ _ ?_
  · rintro k x H1 H2 hk s1 ⟨rfl, hx⟩
    obtain ⟨a, ha, rfl⟩ := refs_ix hx
    obtain ⟨evs, as, he, h1, h2⟩ := hl.get ha
    refine ⟨_, wipe_put σ j _, Same.refl _, fun Q q => q, .inl ⟨yes_same, lenV evs, fun H3 s3 => ?_, by rw [take_snoc he, List.map_append]; rfl⟩⟩
    intro Q q
    refine ⟨_, wipe_at hj, a, _, rfl, .inl (SqL.of (s3 _ _ (s1 _ _ h1))), ?_⟩
    rw [List.length_map, h2.len]
    exact q
  · rintro v H1 ⟨p, rfl, np, s1, hp⟩
    rw [List.length_map, hal, List.take_length] at hp
    refine ⟨p, evss.map fun e => (e.length : Int), rfl, SqL.of (by rw [List.map_map]; exact hp), ?_⟩
    have e : (evss.map fun e => (e.length : Int)).sum = ((tot evss : Nat) : Int) := by
      clear hp s1 np hal hn hj hl hD hv q
      induction evss with
      | nil => rfl
      | cons e l ih =>
        rw [List.map_cons, List.sum_cons, ih, tot_cons]
        omega
    rw [e]
    exact q _ _ ⟨rfl, s1⟩
end
theorem Names.of {xs : List V} (h : xs.all (fun x => match x with | .str k => PyData.strOk k | _ => false) = true) : Names xs := fun x hx => by
  have := List.all_eq_true.mp h x hx
  cases x <;> first | (cases this; done) | exact ⟨_, rfl, this⟩
/-- only puts and drops -/
def Lot (evs : List EvS) : Prop := evs ≠ [] ∧ evs.length ≤ 4 ∧ ∀ e, e ∈ evs → isPut e = true ∧ evOk e
abbrev s__law_lots : Stmt := top 32
abbrev N__law_lots : List Str := ["_law_box_here", "_law_most", "_law_names", "_law_lots_here", "_law_word", "_law_signs", "_law_sign", "_law_some", "_law_own_so"]
abbrev P__law_lots : List Str := ["_law_box_here", "_law_most", "_law_names"]
theorem sc__law_lots : FnScope N__law_lots P__law_lots (C8.fnScope s__law_lots) := C8.fnScope_by (by decide +kernel)
/-- what each key is to do -/
def spLots (K : PySem.W.Frag) : Sp := fun vs H Q _ => ∃ (b nm : Addr) (most cc : Int) (names : List V), vs = [.ref b, .int most, .ref nm] ∧ BoxAt H b cc ∧ cc ≤ 800000 ∧ nm ≠ b ∧ SqL K H nm names ∧ Names names ∧ names.length ≤ 3 ∧
  ∀ (p : Addr) (ls : List Addr) (evss : List (List EvS)) (H' : Hp), BoxAt H' b (cc + 50) → Exc (fun a => a = b) H H' → H p = none → H' p = some (.lst (ls.map V.ref)) → LotsAt H' ls evss → (∀ l, l ∈ ls → H l = none) → ls.Nodup → p ∉ ls → (∀ e, e ∈ evss → Lot e) → evss.length ≤ 3 → Q (.ref p) H'
def signs6 : List V := [.str "pd", .str "pd", .str "ppd", .str "pdpd", .str "dpd", .str "pdp"]
theorem signs_ok {x : V} (h : x ∈ signs6) : ∃ z, x = .str z ∧ 0 < z.cps.size ∧ z.cps.size ≤ 4 := by
  have : signs6.all (fun x => match x with | .str z => decide (0 < z.cps.size) && decide (z.cps.size ≤ 4) | _ => false) = true := by decide +kernel
  have := List.all_eq_true.mp this x h
  cases x <;> first | (cases this; done) | skip
  rename_i z
  have this : (decide (0 < z.cps.size) && decide (z.cps.size ≤ 4)) = true := this
  rw [Bool.and_eq_true] at this
  exact ⟨z, rfl, of_decide_eq_true this.1, of_decide_eq_true this.2⟩
section
variable {P : Program} {w : World} {K : PySem.W.Frag} {mg : Str → Option Value} {base : Heap} {A : Adr}
theorem lots_ok {f : Addr} {fd : FuncData} (T : Txt K mg A) (F : C8.Def K mg "_law_lots" s__law_lots f fd) (b : Binds K fd P__law_lots []) (c_l_take : C8.Cal P w K mg base 1 "_law_take" spTake []) : C8.Cal P w K mg base 2 "_law_lots" (spLots K) [] := by
  refine C8.cal0 F b .nil sc__law_lots (fun vs H Q E h => ?_) (fun cdv A outer s H vs Q E hr h => ?_)
  · obtain ⟨b, nm, most, cc, names, rfl, _⟩ := h
    rfl
  · obtain ⟨b, nm, most, cc, names, rfl, hb, hcc, hnb, hN, nN, hnl, q⟩ := h
    have hu := hu_of hr
    refine ⟨_, (pss_cons (ps_set (i := 3) sc__law_lots.nd rfl (Or.inl rfl) (pe_lst pa_nil))
      (pss_cons (ps_for PassesOwn.never rfl (pi_list (pv 2)) (pg_name (i := 4) sc__law_lots.nd rfl (Or.inr rfl)) (pss_cons (ps_set (i := 5) sc__law_lots.nd rfl (Or.inl rfl) (pe_ix (r := rIxL K) ix_list (pe_lst (pa_cons pe_str (pa_cons pe_str (pa_cons pe_str (pa_cons pe_str (pa_cons pe_str (pa_cons pe_str pa_nil))))))) (C8.pe_c c_l_take hr (by decide) rfl (pa_cons (pv 0) (pa_cons pe_int pa_nil))) (fun _ _ => rfl)))
      (pss_cons (ps_setLc (i := 7) (own := [("_law_sign", 6)]) (g := (gName 6)) (by rfl) sc__law_lots.nd rfl rfl (sw_true rfl rfl rfl (by decide +kernel)) (pi_str (pv 5)) (blkOk_by (own := [("_law_sign", 6)]) (N := N__law_lots) (sc := C8.fnScope s__law_lots) (by decide +kernel)) (fun _ _ _ _ _ => (pg_name (i := 6) sc__law_lots.nd rfl (Or.inl rfl))) (fun _ _ _ _ _ => pts_nil) (fun _ _ _ _ _ => (pe_ifExp (pt_cmpR op_eq (pv 6) pe_str (nomark _)) (pe_tup (pa_cons pe_str (pa_cons (pv 4) (pa_cons (C8.pe_c c_l_take hr (by decide) rfl (pa_cons (pv 0) (pa_cons pe_int pa_nil))) pa_nil)))) (pe_tup (pa_cons pe_str (pa_cons (pv 4) pa_nil))))))
      (pss_one (ps_if (pt_cmpR op_le (pe_op op_add (pe_callB (r := rSum K) (cr_sum rfl) (by rfl) T.b_sum (by decide +kernel) (pa_cons (pe_lc (own := [("_law_own_so", 8)]) (g := (gName 8)) (by rfl) sc__law_lots.nd  (pi_list (pv 3)) (blkOk_by (own := [("_law_own_so", 8)]) (N := N__law_lots) (sc := C8.fnScope s__law_lots) (by decide +kernel)) (fun _ _ _ _ _ => (pg_name (i := 8) sc__law_lots.nd rfl (Or.inl rfl))) (fun _ _ _ _ _ => pts_nil) (fun _ _ _ _ _ => (pe_callB (r := rLenQ K) call_len_seq (by rfl) T.b_len PySem.boot_len (pa_cons (pv 8) pa_nil)))) pa_nil)) (pe_callB (r := rLenQ K) call_len_seq (by rfl) T.b_len PySem.boot_len (pa_cons (pv 7) pa_nil))) (pv 1) (nomark _)) (pss_one (ps_expr (pe_bm PySem.F.plainAttrs_list PySem.F.slot_list_append PySem.F.type_list_append mt_append (pv 3) (pa_cons (pv 7) pa_nil)))) pss_nil)))))
      (pss_one (ps_ret (pv 3))))), ?_⟩
    refine ⟨Nat.zero_le _, fun D nD => ?_⟩
    have bD := hb.ne nD
    refine ⟨_, rfl, nm, rfl, ⟨names, (same_exc (same_new nD) (fun _ => False)).seq hN (fun z => z)⟩, for_list (K := K) (a := nm) (xs := names) (fun i σ H1 => ∃ (x1 x2 x3 : Option V) (ls : List Addr) (evss : List (List EvS)), σ = [some (.ref b), some (.int most), some (.ref nm), some (.ref D), x1, x2, none, x3, none] ∧
      Exc (fun a => a = b) H H1 ∧ BoxAt H1 b (cc + 6 * i) ∧ H1 D = some (.lst (ls.map V.ref)) ∧ LotsAt H1 ls evss ∧ (∀ l, l ∈ ls → H l = none) ∧ ls.Nodup ∧ D ∉ ls ∧ (∀ e, e ∈ evss → Lot e) ∧ evss.length ≤ i)
      ⟨none, none, none, [], [], rfl, same_exc (same_new nD) _, (hb.upd' nD).mono (by omega), upd_same, .nil, fun _ h => (by cases h), List.nodup_nil, (fun h => by cases h), fun _ h => (by cases h), Nat.le_refl _⟩ (fun i σ H1 _ ⟨_, _, _, _, _, _, e1, _⟩ => e1.seq hN hnb) ?_ ?_⟩
    · rintro i x σ H1 hi ⟨x1, x2, x3, ls, evss, rfl, e1, hb1, hD1, hL1, hn1, hd1, hD0, ho1, hl1⟩
      obtain ⟨k, rfl, hk⟩ := nN x (List.mem_of_getElem? hi)
      have hi3 : i < 3 := by have := (List.getElem?_eq_some_iff.mp hi).1; omega
      refine ⟨by show 6 ≤ sizeLine; decide, fun g6 n6 => ?_⟩
      have s6 := same_new (o := .lst signs6) n6
      have b6 := hb1.ne n6
      refine ⟨_, rfl, b, 6, _, rfl, by decide, by decide, box_same hb1 s6, by omega, fun r H2 r0 r1 hb2 e2 => ?_⟩
      have hr6 : r.toNat < signs6.length := by show r.toNat < 6; omega
      have ex := atI_nat (List.getElem?_eq_getElem hr6)
      rw [Int.toNat_of_nonneg r0] at ex
      obtain ⟨z, hz, z0, z4⟩ := signs_ok (List.getElem_mem hr6)
      rw [hz] at ex
      refine ⟨g6, signs6, r, _, rfl, rfl, SqL.of (e2 _ _ upd_same b6.symm), ex, ?_⟩
      have e2' := (e1.trans (same_exc s6 _)).trans e2
      have hD2 := e2 _ _ (s6 _ _ hD1) bD.symm
      have nls : ∀ l, l ∈ ls → l ≠ b := fun l hl z => by
        obtain ⟨_, _, _, q1, _⟩ := hb.ex
        rw [← z, hn1 l hl] at q1
        cases q1
      have hL2 : LotsAt H2 ls evss := (hL1.same s6).exc e2 (noTup_b (box_same hb1 s6)) nls
      have nt2 := noTup_b hb2
      dsimp only [gName]
      refine ⟨_, rfl, z, rfl, fun M nM => ?_⟩
      have bM := hb2.ne nM
      have DM : D ≠ M := ne_of_none hD2 nM
      have nM0 : H M = none := e2'.none nM bM.symm
      refine lc_it (walk_str (z := z)) (fun j H3 => Exc (fun a => a = b) H2 H3 ∧ BoxAt H3 b (cc + 6 * i + 1 + j) ∧ ∃ (as : List Addr) (evs : List EvS), H3 M = some (.lst (as.map V.ref)) ∧ EvsAt H3 as evs ∧ (∀ e, e ∈ evs → isPut e = true ∧ evOk e) ∧ evs.length = j)
        ⟨same_exc (same_new nM) _, (hb2.upd' nM).mono (by omega), [], [], upd_same, .nil, fun _ h => (by cases h), rfl⟩ (fun _ _ _ _ => True.intro) ?_ ?_
      · rintro j x H3 H4 hj ⟨e3, hb3, as, evs, hM, hE, ho, hl⟩ ⟨rfl, c, hc, rfl⟩
        refine ⟨rfl, ?_⟩
        unfold tYes
        refine iteT ?_
        -- a new event at the end
        have add : ∀ (e : EvS) (xs : List V) (H5 : Hp) (p : Addr), Exc (fun a => a = b) H4 H5 → BoxAt H5 b (cc + 6 * i + 1 + ((j + 1 : Nat) : Int)) → xs = evV e → isPut e = true → evOk e → H5 p = none →
            ∃ acc, upd H5 p (.tup xs) M = some (.lst acc) ∧ acc.length < sizeLine ∧ (Exc (fun a => a = b) H2 (upd (upd H5 p (.tup xs)) M (.lst (acc ++ [.ref p]))) ∧ BoxAt (upd (upd H5 p (.tup xs)) M (.lst (acc ++ [.ref p]))) b (cc + 6 * i + 1 + ((j + 1 : Nat) : Int)) ∧
              ∃ (as : List Addr) (evs : List EvS), upd (upd H5 p (.tup xs)) M (.lst (acc ++ [.ref p])) M = some (.lst (as.map V.ref)) ∧ EvsAt (upd (upd H5 p (.tup xs)) M (.lst (acc ++ [.ref p]))) as evs ∧ (∀ e, e ∈ evs → isPut e = true ∧ evOk e) ∧ evs.length = j + 1) := by
          intro e xs H5 p e5 hb5 hx o1 o2 np
          have s7 := same_new (o := .tup xs) np
          have hM5 := e5 _ _ hM bM.symm
          have hM7 := s7 _ _ hM5
          have hE5 := TupsAt.exc hE e5 (noTup_b hb3)
          refine ⟨as.map V.ref, hM7, line_of (by rw [List.length_map, hE.len]; omega), ?_⟩
          generalize hH7 : upd H5 p (.tup xs) = H7 at s7 hM7
          have hp : H7 p = some (.tup (evV e)) := by rw [← hH7, ← hx]; exact upd_same
          have e8 : Exc (fun a => a = M) H7 (upd H7 M (.lst (as.map V.ref ++ [.ref p]))) := (Exc.refl _ H7).at rfl
          have nt : NoTup (fun a => a = M) H7 := fun a xs e z => by
            have z : a = M := z
            rw [z, hM7] at e
            cases e
          refine ⟨((e3.trans e5).trans (same_exc s7 _)).out e8 fun x z => .inr (by have z : x = M := z; rw [z]; exact nM), (box_same hb5 s7).exc e8 bM, as ++ [p], evs ++ [e], by rw [List.map_append]; exact upd_same, EvsAt.snoc (TupsAt.exc (TupsAt.same hE5 s7) e8 nt) (e8 _ _ hp fun z => nt _ _ hp z), fun e' h => ?_, by rw [List.length_append, hl]; rfl⟩
          rcases List.mem_append.mp h with h | h
          · exact ho e' h
          · rw [List.mem_singleton.mp h]
            exact ⟨o1, o2⟩
        refine ⟨_, rfl, rfl, _, rfl, ite2 (fun _ => ?_) (fun _ => ?_)⟩
        · refine ⟨_, rfl, _, rfl, b, 9, _, rfl, by decide, by decide, hb3, by omega, fun x H5 x0 x1 hb5 e5 => ⟨by show 3 ≤ sizeLine; decide, fun p np => ?_⟩⟩
          exact add (.put k x) _ H5 p e5 (hb5.mono (by omega)) rfl rfl (okE_put hk x) np
        · refine ⟨_, rfl, by show 2 ≤ sizeLine; decide, fun p np => ?_⟩
          exact add (.drop k) _ H4 p (Exc.refl _ _) (hb3.mono (by omega)) rfl rfl (okE_drop hk) np
      · rintro H3 ⟨e3, hb3, as, evs, hM, hE, ho, hl⟩
        have hD3 := e3 _ _ hD2 bD.symm
        have hL3 : LotsAt H3 ls evss := hL2.exc e3 nt2 nls
        dsimp only [gName]
        have hlt := hL3.len
        have vs := v_sumlen (K := K) (σ := (((([some (.ref b), some (.int most), some (.ref nm), some (.ref D), x1, x2, none, x3, none] : L2.St).set 4 (some (.str k))).set 5 (some (.str z))).set 7 (some (.ref M)))) (i := 3) (j := 8) rfl hD3 hL3 (Nat.le_of_ble_eq_true rfl) (by omega)
        have vl : ∀ H', Same H3 H' → ValH (tCB (rLenQ K) (tCons (tVar 7) tNil)) (((([some (.ref b), some (.int most), some (.ref nm), some (.ref D), x1, x2, none, x3, none] : L2.St).set 4 (some (.str k))).set 5 (some (.str z))).set 7 (some (.ref M))) H' (fun v H'' => v = .int ((as.map V.ref).length : Int) ∧ Same H' H'') := fun H' sm => Val.int (val_len (K := K) (val_var rfl) (.inl (SqL.of (sm _ _ hM))))
        have zs : z.cps.size = evs.length := hl.symm
        have next : ∀ (H4 : Hp), Same H3 H4 → Exc (fun a => a = b) H H4 ∧ BoxAt H4 b (cc + 6 * ((i + 1 : Nat) : Int)) ∧ H4 D = some (.lst (ls.map V.ref)) ∧ LotsAt H4 ls evss ∧ H4 M = some (.lst (as.map V.ref)) ∧ EvsAt H4 as evs := fun H4 sm =>
          ⟨(e2'.trans e3).trans (same_exc sm _), (box_same hb3 sm).mono (by omega), sm _ _ hD3, hL3.same sm, sm _ _ hM, TupsAt.same hE sm⟩
        by_cases hc : ((tot evss : Nat) : Int) + ((as.map V.ref).length : Int) ≤ most
        · refine st_yesH (ansH_I0 (valH_I0 vs vl) (fun H' sm => Val.int (val_var rfl)) (decide_eq_true hc)) (fun H4 sm => ?_)
          obtain ⟨f1, f2, f3, f4, f5, f6⟩ := next H4 sm
          refine ⟨_, rfl, .inl ⟨rfl, _, SqL.of f3⟩, _, rfl, D, _, _, rfl, rfl, f3, line_of (by rw [List.length_map]; omega), ?_⟩
          have e9 : Exc (fun a => a = D) H4 (upd H4 D (.lst (ls.map V.ref ++ [.ref M]))) := (Exc.refl _ H4).at rfl
          have nt : NoTup (fun a => a = D) H4 := fun a xs e z => by
            have z : a = D := z
            rw [z, f3] at e
            cases e
          have nlD : ∀ l, l ∈ ls → ¬ l = D := fun l hl z => hD0 (z ▸ hl)
          have hMls : M ∉ ls := fun h => by
            obtain ⟨_, _, _, q1, _⟩ := hL2.mem h
            rw [q1] at nM
            cases nM
          refine ⟨_, _, _, ls ++ [M], evss ++ [evs], rfl, f1.out e9 fun x z => .inr (by have z : x = D := z; rw [z]; exact nD), f2.exc e9 bD, by rw [List.map_append]; exact upd_same, ?_, ?_, ?_, ?_, ?_, by rw [List.length_append]; show evss.length + 1 ≤ i + 1; omega⟩
          · exact Paired.append' (LotsAt.exc f4 e9 nt nlD) (.cons ⟨as, e9 _ _ f5 DM.symm, TupsAt.exc f6 e9 nt⟩ .nil)
          · intro l h
            rcases List.mem_append.mp h with h | h
            · exact hn1 l h
            · rw [List.mem_singleton.mp h]
              exact nM0
          · refine List.nodup_append.mpr ⟨hd1, List.nodup_cons.mpr ⟨List.not_mem_nil, List.nodup_nil⟩, fun x hx y hy => ?_⟩
            rw [List.mem_singleton.mp hy]
            intro z
            exact hMls (z ▸ hx)
          · intro h
            rcases List.mem_append.mp h with h | h
            · exact hD0 h
            · exact DM (List.mem_singleton.mp h)
          · intro e h
            rcases List.mem_append.mp h with h | h
            · exact ho1 e h
            · rw [List.mem_singleton.mp h]
              refine ⟨fun z => ?_, by omega, ho⟩
              rw [z] at zs
              have : ([] : List EvS).length = 0 := rfl
              omega
        · refine st_noH (ansH_I0 (valH_I0 vs vl) (fun H' sm => Val.int (val_var rfl)) (decide_eq_false hc)) (fun H4 sm => ?_)
          obtain ⟨f1, f2, f3, f4, f5, f6⟩ := next H4 sm
          exact ⟨_, _, _, ls, evss, rfl, f1, f2, f3, f4, hn1, hd1, hD0, ho1, by omega⟩
    · rintro σ H1 ⟨x1, x2, x3, ls, evss, rfl, e1, hb1, hD1, hL1, hn1, hd1, hD0, ho1, hl1⟩
      exact ⟨_, rfl, q D ls evss H1 (hb1.mono (by omega)) e1 nD hD1 hL1 hn1 hd1 hD0 ho1 (by omega)⟩
end
end K15

set_option Elab.async false
set_option linter.all false
set_option autoImplicit false
set_option maxRecDepth 100000
set_option maxHeartbeats 4000000
namespace K15
open PySem L2
/-- all that the making of a table may change -/
def P5 (b w s c D : Addr) : Addr → Prop := fun x => x = b ∨ x = w ∨ x = s ∨ x = c ∨ x = D
theorem Gen.noTup {H0 H : Hp} {b w s c D : Addr} {ews es : List EvS} {as : List Addr} {n : Nat} {cc : Int} (g : Gen H0 H b w s c D ews es as n cc) : NoTup (P5 b w s c D) H := by
  intro a xs e z
  rcases z with z | z | z | z | z
  · exact noTup_b g.box a xs e z
  · exact g.wat.noTup a xs e (.inl z)
  · exact g.wat.noTup a xs e (.inr (.inl z))
  · exact g.wat.noTup a xs e (.inr (.inr z))
  · rw [z, g.lst] at e
    cases e
/-- an object of another's -/
theorem Gen.other {H0 H : Hp} {b w s c D l : Addr} {o : HO} {ews es : List EvS} {as as' : List Addr} {n : Nat} {cc : Int} (g : Gen H0 H b w s c D ews es as n cc) (hl : H l = some (.lst (as'.map V.ref))) (h0 : H0 l = none) (nb : l ≠ b) (nc : l ≠ c) (nD : l ≠ D) : Gen H0 (upd H l o) b w s c D ews es as n cc := by
  have e : Exc (fun a => a = l) H (upd H l o) := (Exc.refl _ H).at rfl
  have nt : NoTup (fun a => a = l) H := fun a xs e z => by
    have z : a = l := z
    rw [z, hl] at e
    cases e
  have nw : w ≠ l := fun z => by
    have := g.wat.hd
    rw [z, hl] at this
    cases this
  have ns : s ≠ l := fun z => by
    obtain ⟨_, h2, _⟩ := g.wat.hs
    rw [z, hl] at h2
    cases h2
  exact ⟨g.ex.out e fun x z => .inr (by have z : x = l := z; rw [z]; exact h0), g.nw, g.ns, g.nc, g.nD, g.box.exc e nb.symm, g.wat.exc e nw ns nc.symm, g.val, g.oke, e _ _ g.lst nD.symm, TupsAt.exc g.evs e nt, g.dc, g.bc, g.bD⟩
def LotW (evs : List EvS) : Prop := evs.length ≤ 4 ∧ ∀ e, e ∈ evs → isPut e = true ∧ evOk e
/-- what is still to come -/
structure Lts (H0 H : Hp) (b c D Lp : Addr) (ls : List Addr) (evss : List (List EvS)) : Prop where
  lots : LotsAt H ls evss
  lp : H Lp = some (.lst (ls.map V.ref))
  nod : ls.Nodup
  new : ∀ l, l ∈ ls → H0 l = none ∧ l ≠ b ∧ l ≠ c ∧ l ≠ D ∧ l ≠ Lp
  np : Lp ≠ b ∧ Lp ≠ c ∧ Lp ≠ D
  ok : ∀ e, e ∈ evss → LotW e
theorem lst_out {H0 H : Hp} {b w s c D l : Addr} {xs : List V} {ews es : List EvS} {as : List Addr} {n : Nat} {cc : Int} (g : Gen H0 H b w s c D ews es as n cc) (hl : H l = some (.lst xs)) (nb : l ≠ b) (nc : l ≠ c) (nD : l ≠ D) : ¬ P5 b w s c D l := by
  intro z
  rcases z with z | z | z | z | z
  · exact nb z
  · rw [z, g.wat.hd] at hl
    cases hl
  · obtain ⟨_, h2, _⟩ := g.wat.hs
    rw [z, h2] at hl
    cases hl
  · exact nc z
  · exact nD z
theorem Lts.step {H0 H H' : Hp} {b w s c D Lp : Addr} {ls : List Addr} {evss : List (List EvS)} {ews es : List EvS} {as : List Addr} {n : Nat} {cc : Int} (t : Lts H0 H b c D Lp ls evss) (g : Gen H0 H b w s c D ews es as n cc) (e : Exc (P5 b w s c D) H H') : Lts H0 H' b c D Lp ls evss := by
  refine ⟨t.lots.exc e g.noTup fun l hl => ?_, e _ _ t.lp (lst_out g t.lp t.np.1 t.np.2.1 t.np.2.2), t.nod, t.new, t.np, t.ok⟩
  obtain ⟨_, _, _, h1, _⟩ := t.lots.mem hl
  obtain ⟨_, h3, h4, h5, _⟩ := t.new l hl
  exact lst_out g h1 h3 h4 h5
theorem Lts.same {H0 H H' : Hp} {b c D Lp : Addr} {ls : List Addr} {evss : List (List EvS)} (t : Lts H0 H b c D Lp ls evss) (e : Same H H') : Lts H0 H' b c D Lp ls evss := ⟨t.lots.same e, e _ _ t.lp, t.nod, t.new, t.np, t.ok⟩
theorem tot_set {evss : List (List EvS)} : ∀ {i : Nat} {e : EvS} {es : List EvS}, evss[i]? = some (e :: es) → tot (evss.set i es) + 1 = tot evss := by
  induction evss with
  | nil => intro i e es h; simp at h
  | cons a l ih =>
    intro i e es h
    cases i with
    | zero =>
      simp at h
      rw [List.set_cons_zero, tot_cons, tot_cons, h]
      simp only [List.length_cons]
      omega
    | succ i =>
      rw [List.getElem?_cons_succ] at h
      rw [List.set_cons_succ, tot_cons, tot_cons]
      have := ih h
      omega
theorem LotsAt.pop {H : Hp} {ls : List Addr} {evss : List (List EvS)} (h : LotsAt H ls evss) : ∀ {i : Nat} {l a : Addr} {e : EvS} {as : List Addr} {es : List EvS}, ls.Nodup → ls[i]? = some l → evss[i]? = some (e :: es) → H l = some (.lst ((a :: as).map V.ref)) → EvsAt H (a :: as) (e :: es) → LotsAt (upd H l (.lst (as.map V.ref))) ls (evss.set i es) := by
  unfold LotsAt at h
  induction h with
  | nil => intro i l a e as es _ h; simp at h
  | @cons l0 evs0 ls0 evss0 r t ih =>
    intro i l a e as es nd hl he hH hE
    have ex : Exc (fun x => x = l) H (upd H l (.lst (as.map V.ref))) := (Exc.refl _ H).at rfl
    have nt : NoTup (fun x => x = l) H := fun x xs e z => by
      have z : x = l := z
      rw [z, hH] at e
      cases e
    have nd' := List.nodup_cons.mp nd
    cases i with
    | zero =>
      simp at hl he
      subst hl
      subst he
      rw [List.set_cons_zero]
      have hE' : EvsAt H as es := by
        cases hE with
        | cons _ t => exact t
      exact .cons ⟨as, upd_same, TupsAt.exc hE' ex nt⟩ (LotsAt.exc t ex nt fun x hx z => nd'.1 ((show x = l0 from z) ▸ hx))
    | succ i =>
      rw [List.getElem?_cons_succ] at hl he
      rw [List.set_cons_succ]
      have hne : l0 ≠ l := fun z => nd'.1 (z ▸ List.mem_of_getElem? hl)
      obtain ⟨as0, h1, h2⟩ := r
      exact .cons ⟨as0, ex _ _ h1 hne, TupsAt.exc h2 ex nt⟩ (ih nd'.2 hl he hH hE)
def keepF : Addr × List EvS → List V := fun p => if p.2.isEmpty = true then [] else [.ref p.1]
theorem keepF_len : ∀ p, (keepF p).length ≤ 1 := fun p => by
  unfold keepF
  split
  · exact Nat.zero_le _
  · exact Nat.le_refl _
/-- those that are not empty -/
theorem keep_lots {H : Hp} : ∀ {ls : List Addr} {evss : List (List EvS)}, LotsAt H ls evss → ls.Nodup → ∃ ls' evss', (ls.zip evss).flatMap keepF = ls'.map V.ref ∧ LotsAt H ls' evss' ∧ List.Sublist ls' ls ∧ tot evss' = tot evss ∧ (∀ e, e ∈ evss' → e ∈ evss ∧ e ≠ [])
  | _, _, .nil, _ => ⟨[], [], rfl, .nil, List.Sublist.refl _, rfl, fun _ h => (by cases h)⟩
  | _, _, .cons (a := l) (b := e) (l₁ := ls) (l₂ := evss) r t, nd => by
    obtain ⟨ls', evss', h1, h2, h3, h4, h5⟩ := keep_lots t (List.nodup_cons.mp nd).2
    rw [List.zip_cons_cons, List.flatMap_cons, h1]
    cases e with
    | nil => exact ⟨ls', evss', rfl, h2, h3.cons _, by rw [tot_cons, h4]; simp, fun e he => ⟨List.mem_cons_of_mem _ (h5 e he).1, (h5 e he).2⟩⟩
    | cons e es =>
      refine ⟨l :: ls', (e :: es) :: evss', rfl, .cons r h2, h3.cons_cons _, by rw [tot_cons, tot_cons, h4], fun x hx => ?_⟩
      rcases List.mem_cons.mp hx with hx | hx
      · rw [hx]
        exact ⟨List.mem_cons_self, fun z => by cases z⟩
      · exact ⟨List.mem_cons_of_mem _ (h5 x hx).1, (h5 x hx).2⟩
theorem v_keep {K : PySem.W.Frag} {σ : L2.St} {H : Hp} {i j : Nat} {D : Addr} {ls : List Addr} {evss : List (List EvS)} (hv : σ[i]? = some (some (.ref D))) (hD : H D = some (.lst (ls.map V.ref))) (hL : LotsAt H ls evss) (nd : ls.Nodup) (ok : ∀ e, e ∈ evss → LotW e) (hj : j < σ.length) (hn : ls.length ≤ 1000) :
    ValH (tLc (iList K (tVar i)) (gName j) (tTest (tOp (rNeD K) (tVar j) (tLst tNil))) (tVar j) [j]) σ H
      (fun v H' => ∃ (p : Addr) (ls' : List Addr) (evss' : List (List EvS)), v = .ref p ∧ H p = none ∧ Same H H' ∧ H' p = some (.lst (ls'.map V.ref)) ∧ LotsAt H' ls' evss' ∧ List.Sublist ls' ls ∧ tot evss' = tot evss ∧ ∀ e, e ∈ evss' → e ∈ evss ∧ e ≠ []) := by
  have hal := hL.len
  intro Q q
  refine lcF (walk_list (K := K) (a := D) (xs := ls.map V.ref)) (fun R r => ⟨_, hv, D, rfl, ⟨_, SqL.of hD⟩, r⟩) (fun H' s => SqL.of (s _ _ hD)) (by rw [List.length_map]; omega) (fun k => ((ls.zip evss).take k).flatMap keepF) rfl (fun k _ => flat_len_take keepF_len _ _) ?_ _ ?_
  · rintro k x H1 H2 hk s1 ⟨rfl, hx⟩
    obtain ⟨l, hl, rfl⟩ := refs_ix hx
    obtain ⟨evs, as, he, h1, h2⟩ := hL.get hl
    have e1 := take_flat keepF (zip_at hl he)
    have hok : okTs (evs.map evV) := evs_ok fun x hx => ((ok evs (List.mem_of_getElem? he)).2 x hx).2
    have h1' := s1 _ _ h1
    have h2' : EvsAt H2 as evs := TupsAt.same h2 s1
    have an : ∀ b, (!((evs.map evV).map dT).isEmpty) = b → AnsH (tTest (tOp (rNeD K) (tVar j) (tLst tNil))) ((wipe σ [j]).set j (some (.ref l))) H2 b (Same H2) := fun b hb => ans_neNil (val_var (wipe_at hj)) (fun H' sm => dp_list (SqL.of (sm _ _ h1')) (TupsAt.same h2' sm) hok) (dLT_shaped hok) hb
    refine ⟨_, wipe_put σ j _, Same.refl _, fun Q q => q, ?_⟩
    cases hee : evs with
    | nil =>
      refine .inr ⟨an false (by rw [hee]; rfl), ?_⟩
      rw [e1, hee]
      show _ ++ [] = _
      rw [List.append_nil]
    | cons e es =>
      refine .inl ⟨an true (by rw [hee]; rfl), .ref l, fun H3 _ => val_var (wipe_at hj), ?_⟩
      rw [e1, hee]
      rfl
  · rintro v H1 ⟨p, rfl, np, s1, hp⟩
    have e2 : (ls.zip evss).take (ls.map V.ref).length = ls.zip evss := by
      rw [List.length_map]
      refine List.take_of_length_le ?_
      rw [List.length_zip]
      omega
    rw [e2] at hp
    obtain ⟨ls', evss', k1, k2, k3, k4, k5⟩ := keep_lots (hL.same s1) nd
    exact q _ _ ⟨p, ls', evss', rfl, np, s1, by rw [← k1]; exact hp, k2, k3, k4, k5⟩
theorem while_m {c : TT} {tb : TS} {D : Ends} {σ : L2.St} {H : Hp} (Pv : Nat → L2.St → Hp → Prop) (h0 : ∃ m, Pv m σ H)
    (hs : ∀ m σ H, Pv m σ H → c σ H fun b H1 => if b = true then tb { D with nx := fun σ' H' => ∃ m', m' < m ∧ Pv m' σ' H', ct := fun σ' H' => ∃ m', m' < m ∧ Pv m' σ' H', bk := D.nx } σ H1 else D.nx σ H1)
    (mono : ∀ σ H Q Q', (∀ b H1, Q b H1 → Q' b H1) → c σ H Q → c σ H Q') : tWhile c tb D σ H := by
  refine ⟨Pv, h0, fun m σ H p => ?_⟩
  refine mono σ H _ _ (fun b H1 q => ?_) (hs m σ H p)
  cases b with
  | true => exact iteT ⟨_, fun σ' H' h => h, q⟩
  | false => exact q
theorem dpLots {K : PySem.W.Frag} {H : Hp} : ∀ {ls : List Addr} {evss : List (List EvS)}, LotsAt H ls evss → (∀ e, e ∈ evss → okTs (e.map evV)) → DpAll K H (ls.map V.ref) ((evss.map (fun e => e.map evV)).map dLT)
  | _, _, .nil, _ => .nil
  | _, _, .cons r t, h => by
    obtain ⟨as, h1, h2⟩ := r
    exact .cons (dp_list (SqL.of h1) h2 (h _ List.mem_cons_self)) (dpLots t fun e he => h e (List.mem_cons_of_mem _ he))
end K15

set_option Elab.async false
set_option linter.all false
set_option autoImplicit false
set_option maxRecDepth 100000
set_option maxHeartbeats 4000000
namespace K15
open PySem L2
theorem put_okEv (W : K15.W) {e : EvS} (h : isPut e = true) : okEv W e := by cases e <;> first | exact True.intro | cases h
theorem joins_valid : ∀ (rs : List Int) (W : K15.W), Valid W (rs.map (fun r => (Ev.join r : EvS)))
  | [], _ => True.intro
  | _ :: rs, _ => ⟨True.intro, joins_valid rs _⟩
theorem ext_run : ∀ {es : List EvS} {W : K15.W}, Valid W es → Ext W (wrun W es)
  | [], W, _ => Ext.refl W
  | e :: es, W, h => (ext_step h.1).trans (ext_run h.2)
theorem joins_some (rs : List Int) (W : K15.W) (r : Int) (h : r ∈ rs ∨ W.seats r ≠ none) : (wrun W (rs.map (fun r => (Ev.join r : EvS)))).seats r ≠ none := by
  induction rs generalizing W with
  | nil => rcases h with h | h
           · cases h
           · exact h
  | cons x rs ih =>
    refine ih (wstep W (.join x)) ?_
    rcases h with h | h
    · rcases List.mem_cons.mp h with h | h
      · right
        rw [h]
        show put1 W.seats x (some 0) x ≠ none
        rw [put1_same]
        intro z
        cases z
      · exact .inl h
    · exact .inr (put_some (fun z => by cases z) h)
theorem cutV_mem {xs : List V} {lo hi : Option Int} {x : V} (h : x ∈ cutV xs lo hi) : x ∈ xs := by
  unfold cutV at h
  exact List.mem_of_mem_drop (List.mem_of_mem_take h)
theorem v_joins {K : PySem.W.Frag} {σ : L2.St} {H : Hp} {i j : Nat} {m : Int} (hv : σ[i]? = some (some (.int m))) (hm : m ≤ 1000) (h0 : 0 ≤ m) (hj : j < σ.length) :
    ValH (tLc (iRng1 (tCons (tVar i) tNil)) (gName j) tYes (tTup (tCons (tC (.str "join")) (tCons (tVar j) tNil))) [j]) σ H
      (fun v H' => ∃ p as, v = .ref p ∧ H p = none ∧ Same H H' ∧ H' p = some (.lst (as.map V.ref)) ∧ EvsAt H' as (((List.range m.toNat).map (fun (k : Nat) => (k : Int))).map (fun r => (Ev.join r : EvS)))) := by
  intro Q q
  refine lcT (walk_range (lo := 0) (n := m.toNat)) (fun R r => ⟨_, hv, m, rfl, by omega, by omega, r⟩) (fun _ _ => True.intro) (by omega) (fun k => (List.range k).map (fun (k : Nat) => evV (.join (k : Int)))) rfl (fun k _ => by rw [List.length_map, List.length_range]; exact Nat.le_refl _) ?_ _ ?_
  · rintro k x H1 H2 hk s1 ⟨rfl, rfl⟩
    refine ⟨_, wipe_put σ j _, Same.refl _, fun Q q => q, .inl ⟨yes_same, _, fun H3 _ Q q => ⟨_, wipe_at hj, by show 2 ≤ sizeLine; decide, fun p np => q _ _ ⟨p, rfl, same_new np, upd_same⟩⟩, ?_⟩⟩
    rw [List.range_succ, List.map_append]
    show _ = _ ++ [[_, V.int (0 + (k : Int))]]
    rw [Int.zero_add]
    rfl
  · rintro v H1 ⟨p, as, rfl, np, s1, hp, hT⟩
    refine q _ _ ⟨p, as, rfl, np, s1, hp, ?_⟩
    show TupsAt H1 as _
    rw [List.map_map, List.map_map]
    exact hT
theorem len_tot : ∀ {evss : List (List EvS)}, (∀ e, e ∈ evss → e ≠ []) → evss.length ≤ tot evss
  | [], _ => Nat.le_refl _
  | e :: l, h => by
    have := len_tot fun x hx => h x (List.mem_cons_of_mem _ hx)
    have h1 := h e List.mem_cons_self
    have : 0 < e.length := by
      cases e with
      | nil => exact absurd rfl h1
      | cons _ _ => exact Nat.succ_pos _
    rw [tot_cons, List.length_cons]
    omega
theorem seq0 (n : Nat) : seqIndex? 0 (n + 1) = some 0 := by
  unfold seqIndex?
  simp
theorem tot_le : ∀ {evss : List (List EvS)}, (∀ e, e ∈ evss → e.length ≤ 4) → tot evss ≤ 4 * evss.length
  | [], _ => Nat.le_refl _
  | e :: l, h => by
    have := tot_le fun x hx => h x (List.mem_cons_of_mem _ hx)
    have := h e List.mem_cons_self
    rw [tot_cons, List.length_cons]
    omega
abbrev s__law_fit : Stmt := top 34
abbrev N__law_fit : List Str := ["_law_box_here", "_law_most", "_law_folk", "_law_far", "_law_lots_here", "_law_p", "_law_w", "_law_found", "_law_event_so", "_law_own_so", "_law_some", "_law_rest"]
abbrev P__law_fit : List Str := ["_law_box_here", "_law_most", "_law_folk", "_law_far"]
theorem sc__law_fit : FnScope N__law_fit P__law_fit (C8.fnScope s__law_fit) := C8.fnScope_by (by decide +kernel)
/-- a table that fits -/
def spFit : Sp := fun vs H Q _ => ∃ (b : Addr) (folk cc : Int), vs = [.ref b, .int 7, .int folk, .int 15] ∧ 1 ≤ folk ∧ folk ≤ 3 ∧ BoxAt H b cc ∧ cc ≤ 700000 ∧
  ∀ (p : Addr) (as : List Addr) (es : List EvS) (H' : Hp), BoxAt H' b (cc + 2000) → Exc (fun a => a = b) H H' → H' p = some (.tup (as.map V.ref)) → EvsAt H' as es → Valid W0 es → es.length < 64 → (∀ e, e ∈ es → evOk e) → Q (.ref p) H'
section
variable {P : Program} {w : World} {K : PySem.W.Frag} {mg : Str → Option Value} {base : Heap} {A : Adr}
theorem fit_ok {f : Addr} {fd : FuncData} (T : Txt K mg A) (F : C8.Def K mg "_law_fit" s__law_fit f fd) (b : Binds K fd P__law_fit []) (c_l_take : C8.Cal P w K mg base 1 "_law_take" spTake []) (c_l_lots : C8.Cal P w K mg base 2 "_law_lots" (spLots K) [])
    (c_l_moved : C8.Cal P w K mg base 1 "_law_moved" spMoved []) (c_l_beside : C8.Cal P w K mg base 2 "_law_beside" spBeside []) (c_l_ended : C8.Cal P w K mg base 2 "_law_ended" spEnded []) : C8.Cal P w K mg base 3 "_law_fit" spFit [] := by
  refine C8.cal0 F b .nil sc__law_fit (fun vs H Q E h => ?_) (fun cdv A outer s H vs Q E hr h => ?_)
  · obtain ⟨b, folk, cc, rfl, _⟩ := h
    rfl
  · obtain ⟨b, folk, cc, rfl, hf1, hf3, hb, hcc, q⟩ := h
    have hu := hu_of hr
    refine ⟨_, (pss_cons (ps_set (i := 4) sc__law_fit.nd rfl (Or.inl rfl) (C8.pe_c c_l_lots hr (by decide) rfl (pa_cons (pv 0) (pa_cons (pv 1) (pa_cons (pe_slice (r := rSlL K) sl_list (pe_lst (pa_cons pe_str (pa_cons pe_str (pa_cons pe_str pa_nil)))) po_none (po_some (pe_op op_sub (pe_op op_fdiv (pv 1) pe_int) (pe_callTy call_int1 (by rfl) T.b_int (by decide +kernel) (pa_cons (pe_cmpR op_eq (pv 2) pe_int (nomark _)) pa_nil))))) pa_nil)))))
      (pss_cons (ps_par (i := 6) (j := 7) (by rfl) sc__law_fit.nd rfl rfl (by decide) rfl rfl (pa_cons (pe_disp (pps_cons pe_str pe_dnewK (pps_cons pe_str (pe_lst pa_nil) (pps_cons pe_str pe_int pps_nil))) (by rfl) (by rfl) (fun z => by cases z) (by decide)) (pa_cons (pe_lc (own := [("_law_p", 5)]) (g := (gName 5)) (by rfl) sc__law_fit.nd  (pi_range1 rfl T.b_range (pa_cons (pv 2) pa_nil)) (blkOk_by (own := [("_law_p", 5)]) (N := N__law_fit) (sc := C8.fnScope s__law_fit) (by decide +kernel)) (fun _ _ _ _ _ => (pg_name (i := 5) sc__law_fit.nd rfl (Or.inl rfl))) (fun _ _ _ _ _ => pts_nil) (fun _ _ _ _ _ => (pe_tup (pa_cons pe_str (pa_cons (pv 5) pa_nil))))) pa_nil)) (by rfl))
      (pss_cons (ps_for PassesOwn.never rfl (pi_list (pv 7)) (pg_name (i := 8) sc__law_fit.nd rfl (Or.inl rfl)) (pss_one (ps_expr (C8.pe_c c_l_moved hr (by decide) rfl (pa_cons (pv 6) (pa_cons (pv 8) pa_nil))))))
      (pss_cons (ps_while PassesOwn.never (pt_cmpR (r := rNeD K) (op_neD hr.units) (pv 4) (pe_lst pa_nil) (nomark _)) (pss_cons (ps_set (i := 9) sc__law_fit.nd rfl (Or.inl rfl) (pe_ix (r := rIxL K) ix_list (pv 4) (C8.pe_c c_l_take hr (by decide) rfl (pa_cons (pv 0) (pa_cons (pe_callB (r := rLenQ K) call_len_seq (by rfl) T.b_len PySem.boot_len (pa_cons (pv 4) pa_nil)) pa_nil))) (fun _ _ => rfl)))
      (pss_cons (ps_expr (pe_bm PySem.F.plainAttrs_list PySem.F.slot_list_append PySem.F.type_list_append mt_append (pv 7) (pa_cons (pe_bm PySem.F.plainAttrs_list PySem.F.slot_list_pop PySem.F.type_list_pop mt_popAt (pv 9) (pa_cons pe_int pa_nil)) pa_nil)))
      (pss_cons (ps_expr (C8.pe_c c_l_moved hr (by decide) rfl (pa_cons (pv 6) (pa_cons (pe_ix (r := rIxL K) ix_list (pv 7) (pe_un un_neg pe_int) (fun _ _ => rfl)) pa_nil))))
      (pss_cons (ps_setLc (i := 4) (own := [("_law_some", 10)]) (g := (gName 10)) (by rfl) sc__law_fit.nd rfl rfl (sw_true rfl rfl rfl (by decide +kernel)) (pi_list (pv 4)) (blkOk_by (own := [("_law_some", 10)]) (N := N__law_fit) (sc := C8.fnScope s__law_fit) (by decide +kernel)) (fun _ _ _ _ _ => (pg_name (i := 10) sc__law_fit.nd rfl (Or.inl rfl))) (fun _ _ _ _ _ => (pts_one (pt_cmpR (r := rNeD K) (op_neD hr.units) (pv 10) (pe_lst pa_nil) (nomark _)))) (fun _ _ _ _ _ => (pv 10)))
      (pss_cons (ps_set (i := 11) sc__law_fit.nd rfl (Or.inl rfl) (pe_callB (r := rSum K) (cr_sum rfl) (by rfl) T.b_sum (by decide +kernel) (pa_cons (pe_lc (own := [("_law_some", 10)]) (g := (gName 10)) (by rfl) sc__law_fit.nd  (pi_list (pv 4)) (blkOk_by (own := [("_law_some", 10)]) (N := N__law_fit) (sc := C8.fnScope s__law_fit) (by decide +kernel)) (fun _ _ _ _ _ => (pg_name (i := 10) sc__law_fit.nd rfl (Or.inl rfl))) (fun _ _ _ _ _ => pts_nil) (fun _ _ _ _ _ => (pe_callB (r := rLenQ K) call_len_seq (by rfl) T.b_len PySem.boot_len (pa_cons (pv 10) pa_nil)))) pa_nil)))
      (pss_one (ps_for PassesOwn.never rfl (pi_list (C8.pe_c c_l_beside hr (by decide) rfl (pa_cons (pv 0) (pa_cons (pv 6) (pa_cons (pv 2) pa_nil))))) (pg_name (i := 8) sc__law_fit.nd rfl (Or.inl rfl)) (pss_one (ps_if (pt_cmpR op_lt (pe_op op_add (pe_op op_add (pe_callB (r := rLenQ K) call_len_seq (by rfl) T.b_len PySem.boot_len (pa_cons (pv 7) pa_nil)) (pv 11)) (pv 2)) (pv 3) (nomark _)) (pss_cons (ps_expr (C8.pe_c c_l_moved hr (by decide) rfl (pa_cons (pv 6) (pa_cons (pv 8) pa_nil))))
      (pss_one (ps_expr (pe_bm PySem.F.plainAttrs_list PySem.F.slot_list_append PySem.F.type_list_append mt_append (pv 7) (pa_cons (pv 8) pa_nil))))) pss_nil))))))))))
      (pss_one (ps_ret (C8.pe_c c_l_ended hr (by decide) rfl (pa_cons (pe_callTy call_tuple_of (by rfl) T.b_tuple (by decide +kernel) (pa_cons (pv 7) pa_nil)) pa_nil)))))))), ?_⟩
    refine ⟨_, rfl, _, rfl, by show 3 ≤ sizeLine; decide, fun g0 n0 => ?_⟩
    have s0 := same_new (o := .lst [.str "a", .str "b", .str "cc"]) n0
    refine ⟨_, rfl, _, _, rfl, rfl, ⟨by decide, by decide⟩, _, rfl, rfl, .inr ⟨_, rfl, _, _, rfl, rfl, _, rfl, ?_⟩⟩
    refine ⟨g0, _, rfl, SqL.of upd_same, fun nm nn => ?_⟩
    generalize hcut : cutV _ _ _ = names
    have nnames : Names names := fun x hx => Names.of (xs := [.str "a", .str "b", .str "cc"]) (by decide +kernel) x (cutV_mem (hcut ▸ hx))
    have lnames : names.length ≤ 3 := by rw [← hcut]; exact cutV_length _ _ _
    have s1 := s0.trans (same_new (o := .lst names) nn)
    have hb1 := box_same hb s1
    have bnm := (box_same hb s0).ne nn
    refine ⟨b, nm, 7, cc, names, rfl, hb1, by omega, bnm.symm, SqL.of upd_same, nnames, lnames, fun Lp ls evss H1 hb1 e1 nLp hLp hL hn hd hL0 ho hl3 => ?_⟩
    have e1 := (same_exc s1 (fun a => a = b)).trans e1
    dsimp only [gName]
    refine st_seq ?_
    dsimp only [tPar, tCons, tNil]
    refine new_w fun w s c H2 s2 nw ns nc hW => ?_
    refine v_joins (K := K) (i := 2) (j := 5) (m := folk) rfl (by omega) (by omega) (Nat.le_of_ble_eq_true rfl) _ ?_
    rintro v H3 ⟨D, as0, rfl, nD, s3, hD, hE⟩
    generalize hes0 : ((List.range folk.toNat).map (fun (k : Nat) => (k : Int))).map (fun r => (Ev.join r : EvS)) = es0 at hE
    refine ⟨_, _, rfl, ?_⟩
    have hb2 := box_same hb1 s2
    have hb3 := box_same hb2 s3
    have e3 : Exc (fun a => a = b) H H3 := (e1.trans (same_exc s2 _)).trans (same_exc s3 _)
    have lD : ∀ {H' : Hp}, (∀ l, l ∈ ls → ∃ o, H' l = some o) → ∀ {x : Addr}, H' x = none → ∀ l, l ∈ ls → l ≠ x := fun {H'} h {x} hx l hl z => by
      obtain ⟨o, ho⟩ := h l hl
      rw [z, hx] at ho
      cases ho
    have lt1 : ∀ l, l ∈ ls → ∃ o, H1 l = some o := fun l hl => by
      obtain ⟨_, _, _, h1, _⟩ := hL.mem hl
      exact ⟨_, h1⟩
    have lt2 : ∀ l, l ∈ ls → ∃ o, H2 l = some o := fun l hl => by
      obtain ⟨o, ho⟩ := lt1 l hl
      exact ⟨o, s2 _ _ ho⟩
    have n0 : ∀ {x : Addr}, (upd (upd H g0 (.lst [.str "a", .str "b", .str "cc"])) nm (.lst names)) x = none → H x = none := fun {x} hx => by
      cases hh : H x with
      | none => rfl
      | some o => rw [s1 _ _ hh] at hx; cases hx
    have n1 : ∀ {x : Addr}, H1 x = none → H x = none := fun {x} hx => e1.none hx (hb1.ne hx).symm
    have hbs := box_same hb s1
    have G0 : Gen H H3 b w s c D [] es0 as0 0 (cc + 50) := by
      refine ⟨e3, n1 nw, n1 ns, n1 nc, n1 ?_, hb3, hW.same s3, ?_, ?_, hD, hE, ?_, hb1.ne nc, hb2.ne nD⟩
      · cases hh : H1 D with
        | none => rfl
        | some o => rw [s2 _ _ hh] at nD; cases nD
      · rw [← hes0]; exact joins_valid _ _
      · intro e he
        rw [← hes0] at he
        obtain ⟨r, _, rfl⟩ := List.mem_map.mp he
        exact okE_join r
      · intro z
        rw [z, hW.hc] at nD
        cases nD
    have L0 : Lts H H3 b c D Lp ls evss := by
      refine ⟨(hL.same s2).same s3, s3 _ _ (s2 _ _ hLp), hd, fun l hl => ⟨n0 (hn l hl), ?_, lD lt1 nc l hl, lD lt2 nD l hl, fun z => hL0 (z ▸ hl)⟩, ⟨(hbs.ne nLp).symm, ?_, ?_⟩, fun e he => (ho e he).2⟩
      · intro z
        exact (hbs.ne (hn l hl)) z.symm
      · exact ne_of_none hLp nc
      · exact ne_of_none (s2 _ _ hLp) nD
    have hjoin : ∀ r : Int, 0 ≤ r → r < folk → (wrun W0 es0).seats r ≠ none := fun r h0 h1 => by
      rw [← hes0]
      refine joins_some _ _ _ (.inl (List.mem_map.mpr ⟨r.toNat, List.mem_range.mpr (by omega), Int.toNat_of_nonneg h0⟩))
    have len0 : es0.length = folk.toNat := by rw [← hes0, List.length_map, List.length_map, List.length_range]
    have hne0 : ∀ e, e ∈ evss → e ≠ [] := fun e he => (ho e he).1
    have tot0 : tot evss ≤ 12 := by
      have := tot_le (evss := evss) fun e he => (ho e he).2.1
      omega
    clear hb1 hL hLp hD hE hW e1 e3 hb2 hb3 s2 s3 nD nw ns nc nLp hL0 hd hn ho lD lt1 lt2 hbs n0 n1
    refine st_seq ?_
    refine ⟨_, rfl, D, rfl, ⟨_, SqL.of G0.lst⟩, for_list (K := K) (a := D) (xs := as0.map V.ref) (fun i σ H4 => ∃ v : Option V, σ = [some (.ref b), some (.int 7), some (.int folk), some (.int 15), some (.ref Lp), none, some (.ref w), some (.ref D), v, none, none, none] ∧ Gen H H4 b w s c D (es0.take i) es0 as0 i (cc + 50) ∧ Lts H H4 b c D Lp ls evss)
      ⟨none, rfl, G0, L0⟩ (fun i σ H4 _ ⟨_, _, g, _⟩ => SqL.of g.lst) ?_ ?_⟩
    · rintro i x σ H4 hi ⟨v, rfl, g, t⟩
      obtain ⟨a, ha, rfl⟩ := refs_ix hi
      obtain ⟨ev, hev, hat⟩ := g.evs.get ha
      obtain ⟨ok, st⟩ := valid_at g.val hev
      have hil := (List.getElem?_eq_some_iff.mp hev).1
      refine ⟨_, rfl, _, rfl, w, s, c, a, _, ev, i, rfl, g.wat, hat, ok, by omega, fun H5 W5 e5 => ⟨_, rfl, ?_, t.step g (e5.mono fun x z => ?_)⟩⟩
      · rw [take_snoc hev]
        exact g.moved W5 e5
      · rcases z with z | z | z
        · exact .inr (.inl z)
        · exact .inr (.inr (.inl z))
        · exact .inr (.inr (.inr (.inl z)))
    · rintro σ H4 ⟨v, rfl, g, t⟩
      have hal := g.evs.len
      rw [List.length_map, hal, List.take_length] at g
      dsimp only
      refine st_seq ?_
      refine while_m (fun m σ H5 => ∃ (x1 x2 x3 : Option V) (Lp : Addr) (ls : List Addr) (evss : List (List EvS)) (es : List EvS) (as : List Addr) (c1 : Int), σ = [some (.ref b), some (.int 7), some (.int folk), some (.int 15), some (.ref Lp), none, some (.ref w), some (.ref D), x1, x2, none, x3] ∧
        Gen H H5 b w s c D es es as es.length c1 ∧ Lts H H5 b c D Lp ls evss ∧ tot evss = m ∧ (∀ e, e ∈ evss → e ≠ []) ∧ es.length + m ≤ 15 ∧ c1 + 60 * m ≤ cc + 1000 ∧ (∀ r : Int, 0 ≤ r → r < folk → (wrun W0 es).seats r ≠ none))
        ⟨_, v, none, none, Lp, ls, evss, es0, as0, _, rfl, g, t, rfl, hne0, by omega, by omega, hjoin⟩ ?_ ?_
      · rintro m σ H5 ⟨x1, x2, x3, Lp, ls, evss, es, as, c1, rfl, g, t, rfl, hnn, hlen, hc1, hj⟩
        have hlt := t.lots.len
        have hok : ∀ e, e ∈ evss → okTs (e.map evV) := fun e he => evs_ok fun x hx => ((t.ok e he).2 x hx).2
        refine ans_neNil (b := !ls.isEmpty) (val_var rfl) (fun H' sm => .lst (SqL.of (sm _ _ t.lp)) (dpLots (t.lots.same sm) hok)) (dLLT_shaped (fun xss hx => by
          obtain ⟨e, he, rfl⟩ := List.mem_map.mp hx
          exact hok e he)) (by rw [isE_map, isE_map]; cases ls <;> cases evss <;> first | rfl | cases hlt) _ (fun H6 sm => ?_)
        have g6 := g.same sm
        have t6 := t.same sm
        refine ite2 (fun hne => ?_) (fun hne => ?_)
        · have hpos : 0 < ls.length := by
            cases ls with
            | nil => cases hne
            | cons _ _ => exact Nat.succ_pos _
          have hls3 : ls.length ≤ 15 := by
            have := len_tot hnn
            omega
          refine ⟨_, rfl, _, rfl, _, rfl, Lp, _, rfl, .inl (SqL.of t6.lp), b, _, _, rfl, by rw [List.length_map]; omega, by rw [List.length_map]; omega, g6.box, by omega, fun r H7 r0 r1 hb7 e7 => ?_⟩
          rw [List.length_map] at r1
          have g7 := g6.drawn e7 hb7
          have t7 := t6.step g6 (e7.mono fun x z => .inl z)
          have hr : r.toNat < ls.length := by omega
          have hr2 : r.toNat < evss.length := by omega
          have hli : ls[r.toNat]? = some ls[r.toNat] := List.getElem?_eq_getElem hr
          generalize ls[r.toNat] = l at hli
          have ex : atI (ls.map V.ref) r = some (.ref l) := by
            have := atI_nat (xs := ls.map V.ref) (j := r.toNat) (by rw [List.getElem?_map, hli]; rfl)
            rw [Int.toNat_of_nonneg r0] at this
            exact this
          obtain ⟨evs, asl, hei, hHl, hEl⟩ := t7.lots.get hli
          have lot := t7.ok evs (List.mem_of_getElem? hei)
          obtain ⟨nl0, nlb, nlc, nlD, nlL⟩ := t7.new l (List.mem_of_getElem? hli)
          obtain ⟨e, es', rfl⟩ : ∃ e es', evs = e :: es' := by
            cases evs with
            | nil => exact absurd rfl (hnn _ (List.mem_of_getElem? hei))
            | cons e es' => exact ⟨e, es', rfl⟩
          obtain ⟨a, as', rfl⟩ : ∃ a as', asl = a :: as' := by
            cases asl with
            | nil => have := hEl.len; cases this
            | cons a as' => exact ⟨a, as', rfl⟩
          refine ⟨Lp, _, _, _, rfl, rfl, SqL.of t7.lp, ex, ?_⟩
          dsimp only [gName]
          have hea : H7 a = some (.tup (evV e)) := by cases hEl with | cons h _ => exact h
          have g8 := g7.other (o := .lst (as'.map V.ref)) hHl nl0 nlb nlc nlD
          have hD7 := g7.lst
          have hea8 : upd H7 l (.lst (as'.map V.ref)) a = some (.tup (evV e)) := by
            rw [upd_ne (fun z => by rw [z, hHl] at hea; cases hea)]
            exact hea
          have o1 := put_okEv (wrun W0 es) (lot.2 e List.mem_cons_self).1
          have g9 := g8.append (p := a) hea8 o1 (lot.2 e List.mem_cons_self).2
          refine ⟨_, rfl, .inl ⟨rfl, _, SqL.of hD7⟩, _, rfl, .inl ⟨rfl, _, SqL.of hHl⟩, l, _, 0, 0, .ref a, rfl, rfl, hHl, by decide, by decide, by rw [List.length_map]; exact seq0 _, rfl, ?_⟩
          refine ⟨D, _, _, rfl, rfl, g8.lst, line_of (by rw [List.length_map, g8.evs.len]; omega), ?_⟩
          have eE : (List.map V.ref (a :: as')).eraseIdx 0 = as'.map V.ref := rfl
          rw [eE]
          -- the list that has lost its first
          have t8 : Lts H (upd H7 l (.lst (as'.map V.ref))) b c D Lp ls (evss.set r.toNat es') := by
            refine ⟨t7.lots.pop t7.nod hli hei hHl hEl, by rw [upd_ne nlL.symm]; exact t7.lp, t7.nod, t7.new, t7.np, fun x hx => ?_⟩
            rcases List.mem_or_eq_of_mem_set hx with hx | hx
            · exact t7.ok x hx
            · rw [hx]
              exact ⟨by have := lot.1; rw [List.length_cons] at this; omega, fun y hy => lot.2 y (List.mem_cons_of_mem _ hy)⟩
          have t9 : Lts H (upd (upd H7 l (.lst (as'.map V.ref))) D (.lst (as.map V.ref ++ [.ref a]))) b c D Lp ls (evss.set r.toNat es') := t8.step g8 ((Exc.refl _ _).at (.inr (.inr (.inr (.inr rfl)))))
          have htot := tot_set hei
          have hea9 := ((Exc.refl (fun x => x = D) (upd H7 l (.lst (as'.map V.ref)))).at (p := D) (o := .lst (as.map V.ref ++ [.ref a])) rfl) _ _ hea8 (fun z => by rw [z, g8.lst] at hea8; cases hea8)
          have hjW : ∀ (es : List EvS) (ev : EvS), okEv (wrun W0 es) ev → (∀ r : Int, 0 ≤ r → r < folk → (wrun W0 es).seats r ≠ none) → ∀ r : Int, 0 ≤ r → r < folk → (wrun W0 (es ++ [ev])).seats r ≠ none := fun es ev o h r h0 h1 => by
            rw [wrun_snoc]
            exact (ext_step o).seats r (h r h0 h1)
          clear t8 g8 hea8 hHl hEl hea t7 g7 hD7 e7 hb7 g6 t6 sm t
          generalize upd (upd H7 l (.lst (as'.map V.ref))) D (.lst (as.map V.ref ++ [.ref a])) = H9 at g9 t9 hea9 ⊢
          refine ⟨_, rfl, _, rfl, 1, rfl, D, _, _, _, rfl, rfl, SqL.of g9.lst, by rw [List.map_append]; exact atI_last _ _, w, s, c, a, _, e, _, rfl, g9.wat, hea9, o1, by omega, fun H10 W10 e10 => ?_⟩
          have g10 := g9.moved W10 e10
          have t10 := t9.step g9 (e10.mono (P' := P5 b w s c D) fun x z => by
            rcases z with z | z | z
            · exact .inr (.inl z)
            · exact .inr (.inr (.inl z))
            · exact .inr (.inr (.inr (.inl z))))
          dsimp only
          refine st_seq (st_setH (v_keep (K := K) (i := 4) (j := 10) rfl t10.lp t10.lots t10.nod t10.ok (Nat.le_of_ble_eq_true rfl) (by omega)) ?_)
          rintro v4 H11 ⟨Lp', ls', evss', rfl, nLp', s11, hLp', hL', sub', tot', ne'⟩
          have g11 := g10.same s11
          have t11 : Lts H H11 b c D Lp' ls' evss' := by
            refine ⟨hL', hLp', t10.nod.sublist sub', fun x hx => ?_, ⟨(g10.box.ne nLp').symm, fun z => ?_, fun z => ?_⟩, fun x hx => t10.ok x (ne' x hx).1⟩
            · obtain ⟨q1, q2, q3, q4, _⟩ := t10.new x (sub'.subset hx)
              refine ⟨q1, q2, q3, q4, fun z => ?_⟩
              obtain ⟨_, _, _, q5, _⟩ := t10.lots.mem (sub'.subset hx)
              rw [z, nLp'] at q5
              cases q5
            · rw [z, g10.wat.hc] at nLp'
              cases nLp'
            · rw [z, g10.lst] at nLp'
              cases nLp'
          clear t10 g10 t9 g9 W10 e10
          have hl' := sub'.length_le
          refine st_seq (st_setH (v_sumlen (K := K) (i := 4) (j := 10) rfl t11.lp t11.lots (Nat.le_of_ble_eq_true rfl) (by omega)) ?_)
          rintro v5 H12 ⟨rfl, s12⟩
          have g12 := g11.same s12
          have t12 := t11.same s12
          clear t11 g11
          have hmr := many_run (es ++ [e]) W0
          have h00 : W0.many = 0 := rfl
          have hl1 : (es ++ [e]).length = es.length + 1 := by rw [List.length_append]; rfl
          have hj12 := hjW es e o1 hj
          refine ⟨_, rfl, _, rfl, _, rfl, b, w, s, c, folk, _, _, _, rfl, g12.wat, wok_run wok0 g12.val, by omega, by omega, g12.bc, hj12, g12.box, by omega, by omega, by omega, fun Bp bas bevs H13 hb13 e13 nB hB hE13 ok13 lb sub13 => ?_⟩
          have g13 := g12.drawn e13 hb13
          have t13 := t12.step g12 (e13.mono fun x z => .inl z)
          have Bb : Bp ≠ b := (g12.box.ne nB).symm
          have Bc : Bp ≠ c := fun z => by
            rw [z, g12.wat.hc] at nB
            cases nB
          have BD : Bp ≠ D := fun z => by
            rw [z, g12.lst] at nB
            cases nB
          clear t12 g12 hb13 e13 s12
          generalize hes1 : es ++ [e] = es1 at g13 hl1 hj12 sub13
          refine ⟨Bp, rfl, ⟨_, SqL.of hB⟩, for_list (K := K) (a := Bp) (xs := bas.map V.ref) (fun i σ H14 => ∃ (v : Option V) (ch : List EvS) (as2 : List Addr), σ = [some (.ref b), some (.int 7), some (.int folk), some (.int 15), some (.ref Lp'), none, some (.ref w), some (.ref D), v, some (.ref l), none, some (.int ((tot evss' : Nat) : Int))] ∧
            Gen H H14 b w s c D (es1 ++ ch) (es1 ++ ch) as2 (es1 ++ ch).length (c1 + 1 + 50) ∧ Lts H H14 b c D Lp' ls' evss' ∧ Exc (P5 b w s c D) H13 H14 ∧ List.Sublist ch (bevs.take i) ∧ (es1 ++ ch).length + tot evss' ≤ 15 ∧ (∀ r : Int, 0 ≤ r → r < folk → (wrun W0 (es1 ++ ch)).seats r ≠ none))
            ⟨x1, [], as ++ [a], rfl, by rw [List.append_nil, hl1]; exact g13, t13, Exc.refl _ _, List.nil_sublist _, by rw [List.append_nil]; omega, by rw [List.append_nil]; exact hj12⟩ ?_ ?_ ?_⟩
          · rintro i σ H14 _ ⟨_, _, _, _, _, _, e14, _⟩
            exact SqL.of (e14 _ _ hB (lst_out g13 hB Bb Bc BD))
          · rintro i x σ H14 hi ⟨v, ch, as2, rfl, g14, t14, e14, hsub, hle, hjj⟩
            obtain ⟨a2, ha2, rfl⟩ := refs_ix hi
            obtain ⟨ev, hev, hat⟩ := hE13.get ha2
            have hat14 := e14 _ _ hat (g13.noTup _ _ hat)
            have hsub2 : List.Sublist (ch ++ [ev]) (bevs.take (i + 1)) := by
              rw [take_snoc hev]
              exact hsub.append (List.Sublist.refl _)
            have hlas := g14.evs.len
            refine ⟨_, rfl, D, _, rfl, .inl (SqL.of g14.lst), _, rfl, _, _, rfl, rfl, _, rfl, _, _, rfl, rfl, _, rfl, _, _, rfl, rfl, _, rfl, ite2 (fun hlt => ?_) (fun _ => ⟨_, ch, as2, rfl, g14, t14, e14, hsub.trans (by rw [take_snoc hev]; exact List.sublist_append_left _ _), hle, hjj⟩)⟩
            have hlt' : ((as2.map V.ref).length : Int) + ((tot evss' : Nat) : Int) + folk < 15 := of_decide_eq_true hlt
            rw [List.length_map, hlas] at hlt'
            have val2 := sub13 _ (hsub2.trans (List.take_sublist _ _))
            have o2 := ((valid_append _ _ _).mp val2).2.1
            rw [← wrun_append] at o2
            refine ⟨_, rfl, _, rfl, w, s, c, a2, _, ev, _, rfl, g14.wat, hat14, o2, by omega, fun H15 W15 e15 => ?_⟩
            have g15 := g14.moved W15 e15
            have e15' := e15.mono (P' := P5 b w s c D) fun x z => by
              rcases z with z | z | z
              · exact .inr (.inl z)
              · exact .inr (.inr (.inl z))
              · exact .inr (.inr (.inr (.inl z)))
            have t15 := t14.step g14 e15'
            have hat15 := e15' _ _ hat14 (g14.noTup _ _ hat14)
            have g16 := g15.append (p := a2) hat15 o2 (ok13 ev (List.mem_of_getElem? hev))
            have e16 : Exc (P5 b w s c D) H15 (upd H15 D (.lst (as2.map V.ref ++ [.ref a2]))) := (Exc.refl _ _).at (.inr (.inr (.inr (.inr rfl))))
            have t16 := t15.step g15 e16
            have hl16 : (es1 ++ (ch ++ [ev])).length = (es1 ++ ch).length + 1 := by rw [← List.append_assoc, List.length_append]; rfl
            refine ⟨_, rfl, .inl ⟨rfl, _, SqL.of g15.lst⟩, _, rfl, D, _, _, rfl, rfl, g15.lst, line_of (by rw [List.length_map, g15.evs.len]; omega), ?_⟩
            refine ⟨_, ch ++ [ev], as2 ++ [a2], rfl, ?_, t16, (e14.trans e15').trans e16, hsub2, by omega, ?_⟩
            · rw [hl16, ← List.append_assoc]
              exact g16
            · rw [← List.append_assoc]
              exact hjW _ ev o2 hjj
          · rintro σ H14 ⟨v, ch, as2, rfl, g14, t14, e14, hsub, hle, hjj⟩
            exact ⟨tot evss', by omega, _, _, _, Lp', ls', evss', es1 ++ ch, as2, _, rfl, g14, t14, rfl, fun x hx => (ne' x hx).2, hle, by omega, hjj⟩
        · have hl0 : ls = [] := by
            cases ls with
            | nil => rfl
            | cons _ _ => exact absurd rfl hne
          subst hl0
          refine ⟨_, rfl, D, _, rfl, .inl ⟨SqL.of g6.lst, fun k nk => ?_⟩⟩
          have sk := same_new (o := .tup (as.map V.ref)) nk
          have g7 := g6.same sk
          refine ⟨k, as, es, rfl, upd_same, g7.evs, g7.val, by omega, fun p as' es' H' s8 hp he' hv' hl' mr => ?_⟩
          have g8 := g7.same s8
          refine q p as' es' H' (g8.box.mono (by omega)) g8.ex hp he' hv' (by omega) fun e he => ?_
          rcases mr e he with he | ⟨r, u, rfl⟩
          · exact g8.oke e he
          · exact okE_read r u
      · intro σ H1 Q Q' hq ⟨v, hv, h0, h⟩
        refine ⟨v, hv, h0, fun p np => ?_⟩
        obtain ⟨d, e, a1, a2, a3, a4, k, ek, hk⟩ := h p np
        exact ⟨d, e, a1, a2, a3, a4, k, ek, hq _ _ hk⟩
end
end K15

set_option Elab.async false
set_option linter.all false
set_option autoImplicit false
set_option maxRecDepth 100000
set_option maxHeartbeats 4000000
namespace K15
open PySem L2
abbrev s__law_drawn : Stmt := top 35
abbrev N__law_drawn : List Str := ["_law_box_here", "_law_most", "_law_names", "_law_words", "_law_found"]
abbrev P__law_drawn : List Str := ["_law_box_here", "_law_most"]
theorem sc__law_drawn : FnScope N__law_drawn P__law_drawn (C8.fnScope s__law_drawn) := C8.fnScope_by (by decide +kernel)
/-- a table, whichever -/
def spDrawn : Sp := fun vs H Q _ => ∃ (b : Addr) (cc : Int), vs = [.ref b, .int 7] ∧ BoxAt H b cc ∧ cc ≤ 600000 ∧
  ∀ (p : Addr) (as : List Addr) (es : List EvS) (H' : Hp), BoxAt H' b (cc + 3000) → Exc (fun a => a = b) H H' → H' p = some (.tup (as.map V.ref)) → EvsAt H' as es → Valid W0 es → es.length < 64 → (∀ e, e ∈ es → evOk e) → Q (.ref p) H'
theorem cutV_pos {xs : List V} {k : Int} (h : 0 < xs.length) (hk : 0 < k) : 0 < (cutV xs none (some k)).length := by
  unfold cutV
  rw [List.length_take, List.length_drop]
  show 0 < min ((if k < 0 then (k + (xs.length : Int)).toNat else min k.toNat xs.length) - 0) (xs.length - 0)
  rw [if_neg (by omega)]
  omega
theorem words_ok {x : V} (h : x ∈ [V.str "ppdddrrrsl", .str "pdddrrrwwj", .str "ppddrrrrrsllw"]) : ∃ z, x = .str z ∧ 0 < z.length ∧ z.length < 1000 := by
  have : [V.str "ppdddrrrsl", .str "pdddrrrwwj", .str "ppddrrrrrsllw"].all (fun x => match x with | .str z => decide (0 < z.length) && decide (z.length < 1000) | _ => false) = true := by decide +kernel
  have := List.all_eq_true.mp this x h
  cases x <;> first | (cases this; done) | skip
  rename_i z
  have this : (decide (0 < z.length) && decide (z.length < 1000)) = true := this
  rw [Bool.and_eq_true] at this
  exact ⟨z, rfl, of_decide_eq_true this.1, of_decide_eq_true this.2⟩
section
variable {P : Program} {w : World} {K : PySem.W.Frag} {mg : Str → Option Value} {base : Heap} {A : Adr}
theorem drawn_ok {f : Addr} {fd : FuncData} (T : Txt K mg A) (F : C8.Def K mg "_law_drawn" s__law_drawn f fd) (b : Binds K fd P__law_drawn []) (c_l_take : C8.Cal P w K mg base 1 "_law_take" spTake []) (c_l_of : C8.Cal P w K mg base 2 "_law_of" (spOf K) [])
    (c_l_fit : C8.Cal P w K mg base 3 "_law_fit" spFit []) (c_l_table : C8.Cal P w K mg base 4 "_law_table" (spTable K) []) (c_l_ended : C8.Cal P w K mg base 2 "_law_ended" spEnded []) : C8.Cal P w K mg base 5 "_law_drawn" spDrawn [] := by
  refine C8.cal0 F b .nil sc__law_drawn (fun vs H Q E h => ?_) (fun cdv A outer s H vs Q E hr h => ?_)
  · obtain ⟨b, cc, rfl, _⟩ := h
    rfl
  · obtain ⟨b, cc, rfl, hb, hcc, q⟩ := h
    have hu := hu_of hr
    refine ⟨_, (pss_cons (ps_if (pt_cmpR op_eq (C8.pe_c c_l_take hr (by decide) rfl (pa_cons (pv 0) (pa_cons pe_int pa_nil))) pe_int (nomark _)) (pss_one (ps_ret (C8.pe_c c_l_fit hr (by decide) rfl (pa_cons (pv 0) (pa_cons (pv 1) (pa_cons (pe_op op_add pe_int (C8.pe_c c_l_take hr (by decide) rfl (pa_cons (pv 0) (pa_cons pe_int pa_nil)))) (pa_cons pe_int pa_nil))))))) pss_nil)
      (pss_cons (ps_set (i := 2) sc__law_drawn.nd rfl (Or.inl rfl) (pe_slice (r := rSlL K) sl_list (pe_lst (pa_cons pe_str (pa_cons pe_str (pa_cons pe_str (pa_cons pe_str pa_nil))))) po_none (po_some (pe_op op_add pe_int (C8.pe_c c_l_take hr (by decide) rfl (pa_cons (pv 0) (pa_cons pe_int pa_nil)))))))
      (pss_cons (ps_set (i := 3) sc__law_drawn.nd rfl (Or.inl rfl) (C8.pe_c c_l_of hr (by decide) rfl (pa_cons (pv 0) (pa_cons (pe_lst (pa_cons pe_str (pa_cons pe_str (pa_cons pe_str pa_nil)))) pa_nil))))
      (pss_cons (ps_set (i := 4) sc__law_drawn.nd rfl (Or.inl rfl) (C8.pe_c c_l_table hr (by decide) rfl (pa_cons (pv 0) (pa_cons (pe_op op_add pe_int (C8.pe_c c_l_take hr (by decide) rfl (pa_cons (pv 0) (pa_cons pe_int pa_nil)))) (pa_cons (pv 1) (pa_cons (pe_op op_add pe_int (C8.pe_c c_l_take hr (by decide) rfl (pa_cons (pv 0) (pa_cons pe_int pa_nil)))) (pa_cons (pv 2) (pa_cons (pv 3) pa_nil))))))))
      (pss_one (ps_ret (pe_ifExp (pt_cmpR op_gt (C8.pe_c c_l_take hr (by decide) rfl (pa_cons (pv 0) (pa_cons pe_int pa_nil))) pe_int (nomark _)) (C8.pe_c c_l_ended hr (by decide) rfl (pa_cons (pv 4) pa_nil)) (pv 4)))))))), ?_⟩
    refine ⟨_, rfl, b, 2, _, rfl, by decide, by decide, hb, by omega, fun r H1 r0 r1 hb1 e1 => ?_⟩
    refine ⟨rfl, _, rfl, ite2 (fun _ => ?_) (fun _ => ?_)⟩
    · refine ⟨_, rfl, _, rfl, _, rfl, b, 3, _, rfl, by decide, by decide, hb1, by omega, fun x H2 x0 x1 hb2 e2 => ?_⟩
      refine ⟨_, _, rfl, rfl, b, _, _, rfl, by omega, by omega, hb2, by omega, fun p as es H3 hb3 e3 hp he hv hl ok => ?_⟩
      exact q p as es H3 (hb3.mono (by omega)) ((e1.trans e2).trans e3) hp he hv hl ok
    · refine ⟨by show 4 ≤ sizeLine; decide, fun g0 n0 => ?_⟩
      have s0 := same_new (o := .lst [.str "a", .str "b", .str "cc", .str "abc"]) n0
      have b0 := hb1.ne n0
      refine ⟨_, rfl, b, 3, _, rfl, by decide, by decide, box_same hb1 s0, by omega, fun x H2 x0 x1 hb2 e2 => ?_⟩
      have hg2 := e2 _ _ upd_same b0.symm
      refine ⟨_, _, rfl, rfl, _, rfl, g0, _, rfl, SqL.of hg2, fun nm nn => ?_⟩
      generalize hcut : cutV _ _ _ = names
      have nnames : Names names := fun x hx => Names.of (xs := [.str "a", .str "b", .str "cc", .str "abc"]) (by decide +kernel) x (cutV_mem (hcut ▸ hx))
      have lnames : names.length ≤ 4 := by rw [← hcut]; exact cutV_length _ _ _
      have pnames : 0 < names.length := by rw [← hcut]; exact cutV_pos (by decide) (by omega)
      have s2 := same_new (o := .lst names) nn
      have bnm := hb2.ne nn
      have e2' := ((e1.trans (same_exc s0 _)).trans e2).trans (same_exc s2 _)
      have hb2' := box_same hb2 s2
      dsimp only [gName]
      refine ⟨_, rfl, by show 3 ≤ sizeLine; decide, fun g3 n3 => ?_⟩
      have s3 := same_new (o := .lst [.str "ppdddrrrsl", .str "pdddrrrwwj", .str "ppddrrrrrsllw"]) n3
      have b3 := hb2'.ne n3
      refine ⟨b, g3, _, _, rfl, SqL.of upd_same, b3.symm, by show 0 < 3; decide, by show 3 < 1000; decide, box_same hb2' s3, by omega, fun v H4 hv4 hb4 e4 => ?_⟩
      obtain ⟨z, rfl, z0, z1⟩ := words_ok hv4
      have hnm4 := e4 _ _ (s3 _ _ (upd_same (H := H2) (a := nm) (o := .lst names))) bnm.symm
      have e4' := (e2'.trans (same_exc s3 _)).trans e4
      refine ⟨_, rfl, _, rfl, b, 6, _, rfl, by decide, by decide, hb4, by omega, fun x5 H5 x50 x51 hb5 e5 => ?_⟩
      refine ⟨_, _, rfl, rfl, _, rfl, _, rfl, b, 4, _, rfl, by decide, by decide, hb5, by omega, fun x6 H6 x60 x61 hb6 e6 => ?_⟩
      have hnm6 := e6 _ _ (e5 _ _ hnm4 bnm.symm) bnm.symm
      have e6' := (e4'.trans e5).trans e6
      refine ⟨_, _, rfl, rfl, _, rfl, _, rfl, b, nm, _, _, _, _, z, names, rfl, by omega, by omega, bnm.symm, hb6, by omega, by omega, by omega, SqL.of hnm6, nnames, z0, z1, pnames, by omega, fun p as es H7 hb7 e7 hp he hv ok hl => ?_⟩
      have e7' := e6'.trans e7
      dsimp only [gName]
      refine ⟨_, rfl, b, 4, _, rfl, by decide, by decide, hb7, by omega, fun x8 H8 x80 x81 hb8 e8 => ?_⟩
      have hp8 := e8 _ _ hp (noTup_b hb7 _ _ hp)
      have he8 := TupsAt.exc he e8 (noTup_b hb7)
      have e8' := e7'.trans e8
      refine ⟨_, _, rfl, rfl, _, rfl, ite2 (fun _ => ?_) (fun _ => ?_)⟩
      · refine ⟨_, rfl, p, as, es, rfl, hp8, he8, hv, by omega, fun p9 as9 es9 H9 s9 hp9 he9 hv9 hl9 mr => ?_⟩
        refine q p9 as9 es9 H9 ((box_same hb8 s9).mono (by omega)) (e8'.trans (same_exc s9 _)) hp9 he9 hv9 (by omega) fun e he => ?_
        rcases mr e he with he | ⟨r, u, rfl⟩
        · exact ok e he
        · exact okE_read r u
      · exact ⟨_, rfl, q p as es H8 (hb8.mono (by omega)) e8' hp8 he8 hv (by omega) ok⟩
end
end K15

set_option Elab.async false
set_option linter.all false
set_option autoImplicit false
set_option maxRecDepth 100000
set_option maxHeartbeats 4000000
/-! A log on the heap. -/
namespace K15
open PySem L2
inductive Role where
  | log | ents | pls | tbs | cps | ent (i : Nat) | own (i : Nat) | tab (r : Int) | cpy (i : Nat)
/-- where a log's objects stand -/
structure Lay where
  dx : Addr
  E : Addr
  PL : Addr
  TB : Addr
  CP : Addr
  G : Addr
  ea : List (Addr × Addr)
  tt : Int → Option Addr
  ca : List (Addr × Addr)
  ga : List Addr
abbrev LSS := LS Str
def flds (S : LSS) (L : Lay) : List (Str × V) := [("own_hold", .int S.hold), ("own_guards", .ref L.G), ("own_entries", .ref L.E), ("own_places", .ref L.PL), ("own_tables", .ref L.TB), ("own_copies", .ref L.CP), ("own_time", .int S.time)]
def optV : Option Int → V
  | none => .non
  | some z => .int z
def slV (e : Ent Str) : List (Option V) := [some (.bl e.gone), some (.str e.key), some (optV e.passed), some (optV e.val)]
/-- a dict of texts to ints -/
structure DS (kvs : List (L2.Key × V)) (T : Tab Str) : Prop where
  nd : (kvs.map (·.1)).Nodup
  ks : ∀ p, p ∈ kvs → ∃ k v, p = ((Sum.inr k : L2.Key), V.int v) ∧ PyData.strOk k = true
  at_ : ∀ k : Str, valV kvs (Sum.inr k) = (T k).map V.int
theorem DS.nil : DS [] (fun _ => none) := ⟨List.nodup_nil, fun _ h => (by cases h), fun _ => rfl⟩
theorem put_mem' {kvs : List (L2.Key × V)} {k : L2.Key} {v : V} {p : L2.Key × V} (h : p ∈ putK kvs k v) : p = (k, v) ∨ p ∈ kvs := by
  unfold putK at h
  split at h
  · obtain ⟨q, hq, e⟩ := List.mem_map.mp h
    split at e
    · rename_i hk
      left
      rw [← e, hk]
    · right
      rw [← e]
      exact hq
  · rcases List.mem_append.mp h with h | h
    · exact .inr h
    · left
      rw [List.mem_singleton.mp h]
theorem DS.put {kvs : List (L2.Key × V)} {T : Tab Str} (h : DS kvs T) {k : Str} (v : Int) (hk : PyData.strOk k = true) : DS (putK kvs (Sum.inr k) (.int v)) (setT T k (some v)) := by
  refine ⟨nd_put _ _ h.nd, fun p hp => ?_, fun x => ?_⟩
  · rcases put_mem' hp with e | e
    · exact ⟨k, v, e, hk⟩
    · exact h.ks p e
  · rw [valV_put]
    unfold setT
    by_cases hx : x = k
    · rw [if_pos (by rw [hx]), if_pos hx]
      rfl
    · rw [if_neg (fun q => hx (Sum.inr.inj q)), if_neg hx]
      exact h.at_ x
theorem valV_drop {kvs : List (L2.Key × V)} (k j : L2.Key) : valV (dropK kvs k) j = if j = k then none else valV kvs j := by
  induction kvs with
  | nil => split <;> rfl
  | cons p r ih =>
    by_cases hp : p.1 = k
    · rw [dropK_pos hp, ih]
      split
      · rfl
      · rename_i hj
        obtain ⟨a, b⟩ := p
        rw [valV_neg (fun z : a = j => hj (z.symm.trans hp))]
    · rw [dropK_neg hp]
      obtain ⟨a, b⟩ := p
      by_cases ha : a = j
      · rw [valV_pos ha, valV_pos ha, if_neg (fun z => hp (ha.trans z))]
      · rw [valV_neg ha, valV_neg ha, ih]
theorem DS.drop {kvs : List (L2.Key × V)} {T : Tab Str} (h : DS kvs T) (k : Str) : DS (dropK kvs (Sum.inr k)) (setT T k none) := by
  refine ⟨nd_dropK h.nd, fun p hp => h.ks p (dropK_mem hp), fun x => ?_⟩
  rw [valV_drop]
  unfold setT
  by_cases hx : x = k
  · rw [if_pos (by rw [hx]), if_pos hx]
    rfl
  · rw [if_neg (fun q => hx (Sum.inr.inj q)), if_neg hx]
    exact h.at_ x
theorem DS.ents : ∀ {kvs : List (L2.Key × V)}, (∀ p, p ∈ kvs → ∃ k v, p = ((Sum.inr k : L2.Key), V.int v) ∧ PyData.strOk k = true) → ∃ es : List (Str × Int), kvs = es.map K15R.entK ∧ ∀ e, e ∈ es → PyData.strOk e.1 = true
  | [], _ => ⟨[], rfl, fun _ h => (by cases h)⟩
  | p :: r, h => by
    obtain ⟨k, v, e, o⟩ := h p List.mem_cons_self
    obtain ⟨es, e2, o2⟩ := DS.ents (kvs := r) fun x hx => h x (List.mem_cons_of_mem _ hx)
    refine ⟨(k, v) :: es, by rw [List.map_cons, ← e2, e], fun x hx => ?_⟩
    rcases List.mem_cons.mp hx with hx | hx
    · rw [hx]; exact o
    · exact o2 x hx
/-- tagged -/
def Tg (ρ : Addr → Option Role) : Addr → Prop := fun a => ρ a ≠ none
structure LogAt (A : Adr) (H : Hp) (p : Addr) (S : LSS) (ρ : Addr → Option Role) (m : Nat) (L : Lay) : Prop where
  self : H p = some (.ins A.CL L.dx (flds S L))
  gd : H L.G = some (.tup (L.ga.map V.ref))
  gds : TupsAt H L.ga (S.gds.map gdV)
  en : H L.E = some (.lst (L.ea.map fun x => V.ref x.1))
  ents : Paired (fun x e => SlAt H x.1 A.CE x.2 (slV e)) L.ea S.ents
  pl : ∃ kvs, H L.PL = some (.dK kvs) ∧ DI kvs (fun r => (S.pl r).map V.int) ∧ kvs.length ≤ m
  tb : ∃ kvs, H L.TB = some (.dK kvs) ∧ DI kvs (fun r => (L.tt r).map V.ref) ∧ kvs.length ≤ m
  tabs : ∀ r a, L.tt r = some a → ∃ kvs, H a = some (.dK kvs) ∧ DS kvs (S.tb r) ∧ kvs.length ≤ 64 * m
  dom : ∀ r, (L.tt r).isSome = (S.pl r).isSome
  cp : H L.CP = some (.lst (L.ca.map fun x => V.ref x.1))
  cps : Paired (fun x c => H x.1 = some (.tup [.int c.1, .ref x.2]) ∧ ∃ kvs, H x.2 = some (.dK kvs) ∧ DS kvs c.2 ∧ kvs.length ≤ 64 * m) L.ca S.cps
  keys : ∀ e, e ∈ S.ents → PyData.strOk e.key = true
  len : S.ents.length ≤ m ∧ S.cps.length ≤ m
  rp : ρ p = some .log
  rE : ρ L.E = some .ents
  rPL : ρ L.PL = some .pls
  rTB : ρ L.TB = some .tbs
  rCP : ρ L.CP = some .cps
  rea : ∀ (i : Nat) x, L.ea[i]? = some x → ρ x.1 = some (.ent i) ∧ ρ x.2 = some (.own i)
  rtt : ∀ r a, L.tt r = some a → ρ a = some (.tab r)
  rca : ∀ (i : Nat) x, L.ca[i]? = some x → ρ x.2 = some (.cpy i)
  tag : ∀ a, ρ a ≠ none → ∃ o, H a = some o ∧ ∀ xs, o ≠ .tup xs
  gok : ∀ n, (true, n) ∈ S.gds → 0 ≤ n
variable {A : Adr} {H H' H1 : Hp} {p : Addr} {S : LSS} {ρ ρ' : Addr → Option Role} {m : Nat} {L : Lay}
theorem LogAt.noTup (h : LogAt A H p S ρ m L) : NoTup (Tg ρ) H := fun a xs e z => by
  obtain ⟨o, h1, h2⟩ := h.tag a z
  rw [e] at h1
  cases h1
  exact h2 xs rfl
theorem paired_at {α β : Type} {F : α → β → Prop} {as : List α} {bs : List β} (h : Paired F as bs) : ∀ {i : Nat} {a : α}, as[i]? = some a → ∃ b, bs[i]? = some b ∧ F a b := by
  induction h with
  | nil => intro i a h; simp at h
  | cons r t ih =>
    intro i a h
    cases i with
    | zero =>
      simp at h
      subst h
      exact ⟨_, rfl, r⟩
    | succ i =>
      rw [List.getElem?_cons_succ] at h ⊢
      exact ih h
theorem paired_at' {α β : Type} {F : α → β → Prop} {as : List α} {bs : List β} (h : Paired F as bs) : ∀ {i : Nat} {b : β}, bs[i]? = some b → ∃ a, as[i]? = some a ∧ F a b := by
  induction h with
  | nil => intro i a h; simp at h
  | cons r t ih =>
    intro i a h
    cases i with
    | zero =>
      simp at h
      subst h
      exact ⟨_, rfl, r⟩
    | succ i =>
      rw [List.getElem?_cons_succ] at h ⊢
      exact ih h
theorem paired_imp {α β : Type} {F G : α → β → Prop} {as : List α} {bs : List β} (h : Paired F as bs) (k : ∀ (i : Nat) a b, as[i]? = some a → F a b → G a b) : Paired G as bs := by
  induction h with
  | nil => exact .nil
  | cons r t ih => exact .cons (k 0 _ _ rfl r) (ih fun i a b e => k (i + 1) a b (by rw [List.getElem?_cons_succ]; exact e))
theorem paired_set {α β : Type} {F : α → β → Prop} {as : List α} {bs : List β} {i : Nat} {b : β} (h : Paired F as bs) (k : ∀ a, as[i]? = some a → F a b) : Paired F as (bs.set i b) := by
  induction h generalizing i with
  | nil => exact .nil
  | cons r t ih =>
    cases i with
    | zero => exact .cons (k _ rfl) t
    | succ i => exact .cons r (ih fun a e => k a (by rw [List.getElem?_cons_succ]; exact e))
/-- an instance's slots elsewhere -/
theorem sl_keep {x C dx : Addr} {vs : List (Option V)} (h : SlAt H x C dx vs) (k : ∀ a o, a = x ∨ a = dx → H a = some o → H' a = some o) : SlAt H' x C dx vs := by
  obtain ⟨h1, h2, h3⟩ := h
  refine ⟨k _ _ (.inr rfl) h1, h2, ?_⟩
  rcases h3 with h3 | ⟨h4, h3⟩
  · exact .inl (k _ _ (.inl rfl) h3)
  · exact .inr ⟨h4, k _ _ (.inl rfl) h3⟩
/-- what happens elsewhere -/
theorem LogAt.keep (h : LogAt A H p S ρ m L) (k : ∀ a o, H a = some o → (ρ a ≠ none ∨ ∃ xs, o = .tup xs) → H' a = some o) : LogAt A H' p S ρ m L := by
  have kt : ∀ {a : Addr} {o : HO} {r : Role}, H a = some o → ρ a = some r → H' a = some o := fun e r => k _ _ e (.inl (by rw [r]; intro z; cases z))
  have ku : ∀ {a : Addr} {xs : List V}, H a = some (.tup xs) → H' a = some (.tup xs) := fun e => k _ _ e (.inr ⟨_, rfl⟩)
  refine ⟨kt h.self h.rp, ku h.gd, h.gds.imp fun a xs e => ku e, kt h.en h.rE, paired_imp h.ents fun i a b e q => ?_, ?_, ?_, fun r a e => ?_, h.dom, kt h.cp h.rCP, paired_imp h.cps fun i a b e q => ?_, h.keys, h.len, h.rp, h.rE, h.rPL, h.rTB, h.rCP, h.rea, h.rtt, h.rca, fun a r => ?_, h.gok⟩
  · refine sl_keep q fun x o z e2 => ?_
    rcases z with z | z
    · rw [z] at e2 ⊢
      exact kt e2 (h.rea i a e).1
    · rw [z] at e2 ⊢
      exact kt e2 (h.rea i a e).2
  · obtain ⟨kvs, q1, q2⟩ := h.pl
    exact ⟨kvs, kt q1 h.rPL, q2⟩
  · obtain ⟨kvs, q1, q2⟩ := h.tb
    exact ⟨kvs, kt q1 h.rTB, q2⟩
  · obtain ⟨kvs, q1, q2⟩ := h.tabs r a e
    exact ⟨kvs, kt q1 (h.rtt r a e), q2⟩
  · obtain ⟨q1, kvs, q2, q3⟩ := q
    exact ⟨ku q1, kvs, kt q2 (h.rca i a e), q3⟩
  · obtain ⟨o, q1, q2⟩ := h.tag a r
    exact ⟨o, k _ _ q1 (.inl r), q2⟩
theorem LogAt.same (h : LogAt A H p S ρ m L) (s : Same H H') : LogAt A H' p S ρ m L := h.keep fun a o e _ => s a o e
theorem LogAt.exc {P : Addr → Prop} (h : LogAt A H p S ρ m L) (e : Exc P H H') (n : NoTup P H) (d : ∀ a, P a → ρ a = none) : LogAt A H' p S ρ m L := h.keep fun a o q z => e a o q fun c => by
  rcases z with z | ⟨xs, z⟩
  · exact z (d a c)
  · rw [z] at q
    exact n a xs q c
theorem LogAt.mono {m' : Nat} (h : LogAt A H p S ρ m L) (l : m ≤ m') : LogAt A H p S ρ m' L := by
  refine ⟨h.self, h.gd, h.gds, h.en, h.ents, ?_, ?_, fun r a e => ?_, h.dom, h.cp, paired_imp h.cps fun i a b e q => ?_, h.keys, ⟨by have := h.len.1; omega, by have := h.len.2; omega⟩, h.rp, h.rE, h.rPL, h.rTB, h.rCP, h.rea, h.rtt, h.rca, h.tag, h.gok⟩
  · obtain ⟨kvs, q1, q2, q3⟩ := h.pl
    exact ⟨kvs, q1, q2, by omega⟩
  · obtain ⟨kvs, q1, q2, q3⟩ := h.tb
    exact ⟨kvs, q1, q2, by omega⟩
  · obtain ⟨kvs, q1, q2, q3⟩ := h.tabs r a e
    exact ⟨kvs, q1, q2, by omega⟩
  · obtain ⟨q0, kvs, q1, q2, q3⟩ := q
    exact ⟨q0, kvs, q1, q2, by omega⟩
/-- a log goes on: only its own objects change, and new ones come -/
structure Tr (H : Hp) (ρ : Addr → Option Role) (H' : Hp) (ρ' : Addr → Option Role) : Prop where
  ex : Exc (Tg ρ) H H'
  sub : ∀ a r, ρ a = some r → ρ' a = some r
  new : ∀ a, ρ' a ≠ none → ρ a ≠ none ∨ H a = none
theorem Tr.refl (H : Hp) (ρ : Addr → Option Role) : Tr H ρ H ρ := ⟨Exc.refl _ _, fun _ _ h => h, fun _ h => .inl h⟩
theorem Tr.same (s : Same H H') (ρ : Addr → Option Role) : Tr H ρ H' ρ := ⟨same_exc s _, fun _ _ h => h, fun _ h => .inl h⟩
theorem Tr.trans {H2 : Hp} {ρ2 : Addr → Option Role} (a : Tr H ρ H1 ρ') (b : Tr H1 ρ' H2 ρ2) : Tr H ρ H2 ρ2 := by
  have key : ∀ x o, H x = some o → ρ x = none → ρ' x = none := fun x o e n => by
    cases h : ρ' x with
    | none => rfl
    | some r =>
      rcases a.new x (by rw [h]; intro z; cases z) with q | q
      · exact absurd n q
      · rw [e] at q; cases q
  refine ⟨fun x o e n => ?_, fun x r e => b.sub x r (a.sub x r e), fun x h => ?_⟩
  · have n' : ρ x = none := Classical.byContradiction n
    exact b.ex x o (a.ex x o e n) fun z => z (key x o e n')
  · cases hr : ρ x with
    | some r => exact .inl (by intro z; cases z)
    | none =>
      right
      cases hh : H x with
      | none => rfl
      | some o =>
        have q1 := key x o hh hr
        rcases b.new x h with q | q
        · exact absurd q1 q
        · rw [a.ex x o hh (fun z => z hr)] at q
          cases q
end K15

set_option Elab.async false
set_option linter.all false
set_option autoImplicit false
set_option maxRecDepth 100000
set_option maxHeartbeats 4000000
namespace K15
open PySem L2
section
variable {K : PySem.W.Frag} {mg : Str → Option Value} {A : Adr} {H H' H1 : Hp} {p : Addr} {S : LSS} {ρ ρ' : Addr → Option Role} {m : Nat} {L : Lay} {σ : L2.St} {i : Nat} {ta : TE}
theorem vHold (T : Txt K mg A) (h : LogAt A H p S ρ m L) (hv : Val ta σ H (.ref p)) : Val (tFld K ta "own_hold") σ H (.int S.hold) := val_fld hv h.self T.cl T.n_hold (by rfl)
theorem vG (T : Txt K mg A) (h : LogAt A H p S ρ m L) (hv : Val ta σ H (.ref p)) : Val (tFld K ta "own_guards") σ H (.ref L.G) := val_fld hv h.self T.cl T.n_guards (by rfl)
theorem vE (T : Txt K mg A) (h : LogAt A H p S ρ m L) (hv : Val ta σ H (.ref p)) : Val (tFld K ta "own_entries") σ H (.ref L.E) := val_fld hv h.self T.cl T.n_entries (by rfl)
theorem vPL (T : Txt K mg A) (h : LogAt A H p S ρ m L) (hv : Val ta σ H (.ref p)) : Val (tFld K ta "own_places") σ H (.ref L.PL) := val_fld hv h.self T.cl T.n_places (by rfl)
theorem vTB (T : Txt K mg A) (h : LogAt A H p S ρ m L) (hv : Val ta σ H (.ref p)) : Val (tFld K ta "own_tables") σ H (.ref L.TB) := val_fld hv h.self T.cl T.n_tables (by rfl)
theorem vCP (T : Txt K mg A) (h : LogAt A H p S ρ m L) (hv : Val ta σ H (.ref p)) : Val (tFld K ta "own_copies") σ H (.ref L.CP) := val_fld hv h.self T.cl T.n_copies (by rfl)
theorem vT (T : Txt K mg A) (h : LogAt A H p S ρ m L) (hv : Val ta σ H (.ref p)) : Val (tFld K ta "own_time") σ H (.int S.time) := val_fld hv h.self T.cl T.n_time (by rfl)
theorem val_slot {C a dx : Addr} {vs : List (Option V)} {j : Nat} {v : V} (ha : Val ta σ H (.ref a)) (h : SlAt H a C dx vs) (k : vs[j]? = some (some v)) : Val (tSlot C j ta) σ H v := fun Q q => ha _ ⟨a, dx, vs, v, rfl, h, k, q⟩
theorem LogAt.gPL (h : LogAt A H p S ρ m L) (r : Int) : DGet H L.PL (.int r) ((S.pl r).map V.int) := by
  obtain ⟨kvs, h1, h2, _⟩ := h.pl
  have e := DGet.k (k := Sum.inl r) h1
  rw [h2.at_ r] at e
  exact e
theorem LogAt.gTB (h : LogAt A H p S ρ m L) (r : Int) : DGet H L.TB (.int r) ((L.tt r).map V.ref) := by
  obtain ⟨kvs, h1, h2, _⟩ := h.tb
  have e := DGet.k (k := Sum.inl r) h1
  rw [h2.at_ r] at e
  exact e
theorem LogAt.eLen (h : LogAt A H p S ρ m L) : L.ea.length = S.ents.length := Paired.length h.ents
end
section
variable {P : Program} {w : World} {K : PySem.W.Frag} {mg : Str → Option Value} {base : Heap} {A : Adr} {f : Addr} {fd : FuncData}
abbrev s_Log_many : Stmt := inClass (top 17) 7
abbrev N_Log_many : List Str := ["self"]
abbrev P_Log_many : List Str := ["self"]
theorem sc_Log_many : FnScope N_Log_many P_Log_many (C8.fnScope s_Log_many) := C8.fnScope_by (by decide +kernel)
def spMany (A : Adr) : Sp := fun vs H Q _ => ∃ p S ρ m L, vs = [.ref p] ∧ LogAt A H p S ρ m L ∧ Q (.int (S.ents.length : Int)) H
theorem many_ok (T : Txt K mg A) (me : Meth K A.CL "many" f) (F : C8.Fun K "many" "Log.many" s_Log_many f fd) (b : Binds K fd P_Log_many []) : C8.Met P w K mg base 1 A.CL "many" (spMany A) [] := by
  refine C8.met0 T.cl me F b sc_Log_many (fun vs H Q E h => ?_) (fun cdv A' outer s H vs Q E hr h => ?_)
  · obtain ⟨p, S, ρ, m, L, rfl, _⟩ := h
    rfl
  · obtain ⟨p, S, ρ, m, L, rfl, h, q⟩ := h
    have hu := hu_of hr
    refine ⟨_, (pss_one (ps_ret (pe_callB (r := rLenQ K) call_len_seq (by rfl) T.b_len PySem.boot_len (pa_cons (pe_fld (pv 0) rfl) pa_nil)))), ?_⟩
    refine st_ret (val_len (K := K) (vE T h (val_var rfl)) (.inl (SqL.of h.en))) ?_
    rw [List.length_map, h.eLen]
    exact q
abbrev s_Log_look_joined : Stmt := inClass (top 17) 8
abbrev N_Log_look_joined : List Str := ["self", "reader"]
abbrev P_Log_look_joined : List Str := ["self", "reader"]
theorem sc_Log_look_joined : FnScope N_Log_look_joined P_Log_look_joined (C8.fnScope s_Log_look_joined) := C8.fnScope_by (by decide +kernel)
def spLook (A : Adr) : Sp := fun vs H Q _ => ∃ p S ρ m L r, vs = [.ref p, .int r] ∧ LogAt A H p S ρ m L ∧ S.pl r ≠ none ∧ Q .non H
theorem look_ok (T : Txt K mg A) (me : Meth K A.CL "look_joined" f) (F : C8.Fun K "look_joined" "Log.look_joined" s_Log_look_joined f fd) (b : Binds K fd P_Log_look_joined []) : C8.Met P w K mg base 1 A.CL "look_joined" (spLook A) [] := by
  refine C8.met0 T.cl me F b sc_Log_look_joined (fun vs H Q E h => ?_) (fun cdv A' outer s H vs Q E hr h => ?_)
  · obtain ⟨p, S, ρ, m, L, r, rfl, _⟩ := h
    rfl
  · obtain ⟨p, S, ρ, m, L, r, rfl, h, hp, q⟩ := h
    have hu := hu_of hr
    refine ⟨_, (pss_one (ps_if (pt_cmp (pc_dnotin hu (pv 1) (pe_fld (pv 0) rfl))) (pss_one ps_never) pss_nil)), ?_⟩
    have g := h.gPL r
    cases e : S.pl r with
    | none => exact absurd e hp
    | some z =>
      rw [e] at g
      refine st_no (ans_dnin (vPL T h (val_var rfl)) (val_var rfl) g rfl) ?_
      exact q
abbrev s_Log_is_old : Stmt := inClass (top 17) 21
abbrev N_Log_is_old : List Str := ["self", "entry"]
abbrev P_Log_is_old : List Str := ["self", "entry"]
theorem sc_Log_is_old : FnScope N_Log_is_old P_Log_is_old (C8.fnScope s_Log_is_old) := C8.fnScope_by (by decide +kernel)
def spIsOld (A : Adr) : Sp := fun vs H Q _ => ∃ p S ρ m L, ∃ (i : Nat) (x e : Addr), vs = [.ref p, .ref x] ∧ LogAt A H p S ρ m L ∧ L.ea[i]? = some (x, e) ∧ ∀ en, S.ents[i]? = some en → Q (.bl (oldB S en)) H
theorem isOld_ok (T : Txt K mg A) (me : Meth K A.CL "is_old" f) (F : C8.Fun K "is_old" "Log.is_old" s_Log_is_old f fd) (b : Binds K fd P_Log_is_old []) : C8.Met P w K mg base 1 A.CL "is_old" (spIsOld A) [] := by
  refine C8.met0 T.cl me F b sc_Log_is_old (fun vs H Q E h => ?_) (fun cdv A' outer s H vs Q E hr h => ?_)
  · obtain ⟨p, S, ρ, m, L, i, x, e, rfl, _⟩ := h
    rfl
  · obtain ⟨p, S, ρ, m, L, i, x, e, rfl, h, hi, q⟩ := h
    have hu := hu_of hr
    refine ⟨_, (pss_one (ps_ret (pe_and (pe_cmpR op_notN (pe_slot T.scl T.sl_passed (pv 1)) pe_non (nomark _)) (pe_one (pe_cmpR op_le (pe_op op_add (pe_slot T.scl T.sl_passed (pv 1)) (pe_fld (pv 0) rfl)) (pe_fld (pv 0) rfl) (nomark _)))))), ?_⟩
    obtain ⟨en, h1, h2⟩ := paired_at h.ents hi
    have q := q en h1
    refine ⟨_, rfl, x, e, _, _, rfl, h2, rfl, rfl, _, rfl, ?_⟩
    cases hp : en.passed with
    | none =>
      rw [show oldB S en = false by unfold oldB; rw [hp]] at q
      exact iteF q
    | some t =>
      rw [show oldB S en = decide (t + S.hold ≤ S.time) by unfold oldB; rw [hp]] at q
      refine iteT ?_
      have hpv : (slV en)[2]? = some (some (V.int t)) := by
        unfold slV
        rw [hp]
        rfl
      exact val_I0 (g := fun i j => .bl (decide (i ≤ j))) (val_I0 (g := fun i j => .int (i + j)) (val_slot (val_var rfl) h2 hpv) (vHold T h (val_var rfl))) (vT T h (val_var rfl)) _ q
abbrev s_Log_readers : Stmt := inClass (top 17) 24
abbrev N_Log_readers : List Str := ["self"]
abbrev P_Log_readers : List Str := ["self"]
theorem sc_Log_readers : FnScope N_Log_readers P_Log_readers (C8.fnScope s_Log_readers) := C8.fnScope_by (by decide +kernel)
def spReaders (A : Adr) : Sp := fun vs H Q _ => ∃ p S ρ m L, vs = [.ref p] ∧ LogAt A H p S ρ m L ∧ m < 64 ∧ ∀ (l : Addr) (rs : List Int), H l = none → (∀ r, r ∈ rs ↔ S.pl r ≠ none) → rs.length < 64 → Q (.ref l) (upd H l (.lst (rs.map V.int)))
theorem readers_ok (T : Txt K mg A) (me : Meth K A.CL "readers" f) (F : C8.Fun K "readers" "Log.readers" s_Log_readers f fd) (b : Binds K fd P_Log_readers []) : C8.Met P w K mg base 1 A.CL "readers" (spReaders A) [] := by
  refine C8.met0 T.cl me F b sc_Log_readers (fun vs H Q E h => ?_) (fun cdv A' outer s H vs Q E hr h => ?_)
  · obtain ⟨p, S, ρ, m, L, rfl, _⟩ := h
    rfl
  · obtain ⟨p, S, ρ, m, L, rfl, h, hm, q⟩ := h
    have hu := hu_of hr
    refine ⟨_, (pss_one (ps_ret (pe_callB (call_sortedDI rfl) (by rfl) T.b_sorted (by decide +kernel) (pa_cons (pe_fld (pv 0) rfl) pa_nil)))), ?_⟩
    obtain ⟨kvs, hs, hD, hl⟩ := h.pl
    obtain ⟨ks, hks, hnd, hkl, hin⟩ := hD.keys
    refine vPL T h (val_var rfl) _ ?_
    refine ⟨L.PL, kvs, ks, rfl, .inl hs, hks, by omega, fun ys l pm _ nl => q l ys nl (fun r => ?_) (by rw [pm.length_eq]; omega)⟩
    rw [pm.mem_iff]
    constructor
    · intro hr z
      exact hin r hr (by rw [z]; rfl)
    · intro hr
      have : valV kvs (Sum.inl r) ≠ none := by
        rw [hD.at_ r]
        intro z
        cases e : S.pl r with
        | none => exact hr e
        | some x => rw [e] at z; cases z
      have hk : (Sum.inl r : L2.Key) ∈ kvs.map (·.1) := by
        cases e : valV kvs (Sum.inl r) with
        | none => exact absurd e this
        | some v => exact valV_in e
      rw [hks] at hk
      obtain ⟨x, hx, e⟩ := List.mem_map.mp hk
      cases e
      exact hx
end
end K15

set_option Elab.async false
set_option linter.all false
set_option autoImplicit false
set_option maxRecDepth 100000
set_option maxHeartbeats 4000000
namespace K15
open PySem L2
theorem gpair {K : PySem.W.Frag} {σ : L2.St} {H : Hp} {T : Addr} {x y : V} {i j : Nat} {Q : L2.St → Hp → Prop} (h : H T = some (.tup [x, y])) (q : Q ((σ.set i (some x)).set j (some y)) H) : gTup K 2 (gCons (gName i) (gCons (gName j) gNil)) (.ref T) σ H Q :=
  ⟨T, _, rfl, SqT.of h, rfl, _, _, rfl, _, _, rfl, rfl, q⟩
theorem gtrip {K : PySem.W.Frag} {σ : L2.St} {H : Hp} {T : Addr} {x y z : V} {i j k : Nat} {Q : L2.St → Hp → Prop} (h : H T = some (.tup [x, y, z])) (q : Q (((σ.set i (some x)).set j (some y)).set k (some z)) H) : gTup K 3 (gCons (gName i) (gCons (gName j) (gCons (gName k) gNil))) (.ref T) σ H Q :=
  ⟨T, _, rfl, SqT.of h, rfl, _, _, rfl, _, _, rfl, _, _, rfl, rfl, q⟩
/-- those that are there, with their places -/
def rowsN : Nat → List (Ent Str) → List (Nat × Ent Str)
  | _, [] => []
  | i, e :: es => (if e.gone = true then [] else [(i, e)]) ++ rowsN (i + 1) es
def rowV (r : Nat × Ent Str) : List V := [.int (r.1 : Int), .str r.2.key, optV r.2.val]
abbrev ZT := ((Addr × Addr) × Ent Str) × Nat
def hzR (z : ZT) : List ZT := if z.1.2.gone = true then [] else [z]
def f1 (z : ZT) : List V := [.int (z.2 : Int), .ref z.1.1.1]
def f2 (z : ZT) : List V := rowV (z.2, z.1.2)
def g1 (z : ZT) : List (List V) := if z.1.2.gone = true then [] else [f1 z]
theorem g1_len : ∀ z, (g1 z).length ≤ 1 := fun z => by
  unfold g1
  split <;> simp
theorem hz_len : ∀ z, (hzR z).length ≤ 1 := fun z => by
  unfold hzR
  split <;> simp
theorem g1_hz (Z : List ZT) : Z.flatMap g1 = (Z.flatMap hzR).map f1 := by
  induction Z with
  | nil => rfl
  | cons z Z ih =>
    rw [List.flatMap_cons, List.flatMap_cons, List.map_append, ih]
    congr 1
    unfold g1 hzR
    split <;> rfl
theorem hz_rows : ∀ (as : List (Addr × Addr)) (es : List (Ent Str)) (n : Nat), as.length = es.length → (((as.zip es).zipIdx n).flatMap hzR).map f2 = (rowsN n es).map rowV
  | [], [], _, _ => rfl
  | [], _ :: _, _, h => by cases h
  | _ :: _, [], _, h => by cases h
  | a :: as, e :: es, n, h => by
    have h : as.length + 1 = es.length + 1 := h
    rw [List.zip_cons_cons, List.zipIdx_cons, List.flatMap_cons, List.map_append, hz_rows as es (n + 1) (Nat.succ.inj h)]
    show (hzR ((a, e), n)).map f2 ++ _ = ((if e.gone = true then [] else [(n, e)]) ++ rowsN (n + 1) es).map rowV
    rw [List.map_append]
    congr 1
    unfold hzR
    show (if e.gone = true then [] else [((a, e), n)]).map f2 = (if e.gone = true then [] else [(n, e)]).map rowV
    split <;> rfl
theorem zi_at {as : List (Addr × Addr)} {es : List (Ent Str)} {i : Nat} {a : Addr × Addr} {e : Ent Str} (h1 : as[i]? = some a) (h2 : es[i]? = some e) : ((as.zip es).zipIdx)[i]? = some ((a, e), i) := by
  rw [List.getElem?_zipIdx, zip_at h1 h2]
  simp
section
variable {P : Program} {w : World} {K : PySem.W.Frag} {mg : Str → Option Value} {base : Heap} {A : Adr} {f : Addr} {fd : FuncData}
abbrev s_Log_there : Stmt := inClass (top 17) 23
abbrev N_Log_there : List Str := ["self", "place", "entry", "rows"]
abbrev P_Log_there : List Str := ["self"]
theorem sc_Log_there : FnScope N_Log_there P_Log_there (C8.fnScope s_Log_there) := C8.fnScope_by (by decide +kernel)
def spThere (A : Adr) : Sp := fun vs H Q _ => ∃ p S ρ m L, vs = [.ref p] ∧ LogAt A H p S ρ m L ∧ m ≤ 1000 ∧ ∀ (l : Addr) (as : List Addr) (H' : Hp), Same H H' → H l = none → H' l = some (.lst (as.map V.ref)) → TupsAt H' as ((rowsN 0 S.ents).map rowV) → (rowsN 0 S.ents).length ≤ m → Q (.ref l) H'
theorem there_ok (T : Txt K mg A) (me : Meth K A.CL "there" f) (F : C8.Fun K "there" "Log.there" s_Log_there f fd) (b : Binds K fd P_Log_there []) : C8.Met P w K mg base 1 A.CL "there" (spThere A) [] := by
  refine C8.met0 T.cl me F b sc_Log_there (fun vs H Q E h => ?_) (fun cdv A' outer s H vs Q E hr h => ?_)
  · obtain ⟨p, S, ρ, m, L, rfl, _⟩ := h
    rfl
  · obtain ⟨p, S, ρ, m, L, rfl, h, hm, q⟩ := h
    have hu := hu_of hr
    refine ⟨_, (pss_cons (ps_setLc (i := 3) (own := [("place", 1), ("entry", 2)]) (g := (gTup K 2 (gCons (gName 1) (gCons (gName 2) gNil)))) (by rfl) sc_Log_there.nd rfl rfl (sw_true rfl rfl rfl (by decide +kernel)) (pi_enum (by rfl) T.b_enumerate (pa_cons (pe_fld (pv 0) rfl) pa_nil)) (blkOk_by (own := [("place", 1), ("entry", 2)]) (N := N_Log_there) (sc := C8.fnScope s_Log_there) (by decide +kernel)) (fun _ _ _ _ _ => (pg_tup rfl (pgs_cons (pg_name (i := 1) sc_Log_there.nd rfl (Or.inl rfl)) (pgs_cons (pg_name (i := 2) sc_Log_there.nd rfl (Or.inl rfl)) pgs_nil)))) (fun _ _ _ _ _ => (pts_one (pt_not (pt_val (pe_slot T.scl T.sl_is_gone (pv 2)))))) (fun _ _ _ _ _ => (pe_tup (pa_cons (pv 1) (pa_cons (pv 2) pa_nil)))))
      (pss_one (ps_ret (pe_lc (own := [("place", 1), ("entry", 2)]) (g := (gTup K 2 (gCons (gName 1) (gCons (gName 2) gNil)))) (by rfl) sc_Log_there.nd  (pi_list (pv 3)) (blkOk_by (own := [("place", 1), ("entry", 2)]) (N := N_Log_there) (sc := C8.fnScope s_Log_there) (by decide +kernel)) (fun _ _ _ _ _ => (pg_tup rfl (pgs_cons (pg_name (i := 1) sc_Log_there.nd rfl (Or.inl rfl)) (pgs_cons (pg_name (i := 2) sc_Log_there.nd rfl (Or.inl rfl)) pgs_nil)))) (fun _ _ _ _ _ => pts_nil) (fun _ _ _ _ _ => (pe_tup (pa_cons (pv 1) (pa_cons (pe_slot T.scl T.sl_key (pv 2)) (pa_cons (pe_slot T.scl T.sl_value (pv 2)) pa_nil))))))))), ?_⟩
    have hl := h.eLen
    have hlm := h.len.1
    refine st_seq (st_setH (lcT (walk_enum (K := K) (a := L.E) (xs := L.ea.map fun x => V.ref x.1)) (fun R r => vE T h (val_var rfl) _ ⟨L.E, _, rfl, SqL.of h.en, r⟩) (fun H' s => SqL.of (s _ _ h.en)) (by rw [List.length_map]; omega) (fun k => (((L.ea.zip S.ents).zipIdx).take k).flatMap g1) rfl (fun k _ => flat_len_take g1_len _ _) ?_) ?_)
    · rintro i x H1 H2 hi s1 ⟨t, y, z, rfl, nt, rfl, hy, hq⟩
      cases hy
      have hq : (L.ea.map fun x => V.ref x.1)[i]? = some z := hq
      rw [List.getElem?_map] at hq
      cases hx : L.ea[i]? with
      | none => rw [hx] at hq; cases hq
      | some x =>
        rw [hx] at hq
        cases hq
        obtain ⟨e, he, hs⟩ := paired_at h.ents hx
        have s2 := same_new (o := .tup [.int (i : Nat), .ref x.1]) nt
        have hs2 := sl_keep hs fun a o _ q => s2 _ _ (s1 a o q)
        refine ⟨_, ?_, s2, fun Q q => gpair upd_same q, ?_⟩
        · rfl
        have e1 := take_flat g1 (zi_at hx he)
        cases hg : e.gone with
        | true =>
          refine .inr ⟨ansH (Ans.to (ans_not (ans_val (val_slot (val_var rfl) hs2 rfl))) (by rw [hg]; rfl)), ?_⟩
          rw [e1]
          unfold g1
          rw [if_pos hg, List.append_nil]
        | false =>
          refine .inl ⟨ansH (Ans.to (ans_not (ans_val (val_slot (val_var rfl) hs2 rfl))) (by rw [hg]; rfl)), f1 ((x, e), i), fun H3 s3 Q q => ?_, ?_⟩
          · exact ⟨_, rfl, _, rfl, by show 2 ≤ sizeLine; decide, fun p np => q _ _ ⟨p, rfl, same_new np, upd_same⟩⟩
          · rw [e1]
            unfold g1
            rw [if_neg (by rw [hg]; decide)]
    · rintro v H1 ⟨l1, as1, rfl, n1, s1, hl1, hT1⟩
      have e0 : ((L.ea.zip S.ents).zipIdx).take (L.ea.map fun x => V.ref x.1).length = (L.ea.zip S.ents).zipIdx := by
        rw [List.length_map]
        refine List.take_of_length_le ?_
        rw [List.length_zipIdx, List.length_zip]
        omega
      rw [e0, g1_hz] at hT1
      have h1 := h.same s1
      generalize hR : ((L.ea.zip S.ents).zipIdx).flatMap hzR = R at hT1
      have hRm : ∀ z, z ∈ R → L.ea[z.2]? = some z.1.1 ∧ S.ents[z.2]? = some z.1.2 := fun z hzR' => by
        rw [← hR, List.mem_flatMap] at hzR'
        obtain ⟨y, hy, hyz⟩ := hzR'
        have : y = z := by
          unfold hzR at hyz
          split at hyz
          · cases hyz
          · exact (List.mem_singleton.mp hyz).symm
        subst this
        have h9 := List.mem_zipIdx_iff_getElem?.mp hy
        exact List.getElem?_zip_eq_some.mp h9
      have hRl : R.length ≤ m := by
        have := flat_len hz_len ((L.ea.zip S.ents).zipIdx)
        rw [hR, List.length_zipIdx, List.length_zip] at this
        omega
      have al := hT1.len
      rw [List.length_map] at al
      dsimp only [tRet]
      refine lcT (walk_list (K := K) (a := l1) (xs := as1.map V.ref)) (fun R r => ⟨_, rfl, l1, rfl, ⟨_, SqL.of hl1⟩, r⟩) (fun H' s => SqL.of (s _ _ hl1)) (by rw [List.length_map]; omega) (fun k => (R.take k).map f2) rfl (fun k _ => by rw [List.length_map, List.length_take]; omega) ?_ _ ?_
      · rintro k x H2 H3 hk s2 ⟨rfl, hx⟩
        obtain ⟨a, ha, rfl⟩ := refs_ix hx
        obtain ⟨xs, hxs, hat⟩ := TupsAt.get hT1 ha
        rw [List.getElem?_map] at hxs
        cases hz : R[k]? with
        | none => rw [hz] at hxs; cases hxs
        | some z =>
          rw [hz] at hxs
          cases hxs
          obtain ⟨q1, q2⟩ := hRm z (List.mem_of_getElem? hz)
          obtain ⟨e, he, hs⟩ := paired_at h1.ents q1
          rw [q2] at he
          cases he
          have hs3 := sl_keep hs fun a o _ q => s2 a o q
          refine ⟨_, ?_, Same.refl _, fun Q q => gpair (s2 _ _ hat) q, .inl ⟨yes_same, f2 z, fun H4 s4 Q q => ?_, ?_⟩⟩
          · rfl
          · have hs4 := sl_keep hs3 fun a o _ q => s4 a o q
            refine ⟨_, rfl, _, rfl, z.1.1.1, z.1.1.2, _, _, rfl, hs4, rfl, _, rfl, z.1.1.1, z.1.1.2, _, _, rfl, hs4, rfl, by show 3 ≤ sizeLine; decide, fun p np => q _ _ ⟨p, rfl, same_new np, upd_same⟩⟩
          · rw [take_snoc hz, List.map_append]
            rfl
      · rintro v H2 ⟨l2, as2, rfl, n2, s2, hl2, hT2⟩
        rw [List.length_map, al, List.take_length, ← hR, hz_rows _ _ _ hl] at hT2
        have hrl : (rowsN 0 S.ents).length ≤ m := by
          have := congrArg List.length (hz_rows _ _ 0 hl)
          rw [List.length_map, List.length_map, hR] at this
          omega
        refine q l2 as2 H2 (s1.trans s2) ?_ hl2 hT2 hrl
        cases hh : H l2 with
        | none => rfl
        | some o => rw [s1 _ _ hh] at n2; cases n2
end
end K15

set_option Elab.async false
set_option linter.all false
set_option autoImplicit false
set_option maxRecDepth 100000
set_option maxHeartbeats 4000000
namespace K15
open PySem L2
def rowK (e : Str × Int) : List V := [.str e.1, .int e.2]
/-- the last place of a key -/
def lastN (k : Str) : Nat → List (Ent Str) → List Nat
  | _, [] => []
  | i, e :: es => (if e.key = k then [i] else []) ++ lastN k (i + 1) es
def lkF (k : Str) (z : Ent Str × Nat) : List V := if z.1.key = k then [.int (z.2 : Int)] else []
theorem lkF_len (k : Str) : ∀ z, (lkF k z).length ≤ 1 := fun z => by
  unfold lkF
  split <;> simp
theorem lk_all (k : Str) : ∀ (es : List (Ent Str)) (n : Nat), (es.zipIdx n).flatMap (lkF k) = (lastN k n es).map fun (i : Nat) => V.int (i : Int)
  | [], _ => rfl
  | e :: es, n => by
    rw [List.zipIdx_cons, List.flatMap_cons, lk_all k es (n + 1)]
    show lkF k (e, n) ++ _ = ((if e.key = k then [n] else []) ++ lastN k (n + 1) es).map _
    rw [List.map_append]
    congr 1
    unfold lkF
    show (if e.key = k then [V.int (n : Int)] else []) = (if e.key = k then [n] else []).map _
    split <;> rfl
theorem lastN_mem (k : Str) : ∀ (es : List (Ent Str)) (n j : Nat), j ∈ lastN k n es ↔ ∃ i e, j = n + i ∧ es[i]? = some e ∧ e.key = k
  | [], n, j => ⟨fun h => (by cases h), fun ⟨i, e, _, h, _⟩ => (by simp at h)⟩
  | x :: es, n, j => by
    show j ∈ (if x.key = k then [n] else []) ++ lastN k (n + 1) es ↔ _
    rw [List.mem_append, lastN_mem k es (n + 1) j]
    constructor
    · rintro (h | ⟨i, e, h1, h2, h3⟩)
      · split at h
        · rename_i hx
          exact ⟨0, x, List.mem_singleton.mp h, rfl, hx⟩
        · cases h
      · exact ⟨i + 1, e, by omega, by rw [List.getElem?_cons_succ]; exact h2, h3⟩
    · rintro ⟨i, e, h1, h2, h3⟩
      cases i with
      | zero =>
        simp at h2
        subst h2
        left
        rw [if_pos h3]
        exact List.mem_singleton.mpr h1
      | succ i =>
        rw [List.getElem?_cons_succ] at h2
        exact .inr ⟨i, e, by omega, h2, h3⟩
theorem lastN_sorted (k : Str) : ∀ (es : List (Ent Str)) (n : Nat), (lastN k n es).Pairwise (· < ·)
  | [], _ => List.Pairwise.nil
  | x :: es, n => by
    show ((if x.key = k then [n] else []) ++ lastN k (n + 1) es).Pairwise (· < ·)
    rw [List.pairwise_append]
    refine ⟨?_, lastN_sorted k es (n + 1), fun a ha b hb => ?_⟩
    · split
      · exact List.pairwise_singleton _ _
      · exact List.Pairwise.nil
    · obtain ⟨i, e, h1, _⟩ := (lastN_mem k es (n + 1) b).mp hb
      split at ha
      · rw [List.mem_singleton.mp ha]
        omega
      · cases ha
section
variable {P : Program} {w : World} {K : PySem.W.Frag} {mg : Str → Option Value} {base : Heap} {A : Adr} {f : Addr} {fd : FuncData}
abbrev s_Log_table : Stmt := inClass (top 17) 26
abbrev N_Log_table : List Str := ["self", "reader"]
abbrev P_Log_table : List Str := ["self", "reader"]
theorem sc_Log_table : FnScope N_Log_table P_Log_table (C8.fnScope s_Log_table) := C8.fnScope_by (by decide +kernel)
def spTab (A : Adr) : Sp := fun vs H Q _ => ∃ p S ρ m L r, vs = [.ref p, .int r] ∧ LogAt A H p S ρ m L ∧ S.pl r ≠ none ∧
  ∀ (l : Addr) (as : List Addr) (es : List (Str × Int)) (H' : Hp), Same H H' → H l = none → H' l = some (.lst (as.map V.ref)) → TupsAt H' as (es.map rowK) → (∀ k, (∃ v, (k, v) ∈ es) ↔ S.tb r k ≠ none) → (∀ e, e ∈ es → PyData.strOk e.1 = true) → es.length ≤ 64 * m → Q (.ref l) H'
theorem tab_ok (T : Txt K mg A) (me : Meth K A.CL "table" f) (F : C8.Fun K "table" "Log.table" s_Log_table f fd) (b : Binds K fd P_Log_table []) (m_look_joined : C8.Met P w K mg base 1 A.CL "look_joined" (spLook A) []) : C8.Met P w K mg base 2 A.CL "table" (spTab A) [] := by
  refine C8.met0 T.cl me F b sc_Log_table (fun vs H Q E h => ?_) (fun cdv A' outer s H vs Q E hr h => ?_)
  · obtain ⟨p, S, ρ, m, L, r, rfl, _⟩ := h
    rfl
  · obtain ⟨p, S, ρ, m, L, r, rfl, h, hp, q⟩ := h
    have hu := hu_of hr
    refine ⟨_, (pss_cons (ps_expr (C8.pe_mt m_look_joined hr (by decide) (pv 0) (pa_cons (pv 1) pa_nil)))
      (pss_one (ps_ret (pe_callB (K15R.cr_sortedItemsK rfl hr.units) (by rfl) T.b_sorted (by decide +kernel) (pa_cons (pe_bm0 PySem.F.plainAttrs_dict PySem.F.slot_dict_items PySem.F.type_dict_items K15R.mt_itemsK (pe_dget hu (pe_fld (pv 0) rfl) (pv 1) (fun _ _ => rfl))) pa_nil))))), ?_⟩
    refine ⟨_, rfl, p, _, _, rfl, h.self, by rfl, _, rfl, p, S, ρ, m, L, r, rfl, h, hp, ?_⟩
    obtain ⟨a, ha⟩ : ∃ a, L.tt r = some a := by
      cases e : L.tt r with
      | none =>
        have := h.dom r
        rw [e] at this
        cases e2 : S.pl r with
        | none => exact absurd e2 hp
        | some z => rw [e2] at this; cases this
      | some a => exact ⟨a, rfl⟩
    obtain ⟨kvs, hk, hD, hlk⟩ := h.tabs r a ha
    obtain ⟨es, rfl, hso⟩ := DS.ents hD.ks
    have g := h.gTB r
    rw [ha] at g
    have rule := val_dget (vTB T h (val_var (σ := (L2.start N_Log_table [V.ref p, V.int r])) (i := 0) rfl)) (val_var (i := 1) rfl) g
    refine rule _ ?_
    refine ⟨.inr (.inr (.inl ⟨rfl, .inl ⟨_, hk⟩⟩)), a, _, rfl, rfl, hk, fun v nv => ?_⟩
    have s1 := same_new (o := L2.DX.itemsO v a) nv
    refine ⟨v, a, es, rfl, upd_same, s1 _ _ hk, fun H' l ts sm pm nl hl' ht => ?_⟩
    have st : Same H H' := s1.trans sm
    have nl0 : H l = none := by
      cases hh : H l with
      | none => rfl
      | some o => rw [s1 _ _ hh] at nl; cases nl
    have hT : TupsAt H' (ts.map (·.1)) ((ts.map (·.2)).map rowK) := by
      clear pm hl'
      induction ts with
      | nil => exact .nil
      | cons t ts ih => exact .cons (ht t List.mem_cons_self) (ih fun x hx => ht x (List.mem_cons_of_mem _ hx))
    refine q l (ts.map (·.1)) (ts.map (·.2)) H' st nl0 (by rw [List.map_map]; exact hl') hT (fun k => ?_) (fun e he => hso e (pm.mem_iff.mp he)) (by rw [pm.length_eq]; rw [List.length_map] at hlk; exact hlk)
    have hv := hD.at_ k
    constructor
    · rintro ⟨v, he⟩ z
      rw [z] at hv
      refine valV_not hv ?_
      rw [List.map_map]
      exact List.mem_map.mpr ⟨(k, v), pm.mem_iff.mp he, rfl⟩
    · intro z
      cases e : S.tb r k with
      | none => exact absurd e z
      | some v =>
        rw [e] at hv
        have := valV_in hv
        rw [List.map_map] at this
        obtain ⟨x, hx, e⟩ := List.mem_map.mp this
        have e : x.1 = k := Sum.inr.inj e
        exact ⟨x.2, pm.mem_iff.mpr (by rw [← e]; exact hx)⟩
abbrev s_Log_last : Stmt := inClass (top 17) 28
abbrev N_Log_last : List Str := ["self", "key", "place", "entry", "found"]
abbrev P_Log_last : List Str := ["self", "key"]
theorem sc_Log_last : FnScope N_Log_last P_Log_last (C8.fnScope s_Log_last) := C8.fnScope_by (by decide +kernel)
def spLast (A : Adr) : Sp := fun vs H Q _ => ∃ p S ρ m L k, vs = [.ref p, .str k] ∧ LogAt A H p S ρ m L ∧ m ≤ 1000 ∧ (∃ e, e ∈ S.ents ∧ e.key = k) ∧
  ∀ (i : Nat) (e : Ent Str) (H' : Hp), Same H H' → S.ents[i]? = some e → e.key = k → (∀ j e', i < j → S.ents[j]? = some e' → e'.key ≠ k) → Q (.int (i : Int)) H'
theorem last_ok (T : Txt K mg A) (me : Meth K A.CL "last" f) (F : C8.Fun K "last" "Log.last" s_Log_last f fd) (b : Binds K fd P_Log_last []) : C8.Met P w K mg base 1 A.CL "last" (spLast A) [] := by
  refine C8.met0 T.cl me F b sc_Log_last (fun vs H Q E h => ?_) (fun cdv A' outer s H vs Q E hr h => ?_)
  · obtain ⟨p, S, ρ, m, L, k, rfl, _⟩ := h
    rfl
  · obtain ⟨p, S, ρ, m, L, k, rfl, h, hm, hex, q⟩ := h
    have hu := hu_of hr
    refine ⟨_, (pss_cons (ps_setLc (i := 4) (own := [("place", 2), ("entry", 3)]) (g := (gTup K 2 (gCons (gName 2) (gCons (gName 3) gNil)))) (by rfl) sc_Log_last.nd rfl rfl (sw_true rfl rfl rfl (by decide +kernel)) (pi_enum (by rfl) T.b_enumerate (pa_cons (pe_fld (pv 0) rfl) pa_nil)) (blkOk_by (own := [("place", 2), ("entry", 3)]) (N := N_Log_last) (sc := C8.fnScope s_Log_last) (by decide +kernel)) (fun _ _ _ _ _ => (pg_tup rfl (pgs_cons (pg_name (i := 2) sc_Log_last.nd rfl (Or.inl rfl)) (pgs_cons (pg_name (i := 3) sc_Log_last.nd rfl (Or.inl rfl)) pgs_nil)))) (fun _ _ _ _ _ => (pts_one (pt_cmpR op_eq (pe_slot T.scl T.sl_key (pv 3)) (pv 1) (nomark _)))) (fun _ _ _ _ _ => (pv 2)))
      (pss_one (ps_ret (pe_ifExp (pt_cmpR op_gt (pe_callB (r := rLenQ K) call_len_seq (by rfl) T.b_len PySem.boot_len (pa_cons (pv 4) pa_nil)) pe_int (nomark _)) (pe_ix (r := rIxL K) ix_list (pv 4) (pe_un un_neg pe_int) (fun _ _ => rfl)) pe_non)))), ?_⟩
    have hl := h.eLen
    have hlm := h.len.1
    refine st_seq (st_setH (lcF (walk_enum (K := K) (a := L.E) (xs := L.ea.map fun x => V.ref x.1)) (fun R r => vE T h (val_var rfl) _ ⟨L.E, _, rfl, SqL.of h.en, r⟩) (fun H' s => SqL.of (s _ _ h.en)) (by rw [List.length_map]; omega) (fun i => ((S.ents.zipIdx).take i).flatMap (lkF k)) rfl (fun i _ => flat_len_take (lkF_len k) _ _) ?_) ?_)
    · rintro i x H1 H2 hi s1 ⟨t, y, z, rfl, nt, rfl, hy, hq⟩
      cases hy
      have hq : (L.ea.map fun x => V.ref x.1)[i]? = some z := hq
      rw [List.getElem?_map] at hq
      cases hx : L.ea[i]? with
      | none => rw [hx] at hq; cases hq
      | some x =>
        rw [hx] at hq
        cases hq
        obtain ⟨e, he, hs⟩ := paired_at h.ents hx
        have s2 := same_new (o := .tup [.int (i : Nat), .ref x.1]) nt
        have hs2 := sl_keep hs fun a o _ q => s2 _ _ (s1 a o q)
        refine ⟨_, ?_, s2, fun Q q => gpair upd_same q, ?_⟩
        · rfl
        have e1 := take_flat (lkF k) (show (S.ents.zipIdx)[i]? = some (e, i) by rw [List.getElem?_zipIdx, he]; simp)
        by_cases hk : e.key = k
        · refine .inl ⟨ansH (ans_eq (val_slot (val_var rfl) hs2 rfl) (val_var rfl) rfl (decide_eq_true (by rw [hk]))), .int (i : Int), fun H3 _ => val_var rfl, ?_⟩
          rw [e1]
          unfold lkF
          rw [if_pos hk]
        · refine .inr ⟨ansH (ans_eq (val_slot (val_var rfl) hs2 rfl) (val_var rfl) rfl (decide_eq_false fun z => hk (V.str.inj z))), ?_⟩
          rw [e1]
          unfold lkF
          rw [if_neg hk, List.append_nil]
    · rintro v H1 ⟨l1, rfl, n1, s1, hl1⟩
      have e0 : (S.ents.zipIdx).take (L.ea.map fun x => V.ref x.1).length = S.ents.zipIdx := by
        rw [List.length_map]
        refine List.take_of_length_le ?_
        rw [List.length_zipIdx]
        omega
      rw [e0, lk_all] at hl1
      obtain ⟨e, he, hk⟩ := hex
      obtain ⟨i, hi⟩ := List.getElem?_of_mem he
      have hm0 := (lastN_mem k S.ents 0 i).mpr ⟨i, e, (Nat.zero_add i).symm, hi, hk⟩
      have hso := lastN_sorted k S.ents 0
      have hmem := lastN_mem k S.ents 0
      generalize lastN k 0 S.ents = ns at hl1 hm0 hso hmem
      obtain ⟨ns', j, rfl⟩ : ∃ ns' j, ns = ns' ++ [j] := ⟨ns.dropLast, ns.getLast (List.ne_nil_of_mem hm0), (List.dropLast_concat_getLast _).symm⟩
      have hcnt : ((List.map (fun (i : Nat) => V.int (i : Int)) (ns' ++ [j])).length : Int) > 0 := by rw [List.length_map, List.length_append]; simp
      refine ⟨_, rfl, l1, _, rfl, .inl (SqL.of hl1), _, _, rfl, rfl, _, rfl, ite2 (fun _ => ?_) (fun z => absurd (decide_eq_true hcnt) z)⟩
      refine ⟨_, rfl, 1, rfl, l1, _, _, _, rfl, rfl, SqL.of hl1, by rw [List.map_append]; exact atI_last _ _, ?_⟩
      obtain ⟨i2, e2, h1, h2, h3⟩ := (hmem j).mp (List.mem_append_right _ (List.mem_singleton.mpr rfl))
      rw [Nat.zero_add] at h1
      subst h1
      refine q j e2 H1 s1 h2 h3 fun j2 e' hlt he' hk' => ?_
      have h4 := (hmem j2).mpr ⟨j2, e', (Nat.zero_add j2).symm, he', hk'⟩
      rcases List.mem_append.mp h4 with h4 | h4
      · have := (List.pairwise_append.mp hso).2.2 j2 h4 j (List.mem_singleton.mpr rfl)
        omega
      · rw [List.mem_singleton.mp h4] at hlt
        omega
end
end K15

set_option Elab.async false
set_option linter.all false
set_option autoImplicit false
set_option maxRecDepth 100000
set_option maxHeartbeats 4000000
namespace K15
open PySem L2
theorem cut_one (xs : List V) (n : Int) (h : 0 ≤ n) : cutV xs (some n) (some (n + 1)) = (xs[n.toNat]?).toList := by
  unfold cutV
  show (xs.drop (if n < 0 then (n + (xs.length : Int)).toNat else min n.toNat xs.length)).take ((if n + 1 < 0 then (n + 1 + (xs.length : Int)).toNat else min (n + 1).toNat xs.length) - (if n < 0 then (n + (xs.length : Int)).toNat else min n.toNat xs.length)) = _
  rw [if_neg (by omega), if_neg (by omega)]
  by_cases hl : n.toNat < xs.length
  · rw [show min n.toNat xs.length = n.toNat by omega, show min (n + 1).toNat xs.length - n.toNat = 1 by omega, List.getElem?_eq_getElem hl]
    rw [List.drop_eq_getElem_cons hl]
    rfl
  · rw [List.getElem?_eq_none (by omega), show min (n + 1).toNat xs.length - min n.toNat xs.length = 0 by omega]
    rfl
section
variable {J : It} {n : Nat} {G : Hp → Prop} {Y : Nat → Hp → V → Hp → Prop} {g : TG} {tt : TT} {te : TE} {vs : List Nat} {σ : L2.St} {H : Hp}
theorem lcF0 (w : Walk J n G Y) (hG : ∀ H', Same H H' → G H') (hn : n ≤ 90000) (F : Nat → List V) (h0 : F 0 = []) (hl : ∀ i, i ≤ n → (F i).length ≤ i)
    (hs : ∀ i x H1 H2, i < n → Same H H1 → Y i H1 x H2 → ∃ σ2, wipe σ2 vs = wipe σ vs ∧ Same H1 H2 ∧ (∀ Q : L2.St → Hp → Prop, Q σ2 H2 → g x (wipe σ vs) H2 Q) ∧
      ((AnsH tt σ2 H2 true (Same H2) ∧ ∃ y, (∀ H3, Same H2 H3 → Val te σ2 H3 y) ∧ F (i + 1) = F i ++ [y]) ∨ (AnsH tt σ2 H2 false (Same H2) ∧ F (i + 1) = F i)))
    {D : Addr} (nD : H D = none) {Qd : Hp → Prop} (q : ∀ H', Same H H' → H' D = some (.lst (F n)) → Qd H') :
    ∃ W : Nat → Nat → Hp → Prop, (∃ m, W 0 m (upd H D (.lst []))) ∧ ∀ i m H, W i m H →
      (J.stop i H ∧ Qd H) ∨ (J.go i H ∧ ∃ Nx : Hp → Prop, (∀ H', Nx H' → ∃ m', m' < m ∧ W (i + 1) m' H') ∧ ∀ x H', J.yld i H x H' → g x (wipe σ vs) H' fun σ2 H2 => wipe σ2 vs = wipe σ vs ∧ tt σ2 H2 fun b H3 =>
        if b = true then te σ2 H3 fun y H4 => ∃ acc, H4 D = some (.lst acc) ∧ acc.length < sizeLine ∧ Nx (upd H4 D (.lst (acc ++ [y]))) else Nx H3) := by
  refine lc_it w (fun i H1 => Same H H1 ∧ H1 D = some (.lst (F i))) ⟨same_new nD, by rw [h0]; exact upd_same⟩ (fun i H1 _ h => hG H1 h.1) ?_ (fun H1 h => q _ h.1 h.2)
  rintro i x H1 H2 hi ⟨s1, hD⟩ y
  obtain ⟨σ2, e1, s2, hg, h⟩ := hs i x H1 H2 hi s1 y
  refine hg _ ⟨e1, ?_⟩
  rcases h with ⟨ha, y, hy, hF⟩ | ⟨ha, hF⟩
  · refine ha _ fun H3 s3 => iteT ?_
    refine hy H3 s3 _ ?_
    have hD3 := s3 _ _ (s2 _ _ hD)
    refine ⟨F i, hD3, line_of (by have := hl i (Nat.le_of_lt hi); omega), ?_, by rw [hF]; exact upd_same⟩
    intro a o e
    rw [upd_ne (fun z => by rw [z, nD] at e; cases e)]
    exact s3 _ _ (s2 _ _ (s1 _ _ e))
  · refine ha _ fun H3 s3 => iteF ?_
    exact ⟨(s1.trans s2).trans s3, by rw [hF]; exact s3 _ _ (s2 _ _ hD)⟩
end
def seatL (S : LSS) (g : Bool × Int) : List Int := (seatOf S g).toList
theorem seatL_len (S : LSS) : ∀ g, (seatL S g).length ≤ 1 := fun g => by
  unfold seatL
  cases seatOf S g <;> simp
section
variable {P : Program} {w : World} {K : PySem.W.Frag} {mg : Str → Option Value} {base : Heap} {A : Adr} {f : Addr} {fd : FuncData}
abbrev s_Log_guarded : Stmt := inClass (top 17) 20
abbrev N_Log_guarded : List Str := ["self", "found", "sort", "number", "place", "table"]
abbrev P_Log_guarded : List Str := ["self"]
theorem sc_Log_guarded : FnScope N_Log_guarded P_Log_guarded (C8.fnScope s_Log_guarded) := C8.fnScope_by (by decide +kernel)
def spGuarded (A : Adr) : Sp := fun vs H Q _ => ∃ p S ρ m L, vs = [.ref p] ∧ LogAt A H p S ρ m L ∧ m ≤ 1000 ∧ S.gds.length ≤ 1000 ∧
  ∀ (z : Int) (H' : Hp), Same H H' → (∀ i : Nat, i < S.ents.length → decide ((i : Int) < z) = guardB S i) → Q (.int z) H'
theorem guarded_ok (T : Txt K mg A) (me : Meth K A.CL "guarded" f) (F : C8.Fun K "guarded" "Log.guarded" s_Log_guarded f fd) (b : Binds K fd P_Log_guarded []) (m_many : C8.Met P w K mg base 1 A.CL "many" (spMany A) []) : C8.Met P w K mg base 2 A.CL "guarded" (spGuarded A) [] := by
  refine C8.met0 T.cl me F b sc_Log_guarded (fun vs H Q E h => ?_) (fun cdv A' outer s H vs Q E hr h => ?_)
  · obtain ⟨p, S, ρ, m, L, rfl, _⟩ := h
    rfl
  · obtain ⟨p, S, ρ, m, L, rfl, h, hm, hgl, q⟩ := h
    have hu := hu_of hr
    refine ⟨_, (pss_cons (ps_set (i := 1) sc_Log_guarded.nd rfl (Or.inl rfl) (pe_lst (pa_cons (C8.pe_mt0 m_many hr (by decide) (pv 0)) pa_nil)))
      (pss_cons (ps_for PassesOwn.never rfl (pi_tup (pe_fld (pv 0) rfl)) (pg_tup rfl (pgs_cons (pg_name (i := 2) sc_Log_guarded.nd rfl (Or.inl rfl)) (pgs_cons (pg_name (i := 3) sc_Log_guarded.nd rfl (Or.inl rfl)) pgs_nil))) (pss_one (ps_if (pt_cmpR op_eq (pv 2) (C8.pe_gc rfl T.gCOPY) (nomark _)) (pss_one (ps_expr (pe_bm PySem.F.plainAttrs_list PySem.F.slot_list_extend PySem.F.type_list_extend mt_extend (pv 1) (pa_cons (pe_lc (own := [("place", 4), ("table", 5)]) (g := (gTup K 2 (gCons (gName 4) (gCons (gName 5) gNil)))) (by rfl) sc_Log_guarded.nd  (pi_list (pe_slice (r := rSlL K) sl_list (pe_fld (pv 0) rfl) (po_some (pv 3)) (po_some (pe_op op_add (pv 3) pe_int)))) (blkOk_by (own := [("place", 4), ("table", 5)]) (N := N_Log_guarded) (sc := C8.fnScope s_Log_guarded) (by decide +kernel)) (fun _ _ _ _ _ => (pg_tup rfl (pgs_cons (pg_name (i := 4) sc_Log_guarded.nd rfl (Or.inl rfl)) (pgs_cons (pg_name (i := 5) sc_Log_guarded.nd rfl (Or.inl rfl)) pgs_nil)))) (fun _ _ _ _ _ => pts_nil) (fun _ _ _ _ _ => (pv 4))) pa_nil)))) (pss_one (ps_if (pt_cmp (pc_din hu (pv 3) (pe_fld (pv 0) rfl))) (pss_one (ps_expr (pe_bm PySem.F.plainAttrs_list PySem.F.slot_list_append PySem.F.type_list_append mt_append (pv 1) (pa_cons (pe_dget hu (pe_fld (pv 0) rfl) (pv 3) (fun _ _ => rfl)) pa_nil)))) pss_nil)))))
      (pss_one (ps_ret (pe_callB (r := rMin K) (cr_min rfl) (by rfl) T.b_min (by decide +kernel) (pa_cons (pv 1) pa_nil)))))), ?_⟩
    refine ⟨_, rfl, p, _, _, rfl, h.self, by rfl, p, S, ρ, m, L, rfl, h, by show 1 ≤ sizeLine; decide, fun D nD => ?_⟩
    have s0 := same_new (o := .lst [.int (S.ents.length : Int)]) nD
    have hga := h.gds.len
    rw [List.length_map] at hga
    dsimp only [gName]
    refine st_seq ?_
    refine ⟨_, rfl, p, A.CL, _, _, V.ref L.G, rfl, (h.same s0).self, T.cl, T.n_guards, by rfl, L.G, rfl, ⟨_, SqT.of (s0 _ _ h.gd)⟩, for_tup (K := K) (a := L.G) (xs := L.ga.map V.ref) (fun i σ H1 => ∃ x y : Option V, σ = [some (.ref p), some (.ref D), x, y, none, none] ∧ Same H H1 ∧ H1 D = some (.lst (((S.ents.length : Int) :: (S.gds.take i).flatMap (seatL S)).map V.int)))
      ⟨none, none, rfl, s0, upd_same⟩ (fun i σ H1 _ ⟨_, _, _, s1, _⟩ => SqT.of (s1 _ _ h.gd)) ?_ ?_⟩
    · rintro i x σ H1 hi ⟨x1, y1, rfl, s1, hD⟩
      obtain ⟨a, ha, rfl⟩ := refs_ix hi
      obtain ⟨xs, hxs, hat⟩ := TupsAt.get h.gds ha
      rw [List.getElem?_map] at hxs
      cases hg : S.gds[i]? with
      | none => rw [hg] at hxs; cases hxs
      | some g =>
        rw [hg] at hxs
        cases hxs
        have h1 := h.same s1
        have e1 := take_flat (seatL S) hg
        have il : i ≤ 1000 := by have := (List.getElem?_eq_some_iff.mp hg).1; omega
        have fl := flat_len_take (seatL_len S) S.gds i
        obtain ⟨bo, n⟩ := g
        have hat1 := s1 _ _ hat
        cases bo with
        | true =>
          refine gpair (x := .str "copy") (y := .int n) hat1 ?_
          refine st_yes (ans_eq (val_var rfl) val_c rfl (by decide +kernel)) ?_
          have hn := h.gok n (List.mem_of_getElem? hg)
          refine ⟨_, rfl, .inl ⟨rfl, _, SqL.of hD⟩, ?_⟩
          refine ⟨_, rfl, p, A.CL, _, _, V.ref L.CP, rfl, h1.self, T.cl, T.n_copies, by rfl, _, rfl, n, rfl, _, rfl, _, _, rfl, rfl, n + 1, rfl, L.CP, _, rfl, SqL.of h1.cp, fun sl nsl => ⟨sl, rfl, ⟨_, SqL.of upd_same⟩, ?_⟩⟩
          have s2 := same_new (o := .lst (cutV (L.ca.map fun x => V.ref x.1) (some n) (some (n + 1)))) nsl
          have hsl : upd H1 sl (.lst (cutV (L.ca.map fun x => V.ref x.1) (some n) (some (n + 1)))) sl = some (.lst (cutV (L.ca.map fun x => V.ref x.1) (some n) (some (n + 1)))) := upd_same
          rw [cut_one _ _ hn] at hsl s2 ⊢
          have hD2 := s2 _ _ hD
          generalize upd H1 sl (.lst ((L.ca.map fun x => V.ref x.1)[n.toNat]?).toList) = H2 at hsl s2 hD2 ⊢
          have hlen : ((L.ca.map fun x => V.ref x.1)[n.toNat]?).toList.length ≤ 1 := by cases (L.ca.map fun x => V.ref x.1)[n.toNat]? <;> simp
          refine fun M nM => lcF0 (walk_list (K := K) (a := sl) (xs := ((L.ca.map fun x => V.ref x.1)[n.toNat]?).toList)) (fun H' s => SqL.of (s _ _ hsl)) (by omega) (fun k => ((seatL S (true, n)).take k).map V.int) rfl (fun k _ => by rw [List.length_map, List.length_take]; omega) ?_ nM ?_
          · rintro k x H3 H4 hk s3 ⟨rfl, hx⟩
            have hk0 : k = 0 := by omega
            subst hk0
            cases hc : L.ca[n.toNat]? with
            | none => rw [List.getElem?_map, hc] at hx; simp at hx
            | some c =>
              rw [List.getElem?_map, hc] at hx
              simp at hx
              subst hx
              obtain ⟨cc, hcc, hct, _⟩ := paired_at h1.cps hc
              have hct3 := s3 _ _ (s2 _ _ hct)
              refine ⟨_, ?_, Same.refl _, fun Q q => gpair hct3 q, .inl ⟨yes_same, .int cc.1, fun H4 _ => val_var rfl, ?_⟩⟩
              · rfl
              · have : seatL S (true, n) = [cc.1] := by
                  show (if 0 ≤ n then (S.cps[n.toNat]?).map (·.1) else none).toList = _
                  rw [if_pos hn, hcc]
                  rfl
                rw [this]
                rfl
          · intro H3 s3 hM
            have hsn : ((seatL S (true, n)).take ((L.ca.map fun x => V.ref x.1)[n.toNat]?).toList.length) = seatL S (true, n) := by
              have : seatL S (true, n) = ((S.cps[n.toNat]?).map (·.1)).toList := by
                show (if 0 ≤ n then (S.cps[n.toNat]?).map (·.1) else none).toList = _
                rw [if_pos hn]
              rw [this]
              cases hc : L.ca[n.toNat]? with
              | none =>
                cases hc2 : S.cps[n.toNat]? with
                | none => exact List.take_nil
                | some c =>
                  obtain ⟨a, ha, _⟩ := paired_at' h1.cps hc2
                  rw [hc] at ha
                  cases ha
              | some c =>
                obtain ⟨c2, hc2, _⟩ := paired_at h1.cps hc
                rw [List.getElem?_map, hc, hc2]
                rfl
            rw [hsn] at hM
            have hD3 := s3 _ _ hD2
            have hsl1 := seatL_len S (true, n)
            refine ⟨D, M, _, _, rfl, rfl, hD3, hM, Nat.le_of_lt (line_of (by rw [List.length_map, List.length_map, List.length_cons]; omega)), _, _, rfl, fun a o e => ?_, ?_⟩
            · rw [upd_ne (fun z => by rw [z, nD] at e; cases e)]
              exact s3 _ _ (s2 _ _ (s1 a o e))
            · rw [e1, ← List.cons_append, List.map_append]
              exact upd_same
        | false =>
          refine gpair (x := .str "reader") (y := .int n) hat1 ?_
          refine st_no (ans_eq (val_var rfl) val_c rfl (by decide +kernel)) ?_
          have g := h1.gPL n
          cases hp : S.pl n with
          | none =>
            rw [hp] at g
            refine st_no (ans_din (vPL T h1 (val_var rfl)) (val_var rfl) g rfl) ?_
            refine ⟨_, _, rfl, s1, ?_⟩
            rw [e1, show seatL S (false, n) = [] by show (S.pl n).toList = _; rw [hp]; rfl, List.append_nil]
            exact hD
          | some z =>
            rw [hp] at g
            refine st_yes (ans_din (vPL T h1 (val_var rfl)) (val_var rfl) g rfl) ?_
            refine ⟨_, rfl, .inl ⟨rfl, _, SqL.of hD⟩, ?_⟩
            dsimp only [tCons]
            refine val_dget (vPL T h1 (val_var rfl)) (val_var rfl) g _ ?_
            refine ⟨D, _, _, rfl, rfl, hD, line_of (by rw [List.length_map, List.length_cons]; omega), _, _, rfl, fun a o e => ?_, ?_⟩
            · rw [upd_ne (fun z => by rw [z, nD] at e; cases e)]
              exact s1 a o e
            · rw [e1, show seatL S (false, n) = [z] by show (S.pl n).toList = _; rw [hp]; rfl, ← List.cons_append, List.map_append]
              exact upd_same
    · rintro σ H1 ⟨x1, y1, rfl, s1, hD⟩
      rw [List.length_map, hga, List.take_length] at hD
      refine ⟨_, rfl, D, _, rfl, SqL.of hD, Nat.succ_pos _, fun z hz hmin => q z H1 s1 fun i hi => ?_⟩
      have key : ∀ g, g ∈ S.gds → ∀ x, seatOf S g = some x → z ≤ x := fun g hg x hx => hmin x (List.mem_cons_of_mem _ (List.mem_flatMap.mpr ⟨g, hg, by unfold seatL; rw [hx]; exact List.mem_singleton.mpr rfl⟩))
      by_cases hlt : (i : Int) < z
      · rw [decide_eq_true hlt]
        symm
        unfold guardB
        rw [List.all_eq_true]
        intro g hg
        cases hs : seatOf S g with
        | none => rfl
        | some x => exact decide_eq_true (Int.lt_of_lt_of_le hlt (key g hg x hs))
      · rw [decide_eq_false hlt]
        symm
        rcases List.mem_cons.mp hz with e | e
        · omega
        · obtain ⟨g, hg, hx⟩ := List.mem_flatMap.mp e
          unfold guardB
          rw [List.all_eq_false]
          refine ⟨g, hg, ?_⟩
          cases hs : seatOf S g with
          | none => unfold seatL at hx; rw [hs] at hx; cases hx
          | some x =>
            unfold seatL at hx
            rw [hs] at hx
            have hx := List.mem_singleton.mp hx
            subst hx
            show ¬ decide ((i : Int) < z) = true
            rw [decide_eq_false hlt]
            decide
end
end K15

set_option Elab.async false
set_option linter.all false
set_option autoImplicit false
set_option maxRecDepth 100000
set_option maxHeartbeats 4000000
namespace K15
open PySem L2
section
variable {A : Adr} {H H' H1 : Hp} {p : Addr} {S : LSS} {ρ ρ' : Addr → Option Role} {m : Nat} {L : Lay}
theorem rne {a b : Addr} {r1 r2 : Role} (h1 : ρ a = some r1) (h2 : ρ b = some r2) (n : r1 ≠ r2) : a ≠ b := fun z => n (by rw [z, h2] at h1; exact (Option.some.inj h1).symm)
theorem tg {a : Addr} {r : Role} (h : ρ a = some r) : Tg ρ a := by
  unfold Tg
  rw [h]
  intro z
  cases z
theorem paired_set' {α β : Type} {F G : α → β → Prop} {as : List α} {bs : List β} {i : Nat} {b' : β} (h : Paired F as bs) (k : ∀ (j : Nat) a b, as[j]? = some a → F a b → j ≠ i → G a b) (k2 : ∀ a, as[i]? = some a → G a b') : Paired G as (bs.set i b') := by
  induction h generalizing i with
  | nil => exact .nil
  | cons r t ih =>
    cases i with
    | zero => exact .cons (k2 _ rfl) (paired_imp t fun j a b e q => k (j + 1) a b (by rw [List.getElem?_cons_succ]; exact e) q (by omega))
    | succ i => exact .cons (k 0 _ _ rfl r (by omega)) (ih (fun j a b e q n => k (j + 1) a b (by rw [List.getElem?_cons_succ]; exact e) q (by omega)) fun a e => k2 a (by rw [List.getElem?_cons_succ]; exact e))
theorem LogAt.free {D : Addr} (h : LogAt A H p S ρ m L) (n : H D = none) : ρ D = none := by
  cases e : ρ D with
  | none => rfl
  | some r =>
    obtain ⟨o, h1, _⟩ := h.tag D (tg e)
    rw [n] at h1
    cases h1
/-- a list that is another's -/
theorem LogAt.updL {D : Addr} {xs : List V} {o : HO} (h : LogAt A H p S ρ m L) (n : ρ D = none) (hD : H D = some (.lst xs)) : LogAt A (upd H D o) p S ρ m L :=
  h.exc (P := fun a => a = D) ((Exc.refl _ H).at rfl) (fun a ys e z => by
    have z : a = D := z
    rw [z, hD] at e
    cases e) (fun a z => by
    have z : a = D := z
    rw [z]
    exact n)
/-- one entry's variables -/
theorem LogAt.setEnt {i : Nat} {x dx : Addr} {e' : Ent Str} (h : LogAt A H p S ρ m L) (hx : L.ea[i]? = some (x, dx)) (hk : PyData.strOk e'.key = true) : LogAt A (upd H x (SlO A.CE dx x (slV e'))) p { S with ents := S.ents.set i e' } ρ m L := by
  obtain ⟨rx, rd⟩ := h.rea i _ hx
  obtain ⟨e, he, hs⟩ := paired_at h.ents hx
  have kr : ∀ {a : Addr} {o : HO} {r : Role}, H a = some o → ρ a = some r → r ≠ .ent i → upd H x (SlO A.CE dx x (slV e')) a = some o := fun e r n => by
    rw [upd_ne (rne r rx n)]
    exact e
  have kt : ∀ {a : Addr} {xs : List V}, H a = some (.tup xs) → upd H x (SlO A.CE dx x (slV e')) a = some (.tup xs) := fun {a xs} e => by
    rw [upd_ne (fun z => by rw [z] at e; exact h.noTup _ _ e (tg rx))]
    exact e
  refine ⟨kr h.self h.rp (by intro z; cases z), kt h.gd, h.gds.imp fun a xs e => kt e, kr h.en h.rE (by intro z; cases z), ?_, ?_, ?_, fun r a e => ?_, h.dom, kr h.cp h.rCP (by intro z; cases z), paired_imp h.cps fun j a b e q => ?_, ?_, ⟨by show (S.ents.set i e').length ≤ m; rw [List.length_set]; exact h.len.1, h.len.2⟩, h.rp, h.rE, h.rPL, h.rTB, h.rCP, h.rea, h.rtt, h.rca, fun a r => ?_, h.gok⟩
  · show Paired _ L.ea (S.ents.set i e')
    have hp : Paired (fun y (en : Ent Str) => (y = (x, dx) ∨ SlAt (upd H x (SlO A.CE dx x (slV e'))) y.1 A.CE y.2 (slV en))) L.ea S.ents := by
      refine paired_imp h.ents fun j a b ej q => ?_
      by_cases hj : j = i
      · left
        rw [hj, hx] at ej
        exact (Option.some.inj ej).symm
      · right
        obtain ⟨q1, q2⟩ := h.rea j a ej
        refine sl_keep q fun y o z ey => ?_
        rcases z with z | z
        · rw [z] at ey ⊢
          exact kr ey q1 (by intro z; cases z; exact hj rfl)
        · rw [z] at ey ⊢
          exact kr ey q2 (by intro z; cases z)
    have h2 : Paired (fun y (en : Ent Str) => (y = (x, dx) ∧ en = e') ∨ SlAt (upd H x (SlO A.CE dx x (slV e'))) y.1 A.CE y.2 (slV en)) L.ea (S.ents.set i e') := by
      refine paired_set' hp (fun j a b ej q hne => ?_) (fun a ea => .inl ⟨by rw [hx] at ea; exact (Option.some.inj ea).symm, rfl⟩)
      rcases q with q | q
      · exfalso
        rw [q] at ej
        obtain ⟨q1, _⟩ := h.rea j _ ej
        rw [rx] at q1
        cases q1
        exact hne rfl
      · exact .inr q
    refine paired_imp h2 fun j a b ej q => ?_
    rcases q with ⟨q1, q2⟩ | q
    · rw [q1, q2]
      exact hs.here
    · exact q
  · obtain ⟨kvs, q1, q2⟩ := h.pl
    exact ⟨kvs, kr q1 h.rPL (by intro z; cases z), q2⟩
  · obtain ⟨kvs, q1, q2⟩ := h.tb
    exact ⟨kvs, kr q1 h.rTB (by intro z; cases z), q2⟩
  · obtain ⟨kvs, q1, q2⟩ := h.tabs r a e
    exact ⟨kvs, kr q1 (h.rtt r a e) (by intro z; cases z), q2⟩
  · obtain ⟨q1, kvs, q2, q3⟩ := q
    exact ⟨kt q1, kvs, kr q2 (h.rca j a e) (by intro z; cases z), q3⟩
  · intro en hen
    rcases List.mem_or_eq_of_mem_set hen with q | q
    · exact h.keys en q
    · rw [q]; exact hk
  · by_cases ha : a = x
    · rw [ha]
      exact ⟨_, upd_same, fun xs z => by unfold SlO at z; cases z⟩
    · obtain ⟨o, q1, q2⟩ := h.tag a r
      exact ⟨o, by rw [upd_ne ha]; exact q1, q2⟩
end
end K15

set_option Elab.async false
set_option linter.all false
set_option autoImplicit false
set_option maxRecDepth 100000
set_option maxHeartbeats 4000000
namespace K15
open PySem L2
def lgE (S : LSS) (i : Nat) : List (Ent Str) := S.ents.mapIdx (fun j e => if j < i then letGoE S j e else e)
theorem lgE_at (S : LSS) (i j : Nat) : (lgE S i)[j]? = (S.ents[j]?).map (fun e => if j < i then letGoE S j e else e) := List.getElem?_mapIdx
theorem lgE_len (S : LSS) (i : Nat) : (lgE S i).length = S.ents.length := List.length_mapIdx
theorem lgE_0 (S : LSS) : lgE S 0 = S.ents := by
  apply List.ext_getElem?
  intro j
  rw [lgE_at]
  cases S.ents[j]? with
  | none => rfl
  | some e => simp
theorem lgE_end (S : LSS) : lgE S S.ents.length = (letGo S).ents := by
  apply List.ext_getElem?
  intro j
  rw [lgE_at, letGo_at]
  cases e : S.ents[j]? with
  | none => rfl
  | some x =>
    have := (List.getElem?_eq_some_iff.mp e).1
    simp [this]
theorem lgE_succ {S : LSS} {i : Nat} {e : Ent Str} (h : S.ents[i]? = some e) : lgE S (i + 1) = (lgE S i).set i (letGoE S i e) := by
  have hi := (List.getElem?_eq_some_iff.mp h).1
  apply List.ext_getElem?
  intro j
  rw [lgE_at, List.getElem?_set]
  by_cases hj : i = j
  · subst hj
    rw [if_pos rfl, lgE_len, if_pos hi, h]
    simp
  · rw [if_neg hj, lgE_at]
    cases S.ents[j]? with
    | none => rfl
    | some x =>
      simp only [Option.map_some]
      by_cases h1 : j < i
      · rw [if_pos h1, if_pos (by omega)]
      · rw [if_neg h1, if_neg (by omega)]
theorem lgE_i {S : LSS} {i : Nat} {e : Ent Str} (h : S.ents[i]? = some e) : (lgE S i)[i]? = some e := by
  rw [lgE_at, h]
  simp
theorem set_same {α : Type} {l : List α} {i : Nat} {e : α} (h : l[i]? = some e) : l.set i e = l := by
  apply List.ext_getElem?
  intro j
  rw [List.getElem?_set]
  by_cases hj : i = j
  · subst hj
    rw [if_pos rfl, if_pos (List.getElem?_eq_some_iff.mp h).1, h]
  · rw [if_neg hj]
theorem lgE_skip {S : LSS} {i : Nat} {e : Ent Str} (h : S.ents[i]? = some e) (k : goB S i e = false) : lgE S (i + 1) = lgE S i := by
  rw [lgE_succ h]
  have : letGoE S i e = e := by
    unfold letGoE
    rw [if_neg (by rw [k]; decide)]
  rw [this]
  exact set_same (lgE_i h)
section
variable {P : Program} {w : World} {K : PySem.W.Frag} {mg : Str → Option Value} {base : Heap} {A : Adr} {f : Addr} {fd : FuncData}
abbrev s_Log_let_go : Stmt := inClass (top 17) 10
abbrev N_Log_let_go : List Str := ["self", "end", "found", "place", "entry"]
abbrev P_Log_let_go : List Str := ["self"]
theorem sc_Log_let_go : FnScope N_Log_let_go P_Log_let_go (C8.fnScope s_Log_let_go) := C8.fnScope_by (by decide +kernel)
def spLetGo (A : Adr) : Sp := fun vs H Q _ => ∃ p S ρ m L, vs = [.ref p] ∧ LogAt A H p S ρ m L ∧ m ≤ 1000 ∧ S.gds.length ≤ 1000 ∧
  ∀ (l : Addr) (ns : List Int) (H' : Hp), LogAt A H' p (letGo S) ρ m L → Exc (Tg ρ) H H' → H l = none → H' l = some (.lst (ns.map V.int)) → ns.length ≤ m → Q (.ref l) H'
theorem letgo_ok (T : Txt K mg A) (me : Meth K A.CL "let_go" f) (F : C8.Fun K "let_go" "Log.let_go" s_Log_let_go f fd) (b : Binds K fd P_Log_let_go []) (m_guarded : C8.Met P w K mg base 2 A.CL "guarded" (spGuarded A) []) (m_is_old : C8.Met P w K mg base 1 A.CL "is_old" (spIsOld A) []) :
    C8.Met P w K mg base 3 A.CL "let_go" (spLetGo A) [] := by
  refine C8.met0 T.cl me F b sc_Log_let_go (fun vs H Q E h => ?_) (fun cdv A' outer s H vs Q E hr h => ?_)
  · obtain ⟨p, S, ρ, m, L, rfl, _⟩ := h
    rfl
  · obtain ⟨p, S, ρ, m, L, rfl, h, hm, hgl, q⟩ := h
    have hu := hu_of hr
    refine ⟨_, (pss_cons (ps_par (i := 1) (j := 2) (by rfl) sc_Log_let_go.nd rfl rfl (by decide) rfl rfl (pa_cons (C8.pe_mt0 m_guarded hr (by decide) (pv 0)) (pa_cons (pe_lst pa_nil) pa_nil)) (by rfl))
      (pss_cons (ps_for PassesOwn.never rfl (pi_enum (by rfl) T.b_enumerate (pa_cons (pe_fld (pv 0) rfl) pa_nil)) (pg_tup rfl (pgs_cons (pg_name (i := 3) sc_Log_let_go.nd rfl (Or.inl rfl)) (pgs_cons (pg_name (i := 4) sc_Log_let_go.nd rfl (Or.inl rfl)) pgs_nil))) (pss_one (ps_if (PW.pt (pw_and (pt_cmpR op_isN (pe_slot T.scl T.sl_value (pv 4)) pe_non (nomark _)) (pw_and (pt_not (pt_val (pe_slot T.scl T.sl_is_gone (pv 4)))) (pw_and (pt_val (C8.pe_mt m_is_old hr (by decide) (pv 0) (pa_cons (pv 4) pa_nil))) (pw_and1 (pt_cmpR op_lt (pv 3) (pv 1) (nomark _))))))) (pss_cons (ps_slot T.scl T.sl_is_gone (pv 4) pe_bl)
      (pss_one (ps_expr (pe_bm PySem.F.plainAttrs_list PySem.F.slot_list_append PySem.F.type_list_append mt_append (pv 2) (pa_cons (pv 3) pa_nil))))) pss_nil)))
      (pss_one (ps_ret (pv 2))))), ?_⟩
    have hl := h.eLen
    have hlm := h.len.1
    refine ⟨_, rfl, p, _, _, rfl, h.self, by rfl, p, S, ρ, m, L, rfl, h, hm, hgl, fun z H1 s1 hz => ⟨Nat.zero_le _, fun D nD => ⟨_, _, rfl, ?_⟩⟩⟩
    have h1 := h.same s1
    have rD := h1.free nD
    have s2 := same_new (o := .lst []) nD
    have h2 := h1.same s2
    have nD0 : H D = none := by
      cases hh : H D with
      | none => rfl
      | some o => rw [s1 _ _ hh] at nD; cases nD
    dsimp only
    refine st_seq ?_
    refine ⟨_, rfl, p, A.CL, _, _, V.ref L.E, rfl, h2.self, T.cl, T.n_entries, by rfl, L.E, _, rfl, SqL.of h2.en, for_it (walk_enum (K := K) (a := L.E) (xs := L.ea.map fun x => V.ref x.1)) (fun i σ H3 => ∃ (x y : Option V) (ns : List Int), σ = [some (.ref p), some (.int z), some (.ref D), x, y] ∧ LogAt A H3 p { S with ents := lgE S i } ρ m L ∧ Exc (Tg ρ) H H3 ∧ H3 D = some (.lst (ns.map V.int)) ∧ ns.length ≤ i)
      ⟨none, none, [], rfl, by rw [lgE_0]; exact h2, same_exc (s1.trans s2) _, upd_same, Nat.le_refl _⟩ (fun i σ H3 _ ⟨_, _, _, _, g, _⟩ => SqL.of g.en) ?_ ?_⟩
    · rintro i v σ H3 H4 hi ⟨x1, y1, ns, rfl, g, e3, hD, hns⟩ ⟨t, y, zz, rfl, nt, rfl, hy, hq⟩
      cases hy
      have hq : (L.ea.map fun x => V.ref x.1)[i]? = some zz := hq
      rw [List.length_map] at hi
      rw [List.getElem?_map] at hq
      cases hx : L.ea[i]? with
      | none => rw [hx] at hq; cases hq
      | some xd =>
        rw [hx] at hq
        cases hq
        obtain ⟨x, dx⟩ := xd
        have s4 := same_new (o := .tup [.int (i : Nat), .ref x]) nt
        have g4 := g.same s4
        have hD4 := s4 _ _ hD
        have e4 := e3.trans (same_exc s4 (Tg ρ))
        obtain ⟨e, he⟩ : ∃ e, S.ents[i]? = some e := ⟨_, List.getElem?_eq_getElem (by omega)⟩
        obtain ⟨en, hen, hs⟩ := paired_at g4.ents hx
        have hen : (lgE S i)[i]? = some en := hen
        rw [lgE_i he] at hen
        cases hen
        refine gpair (x := .int (i : Nat)) (y := .ref x) upd_same ?_
        generalize upd H3 t (.tup [.int (i : Nat), .ref x]) = H4 at s4 g4 hD4 e4 hs
        have old : Val (tMeth A.CL "is_old" (spIsOld A) [] C8.E0 (tVar 0) (tCons (tVar 4) tNil)) ((([some (.ref p), some (.int z), some (.ref D), x1, y1] : L2.St).set 3 (some (.int (i : Nat)))).set 4 (some (.ref x))) H4 (.bl (oldB S e)) := by
          intro Q q
          refine ⟨_, rfl, p, _, _, rfl, g4.self, by rfl, _, rfl, p, _, ρ, m, L, i, x, dx, rfl, g4, hx, fun en hen => ?_⟩
          have hen : (lgE S i)[i]? = some en := hen
          rw [lgE_i he] at hen
          cases hen
          exact q
        have hval : Ans (tTest (tOp rIsN (tSlot A.CE 3 (tVar 4)) (tC .non))) ((([some (.ref p), some (.int z), some (.ref D), x1, y1] : L2.St).set 3 (some (.int (i : Nat)))).set 4 (some (.ref x))) H4 e.val.isNone := ans_isN (val_slot (val_var rfl) hs rfl) (by cases e.val <;> rfl)
        have hgb := hz i (by omega)
        have cond := ans_and2 hval (ans_and2 (ans_not (ans_val (val_slot (C := A.CE) (j := 0) (ta := tVar 4) (val_var rfl) hs rfl))) (ans_and2 (ans_val old) (ans_I0 (g := fun i j => decide (i < j)) (ta := tVar 3) (tb := tVar 1) (val_var rfl) (val_var rfl) hgb)))
        have hcb : (e.val.isNone && (!e.gone && (oldB S e && guardB S i))) = goB S i e := by
          unfold goB
          rw [Bool.and_assoc, Bool.and_assoc]
        cases hgo : goB S i e with
        | true =>
          rw [hcb, hgo] at cond
          refine st_yes cond ?_
          have hk := h.keys e (List.mem_of_getElem? he)
          have eq1 : letGoE S i e = { e with gone := true } := by
            unfold letGoE
            rw [if_pos hgo]
          have g5 := g4.setEnt (e' := { e with gone := true }) hx hk
          have g5' : LogAt A (upd H4 x (SlO A.CE dx x (slV { e with gone := true }))) p { S with ents := lgE S (i + 1) } ρ m L := by
            rw [lgE_succ he, eq1]
            exact g5
          have rx := (h.rea i _ hx).1
          have hDx : D ≠ x := fun z => by rw [z, rx] at rD; cases rD
          have hD5 : upd H4 x (SlO A.CE dx x (slV { e with gone := true })) D = some (.lst (ns.map V.int)) := by rw [upd_ne hDx]; exact hD4
          have e5 : Exc (Tg ρ) H (upd H4 x (SlO A.CE dx x (slV { e with gone := true }))) := e4.at (tg rx)
          refine ⟨_, rfl, x, dx, _, rfl, hs, ?_⟩
          refine ⟨_, rfl, .inl ⟨rfl, _, SqL.of hD5⟩, _, rfl, D, _, _, rfl, rfl, hD5, line_of (by rw [List.length_map]; omega), ?_⟩
          refine ⟨_, _, ns ++ [(i : Int)], rfl, g5'.updL rD hD5, e5.born nD0, by rw [List.map_append]; exact upd_same, by rw [List.length_append]; show ns.length + 1 ≤ i + 1; omega⟩
        | false =>
          rw [hcb, hgo] at cond
          refine st_no cond ?_
          exact ⟨_, _, ns, rfl, by rw [lgE_skip he hgo]; exact g4, e4, hD4, by omega⟩
    · rintro σ H3 ⟨x, y, ns, rfl, g, e3, hD, hns⟩
      rw [List.length_map] at g hns
      rw [hl, lgE_end] at g
      exact ⟨_, rfl, q D ns H3 g e3 nD0 hD (by omega)⟩
abbrev s_Log_go_on : Stmt := inClass (top 17) 9
abbrev N_Log_go_on : List Str := ["self"]
abbrev P_Log_go_on : List Str := ["self"]
theorem sc_Log_go_on : FnScope N_Log_go_on P_Log_go_on (C8.fnScope s_Log_go_on) := C8.fnScope_by (by decide +kernel)
def spGoOn (A : Adr) : Sp := fun vs H Q _ => ∃ p S ρ m L, vs = [.ref p] ∧ LogAt A H p S ρ m L ∧ m ≤ 1000 ∧ S.gds.length ≤ 1000 ∧
  ∀ (H' : Hp), LogAt A H' p (goOn S) ρ m L → Exc (Tg ρ) H H' → Q .non H'
theorem put_time (S : LSS) (L : Lay) (t : Int) : putF "own_time" (.int t) (flds S L) = flds { S with time := t } L := by rfl
theorem LogAt.setTime {H : Hp} {p : Addr} {S : LSS} {ρ : Addr → Option Role} {m : Nat} {L : Lay} (h : LogAt A H p S ρ m L) (t : Int) : LogAt A (upd H p (.ins A.CL L.dx (flds { S with time := t } L))) p { S with time := t } ρ m L := by
  have kr : ∀ {a : Addr} {o : HO} {r : Role}, H a = some o → ρ a = some r → r ≠ .log → upd H p (.ins A.CL L.dx (flds { S with time := t } L)) a = some o := fun e r n => by
    rw [upd_ne (rne r h.rp n)]
    exact e
  have kt : ∀ {a : Addr} {xs : List V}, H a = some (.tup xs) → upd H p (.ins A.CL L.dx (flds { S with time := t } L)) a = some (.tup xs) := fun {a xs} e => by
    rw [upd_ne (fun z => by rw [z] at e; exact h.noTup _ _ e (tg h.rp))]
    exact e
  refine ⟨upd_same, kt h.gd, h.gds.imp fun a xs e => kt e, kr h.en h.rE (by intro z; cases z), paired_imp h.ents fun j a b ej q => ?_, ?_, ?_, fun r a e => ?_, h.dom, kr h.cp h.rCP (by intro z; cases z), paired_imp h.cps fun j a b e q => ?_, h.keys, h.len, h.rp, h.rE, h.rPL, h.rTB, h.rCP, h.rea, h.rtt, h.rca, fun a r => ?_, h.gok⟩
  · obtain ⟨q1, q2⟩ := h.rea j a ej
    refine sl_keep q fun y o z ey => ?_
    rcases z with z | z
    · rw [z] at ey ⊢
      exact kr ey q1 (by intro z; cases z)
    · rw [z] at ey ⊢
      exact kr ey q2 (by intro z; cases z)
  · obtain ⟨kvs, q1, q2⟩ := h.pl
    exact ⟨kvs, kr q1 h.rPL (by intro z; cases z), q2⟩
  · obtain ⟨kvs, q1, q2⟩ := h.tb
    exact ⟨kvs, kr q1 h.rTB (by intro z; cases z), q2⟩
  · obtain ⟨kvs, q1, q2⟩ := h.tabs r a e
    exact ⟨kvs, kr q1 (h.rtt r a e) (by intro z; cases z), q2⟩
  · obtain ⟨q1, kvs, q2, q3⟩ := q
    exact ⟨kt q1, kvs, kr q2 (h.rca j a e) (by intro z; cases z), q3⟩
  · by_cases ha : a = p
    · rw [ha]
      exact ⟨_, upd_same, fun xs z => by cases z⟩
    · obtain ⟨o, q1, q2⟩ := h.tag a r
      exact ⟨o, by rw [upd_ne ha]; exact q1, q2⟩
theorem goon_ok (T : Txt K mg A) (me : Meth K A.CL "go_on" f) (F : C8.Fun K "go_on" "Log.go_on" s_Log_go_on f fd) (b : Binds K fd P_Log_go_on []) (m_let_go : C8.Met P w K mg base 3 A.CL "let_go" (spLetGo A) []) :
    C8.Met P w K mg base 4 A.CL "go_on" (spGoOn A) [] := by
  refine C8.met0 T.cl me F b sc_Log_go_on (fun vs H Q E h => ?_) (fun cdv A' outer s H vs Q E hr h => ?_)
  · obtain ⟨p, S, ρ, m, L, rfl, _⟩ := h
    rfl
  · obtain ⟨p, S, ρ, m, L, rfl, h, hm, hgl, q⟩ := h
    have hu := hu_of hr
    refine ⟨_, (pss_cons (ps_fldaug (pv 0) pe_int in_add)
      (pss_one (ps_expr (C8.pe_mt0 m_let_go hr (by decide) (pv 0))))), ?_⟩
    refine ⟨_, rfl, p, A.CL, _, _, V.int S.time, rfl, h.self, T.cl, T.n_time, by rfl, S.time, 1, rfl, rfl, L.dx, flds S L, h.self, by show 7 < 1000; decide, ?_⟩
    rw [put_time]
    have h1 := h.setTime (S.time + 1)
    have e1 : Exc (Tg ρ) H (upd H p (.ins A.CL L.dx (flds { S with time := S.time + 1 } L))) := (Exc.refl _ _).at (tg h.rp)
    refine ⟨_, rfl, p, _, _, rfl, h1.self, by rfl, p, _, ρ, m, L, rfl, h1, hm, hgl, fun l ns H' h2 e2 nl hl' hns => ?_⟩
    exact q H' h2 (e1.trans e2)
end
end K15

set_option Elab.async false
set_option linter.all false
set_option autoImplicit false
set_option maxRecDepth 100000
set_option maxHeartbeats 4000000
namespace K15
open PySem L2
def tagR (ρ : Addr → Option Role) (x : Addr) (r : Role) : Addr → Option Role := fun a => if a = x then some r else ρ a
section
variable {A : Adr} {H H' H1 : Hp} {p : Addr} {S : LSS} {ρ ρ' : Addr → Option Role} {m : Nat} {L : Lay}
theorem tagR_old {x a : Addr} {r r' : Role} (n : ρ x = none) (h : ρ a = some r') : tagR ρ x r a = some r' := by
  unfold tagR
  rw [if_neg (fun z => by rw [z, n] at h; cases h)]
  exact h
theorem tagR_new {x : Addr} {r : Role} : tagR ρ x r x = some r := if_pos rfl
/-- one more that is a log's own -/
theorem LogAt.grow {x : Addr} {r : Role} {o : HO} (h : LogAt A H p S ρ m L) (n : ρ x = none) (hx : H x = some o) (ho : ∀ xs, o ≠ .tup xs) : LogAt A H p S (tagR ρ x r) m L := by
  have k : ∀ {a : Addr} {r' : Role}, ρ a = some r' → tagR ρ x r a = some r' := fun h => tagR_old n h
  refine ⟨h.self, h.gd, h.gds, h.en, h.ents, h.pl, h.tb, h.tabs, h.dom, h.cp, h.cps, h.keys, h.len, k h.rp, k h.rE, k h.rPL, k h.rTB, k h.rCP, fun i y e => ⟨k (h.rea i y e).1, k (h.rea i y e).2⟩, fun q a e => k (h.rtt q a e), fun i y e => k (h.rca i y e), fun a z => ?_, h.gok⟩
  by_cases ha : a = x
  · rw [ha]
    exact ⟨o, hx, ho⟩
  · refine h.tag a fun z2 => z ?_
    unfold tagR
    rw [if_neg ha]
    exact z2
theorem paired_ne {α β : Type} {F G : α → β → Prop} {as : List α} {bs : List β} (h : Paired F as bs) (k : ∀ (i : Nat) a b, as[i]? = some a → bs[i]? = some b → F a b → G a b) : Paired G as bs := by
  induction h with
  | nil => exact .nil
  | cons r t ih => exact .cons (k 0 _ _ rfl rfl r) (ih fun i a b e e2 => k (i + 1) a b (by rw [List.getElem?_cons_succ]; exact e) (by rw [List.getElem?_cons_succ]; exact e2))
/-- what all of a log's changes leave -/
theorem ents_keep (h : LogAt A H p S ρ m L) (k : ∀ (i : Nat) a o, (ρ a = some (.ent i) ∨ ρ a = some (.own i)) → H a = some o → H' a = some o) : Paired (fun x e => SlAt H' x.1 A.CE x.2 (slV e)) L.ea S.ents := paired_imp h.ents fun j a b ej q => by
  obtain ⟨q1, q2⟩ := h.rea j a ej
  refine sl_keep q fun y o z ey => ?_
  rcases z with z | z
  · rw [z] at ey ⊢
    exact k j _ _ (.inl q1) ey
  · rw [z] at ey ⊢
    exact k j _ _ (.inr q2) ey
theorem cps_keep {m' : Nat} (h : LogAt A H p S ρ m L) (hm : m ≤ m') (kt : ∀ a xs, H a = some (.tup xs) → H' a = some (.tup xs)) (k : ∀ (i : Nat) a o, ρ a = some (.cpy i) → H a = some o → H' a = some o) :
    Paired (fun x c => H' x.1 = some (.tup [.int c.1, .ref x.2]) ∧ ∃ kvs, H' x.2 = some (.dK kvs) ∧ DS kvs c.2 ∧ kvs.length ≤ 64 * m') L.ca S.cps := paired_imp h.cps fun j a b e q => by
  obtain ⟨q1, kvs, q2, q3, q4⟩ := q
  exact ⟨kt _ _ q1, kvs, k j _ _ (h.rca j a e) q2, q3, by omega⟩
theorem snoc_at {α : Type} {l : List α} {x y : α} {i : Nat} (h : (l ++ [x])[i]? = some y) : l[i]? = some y ∨ (i = l.length ∧ y = x) := by
  by_cases hi : i < l.length
  · rw [List.getElem?_append_left hi] at h
    exact .inl h
  · rw [List.getElem?_append_right (by omega)] at h
    have : i - l.length = 0 := by
      cases e : i - l.length with
      | zero => rfl
      | succ j => rw [e] at h; simp at h
    rw [this] at h
    simp at h
    exact .inr ⟨by omega, h.symm⟩
theorem paired_snoc {α β : Type} {F : α → β → Prop} {as : List α} {bs : List β} {a : α} {b : β} (h : Paired F as bs) (r : F a b) : Paired F (as ++ [a]) (bs ++ [b]) := by
  induction h with
  | nil => exact .cons r .nil
  | cons q _ ih => exact .cons q ih
/-- one more entry -/
theorem LogAt.app {x dx : Addr} {e : Ent Str} (h : LogAt A H p S ρ m L) (rx : ρ x = some (.ent S.ents.length)) (rd : ρ dx = some (.own S.ents.length)) (hs : SlAt H x A.CE dx (slV e)) (hk : PyData.strOk e.key = true) (hl : S.ents.length < m) :
    LogAt A (upd H L.E (.lst ((L.ea ++ [(x, dx)]).map fun x => V.ref x.1))) p { S with ents := S.ents ++ [e] } ρ m { L with ea := L.ea ++ [(x, dx)] } := by
  have kr : ∀ {a : Addr} {o : HO} {r : Role}, H a = some o → ρ a = some r → r ≠ .ents → upd H L.E (.lst ((L.ea ++ [(x, dx)]).map fun x => V.ref x.1)) a = some o := fun e r n => by
    rw [upd_ne (rne r h.rE n)]
    exact e
  have kt : ∀ {a : Addr} {xs : List V}, H a = some (.tup xs) → upd H L.E (.lst ((L.ea ++ [(x, dx)]).map fun x => V.ref x.1)) a = some (.tup xs) := fun {a xs} e => by
    rw [upd_ne (fun z => by rw [z] at e; exact h.noTup _ _ e (tg h.rE))]
    exact e
  have hel := h.eLen
  refine ⟨kr h.self h.rp (by intro z; cases z), kt h.gd, h.gds.imp fun a xs e => kt e, upd_same, ?_, ?_, ?_, fun r a e => ?_, h.dom, kr h.cp h.rCP (by intro z; cases z), cps_keep (S := S) (L := L) h (Nat.le_refl _) (fun a xs e => kt e) (fun i a o r e => kr e r (by intro z; cases z)), fun en hen => ?_, ⟨by show (S.ents ++ [e]).length ≤ m; rw [List.length_append]; exact hl, h.len.2⟩, h.rp, h.rE, h.rPL, h.rTB, h.rCP, fun i y ey => ?_, h.rtt, h.rca, fun a r => ?_, h.gok⟩
  · refine paired_snoc (ents_keep (S := S) (L := L) h fun i a o r e => ?_) (sl_keep hs fun y o z ey => ?_)
    · rcases r with r | r
      · exact kr e r (by intro z; cases z)
      · exact kr e r (by intro z; cases z)
    · rcases z with z | z
      · rw [z] at ey ⊢
        exact kr ey rx (by intro z; cases z)
      · rw [z] at ey ⊢
        exact kr ey rd (by intro z; cases z)
  · obtain ⟨kvs, q1, q2⟩ := h.pl
    exact ⟨kvs, kr q1 h.rPL (by intro z; cases z), q2⟩
  · obtain ⟨kvs, q1, q2⟩ := h.tb
    exact ⟨kvs, kr q1 h.rTB (by intro z; cases z), q2⟩
  · obtain ⟨kvs, q1, q2⟩ := h.tabs r a e
    exact ⟨kvs, kr q1 (h.rtt r a e) (by intro z; cases z), q2⟩
  · rcases List.mem_append.mp hen with q | q
    · exact h.keys en q
    · rw [List.mem_singleton.mp q]; exact hk
  · rcases snoc_at ey with q | ⟨q1, q2⟩
    · exact h.rea i y q
    · rw [q1, q2, hel]
      exact ⟨rx, rd⟩
  · by_cases ha : a = L.E
    · rw [ha]
      exact ⟨_, upd_same, fun xs z => by cases z⟩
    · obtain ⟨o, q1, q2⟩ := h.tag a r
      exact ⟨o, by rw [upd_ne ha]; exact q1, q2⟩
/-- a reader's place and table, anew -/
theorem LogAt.setSeat {r z : Int} {d : Addr} {kp kt' kd : List (L2.Key × V)} {T : Tab Str} (h : LogAt A H p S ρ m L) (hP : H L.PL = some (.dK kp)) (hT : H L.TB = some (.dK kt')) (nd : H d = none)
    (e1 : H' L.PL = some (.dK (putK kp (Sum.inl r) (.int z)))) (e2 : H' L.TB = some (.dK (putK kt' (Sum.inl r) (.ref d)))) (e3 : H' d = some (.dK kd)) (hd : DS kd T) (hl : kd.length ≤ 64 * (m + 1)) (k : ∀ a o, H a = some o → a ≠ L.PL → a ≠ L.TB → H' a = some o) :
    LogAt A H' p { S with pl := put1 S.pl r (some z), tb := put1 S.tb r T } (tagR ρ d (.tab r)) (m + 1) { L with tt := put1 L.tt r (some d) } := by
  have rd := h.free nd
  have kr : ∀ {a : Addr} {o : HO} {r : Role}, H a = some o → ρ a = some r → r ≠ .pls → r ≠ .tbs → H' a = some o := fun e r n1 n2 => k _ _ e (rne r h.rPL n1) (rne r h.rTB n2)
  have kt : ∀ {a : Addr} {xs : List V}, H a = some (.tup xs) → H' a = some (.tup xs) := fun {a xs} e => k _ _ e (fun z => by rw [z] at e; exact h.noTup _ _ e (tg h.rPL)) (fun z => by rw [z] at e; exact h.noTup _ _ e (tg h.rTB))
  have ko : ∀ {a : Addr} {r' : Role}, ρ a = some r' → tagR ρ d (.tab r) a = some r' := fun h => tagR_old rd h
  refine ⟨kr h.self h.rp (by intro z; cases z) (by intro z; cases z), kt h.gd, h.gds.imp fun a xs e => kt e, kr h.en h.rE (by intro z; cases z) (by intro z; cases z), ents_keep (S := S) (L := L) h fun i a o r e => ?_, ?_, ?_, fun r' a e => ?_, fun x => ?_, kr h.cp h.rCP (by intro z; cases z) (by intro z; cases z), cps_keep (S := S) (L := L) h (Nat.le_succ _) (fun a xs e => kt e) (fun i a o r e => kr e r (by intro z; cases z) (by intro z; cases z)), h.keys, ⟨by have := h.len.1; show S.ents.length ≤ m + 1; omega, by have := h.len.2; show S.cps.length ≤ m + 1; omega⟩, ko h.rp, ko h.rE, ko h.rPL, ko h.rTB, ko h.rCP, fun i y e => ⟨ko (h.rea i y e).1, ko (h.rea i y e).2⟩, fun r' a e => ?_, fun i y e => ko (h.rca i y e), fun a q => ?_, h.gok⟩
  · rcases r with r | r
    · exact kr e r (by intro z; cases z) (by intro z; cases z)
    · exact kr e r (by intro z; cases z) (by intro z; cases z)
  · obtain ⟨kvs, q1, q2, q3⟩ := h.pl
    rw [hP] at q1
    cases q1
    refine ⟨_, e1, ?_, ?_⟩
    · have d2 := q2.put r (.int z)
      have e : put1 (fun r => (S.pl r).map V.int) r (some (.int z)) = fun x => (put1 S.pl r (some z) x).map V.int := by
        funext x
        unfold put1
        by_cases hx : x = r
        · rw [if_pos hx, if_pos hx]
          rfl
        · rw [if_neg hx, if_neg hx]
      rw [e] at d2
      exact d2
    · have := length_putK kp (Sum.inl r : L2.Key) (V.int z)
      omega
  · obtain ⟨kvs, q1, q2, q3⟩ := h.tb
    rw [hT] at q1
    cases q1
    refine ⟨_, e2, ?_, ?_⟩
    · have d2 := q2.put r (.ref d)
      have e : put1 (fun r => (L.tt r).map V.ref) r (some (.ref d)) = fun x => (put1 L.tt r (some d) x).map V.ref := by
        funext x
        unfold put1
        by_cases hx : x = r
        · rw [if_pos hx, if_pos hx]
          rfl
        · rw [if_neg hx, if_neg hx]
      rw [e] at d2
      exact d2
    · have := length_putK kt' (Sum.inl r : L2.Key) (V.ref d)
      omega
  · have e : put1 L.tt r (some d) r' = some a := e
    show ∃ kvs, H' a = some (.dK kvs) ∧ DS kvs (put1 S.tb r T r') ∧ kvs.length ≤ 64 * (m + 1)
    by_cases hr : r' = r
    · rw [hr, put1_same] at e
      cases e
      rw [hr, put1_same]
      exact ⟨kd, e3, hd, hl⟩
    · rw [put1_ne _ _ hr] at e
      rw [put1_ne _ _ hr]
      obtain ⟨kvs, q1, q2, q3⟩ := h.tabs r' a e
      exact ⟨kvs, kr q1 (h.rtt r' a e) (by intro z; cases z) (by intro z; cases z), q2, by omega⟩
  · show (put1 L.tt r (some d) x).isSome = (put1 S.pl r (some z) x).isSome
    by_cases hr : x = r
    · rw [hr, put1_same, put1_same]
      rfl
    · rw [put1_ne _ _ hr, put1_ne _ _ hr]
      exact h.dom x
  · have e : put1 L.tt r (some d) r' = some a := e
    by_cases hr : r' = r
    · rw [hr, put1_same] at e
      cases e
      rw [hr]
      exact tagR_new
    · rw [put1_ne _ _ hr] at e
      exact ko (h.rtt r' a e)
  · by_cases ha : a = d
    · rw [ha]
      exact ⟨_, e3, fun xs z => by cases z⟩
    · have q' : ρ a ≠ none := fun z => q (by unfold tagR; rw [if_neg ha]; exact z)
      by_cases h1 : a = L.PL
      · rw [h1]
        exact ⟨_, e1, fun xs z => by cases z⟩
      · by_cases h2 : a = L.TB
        · rw [h2]
          exact ⟨_, e2, fun xs z => by cases z⟩
        · obtain ⟨o, q1, q2⟩ := h.tag a q'
          exact ⟨o, k _ _ q1 h1 h2, q2⟩
/-- a reader's place -/
theorem LogAt.setPl {r z : Int} {kp : List (L2.Key × V)} (h : LogAt A H p S ρ m L) (hP : H L.PL = some (.dK kp)) (hr : S.pl r ≠ none) : LogAt A (upd H L.PL (.dK (putK kp (Sum.inl r) (.int z)))) p { S with pl := put1 S.pl r (some z) } ρ m L := by
  have kr : ∀ {a : Addr} {o : HO} {r' : Role}, H a = some o → ρ a = some r' → r' ≠ .pls → upd H L.PL (.dK (putK kp (Sum.inl r) (.int z))) a = some o := fun e r n => by
    rw [upd_ne (rne r h.rPL n)]
    exact e
  have kt : ∀ {a : Addr} {xs : List V}, H a = some (.tup xs) → upd H L.PL (.dK (putK kp (Sum.inl r) (.int z))) a = some (.tup xs) := fun {a xs} e => by
    rw [upd_ne (fun z => by rw [z] at e; exact h.noTup _ _ e (tg h.rPL))]
    exact e
  refine ⟨kr h.self h.rp (by intro z; cases z), kt h.gd, h.gds.imp fun a xs e => kt e, kr h.en h.rE (by intro z; cases z), ents_keep (S := S) (L := L) h fun i a o r e => ?_, ?_, ?_, fun r' a e => ?_, fun x => ?_, kr h.cp h.rCP (by intro z; cases z), cps_keep (S := S) (L := L) h (Nat.le_refl _) (fun a xs e => kt e) (fun i a o r e => kr e r (by intro z; cases z)), h.keys, h.len, h.rp, h.rE, h.rPL, h.rTB, h.rCP, h.rea, h.rtt, h.rca, fun a q => ?_, h.gok⟩
  · rcases r with r | r
    · exact kr e r (by intro z; cases z)
    · exact kr e r (by intro z; cases z)
  · obtain ⟨kvs, q1, q2, q3⟩ := h.pl
    rw [hP] at q1
    cases q1
    refine ⟨_, upd_same, ?_, ?_⟩
    · have d2 := q2.put r (.int z)
      have e : put1 (fun r => (S.pl r).map V.int) r (some (.int z)) = fun x => (put1 S.pl r (some z) x).map V.int := by
        funext x
        unfold put1
        by_cases hx : x = r
        · rw [if_pos hx, if_pos hx]
          rfl
        · rw [if_neg hx, if_neg hx]
      rw [e] at d2
      exact d2
    · have hv := q2.at_ r
      have e3 : (putK kp (Sum.inl r : L2.Key) (V.int z)).length = kp.length := by
        unfold putK
        rw [valV_any, hv]
        cases e : S.pl r with
        | none => exact absurd e hr
        | some x =>
          rw [if_pos (by rfl)]
          exact List.length_map _
      omega
  · obtain ⟨kvs, q1, q2, q3⟩ := h.tb
    exact ⟨kvs, kr q1 h.rTB (by intro z; cases z), q2, by omega⟩
  · obtain ⟨kvs, q1, q2, q3⟩ := h.tabs r' a e
    exact ⟨kvs, kr q1 (h.rtt r' a e) (by intro z; cases z), q2, by omega⟩
  · show (L.tt x).isSome = (put1 S.pl r (some z) x).isSome
    rw [h.dom x]
    by_cases hx : x = r
    · rw [hx, put1_same]
      cases e : S.pl r with
      | none => exact absurd e hr
      | some _ => rfl
    · rw [put1_ne _ _ hx]
  · by_cases ha : a = L.PL
    · rw [ha]
      exact ⟨_, upd_same, fun xs z => by cases z⟩
    · obtain ⟨o, q1, q2⟩ := h.tag a q
      exact ⟨o, by rw [upd_ne ha]; exact q1, q2⟩
/-- a reader's table -/
theorem LogAt.setTab {r : Int} {a0 : Addr} {kd : List (L2.Key × V)} {T : Tab Str} (h : LogAt A H p S ρ m L) (ha0 : L.tt r = some a0) (hd : DS kd T) (hl : kd.length ≤ 64 * m) : LogAt A (upd H a0 (.dK kd)) p { S with tb := put1 S.tb r T } ρ m L := by
  have r0 := h.rtt r a0 ha0
  have kr : ∀ {a : Addr} {o : HO} {r' : Role}, H a = some o → ρ a = some r' → r' ≠ .tab r → upd H a0 (.dK kd) a = some o := fun e r n => by
    rw [upd_ne (rne r r0 n)]
    exact e
  have kt : ∀ {a : Addr} {xs : List V}, H a = some (.tup xs) → upd H a0 (.dK kd) a = some (.tup xs) := fun {a xs} e => by
    rw [upd_ne (fun z => by rw [z] at e; exact h.noTup _ _ e (tg r0))]
    exact e
  refine ⟨kr h.self h.rp (by intro z; cases z), kt h.gd, h.gds.imp fun a xs e => kt e, kr h.en h.rE (by intro z; cases z), ents_keep (S := S) (L := L) h fun i a o r e => ?_, ?_, ?_, fun r' a e => ?_, h.dom, kr h.cp h.rCP (by intro z; cases z), cps_keep (S := S) (L := L) h (Nat.le_refl _) (fun a xs e => kt e) (fun i a o r e => kr e r (by intro z; cases z)), h.keys, h.len, h.rp, h.rE, h.rPL, h.rTB, h.rCP, h.rea, h.rtt, h.rca, fun a q => ?_, h.gok⟩
  · rcases r with r | r
    · exact kr e r (by intro z; cases z)
    · exact kr e r (by intro z; cases z)
  · obtain ⟨kvs, q1, q2⟩ := h.pl
    exact ⟨kvs, kr q1 h.rPL (by intro z; cases z), q2⟩
  · obtain ⟨kvs, q1, q2⟩ := h.tb
    exact ⟨kvs, kr q1 h.rTB (by intro z; cases z), q2⟩
  · show ∃ kvs, upd H a0 (.dK kd) a = some (.dK kvs) ∧ DS kvs (put1 S.tb r T r') ∧ kvs.length ≤ 64 * m
    by_cases hr : r' = r
    · rw [hr, ha0] at e
      cases e
      rw [hr, put1_same]
      exact ⟨kd, upd_same, hd, hl⟩
    · rw [put1_ne _ _ hr]
      obtain ⟨kvs, q1, q2⟩ := h.tabs r' a e
      exact ⟨kvs, kr q1 (h.rtt r' a e) (by intro z; cases z; exact hr rfl), q2⟩
  · by_cases ha : a = a0
    · rw [ha]
      exact ⟨_, upd_same, fun xs z => by cases z⟩
    · obtain ⟨o, q1, q2⟩ := h.tag a q
      exact ⟨o, by rw [upd_ne ha]; exact q1, q2⟩
/-- one more copy -/
theorem LogAt.addCp {t d : Addr} {z : Int} {kd : List (L2.Key × V)} {T : Tab Str} (h : LogAt A H p S ρ m L) (rd : ρ d = some (.cpy S.cps.length)) (ht : H t = some (.tup [.int z, .ref d])) (hd : H d = some (.dK kd)) (hD : DS kd T) (hl : kd.length ≤ 64 * m) (hlm : S.cps.length < m) :
    LogAt A (upd H L.CP (.lst ((L.ca ++ [(t, d)]).map fun x => V.ref x.1))) p { S with cps := S.cps ++ [(z, T)] } ρ m { L with ca := L.ca ++ [(t, d)] } := by
  have kr : ∀ {a : Addr} {o : HO} {r : Role}, H a = some o → ρ a = some r → r ≠ .cps → upd H L.CP (.lst ((L.ca ++ [(t, d)]).map fun x => V.ref x.1)) a = some o := fun e r n => by
    rw [upd_ne (rne r h.rCP n)]
    exact e
  have kt : ∀ {a : Addr} {xs : List V}, H a = some (.tup xs) → upd H L.CP (.lst ((L.ca ++ [(t, d)]).map fun x => V.ref x.1)) a = some (.tup xs) := fun {a xs} e => by
    rw [upd_ne (fun z => by rw [z] at e; exact h.noTup _ _ e (tg h.rCP))]
    exact e
  have hcl : L.ca.length = S.cps.length := Paired.length h.cps
  refine ⟨kr h.self h.rp (by intro z; cases z), kt h.gd, h.gds.imp fun a xs e => kt e, kr h.en h.rE (by intro z; cases z), ents_keep (S := S) (L := L) h fun i a o r e => ?_, ?_, ?_, fun r' a e => ?_, h.dom, upd_same, paired_snoc (cps_keep (S := S) (L := L) h (Nat.le_refl _) (fun a xs e => kt e) (fun i a o r e => kr e r (by intro z; cases z))) ⟨kt ht, kd, kr hd rd (by intro z; cases z), hD, hl⟩, h.keys, ⟨h.len.1, by show (S.cps ++ [(z, T)]).length ≤ m; rw [List.length_append]; exact hlm⟩, h.rp, h.rE, h.rPL, h.rTB, h.rCP, h.rea, h.rtt, fun i y ey => ?_, fun a q => ?_, h.gok⟩
  · rcases r with r | r
    · exact kr e r (by intro z; cases z)
    · exact kr e r (by intro z; cases z)
  · obtain ⟨kvs, q1, q2⟩ := h.pl
    exact ⟨kvs, kr q1 h.rPL (by intro z; cases z), q2⟩
  · obtain ⟨kvs, q1, q2⟩ := h.tb
    exact ⟨kvs, kr q1 h.rTB (by intro z; cases z), q2⟩
  · obtain ⟨kvs, q1, q2⟩ := h.tabs r' a e
    exact ⟨kvs, kr q1 (h.rtt r' a e) (by intro z; cases z), q2⟩
  · rcases snoc_at ey with q | ⟨q1, q2⟩
    · exact h.rca i y q
    · rw [q1, q2, hcl]
      exact rd
  · by_cases ha : a = L.CP
    · rw [ha]
      exact ⟨_, upd_same, fun xs z => by cases z⟩
    · obtain ⟨o, q1, q2⟩ := h.tag a q
      exact ⟨o, by rw [upd_ne ha]; exact q1, q2⟩
end
end K15

set_option Elab.async false
set_option linter.all false
set_option autoImplicit false
set_option maxRecDepth 100000
set_option maxHeartbeats 4000000
namespace K15
open PySem L2
/-- what an operation on a log leaves -/
abbrev After (A : Adr) (H : Hp) (ρ : Addr → Option Role) (p : Addr) (m : Nat) (S' : LSS) (Q : VK) : Prop := ∀ (v : V) (H' : Hp) (ρ' : Addr → Option Role) (L' : Lay), LogAt A H' p S' ρ' (m + 1) L' → Tr H ρ H' ρ' → Q v H'
theorem Tr.of {H H' : Hp} {ρ : Addr → Option Role} (e : Exc (Tg ρ) H H') : Tr H ρ H' ρ := ⟨e, fun _ _ h => h, fun _ h => .inl h⟩
theorem Tr.tag {H H' : Hp} {ρ ρ' : Addr → Option Role} {x : Addr} {r : Role} (t : Tr H ρ H' ρ') (n : ρ' x = none) (nx : H x = none) : Tr H ρ H' (tagR ρ' x r) := by
  refine ⟨t.ex, fun a r' h => tagR_old n (t.sub a r' h), fun a h => ?_⟩
  by_cases ha : a = x
  · right
    rw [ha]
    exact nx
  · refine t.new a fun z => h ?_
    unfold tagR
    rw [if_neg ha]
    exact z
section
variable {P : Program} {w : World} {K : PySem.W.Frag} {mg : Str → Option Value} {base : Heap} {A : Adr} {f : Addr} {fd : FuncData}
abbrev s_Entry___init__ : Stmt := inClass (top 16) 1
abbrev N_Entry___init__ : List Str := ["self", "key", "value"]
abbrev P_Entry___init__ : List Str := ["self", "key", "value"]
theorem sc_Entry___init__ : FnScope N_Entry___init__ P_Entry___init__ (C8.fnScope s_Entry___init__) := C8.fnScope_by (by decide +kernel)
def spEntry (A : Adr) : Sp := fun vs H Q _ => ∃ (x dx : Addr) (k : Str) (ov : Option Int), vs = [.ref x, .str k, optV ov] ∧ SlAt H x A.CE dx [] ∧ ∀ H', (∀ a, a ≠ x → H' a = H a) → SlAt H' x A.CE dx (slV ⟨k, ov, false, none⟩) → Q .non H'
theorem entry_ok {CE : Addr} (T : Txt K mg A) (M : Mk K CE f) (hm : mg "Entry" = some (.ref CE)) (F : C8.Fun K "__init__" "Entry.__init__" s_Entry___init__ f fd) (b : Binds K fd P_Entry___init__ []) : C8.Mak P w K mg base 1 "Entry" CE (spEntry A) [] := by
  refine C8.mak0 M hm F b .nil sc_Entry___init__ (fun vs H Q E h => ?_) (fun cdv A' outer s H vs Q E hr h => ?_)
  · obtain ⟨x, dx, k, ov, rfl, _⟩ := h
    rfl
  · obtain ⟨x, dx, k, ov, rfl, hs, q⟩ := h
    refine ⟨_, (pss_cons (ps_slot T.scl T.sl_key (pv 0) (pv 1))
      (pss_cons (ps_slot T.scl T.sl_value (pv 0) (pv 2))
      (pss_cons (ps_slot T.scl T.sl_is_gone (pv 0) pe_bl)
      (pss_one (ps_slot T.scl T.sl_passed (pv 0) pe_non))))), ?_⟩
    refine ⟨_, rfl, _, rfl, x, dx, _, rfl, hs, _, rfl, _, rfl, x, dx, _, rfl, hs.here, _, rfl, x, dx, _, rfl, SlAt.here (SlAt.here hs), _, rfl, x, dx, _, rfl, SlAt.here (SlAt.here (SlAt.here hs)), ?_⟩
    refine q _ (fun a n => ?_) (SlAt.here (SlAt.here (SlAt.here (SlAt.here hs))))
    rw [upd_ne n, upd_ne n, upd_ne n, upd_ne n]
abbrev s_Log_append : Stmt := inClass (top 17) 11
abbrev N_Log_append : List Str := ["self", "key", "value"]
abbrev P_Log_append : List Str := ["self", "key", "value"]
theorem sc_Log_append : FnScope N_Log_append P_Log_append (C8.fnScope s_Log_append) := C8.fnScope_by (by decide +kernel)
def spAppend (A : Adr) : Sp := fun vs H Q _ => ∃ p S ρ m L k ov, vs = [.ref p, .str k, optV ov] ∧ LogAt A H p S ρ m L ∧ m ≤ 900 ∧ S.gds.length ≤ 1000 ∧ PyData.strOk k = true ∧ After A H ρ p m (goOn { S with ents := S.ents ++ [⟨k, ov, false, none⟩] }) Q
theorem append_ok (T : Txt K mg A) (me : Meth K A.CL "append" f) (F : C8.Fun K "append" "Log.append" s_Log_append f fd) (b : Binds K fd P_Log_append []) (k_Entry : C8.Mak P w K mg base 1 "Entry" A.CE (spEntry A) []) (m_go_on : C8.Met P w K mg base 4 A.CL "go_on" (spGoOn A) []) :
    C8.Met P w K mg base 5 A.CL "append" (spAppend A) [] := by
  refine C8.met0 T.cl me F b sc_Log_append (fun vs H Q E h => ?_) (fun cdv A' outer s H vs Q E hr h => ?_)
  · obtain ⟨p, S, ρ, m, L, k, ov, rfl, _⟩ := h
    rfl
  · obtain ⟨p, S, ρ, m, L, k, ov, rfl, h, hm, hgl, hk, q⟩ := h
    have hu := hu_of hr
    refine ⟨_, (pss_cons (ps_expr (pe_bm PySem.F.plainAttrs_list PySem.F.slot_list_append PySem.F.type_list_append mt_append (pe_fld (pv 0) rfl) (pa_cons (C8.pe_mk k_Entry hr (by decide) rfl (pa_cons (pv 1) (pa_cons (pv 2) pa_nil))) pa_nil)))
      (pss_cons (ps_expr (C8.pe_mt0 m_go_on hr (by decide) (pv 0)))
      (pss_one (ps_ret (pe_op op_sub (pe_callB (r := rLenQ K) call_len_seq (by rfl) T.b_len PySem.boot_len (pa_cons (pe_fld (pv 0) rfl) pa_nil)) pe_int))))), ?_⟩
    refine ⟨_, rfl, p, A.CL, _, _, V.ref L.E, rfl, h.self, T.cl, T.n_entries, by rfl, .inl ⟨rfl, _, SqL.of h.en⟩, _, rfl, _, rfl, fun x dx nx nd hne => ?_⟩
    refine ⟨x, dx, k, ov, rfl, SlAt.made hne, fun H2 hH2 hs => ⟨rfl, ?_⟩⟩
    have sm : Same H H2 := fun a o e => by
      rw [hH2 a (ne_of_none e nx), upd_ne (ne_of_none e nx), upd_ne (ne_of_none e nd)]
      exact e
    have hx2 : H2 x = some (SlO A.CE dx x (slV ⟨k, ov, false, none⟩)) := by
      rcases hs.2.2 with z | ⟨z, _⟩
      · exact z
      · cases z
    have rx := h.free nx
    have rdx := h.free nd
    have h2 := (h.same sm).mono (Nat.le_succ m)
    have h3 := h2.grow (r := .ent S.ents.length) rx hx2 (fun xs z => by unfold SlO at z; cases z)
    have rd1 : tagR ρ x (.ent S.ents.length) dx = none := by
      unfold tagR
      rw [if_neg hne]
      exact rdx
    have h4 := h3.grow (r := .own S.ents.length) rd1 hs.1 (fun xs z => by cases z)
    have t4 : Tr H ρ H2 (tagR (tagR ρ x (.ent S.ents.length)) dx (.own S.ents.length)) := ((Tr.same sm ρ).tag rx nx).tag rd1 nd
    have hr4 : tagR (tagR ρ x (.ent S.ents.length)) dx (.own S.ents.length) x = some (.ent S.ents.length) := by
      unfold tagR
      rw [if_neg hne.symm, if_pos rfl]
    have h5 := h4.app (e := ⟨k, ov, false, none⟩) hr4 tagR_new hs hk (by have := h.len.1; omega)
    have t5 := t4.trans (Tr.of ((Exc.refl _ H2).at (p := L.E) (o := .lst ((L.ea ++ [(x, dx)]).map fun x => V.ref x.1)) (tg h4.rE)))
    refine ⟨L.E, _, _, rfl, rfl, sm _ _ h.en, line_of (by rw [List.length_map, h.eLen]; have := h.len.1; omega), ?_⟩
    have eq : (L.ea.map fun x => V.ref x.1) ++ [V.ref x] = (L.ea ++ [(x, dx)]).map fun x => V.ref x.1 := by rw [List.map_append]; rfl
    rw [eq]
    refine ⟨_, rfl, p, _, _, rfl, h5.self, by rfl, p, _, _, m + 1, _, rfl, h5, by omega, hgl, fun H6 h6 e6 => ?_⟩
    refine ⟨_, rfl, p, A.CL, _, _, _, rfl, h6.self, T.cl, T.n_entries, by rfl, L.E, _, rfl, .inl (SqL.of h6.en), _, _, rfl, rfl, ?_⟩
    exact q _ H6 _ _ h6 (t5.trans (Tr.of e6))
end
end K15

set_option Elab.async false
set_option linter.all false
set_option autoImplicit false
set_option maxRecDepth 100000
set_option maxHeartbeats 4000000
namespace K15
open PySem L2
theorem LogAt.tab {A : Adr} {H : Hp} {p : Addr} {S : LSS} {ρ : Addr → Option Role} {m : Nat} {L : Lay} (h : LogAt A H p S ρ m L) {r : Int} (hr : S.pl r ≠ none) : ∃ a, L.tt r = some a := by
  have := h.dom r
  cases e : L.tt r with
  | some a => exact ⟨a, rfl⟩
  | none =>
    rw [e] at this
    cases e2 : S.pl r with
    | none => exact absurd e2 hr
    | some z => rw [e2] at this; cases this
theorem ans_chain {σ : L2.St} {H : Hp} {ta tb tc : TE} {i j k : Int} {g1 g2 : Int → Int → Bool} {b : Bool} (ha : Val ta σ H (.int i)) (hb : Val tb σ H (.int j)) (hc : Val tc σ H (.int k)) (e1 : g1 i j = true) (e2 : g2 j k = b) :
    Ans (tTest (tChain (rI0 fun i j => .bl (g1 i j)) (rI0 fun i j => .bl (g2 i j)) ta tb tc)) σ H b := by
  intro Q q
  refine ha _ (hb _ ⟨i, j, rfl, rfl, g1 i j, rfl, ?_⟩)
  rw [if_pos e1]
  exact hc _ ⟨j, k, rfl, rfl, b, congrArg V.bl e2, q⟩
section
variable {P : Program} {w : World} {K : PySem.W.Frag} {mg : Str → Option Value} {base : Heap} {A : Adr} {f : Addr} {fd : FuncData}
abbrev s_Log_put : Stmt := inClass (top 17) 12
abbrev N_Log_put : List Str := ["self", "key", "value"]
abbrev P_Log_put : List Str := ["self", "key", "value"]
theorem sc_Log_put : FnScope N_Log_put P_Log_put (C8.fnScope s_Log_put) := C8.fnScope_by (by decide +kernel)
def spPut (A : Adr) : Sp := fun vs H Q _ => ∃ p S ρ m L k z, vs = [.ref p, .str k, .int z] ∧ LogAt A H p S ρ m L ∧ m ≤ 900 ∧ S.gds.length ≤ 1000 ∧ PyData.strOk k = true ∧ After A H ρ p m (stepE S (.put k z)) Q
theorem put_ok (T : Txt K mg A) (me : Meth K A.CL "put" f) (F : C8.Fun K "put" "Log.put" s_Log_put f fd) (b : Binds K fd P_Log_put []) (m_append : C8.Met P w K mg base 5 A.CL "append" (spAppend A) []) : C8.Met P w K mg base 6 A.CL "put" (spPut A) [] := by
  refine C8.met0 T.cl me F b sc_Log_put (fun vs H Q E h => ?_) (fun cdv A' outer s H vs Q E hr h => ?_)
  · obtain ⟨p, S, ρ, m, L, k, z, rfl, _⟩ := h
    rfl
  · obtain ⟨p, S, ρ, m, L, k, z, rfl, h, hm, hgl, hk, q⟩ := h
    refine ⟨_, (pss_one (ps_ret (C8.pe_mt m_append hr (by decide) (pv 0) (pa_cons (pv 1) (pa_cons (pv 2) pa_nil))))), ?_⟩
    exact ⟨_, rfl, p, _, _, rfl, h.self, by rfl, _, rfl, _, rfl, p, S, ρ, m, L, k, some z, rfl, h, hm, hgl, hk, q⟩
abbrev s_Log_drop : Stmt := inClass (top 17) 13
abbrev N_Log_drop : List Str := ["self", "key"]
abbrev P_Log_drop : List Str := ["self", "key"]
theorem sc_Log_drop : FnScope N_Log_drop P_Log_drop (C8.fnScope s_Log_drop) := C8.fnScope_by (by decide +kernel)
def spDrop (A : Adr) : Sp := fun vs H Q _ => ∃ p S ρ m L k, vs = [.ref p, .str k] ∧ LogAt A H p S ρ m L ∧ m ≤ 900 ∧ S.gds.length ≤ 1000 ∧ PyData.strOk k = true ∧ After A H ρ p m (stepE S (.drop k)) Q
theorem drop_ok (T : Txt K mg A) (me : Meth K A.CL "drop" f) (F : C8.Fun K "drop" "Log.drop" s_Log_drop f fd) (b : Binds K fd P_Log_drop []) (m_append : C8.Met P w K mg base 5 A.CL "append" (spAppend A) []) : C8.Met P w K mg base 6 A.CL "drop" (spDrop A) [] := by
  refine C8.met0 T.cl me F b sc_Log_drop (fun vs H Q E h => ?_) (fun cdv A' outer s H vs Q E hr h => ?_)
  · obtain ⟨p, S, ρ, m, L, k, rfl, _⟩ := h
    rfl
  · obtain ⟨p, S, ρ, m, L, k, rfl, h, hm, hgl, hk, q⟩ := h
    refine ⟨_, (pss_one (ps_ret (C8.pe_mt m_append hr (by decide) (pv 0) (pa_cons (pv 1) (pa_cons pe_non pa_nil))))), ?_⟩
    exact ⟨_, rfl, p, _, _, rfl, h.self, by rfl, _, rfl, p, S, ρ, m, L, k, none, rfl, h, hm, hgl, hk, q⟩
abbrev s_Log_wait : Stmt := inClass (top 17) 18
abbrev N_Log_wait : List Str := ["self"]
abbrev P_Log_wait : List Str := ["self"]
theorem sc_Log_wait : FnScope N_Log_wait P_Log_wait (C8.fnScope s_Log_wait) := C8.fnScope_by (by decide +kernel)
def spWait (A : Adr) : Sp := fun vs H Q _ => ∃ p S ρ m L, vs = [.ref p] ∧ LogAt A H p S ρ m L ∧ m ≤ 900 ∧ S.gds.length ≤ 1000 ∧ After A H ρ p m (stepE S .wait) Q
theorem wait_ok (T : Txt K mg A) (me : Meth K A.CL "wait" f) (F : C8.Fun K "wait" "Log.wait" s_Log_wait f fd) (b : Binds K fd P_Log_wait []) (m_go_on : C8.Met P w K mg base 4 A.CL "go_on" (spGoOn A) []) : C8.Met P w K mg base 5 A.CL "wait" (spWait A) [] := by
  refine C8.met0 T.cl me F b sc_Log_wait (fun vs H Q E h => ?_) (fun cdv A' outer s H vs Q E hr h => ?_)
  · obtain ⟨p, S, ρ, m, L, rfl, _⟩ := h
    rfl
  · obtain ⟨p, S, ρ, m, L, rfl, h, hm, hgl, q⟩ := h
    refine ⟨_, (pss_one (ps_expr (C8.pe_mt0 m_go_on hr (by decide) (pv 0)))), ?_⟩
    exact ⟨_, rfl, p, _, _, rfl, h.self, by rfl, p, S, ρ, m, L, rfl, h, by omega, hgl, fun H' h' e => q _ H' _ _ (h'.mono (Nat.le_succ m)) (Tr.of e)⟩
abbrev s_Log_join : Stmt := inClass (top 17) 14
abbrev N_Log_join : List Str := ["self", "reader"]
abbrev P_Log_join : List Str := ["self", "reader"]
theorem sc_Log_join : FnScope N_Log_join P_Log_join (C8.fnScope s_Log_join) := C8.fnScope_by (by decide +kernel)
def spJoin (A : Adr) : Sp := fun vs H Q _ => ∃ p S ρ m L r, vs = [.ref p, .int r] ∧ LogAt A H p S ρ m L ∧ m ≤ 900 ∧ S.gds.length ≤ 1000 ∧ After A H ρ p m (stepE S (.join r)) Q
theorem join_ok (T : Txt K mg A) (me : Meth K A.CL "join" f) (F : C8.Fun K "join" "Log.join" s_Log_join f fd) (b : Binds K fd P_Log_join []) (m_go_on : C8.Met P w K mg base 4 A.CL "go_on" (spGoOn A) []) : C8.Met P w K mg base 5 A.CL "join" (spJoin A) [] := by
  refine C8.met0 T.cl me F b sc_Log_join (fun vs H Q E h => ?_) (fun cdv A' outer s H vs Q E hr h => ?_)
  · obtain ⟨p, S, ρ, m, L, r, rfl, _⟩ := h
    rfl
  · obtain ⟨p, S, ρ, m, L, r, rfl, h, hm, hgl, q⟩ := h
    have hu := hu_of hr
    refine ⟨_, (pss_cons (ps_dput hu (pe_fld (pv 0) rfl) (pv 1) pe_int rfl)
      (pss_cons (ps_dput hu (pe_fld (pv 0) rfl) (pv 1) pe_dnewK rfl)
      (pss_one (ps_expr (C8.pe_mt0 m_go_on hr (by decide) (pv 0)))))), ?_⟩
    obtain ⟨kp, hP, dP, lP⟩ := h.pl
    obtain ⟨kt, hT, dT', lT⟩ := h.tb
    have pPL : p ≠ L.PL := rne h.rp h.rPL (by intro z; cases z)
    have tPL : L.TB ≠ L.PL := rne h.rTB h.rPL (by intro z; cases z)
    refine ⟨_, rfl, p, A.CL, _, _, V.ref L.PL, rfl, h.self, T.cl, T.n_places, by rfl, _, rfl, L.PL, _, rfl, DPut.k (k := Sum.inl r) hP (line_of (by omega)), ?_⟩
    intro d nd
    have dPL : d ≠ L.PL := fun z => by rw [z, upd_same] at nd; cases nd
    have nd0 : H d = none := by rw [upd_ne dPL] at nd; exact nd
    have dp : d ≠ p := fun z => by rw [z, h.self] at nd0; cases nd0
    have dT : d ≠ L.TB := fun z => by rw [z, hT] at nd0; cases nd0
    have self2 : upd (upd H L.PL (.dK (putK kp (Sum.inl r) (.int 0)))) d (.dK []) p = some (.ins A.CL L.dx (flds S L)) := by
      rw [upd_ne dp.symm, upd_ne pPL]
      exact h.self
    have hT2 : upd (upd H L.PL (.dK (putK kp (Sum.inl r) (.int 0)))) d (.dK []) L.TB = some (.dK kt) := by
      rw [upd_ne dT.symm, upd_ne tPL]
      exact hT
    refine ⟨_, rfl, p, A.CL, _, _, V.ref L.TB, rfl, self2, T.cl, T.n_tables, by rfl, _, rfl, L.TB, _, rfl, DPut.k (k := Sum.inl r) hT2 (line_of (by omega)), ?_⟩
    generalize hHn : upd (upd (upd H L.PL (.dK (putK kp (Sum.inl r) (.int 0)))) d (.dK [])) L.TB (.dK (putK kt (Sum.inl r) (.ref d))) = Hn
    have k1 : ∀ a o, H a = some o → a ≠ L.PL → a ≠ L.TB → Hn a = some o := fun a o e n1 n2 => by
      rw [← hHn, upd_ne n2, upd_ne (ne_of_none e nd0), upd_ne n1]
      exact e
    have h2 := h.setSeat (H' := Hn) (z := 0) (T := fun _ => none) hP hT nd0 (by rw [← hHn, upd_ne tPL.symm, upd_ne dPL.symm]; exact upd_same) (by rw [← hHn]; exact upd_same) (by rw [← hHn, upd_ne dT]; exact upd_same) DS.nil (Nat.zero_le _) k1
    have t2 : Tr H ρ Hn (tagR ρ d (.tab r)) := Tr.tag (Tr.of fun a o e n => k1 a o e (fun z => n (by rw [z]; exact tg h.rPL)) (fun z => n (by rw [z]; exact tg h.rTB))) (h.free nd0) nd0
    exact ⟨_, rfl, p, _, _, rfl, h2.self, by rfl, p, _, _, m + 1, _, rfl, h2, by omega, hgl, fun H' h' e => q _ H' _ _ h' (t2.trans (Tr.of e))⟩
abbrev s_Log_load : Stmt := inClass (top 17) 17
abbrev N_Log_load : List Str := ["self", "reader", "copy", "place", "table"]
abbrev P_Log_load : List Str := ["self", "reader", "copy"]
theorem sc_Log_load : FnScope N_Log_load P_Log_load (C8.fnScope s_Log_load) := C8.fnScope_by (by decide +kernel)
def spLoad (A : Adr) : Sp := fun vs H Q _ => ∃ p S ρ m L r c, vs = [.ref p, .int r, .int c] ∧ LogAt A H p S ρ m L ∧ m ≤ 900 ∧ S.gds.length ≤ 1000 ∧ 0 ≤ c ∧ c < (S.cps.length : Int) ∧ After A H ρ p m (stepE S (.load r c)) Q
theorem load_ok (T : Txt K mg A) (me : Meth K A.CL "load" f) (F : C8.Fun K "load" "Log.load" s_Log_load f fd) (b : Binds K fd P_Log_load []) (m_go_on : C8.Met P w K mg base 4 A.CL "go_on" (spGoOn A) []) : C8.Met P w K mg base 5 A.CL "load" (spLoad A) [] := by
  refine C8.met0 T.cl me F b sc_Log_load (fun vs H Q E h => ?_) (fun cdv A' outer s H vs Q E hr h => ?_)
  · obtain ⟨p, S, ρ, m, L, r, c, rfl, _⟩ := h
    rfl
  · obtain ⟨p, S, ρ, m, L, r, c, rfl, h, hm, hgl, c0, c1, q⟩ := h
    have hu := hu_of hr
    refine ⟨_, (pss_cons (ps_if (pt_not (pt_chain op_le op_lt pe_int (pv 2) (pe_callB (r := rLenQ K) call_len_seq (by rfl) T.b_len PySem.boot_len (pa_cons (pe_fld (pv 0) rfl) pa_nil)))) (pss_one ps_never) pss_nil)
      (pss_cons (ps_asg (pe_ix (r := rIxL K) ix_list (pe_fld (pv 0) rfl) (pv 2) (fun _ _ => rfl)) (pg_tup rfl (pgs_cons (pg_name (i := 3) sc_Log_load.nd rfl (Or.inl rfl)) (pgs_cons (pg_name (i := 4) sc_Log_load.nd rfl (Or.inl rfl)) pgs_nil))))
      (pss_cons (ps_dput hu (pe_fld (pv 0) rfl) (pv 1) (pv 3) rfl)
      (pss_cons (ps_dput hu (pe_fld (pv 0) rfl) (pv 1) (pe_callTy call_dictD (by rfl) T.b_dict (by decide +kernel) (pa_cons (pv 4) pa_nil)) rfl)
      (pss_one (ps_expr (C8.pe_mt0 m_go_on hr (by decide) (pv 0)))))))), ?_⟩
    obtain ⟨kp, hP, dP, lP⟩ := h.pl
    obtain ⟨kt, hT, dT', lT⟩ := h.tb
    have hcl : L.ca.length = S.cps.length := Paired.length h.cps
    have hc : c.toNat < S.cps.length := by omega
    have hcp : S.cps[c.toNat]? = some S.cps[c.toNat] := List.getElem?_eq_getElem hc
    obtain ⟨x, hx, ht, kd, hd, hD, hkl⟩ := paired_at' h.cps hcp
    generalize hcc : S.cps[c.toNat] = cp at hcp ht hD
    obtain ⟨z, U⟩ := cp
    have pPL : p ≠ L.PL := rne h.rp h.rPL (by intro z; cases z)
    have tPL : L.TB ≠ L.PL := rne h.rTB h.rPL (by intro z; cases z)
    have vlen := val_len (K := K) (σ := L2.start N_Log_load [V.ref p, V.int r, V.int c]) (vCP T h (val_var (i := 0) rfl)) (.inl (SqL.of h.cp))
    have ex : atI (L.ca.map fun x => V.ref x.1) c = some (.ref x.1) := by
      have := atI_nat (xs := L.ca.map fun x => V.ref x.1) (j := c.toNat) (by rw [List.getElem?_map, hx]; rfl)
      rw [Int.toNat_of_nonneg c0] at this
      exact this
    have hcl2 : c < ((L.ca.map fun x => V.ref x.1).length : Int) := by rw [List.length_map]; omega
    refine st_seq (st_no (Ans.to (ans_not (ans_chain (g1 := fun i j => decide (i ≤ j)) (g2 := fun i j => decide (i < j)) (i := 0) (val_c) (val_var rfl) vlen (decide_eq_true c0) (decide_eq_true hcl2))) rfl) ?_)
    refine st_seq (asg_of (val_ixL (K := K) (vCP T h (val_var rfl)) (val_var rfl) (SqL.of h.cp) ex _ ?_))
    refine gpair ht ?_
    have xPL : x.2 ≠ L.PL := rne (h.rca _ x hx) h.rPL (by intro z; cases z)
    refine ⟨_, rfl, _, rfl, p, A.CL, _, _, V.ref L.PL, rfl, h.self, T.cl, T.n_places, by rfl, _, rfl, L.PL, _, rfl, DPut.k (k := Sum.inl r) hP (line_of (by omega)), ?_⟩
    refine ⟨_, rfl, x.2, kd, rfl, .inl (by rw [upd_ne xPL]; exact hd), fun d nd => ?_⟩
    have dPL : d ≠ L.PL := fun z => by rw [z, upd_same] at nd; cases nd
    have nd0 : H d = none := by rw [upd_ne dPL] at nd; exact nd
    have dp : d ≠ p := fun z => by rw [z, h.self] at nd0; cases nd0
    have dT : d ≠ L.TB := fun z => by rw [z, hT] at nd0; cases nd0
    have self2 : upd (upd H L.PL (.dK (putK kp (Sum.inl r) (.int z)))) d (.dK kd) p = some (.ins A.CL L.dx (flds S L)) := by
      rw [upd_ne dp.symm, upd_ne pPL]
      exact h.self
    have hT2 : upd (upd H L.PL (.dK (putK kp (Sum.inl r) (.int z)))) d (.dK kd) L.TB = some (.dK kt) := by
      rw [upd_ne dT.symm, upd_ne tPL]
      exact hT
    refine ⟨_, rfl, p, A.CL, _, _, V.ref L.TB, rfl, self2, T.cl, T.n_tables, by rfl, _, rfl, L.TB, _, rfl, DPut.k (k := Sum.inl r) hT2 (line_of (by omega)), ?_⟩
    generalize hHn : upd (upd (upd H L.PL (.dK (putK kp (Sum.inl r) (.int z)))) d (.dK kd)) L.TB (.dK (putK kt (Sum.inl r) (.ref d))) = Hn
    have k1 : ∀ a o, H a = some o → a ≠ L.PL → a ≠ L.TB → Hn a = some o := fun a o e n1 n2 => by
      rw [← hHn, upd_ne n2, upd_ne (ne_of_none e nd0), upd_ne n1]
      exact e
    have h2 := h.setSeat (H' := Hn) (z := z) (T := U) hP hT nd0 (by rw [← hHn, upd_ne tPL.symm, upd_ne dPL.symm]; exact upd_same) (by rw [← hHn]; exact upd_same) (by rw [← hHn, upd_ne dT]; exact upd_same) hD (by omega) k1
    have t2 : Tr H ρ Hn (tagR ρ d (.tab r)) := Tr.tag (Tr.of fun a o e n => k1 a o e (fun z => n (by rw [z]; exact tg h.rPL)) (fun z => n (by rw [z]; exact tg h.rTB))) (h.free nd0) nd0
    have eS : stepE S (.load r c) = goOn { S with pl := put1 S.pl r (some z), tb := put1 S.tb r U } := by
      show goOn { S with pl := put1 S.pl r ((S.cps[c.toNat]?).map (·.1)), tb := put1 S.tb r (((S.cps[c.toNat]?).map (·.2)).getD (fun _ => none)) } = _
      rw [hcp]
      rfl
    rw [eS] at q
    exact ⟨_, rfl, p, _, _, rfl, h2.self, by rfl, p, _, _, m + 1, _, rfl, h2, by omega, hgl, fun H' h' e => q _ H' _ _ h' (t2.trans (Tr.of e))⟩
abbrev s_Log_save : Stmt := inClass (top 17) 16
abbrev N_Log_save : List Str := ["self", "reader"]
abbrev P_Log_save : List Str := ["self", "reader"]
theorem sc_Log_save : FnScope N_Log_save P_Log_save (C8.fnScope s_Log_save) := C8.fnScope_by (by decide +kernel)
def spSave (A : Adr) : Sp := fun vs H Q _ => ∃ p S ρ m L r, vs = [.ref p, .int r] ∧ LogAt A H p S ρ m L ∧ m ≤ 900 ∧ S.gds.length ≤ 1000 ∧ S.pl r ≠ none ∧ After A H ρ p m (stepE S (.save r)) Q
theorem save_ok (T : Txt K mg A) (me : Meth K A.CL "save" f) (F : C8.Fun K "save" "Log.save" s_Log_save f fd) (b : Binds K fd P_Log_save []) (m_look_joined : C8.Met P w K mg base 1 A.CL "look_joined" (spLook A) []) (m_go_on : C8.Met P w K mg base 4 A.CL "go_on" (spGoOn A) []) : C8.Met P w K mg base 5 A.CL "save" (spSave A) [] := by
  refine C8.met0 T.cl me F b sc_Log_save (fun vs H Q E h => ?_) (fun cdv A' outer s H vs Q E hr h => ?_)
  · obtain ⟨p, S, ρ, m, L, r, rfl, _⟩ := h
    rfl
  · obtain ⟨p, S, ρ, m, L, r, rfl, h, hm, hgl, hp, q⟩ := h
    have hu := hu_of hr
    refine ⟨_, (pss_cons (ps_expr (C8.pe_mt m_look_joined hr (by decide) (pv 0) (pa_cons (pv 1) pa_nil)))
      (pss_cons (ps_expr (pe_bm PySem.F.plainAttrs_list PySem.F.slot_list_append PySem.F.type_list_append mt_append (pe_fld (pv 0) rfl) (pa_cons (pe_tup (pa_cons (pe_dget hu (pe_fld (pv 0) rfl) (pv 1) (fun _ _ => rfl)) (pa_cons (pe_callTy call_dictD (by rfl) T.b_dict (by decide +kernel) (pa_cons (pe_dget hu (pe_fld (pv 0) rfl) (pv 1) (fun _ _ => rfl)) pa_nil)) pa_nil))) pa_nil)))
      (pss_cons (ps_expr (C8.pe_mt0 m_go_on hr (by decide) (pv 0)))
      (pss_one (ps_ret (pe_op op_sub (pe_callB (r := rLenQ K) call_len_seq (by rfl) T.b_len PySem.boot_len (pa_cons (pe_fld (pv 0) rfl) pa_nil)) pe_int)))))), ?_⟩
    obtain ⟨a, ha⟩ := h.tab hp
    obtain ⟨z, hz⟩ : ∃ z, S.pl r = some z := by
      cases e : S.pl r with
      | none => exact absurd e hp
      | some z => exact ⟨z, rfl⟩
    obtain ⟨kd, hd, hD, hkl⟩ := h.tabs r a ha
    have gP := h.gPL r
    rw [hz] at gP
    have gT := h.gTB r
    rw [ha] at gT
    refine ⟨_, rfl, p, _, _, rfl, h.self, by rfl, _, rfl, p, S, ρ, m, L, r, rfl, h, hp, ?_⟩
    refine ⟨_, rfl, p, A.CL, _, _, V.ref L.CP, rfl, h.self, T.cl, T.n_copies, by rfl, .inl ⟨rfl, _, SqL.of h.cp⟩, ?_⟩
    refine ⟨_, rfl, p, A.CL, _, _, V.ref L.PL, rfl, h.self, T.cl, T.n_places, by rfl, _, rfl, L.PL, _, rfl, gP, ?_⟩
    refine ⟨_, rfl, p, A.CL, _, _, V.ref L.TB, rfl, h.self, T.cl, T.n_tables, by rfl, _, rfl, L.TB, _, rfl, gT, a, kd, rfl, .inl hd, fun d nd => ?_⟩
    refine ⟨by show 2 ≤ sizeLine; decide, fun t nt => ?_⟩
    have s1 := same_new (o := .dK kd) nd
    have s2 := s1.trans (same_new (o := .tup [.int z, .ref d]) nt)
    have hdt : d ≠ t := fun e => by rw [← e, upd_same] at nt; cases nt
    have hd2 : upd (upd H d (.dK kd)) t (.tup [.int z, .ref d]) d = some (.dK kd) := by rw [upd_ne hdt]; exact upd_same
    have ht2 : upd (upd H d (.dK kd)) t (.tup [.int z, .ref d]) t = some (.tup [.int z, .ref d]) := upd_same
    have rd := h.free nd
    have h2 := ((h.same s2).mono (Nat.le_succ m)).grow (r := .cpy S.cps.length) rd hd2 (fun xs z => by cases z)
    have t2 : Tr H ρ _ (tagR ρ d (.cpy S.cps.length)) := (Tr.same s2 ρ).tag rd nd
    have h3 := h2.addCp (z := z) tagR_new ht2 hd2 hD (by omega) (by have := h.len.2; omega)
    have t3 := t2.trans (Tr.of ((Exc.refl _ (upd (upd H d (.dK kd)) t (.tup [.int z, .ref d]))).at (p := L.CP) (o := .lst ((L.ca ++ [(t, d)]).map fun x => V.ref x.1)) (tg h2.rCP)))
    have hcl : L.ca.length = S.cps.length := Paired.length h.cps
    refine ⟨L.CP, _, _, rfl, rfl, s2 _ _ h.cp, line_of (by rw [List.length_map, hcl]; have := h.len.2; omega), ?_⟩
    have eq : (L.ca.map fun x => V.ref x.1) ++ [V.ref t] = (L.ca ++ [(t, d)]).map fun x => V.ref x.1 := by rw [List.map_append]; rfl
    rw [eq]
    have eS : stepE S (.save r) = goOn { S with cps := S.cps ++ [(z, S.tb r)] } := by
      show goOn { S with cps := S.cps ++ [((S.pl r).getD 0, S.tb r)] } = _
      rw [hz]
      rfl
    rw [eS] at q
    refine ⟨_, rfl, p, _, _, rfl, h3.self, by rfl, p, _, _, m + 1, _, rfl, h3, by omega, hgl, fun H6 h6 e6 => ?_⟩
    refine ⟨_, rfl, p, A.CL, _, _, _, rfl, h6.self, T.cl, T.n_copies, by rfl, L.CP, _, rfl, .inl (SqL.of h6.cp), _, _, rfl, rfl, ?_⟩
    exact q _ H6 _ _ h6 (t3.trans (Tr.of e6))
end
end K15

set_option Elab.async false
set_option linter.all false
set_option autoImplicit false
set_option maxRecDepth 100000
set_option maxHeartbeats 4000000
namespace K15
open PySem L2
def inR (lo hi : Int) (r : Nat × Ent Str) : Bool := decide (lo ≤ (r.1 : Int)) && decide ((r.1 : Int) < hi)
def addR (T : Tab Str) (r : Nat × Ent Str) : Tab Str := setT T r.2.key r.2.val
theorem rd_rows (lo hi : Int) : ∀ (es : List (Ent Str)) (i : Nat) (T : Tab Str), rd lo hi i es T = ((rowsN i es).filter (inR lo hi)).foldl addR T
  | [], _, _ => rfl
  | e :: es, i, T => by
    show rd lo hi (i + 1) es (if e.gone = false ∧ lo ≤ (i : Int) ∧ (i : Int) < hi then setT T e.key e.val else T) = _
    rw [rd_rows lo hi es (i + 1)]
    show _ = (((if e.gone = true then [] else [(i, e)]) ++ rowsN (i + 1) es).filter (inR lo hi)).foldl addR T
    rw [List.filter_append, List.foldl_append]
    congr 1
    by_cases hg : e.gone = true
    · have e1 : (if e.gone = true then ([] : List (Nat × Ent Str)) else [(i, e)]) = [] := if_pos hg
      have e2 : (if e.gone = false ∧ lo ≤ (i : Int) ∧ (i : Int) < hi then setT T e.key e.val else T) = T := if_neg (fun z => by rw [hg] at z; cases z.1)
      rw [e1, e2]
      rfl
    · have e1 : (if e.gone = true then ([] : List (Nat × Ent Str)) else [(i, e)]) = [(i, e)] := if_neg hg
      have hg' : e.gone = false := Bool.eq_false_iff.mpr hg
      rw [e1]
      by_cases hc : lo ≤ (i : Int) ∧ (i : Int) < hi
      · have : inR lo hi (i, e) = true := by
          unfold inR
          rw [decide_eq_true hc.1, decide_eq_true hc.2]
          rfl
        rw [if_pos ⟨hg', hc⟩, List.filter_cons, if_pos this]
        rfl
      · have : ¬ inR lo hi (i, e) = true := by
          unfold inR
          rw [Bool.and_eq_true, decide_eq_true_eq, decide_eq_true_eq]
          exact hc
        rw [if_neg (fun z => hc z.2), List.filter_cons, if_neg this]
        rfl
abbrev ZR := Addr × (Nat × Ent Str)
def fR (lo hi : Int) (z : ZR) : List ZR := if inR lo hi z.2 = true then [z] else []
def fV (lo hi : Int) (z : ZR) : List V := if inR lo hi z.2 = true then [.ref z.1] else []
theorem fV_len (lo hi : Int) : ∀ z, (fV lo hi z).length ≤ 1 := fun z => by
  unfold fV
  split <;> simp
theorem fV_fR (lo hi : Int) (Z : List ZR) : Z.flatMap (fV lo hi) = (Z.flatMap (fR lo hi)).map fun z => V.ref z.1 := by
  induction Z with
  | nil => rfl
  | cons z Z ih =>
    rw [List.flatMap_cons, List.flatMap_cons, List.map_append, ih]
    congr 1
    unfold fV fR
    split <;> rfl
theorem fR_snd (lo hi : Int) : ∀ (as : List Addr) (rs : List (Nat × Ent Str)), as.length = rs.length → ((as.zip rs).flatMap (fR lo hi)).map (·.2) = rs.filter (inR lo hi)
  | [], [], _ => rfl
  | [], _ :: _, h => by cases h
  | _ :: _, [], h => by cases h
  | a :: as, r :: rs, h => by
    have h : as.length + 1 = rs.length + 1 := h
    rw [List.zip_cons_cons, List.flatMap_cons, List.map_append, fR_snd lo hi as rs (Nat.succ.inj h), List.filter_cons]
    unfold fR
    by_cases hc : inR lo hi r = true
    · rw [if_pos hc, if_pos hc]
      rfl
    · rw [if_neg hc, if_neg hc]
      rfl
theorem fR_mem {lo hi : Int} {Z : List ZR} {z : ZR} (h : z ∈ Z.flatMap (fR lo hi)) : z ∈ Z := by
  obtain ⟨y, hy, hz⟩ := List.mem_flatMap.mp h
  unfold fR at hz
  split at hz
  · rw [List.mem_singleton.mp hz]
    exact hy
  · cases hz
theorem zip_tups {H : Hp} : ∀ {as : List Addr} {rs : List (Nat × Ent Str)}, TupsAt H as (rs.map rowV) → ∀ z, z ∈ as.zip rs → H z.1 = some (.tup (rowV z.2)) ∧ z.2 ∈ rs
  | [], [], _, z, h => by cases h
  | a :: as, [], h, _, _ => by have := h.len; cases this
  | [], r :: rs, h, _, _ => by have := h.len; cases this
  | a :: as, r :: rs, h, z, hz => by
    cases h with
    | cons q t =>
      rw [List.zip_cons_cons] at hz
      rcases List.mem_cons.mp hz with e | e
      · rw [e]
        exact ⟨q, List.mem_cons_self⟩
      · obtain ⟨q1, q2⟩ := zip_tups t z e
        exact ⟨q1, List.mem_cons_of_mem _ q2⟩
theorem rows_mem : ∀ {es : List (Ent Str)} {i : Nat} {r : Nat × Ent Str}, r ∈ rowsN i es → r.2 ∈ es
  | [], _, _, h => by cases h
  | e :: es, i, r, h => by
    have h : r ∈ (if e.gone = true then [] else [(i, e)]) ++ rowsN (i + 1) es := h
    rcases List.mem_append.mp h with h | h
    · split at h
      · cases h
      · rw [List.mem_singleton.mp h]
        exact List.mem_cons_self
    · exact List.mem_cons_of_mem _ (rows_mem h)
theorem setT_none {T : Tab Str} {k : Str} (h : T k = none) : setT T k none = T := by
  funext x
  unfold setT
  by_cases hx : x = k
  · rw [if_pos hx, hx, h]
  · rw [if_neg hx]
theorem setT_setT (T : Tab Str) (k : Str) (v w : Option Int) : setT (setT T k v) k w = setT T k w := by
  funext x
  unfold setT
  by_cases hx : x = k
  · rw [if_pos hx, if_pos hx]
  · rw [if_neg hx, if_neg hx, if_neg hx]
theorem put1_self {β : Type} (f : Int → β) (r : Int) : put1 f r (f r) = f := by
  funext x
  unfold put1
  by_cases hx : x = r
  · rw [if_pos hx, hx]
  · rw [if_neg hx]
theorem put1_put1 {β : Type} (f : Int → β) (r : Int) (a b : β) : put1 (put1 f r a) r b = put1 f r b := by
  funext x
  unfold put1
  by_cases hx : x = r
  · rw [if_pos hx, if_pos hx]
  · rw [if_neg hx, if_neg hx, if_neg hx]
section
variable {P : Program} {w : World} {K : PySem.W.Frag} {mg : Str → Option Value} {base : Heap} {A : Adr} {f : Addr} {fd : FuncData}
theorem val_many {H : Hp} {p : Addr} {S : LSS} {ρ : Addr → Option Role} {m : Nat} {L : Lay} {σ : L2.St} {i : Nat} (h : LogAt A H p S ρ m L) (hv : σ[i]? = some (some (.ref p))) : Val (tMeth A.CL "many" (spMany A) [] C8.E0 (tVar i) tNil) σ H (.int (S.ents.length : Int)) := fun Q q =>
  ⟨_, hv, p, _, _, rfl, h.self, by rfl, p, S, ρ, m, L, rfl, h, q⟩
abbrev s_Log_read : Stmt := inClass (top 17) 15
abbrev N_Log_read : List Str := ["self", "reader", "upto", "begin", "row", "found", "place", "key", "value"]
abbrev P_Log_read : List Str := ["self", "reader", "upto"]
theorem sc_Log_read : FnScope N_Log_read P_Log_read (C8.fnScope s_Log_read) := C8.fnScope_by (by decide +kernel)
def spRead (A : Adr) : Sp := fun vs H Q _ => ∃ p S ρ m L r u s, vs = [.ref p, .int r, .int u] ∧ LogAt A H p S ρ m L ∧ m ≤ 64 ∧ S.gds.length ≤ 1000 ∧ S.pl r = some s ∧ s < u ∧ u ≤ (S.ents.length : Int) ∧ After A H ρ p m (stepE S (.read r u)) Q
theorem read_ok (T : Txt K mg A) (me : Meth K A.CL "read" f) (F : C8.Fun K "read" "Log.read" s_Log_read f fd) (b : Binds K fd P_Log_read []) (m_look_joined : C8.Met P w K mg base 1 A.CL "look_joined" (spLook A) []) (m_many : C8.Met P w K mg base 1 A.CL "many" (spMany A) [])
    (m_there : C8.Met P w K mg base 1 A.CL "there" (spThere A) []) (m_go_on : C8.Met P w K mg base 4 A.CL "go_on" (spGoOn A) []) : C8.Met P w K mg base 5 A.CL "read" (spRead A) [] := by
  refine C8.met0 T.cl me F b sc_Log_read (fun vs H Q E h => ?_) (fun cdv A' outer s H vs Q E hr h => ?_)
  · obtain ⟨p, S, ρ, m, L, r, u, s, rfl, _⟩ := h
    rfl
  · obtain ⟨p, S, ρ, m, L, r, u, s, rfl, h, hm, hgl, hs, hsu, hul, q⟩ := h
    have hu := hu_of hr
    refine ⟨_, (pss_cons (ps_expr (C8.pe_mt m_look_joined hr (by decide) (pv 0) (pa_cons (pv 1) pa_nil)))
      (pss_cons (ps_set (i := 3) sc_Log_read.nd rfl (Or.inr rfl) (pe_dget hu (pe_fld (pv 0) rfl) (pv 1) (fun _ _ => rfl)))
      (pss_cons (ps_if (pt_not (pt_chain op_lt op_le (pv 3) (pv 2) (C8.pe_mt0 m_many hr (by decide) (pv 0)))) (pss_one ps_never) pss_nil)
      (pss_cons (ps_setLc (i := 5) (own := [("row", 4)]) (g := (gName 4)) (by rfl) sc_Log_read.nd rfl rfl (sw_true rfl rfl rfl (by decide +kernel)) (pi_list (C8.pe_mt0 m_there hr (by decide) (pv 0))) (blkOk_by (own := [("row", 4)]) (N := N_Log_read) (sc := C8.fnScope s_Log_read) (by decide +kernel)) (fun _ _ _ _ _ => (pg_name (i := 4) sc_Log_read.nd rfl (Or.inl rfl))) (fun _ _ _ _ _ => (pts_one (pt_chain op_le op_lt (pv 3) (pe_ix (r := rIxT K) ix_tup (pv 4) pe_int (fun _ _ => rfl)) (pv 2)))) (fun _ _ _ _ _ => (pv 4)))
      (pss_cons (ps_for PassesOwn.never rfl (pi_list (pv 5)) (pg_tup rfl (pgs_cons (pg_name (i := 6) sc_Log_read.nd rfl (Or.inl rfl)) (pgs_cons (pg_name (i := 7) sc_Log_read.nd rfl (Or.inl rfl)) (pgs_cons (pg_name (i := 8) sc_Log_read.nd rfl (Or.inl rfl)) pgs_nil)))) (pss_cons (ps_expr (pe_dpop2 (pe_dget hu (pe_fld (pv 0) rfl) (pv 1) (fun _ _ => rfl)) (pv 7) pe_non ⟨rfl, rfl, rfl, rfl⟩))
      (pss_one (ps_if (pt_cmpR op_notN (pv 8) pe_non (nomark _)) (pss_one (ps_dput hu (pe_dget hu (pe_fld (pv 0) rfl) (pv 1) (fun _ _ => rfl)) (pv 7) (pv 8) rfl)) pss_nil))))
      (pss_cons (ps_dput hu (pe_fld (pv 0) rfl) (pv 1) (pv 2) rfl)
      (pss_cons (ps_expr (C8.pe_mt0 m_go_on hr (by decide) (pv 0)))
      (pss_one (ps_ret (pv 5)))))))))), ?_⟩
    have hp : S.pl r ≠ none := by rw [hs]; intro z; cases z
    obtain ⟨a0, ha0⟩ := h.tab hp
    have gP := h.gPL r
    rw [hs] at gP
    refine ⟨_, rfl, p, _, _, rfl, h.self, by rfl, _, rfl, p, S, ρ, m, L, r, rfl, h, hp, ?_⟩
    refine ⟨_, rfl, p, A.CL, _, _, V.ref L.PL, rfl, h.self, T.cl, T.n_places, by rfl, _, rfl, L.PL, _, rfl, gP, ?_⟩
    dsimp only [gName]
    refine st_seq (st_no (Ans.to (ans_not (ans_chain (g1 := fun i j => decide (i < j)) (g2 := fun i j => decide (i ≤ j)) (val_var rfl) (val_var rfl) (val_many h rfl) (decide_eq_true hsu) (decide_eq_true hul))) rfl) ?_)
    refine st_seq ?_
    refine ⟨_, rfl, p, _, _, rfl, h.self, by rfl, p, S, ρ, m, L, rfl, h, by omega, fun l1 as1 H1 s1 n1 hl1 hT1 hrl => ⟨l1, rfl, ⟨_, SqL.of hl1⟩, fun D nD => ?_⟩⟩
    have hal := hT1.len
    rw [List.length_map] at hal
    have h1 := h.same s1
    have hz := zip_tups hT1
    have hml := h.len.1
    refine lcF0 (walk_list (K := K) (a := l1) (xs := as1.map V.ref)) (fun H' s => SqL.of (s _ _ hl1)) (by rw [List.length_map]; omega) (fun k => ((as1.zip (rowsN 0 S.ents)).take k).flatMap (fV s u)) rfl (fun k _ => flat_len_take (fV_len s u) _ _) ?_ nD ?_
    · rintro k x H2 H3 hk s2 ⟨rfl, hx⟩
      obtain ⟨a, ha, rfl⟩ := refs_ix hx
      obtain ⟨xs, hxs, hat⟩ := TupsAt.get hT1 ha
      rw [List.getElem?_map] at hxs
      cases hr : (rowsN 0 S.ents)[k]? with
      | none => rw [hr] at hxs; cases hxs
      | some rw_ =>
        rw [hr] at hxs
        cases hxs
        have hat2 := s2 _ _ hat
        have e1 := take_flat (fV s u) (zip_at ha hr)
        refine ⟨_, wipe_put _ 4 (some (.ref a)), Same.refl _, fun Q q => q, ?_⟩
        have v0 : Val (tOp (rIxT K) (tVar 4) (tC (.int 0))) ((wipe _ [4]).set 4 (some (V.ref a))) H3 (.int (rw_.1 : Int)) := val_ixT (val_var (wipe_at (σ := (L2.start N_Log_read [V.ref p, V.int r, V.int u]).set 3 (some (V.int s))) (Nat.le_of_ble_eq_true rfl))) val_c (SqT.of hat2) (ix0 _ _)
        by_cases c1 : s ≤ (rw_.1 : Int)
        · have an := ansH (ans_chain (g1 := fun i j => decide (i ≤ j)) (g2 := fun i j => decide (i < j)) (ta := tVar 3) (tc := tVar 2) (b := decide ((rw_.1 : Int) < u)) (val_var rfl) v0 (val_var rfl) (decide_eq_true c1) rfl)
          by_cases c2 : (rw_.1 : Int) < u
          · rw [decide_eq_true c2] at an
            refine .inl ⟨an, .ref a, fun H4 _ => val_var rfl, ?_⟩
            rw [e1]
            unfold fV inR
            rw [decide_eq_true c1, decide_eq_true c2]
            rfl
          · rw [decide_eq_false c2] at an
            refine .inr ⟨an, ?_⟩
            rw [e1]
            unfold fV inR
            rw [decide_eq_true c1, decide_eq_false c2]
            exact List.append_nil _
        · refine .inr ⟨ansH ?_, ?_⟩
          · intro Q q
            refine ⟨_, rfl, v0 _ ?_⟩
            refine ⟨_, _, rfl, rfl, false, congrArg V.bl (decide_eq_false c1), ?_⟩
            exact iteF ⟨false, rfl, q⟩
          · rw [e1]
            unfold fV inR
            rw [decide_eq_false c1]
            exact List.append_nil _
    · intro H2 s2 hD
      have e0 : (as1.zip (rowsN 0 S.ents)).take (as1.map V.ref).length = as1.zip (rowsN 0 S.ents) := by
        rw [List.length_map]
        refine List.take_of_length_le ?_
        rw [List.length_zip]
        omega
      rw [e0, fV_fR] at hD
      have hsnd := fR_snd s u as1 (rowsN 0 S.ents) hal
      have hzm : ∀ z, z ∈ (as1.zip (rowsN 0 S.ents)).flatMap (fR s u) → H1 z.1 = some (.tup (rowV z.2)) ∧ z.2 ∈ rowsN 0 S.ents := fun z h => hz z (fR_mem h)
      have hZl : ((as1.zip (rowsN 0 S.ents)).flatMap (fR s u)).length ≤ m := by
        have := congrArg List.length hsnd
        rw [List.length_map] at this
        have := List.length_filter_le (inR s u) (rowsN 0 S.ents)
        omega
      generalize (as1.zip (rowsN 0 S.ents)).flatMap (fR s u) = Z at hD hsnd hzm hZl
      have h2 := (h1.same s2).mono (Nat.le_succ m)
      have st := s1.trans s2
      obtain ⟨kd0, hd0, hD0, hkl0⟩ := h.tabs r a0 ha0
      have nD0 : H D = none := by
        cases hh : H D with
        | none => rfl
        | some o => rw [s1 _ _ hh] at nD; cases nD
      have rD := h.free nD0
      have r0 := h.rtt r a0 ha0
      have Da0 : D ≠ a0 := fun z => by rw [z, r0] at rD; cases rD
      have hza : ∀ z, z ∈ Z → ρ z.1 = none := fun z hz => by
        cases e : ρ z.1 with
        | none => rfl
        | some r' => exact absurd (tg e) (h1.noTup _ _ (hzm z hz).1)
      dsimp only [gName]
      refine st_seq ?_
      refine ⟨_, rfl, D, rfl, ⟨_, SqL.of hD⟩, for_list (K := K) (a := D) (xs := Z.map fun z => V.ref z.1) (fun k σ H3 => ∃ (x1 x2 x3 x4 : Option V) (kd : List (L2.Key × V)), σ = [some (.ref p), some (.int r), some (.int u), some (.int s), x1, some (.ref D), x2, x3, x4] ∧
        LogAt A H3 p { S with tb := put1 S.tb r (((Z.take k).map (·.2)).foldl addR (S.tb r)) } ρ (m + 1) L ∧ H3 a0 = some (.dK kd) ∧ DS kd (((Z.take k).map (·.2)).foldl addR (S.tb r)) ∧ kd.length ≤ 64 * m + k ∧ Exc (Tg ρ) H H3 ∧ H3 D = some (.lst (Z.map fun z => V.ref z.1)) ∧ ∀ z, z ∈ Z → H3 z.1 = some (.tup (rowV z.2)))
        ⟨none, none, none, none, kd0, rfl, ?_, st _ _ hd0, hD0, by omega, same_exc st _, hD, fun z hz => s2 _ _ (hzm z hz).1⟩ (fun k σ H3 _ ⟨_, _, _, _, _, _, _, _, _, _, _, g, _⟩ => SqL.of g) ?_ ?_⟩
      · show LogAt A H2 p { S with tb := put1 S.tb r (S.tb r) } ρ (m + 1) L
        rw [put1_self]
        exact h2
      · rintro k x σ H3 hx ⟨x1, x2, x3, x4, kd, rfl, g, hkd, hDS, hkl, e3, hD3, hZ3⟩
        rw [List.getElem?_map] at hx
        cases hzk : Z[k]? with
        | none => rw [hzk] at hx; cases hx
        | some z =>
          rw [hzk] at hx
          cases hx
          have hzZ := List.mem_of_getElem? hzk
          have hkZ := (List.getElem?_eq_some_iff.mp hzk).1
          have hzt := hZ3 z hzZ
          refine gtrip hzt ?_
          have hTk : (((Z.take (k + 1)).map (·.2)).foldl addR (S.tb r)) = addR (((Z.take k).map (·.2)).foldl addR (S.tb r)) z.2 := by
            rw [take_snoc hzk, List.map_append, List.foldl_append]
            rfl
          rw [hTk]
          generalize hT : ((Z.take k).map (·.2)).foldl addR (S.tb r) = Tk at g hDS
          have hkey : PyData.strOk z.2.2.key = true := h.keys _ (rows_mem (hzm z hzZ).2)
          have gT : DGet H3 L.TB (.int r) ((L.tt r).map V.ref) := g.gTB r
          rw [ha0] at gT
          -- what is behind the pop
          have rest : ∀ (v : V) (H4 : Hp) (kd' : List (L2.Key × V)), LogAt A H4 p { S with tb := put1 S.tb r (setT Tk z.2.2.key none) } ρ (m + 1) L → H4 a0 = some (.dK kd') → DS kd' (setT Tk z.2.2.key none) → kd'.length ≤ 64 * m + k → Exc (Tg ρ) H H4 → H4 D = some (.lst (Z.map fun z => V.ref z.1)) → (∀ z, z ∈ Z → H4 z.1 = some (.tup (rowV z.2))) →
              ∀ (Dn : Ends), (∀ H5 kd5, LogAt A H5 p { S with tb := put1 S.tb r (addR Tk z.2) } ρ (m + 1) L → H5 a0 = some (.dK kd5) → DS kd5 (addR Tk z.2) → kd5.length ≤ 64 * m + (k + 1) → Exc (Tg ρ) H H5 → H5 D = some (.lst (Z.map fun z => V.ref z.1)) → (∀ z, z ∈ Z → H5 z.1 = some (.tup (rowV z.2))) → Dn.nx ((([some (.ref p), some (.int r), some (.int u), some (.int s), x1, some (.ref D), x2, x3, x4].set 6 (some (.int (z.2.1 : Int)))).set 7 (some (.str z.2.2.key))).set 8 (some (optV z.2.2.val))) H5) →
              tIfS (tTest (tOp rNotN (tVar 8) (tC .non))) (sDPut (tDGet (tFld K (tVar 0) "own_tables") (tVar 1)) (tVar 7) (tVar 8)) tNext Dn ((([some (.ref p), some (.int r), some (.int u), some (.int s), x1, some (.ref D), x2, x3, x4].set 6 (some (.int (z.2.1 : Int)))).set 7 (some (.str z.2.2.key))).set 8 (some (optV z.2.2.val))) H4 := by
            intro v H4 kd' g4 hkd4 hDS4 hkl4 e4 hD4 hZ4 Dn hq
            cases hv : z.2.2.val with
            | none =>
              refine st_no (ans_notN (val_var rfl) rfl) ?_
              have ea : addR Tk z.2 = setT Tk z.2.2.key none := by unfold addR; rw [hv]
              rw [hv] at hq
              exact hq H4 kd' (by rw [ea]; exact g4) hkd4 (by rw [ea]; exact hDS4) (by omega) e4 hD4 hZ4
            | some y =>
              refine st_yes (ans_notN (val_var rfl) rfl) ?_
              have ea : addR Tk z.2 = setT (setT Tk z.2.2.key none) z.2.2.key (some y) := by rw [setT_setT]; unfold addR; rw [hv]
              have gT4 : DGet H4 L.TB (.int r) ((L.tt r).map V.ref) := g4.gTB r
              rw [ha0] at gT4
              have hl5 := length_putK kd' (Sum.inr z.2.2.key : L2.Key) (V.int y)
              have hDS5 := hDS4.put y hkey
              have g5 := g4.setTab ha0 hDS5 (by omega)
              have g5' : LogAt A (upd H4 a0 (.dK (putK kd' (Sum.inr z.2.2.key) (.int y)))) p { S with tb := put1 S.tb r (addR Tk z.2) } ρ (m + 1) L := by
                have e9 : put1 (put1 S.tb r (setT Tk z.2.2.key none)) r (setT (setT Tk z.2.2.key none) z.2.2.key (some y)) = put1 S.tb r (addR Tk z.2) := by rw [put1_put1, ea]
                rw [← e9]
                exact g5
              refine ⟨_, rfl, _, rfl, p, A.CL, _, _, V.ref L.TB, rfl, g4.self, T.cl, T.n_tables, by rfl, _, rfl, L.TB, _, rfl, gT4, _, rfl, a0, _, rfl, DPut.k (k := Sum.inr z.2.2.key) hkd4 (line_of (by omega)), ?_⟩
              rw [hv] at hq
              refine hq _ (putK kd' (Sum.inr z.2.2.key) (.int y)) g5' upd_same (by rw [ea]; exact hDS5) (by omega) (e4.at (tg r0)) (by rw [upd_ne Da0]; exact hD4) fun z' hz' => ?_
              rw [upd_ne (fun e => by have := hza z' hz'; rw [e, r0] at this; cases this)]
              exact hZ4 z' hz'
          have fin : ∀ (H5 : Hp) (kd5 : List (L2.Key × V)), LogAt A H5 p { S with tb := put1 S.tb r (addR Tk z.2) } ρ (m + 1) L → H5 a0 = some (.dK kd5) → DS kd5 (addR Tk z.2) → kd5.length ≤ 64 * m + (k + 1) → Exc (Tg ρ) H H5 → H5 D = some (.lst (Z.map fun z => V.ref z.1)) → (∀ z, z ∈ Z → H5 z.1 = some (.tup (rowV z.2))) →
              ∃ (y1 y2 y3 y4 : Option V) (kd : List (L2.Key × V)), ((([some (.ref p), some (.int r), some (.int u), some (.int s), x1, some (.ref D), x2, x3, x4] : L2.St).set 6 (some (.int (z.2.1 : Int)))).set 7 (some (.str z.2.2.key))).set 8 (some (optV z.2.2.val)) = [some (.ref p), some (.int r), some (.int u), some (.int s), y1, some (.ref D), y2, y3, y4] ∧
                LogAt A H5 p { S with tb := put1 S.tb r (addR Tk z.2) } ρ (m + 1) L ∧ H5 a0 = some (.dK kd) ∧ DS kd (addR Tk z.2) ∧ kd.length ≤ 64 * m + (k + 1) ∧ Exc (Tg ρ) H H5 ∧ H5 D = some (.lst (Z.map fun z => V.ref z.1)) ∧ ∀ z, z ∈ Z → H5 z.1 = some (.tup (rowV z.2)) :=
            fun H5 kd5 q1 q2 q3 q4 q5 q6 q7 => ⟨_, _, _, _, kd5, rfl, q1, q2, q3, q4, q5, q6, q7⟩
          refine ⟨_, rfl, p, A.CL, _, _, V.ref L.TB, rfl, g.self, T.cl, T.n_tables, by rfl, _, rfl, L.TB, _, rfl, gT, a0, rfl, .inl ⟨_, .inl hkd⟩, _, rfl, kd, Sum.inr z.2.2.key, hkd, rfl, fun y hy => ?_, fun hy => ?_⟩
          · have hl5 := dropK_le kd (Sum.inr z.2.2.key : L2.Key)
            have hDS5 := hDS.drop z.2.2.key
            have g5 := g.setTab ha0 hDS5 (by omega)
            have g5' : LogAt A (upd H3 a0 (.dK (dropK kd (Sum.inr z.2.2.key)))) p { S with tb := put1 S.tb r (setT Tk z.2.2.key none) } ρ (m + 1) L := by
              have e9 : put1 (put1 S.tb r Tk) r (setT Tk z.2.2.key none) = put1 S.tb r (setT Tk z.2.2.key none) := put1_put1 _ _ _ _
              rw [← e9]
              exact g5
            refine rest y _ _ g5' upd_same hDS5 (by omega) (e3.at (tg r0)) (by rw [upd_ne Da0]; exact hD3) (fun z' hz' => ?_) _ fin
            rw [upd_ne (fun e => by have := hza z' hz'; rw [e, r0] at this; cases this)]
            exact hZ3 z' hz'
          · have hTn : Tk z.2.2.key = none := by
              have := hDS.at_ z.2.2.key
              rw [hy] at this
              cases e : Tk z.2.2.key with
              | none => rfl
              | some v => rw [e] at this; cases this
            exact rest .non H3 kd (by rw [setT_none hTn]; exact g) hkd (by rw [setT_none hTn]; exact hDS) hkl e3 hD3 hZ3 _ fin
      · rintro σ H3 ⟨x1, x2, x3, x4, kd, rfl, g, hkd, hDS, hkl, e3, hD3, hZ3⟩
        rw [List.length_map, List.take_length] at g
        have hZs : (Z.map (·.2)).foldl addR (S.tb r) = rd s u 0 S.ents (S.tb r) := by rw [hsnd, rd_rows]
        rw [hZs] at g
        obtain ⟨kp, hP, dP, lP⟩ := g.pl
        have g5 := g.setPl (z := u) hP hp
        have e5 : Exc (Tg ρ) H (upd H3 L.PL (.dK (putK kp (Sum.inl r) (.int u)))) := e3.at (tg h.rPL)
        have eS : stepE S (.read r u) = goOn { S with tb := put1 S.tb r (rd s u 0 S.ents (S.tb r)), pl := put1 S.pl r (some u) } := by
          show goOn { S with tb := put1 S.tb r (rd ((S.pl r).getD 0) u 0 S.ents (S.tb r)), pl := put1 S.pl r (some u) } = _
          rw [hs]
          rfl
        rw [eS] at q
        refine ⟨_, rfl, _, rfl, p, A.CL, _, _, V.ref L.PL, rfl, g.self, T.cl, T.n_places, by rfl, _, rfl, L.PL, _, rfl, DPut.k (k := Sum.inl r) hP (line_of (by omega)), ?_⟩
        refine ⟨_, rfl, p, _, _, rfl, g5.self, by rfl, p, _, ρ, m + 1, L, rfl, g5, by omega, hgl, fun H6 h6 e6 => ?_⟩
        exact ⟨_, rfl, q _ H6 ρ L h6 (Tr.of (e5.trans e6))⟩
end
end K15

set_option Elab.async false
set_option linter.all false
set_option autoImplicit false
set_option maxRecDepth 100000
set_option maxHeartbeats 4000000
namespace K15
open PySem L2
/-- what the log asks of an event -/
def doOk (S : LSS) : EvS → Prop
  | .read r u => ∃ s, S.pl r = some s ∧ s < u ∧ u ≤ (S.ents.length : Int)
  | .save r => S.pl r ≠ none
  | .load _ c => 0 ≤ c ∧ c < (S.cps.length : Int)
  | _ => True
theorem doOk_of {S : LSS} {W : K15.W} {e : EvS} (h : WF S W) (o : okEv W e) : doOk S e := by
  cases e with
  | read r u =>
    obtain ⟨s, h1, h2, h3⟩ := o
    exact ⟨s, by rw [h.pl]; exact h1, h2, by rw [h.many]; exact h3⟩
  | save r =>
    obtain ⟨s, h1⟩ := o
    show S.pl r ≠ none
    rw [h.pl, h1]
    intro z
    cases z
  | load r c =>
    refine ⟨o.1, ?_⟩
    have := congrArg List.length h.cps
    rw [List.length_map] at this
    have := o.2
    omega
  | put k v => exact True.intro
  | drop k => exact True.intro
  | join r => exact True.intro
  | wait => exact True.intro
theorem ok_head {s k : Str} {r : List V} (h : okVs (.str s :: .str k :: r)) : PyData.strOk k = true := by
  have h : (PyData.strOk s && (PyData.strOk k && r.all okV)) = true := h
  rw [Bool.and_eq_true, Bool.and_eq_true] at h
  exact h.2.1
section
variable {P : Program} {w : World} {K : PySem.W.Frag} {mg : Str → Option Value} {base : Heap} {A : Adr} {f : Addr} {fd : FuncData}
abbrev s_Log_do : Stmt := inClass (top 17) 19
abbrev N_Log_do : List Str := ["self", "event", "word"]
abbrev P_Log_do : List Str := ["self", "event"]
theorem sc_Log_do : FnScope N_Log_do P_Log_do (C8.fnScope s_Log_do) := C8.fnScope_by (by decide +kernel)
def spDo (A : Adr) : Sp := fun vs H Q _ => ∃ p S ρ m L a ev, vs = [.ref p, .ref a] ∧ LogAt A H p S ρ m L ∧ m ≤ 64 ∧ S.gds.length ≤ 1000 ∧ H a = some (.tup (evV ev)) ∧ evOk ev ∧ doOk S ev ∧ After A H ρ p m (stepE S ev) Q
theorem do_ok (T : Txt K mg A) (me : Meth K A.CL "do" f) (F : C8.Fun K "do" "Log.do" s_Log_do f fd) (b : Binds K fd P_Log_do []) (m_put : C8.Met P w K mg base 6 A.CL "put" (spPut A) []) (m_drop : C8.Met P w K mg base 6 A.CL "drop" (spDrop A) [])
    (m_read : C8.Met P w K mg base 5 A.CL "read" (spRead A) []) (m_save : C8.Met P w K mg base 5 A.CL "save" (spSave A) []) (m_load : C8.Met P w K mg base 5 A.CL "load" (spLoad A) []) (m_join : C8.Met P w K mg base 5 A.CL "join" (spJoin A) []) (m_wait : C8.Met P w K mg base 5 A.CL "wait" (spWait A) []) :
    C8.Met P w K mg base 7 A.CL "do" (spDo A) [] := by
  refine C8.met0 T.cl me F b sc_Log_do (fun vs H Q E h => ?_) (fun cdv A' outer s H vs Q E hr h => ?_)
  · obtain ⟨p, S, ρ, m, L, a, ev, rfl, _⟩ := h
    rfl
  · obtain ⟨p, S, ρ, m, L, a, ev, rfl, h, hm, hgl, he, ho, hd, q⟩ := h
    have hu := hu_of hr
    refine ⟨_, (pss_cons (ps_set (i := 2) sc_Log_do.nd rfl (Or.inl rfl) (pe_ix (r := rIxT K) ix_tup (pv 1) pe_int (fun _ _ => rfl)))
      (pss_cons (ps_if (pt_cmpR op_eq (pv 2) (C8.pe_gc rfl T.gPUT) (nomark _)) (pss_one (ps_ret (C8.pe_mt m_put hr (by decide) (pv 0) (pa_cons (pe_ix (r := rIxT K) ix_tup (pv 1) pe_int (fun _ _ => rfl)) (pa_cons (pe_ix (r := rIxT K) ix_tup (pv 1) pe_int (fun _ _ => rfl)) pa_nil))))) pss_nil)
      (pss_cons (ps_if (pt_cmpR op_eq (pv 2) (C8.pe_gc rfl T.gDROP) (nomark _)) (pss_one (ps_ret (C8.pe_mt m_drop hr (by decide) (pv 0) (pa_cons (pe_ix (r := rIxT K) ix_tup (pv 1) pe_int (fun _ _ => rfl)) pa_nil)))) pss_nil)
      (pss_cons (ps_if (pt_cmpR op_eq (pv 2) (C8.pe_gc rfl T.gREAD) (nomark _)) (pss_one (ps_ret (C8.pe_mt m_read hr (by decide) (pv 0) (pa_cons (pe_ix (r := rIxT K) ix_tup (pv 1) pe_int (fun _ _ => rfl)) (pa_cons (pe_ix (r := rIxT K) ix_tup (pv 1) pe_int (fun _ _ => rfl)) pa_nil))))) pss_nil)
      (pss_cons (ps_if (pt_cmpR op_eq (pv 2) (C8.pe_gc rfl T.gSAVE) (nomark _)) (pss_one (ps_ret (C8.pe_mt m_save hr (by decide) (pv 0) (pa_cons (pe_ix (r := rIxT K) ix_tup (pv 1) pe_int (fun _ _ => rfl)) pa_nil)))) pss_nil)
      (pss_cons (ps_if (pt_cmpR op_eq (pv 2) (C8.pe_gc rfl T.gLOAD) (nomark _)) (pss_one (ps_ret (C8.pe_mt m_load hr (by decide) (pv 0) (pa_cons (pe_ix (r := rIxT K) ix_tup (pv 1) pe_int (fun _ _ => rfl)) (pa_cons (pe_ix (r := rIxT K) ix_tup (pv 1) pe_int (fun _ _ => rfl)) pa_nil))))) pss_nil)
      (pss_one (ps_ret (pe_ifExp (pt_cmpR op_eq (pv 2) (C8.pe_gc rfl T.gJOIN) (nomark _)) (C8.pe_mt m_join hr (by decide) (pv 0) (pa_cons (pe_ix (r := rIxT K) ix_tup (pv 1) pe_int (fun _ _ => rfl)) pa_nil)) (C8.pe_mt0 m_wait hr (by decide) (pv 0))))))))))), ?_⟩
    have hT := SqT.of (K := K) he
    cases ev with
    | put k v =>
      refine ⟨_, rfl, a, _, _, _, rfl, rfl, hT, ix0 _ _, ?_⟩
      dsimp only [gName]
      refine st_seq (st_yes (ans_eq (val_var rfl) val_c rfl (by decide +kernel)) ?_)
      exact ⟨_, rfl, p, _, _, rfl, h.self, by rfl, _, rfl, a, _, _, _, rfl, rfl, hT, ix1 _ _ _, _, rfl, a, _, _, _, rfl, rfl, hT, ix2 _ _ _ _, p, S, ρ, m, L, k, v, rfl, h, by omega, hgl, ok_head ho, q⟩
    | drop k =>
      refine ⟨_, rfl, a, _, _, _, rfl, rfl, hT, ix0 _ _, ?_⟩
      dsimp only [gName]
      refine st_seq (st_no (ans_eq (val_var rfl) val_c rfl (by decide +kernel)) ?_)
      refine st_seq (st_yes (ans_eq (val_var rfl) val_c rfl (by decide +kernel)) ?_)
      exact ⟨_, rfl, p, _, _, rfl, h.self, by rfl, _, rfl, a, _, _, _, rfl, rfl, hT, ix1 _ _ _, p, S, ρ, m, L, k, rfl, h, by omega, hgl, ok_head ho, q⟩
    | read r u =>
      obtain ⟨s, h1, h2, h3⟩ := hd
      refine ⟨_, rfl, a, _, _, _, rfl, rfl, hT, ix0 _ _, ?_⟩
      dsimp only [gName]
      refine st_seq (st_no (ans_eq (val_var rfl) val_c rfl (by decide +kernel)) ?_)
      refine st_seq (st_no (ans_eq (val_var rfl) val_c rfl (by decide +kernel)) ?_)
      refine st_seq (st_yes (ans_eq (val_var rfl) val_c rfl (by decide +kernel)) ?_)
      exact ⟨_, rfl, p, _, _, rfl, h.self, by rfl, _, rfl, a, _, _, _, rfl, rfl, hT, ix1 _ _ _, _, rfl, a, _, _, _, rfl, rfl, hT, ix2 _ _ _ _, p, S, ρ, m, L, r, u, s, rfl, h, hm, hgl, h1, h2, h3, q⟩
    | save r =>
      refine ⟨_, rfl, a, _, _, _, rfl, rfl, hT, ix0 _ _, ?_⟩
      dsimp only [gName]
      refine st_seq (st_no (ans_eq (val_var rfl) val_c rfl (by decide +kernel)) ?_)
      refine st_seq (st_no (ans_eq (val_var rfl) val_c rfl (by decide +kernel)) ?_)
      refine st_seq (st_no (ans_eq (val_var rfl) val_c rfl (by decide +kernel)) ?_)
      refine st_seq (st_yes (ans_eq (val_var rfl) val_c rfl (by decide +kernel)) ?_)
      exact ⟨_, rfl, p, _, _, rfl, h.self, by rfl, _, rfl, a, _, _, _, rfl, rfl, hT, ix1 _ _ _, p, S, ρ, m, L, r, rfl, h, by omega, hgl, hd, q⟩
    | load r c =>
      refine ⟨_, rfl, a, _, _, _, rfl, rfl, hT, ix0 _ _, ?_⟩
      dsimp only [gName]
      refine st_seq (st_no (ans_eq (val_var rfl) val_c rfl (by decide +kernel)) ?_)
      refine st_seq (st_no (ans_eq (val_var rfl) val_c rfl (by decide +kernel)) ?_)
      refine st_seq (st_no (ans_eq (val_var rfl) val_c rfl (by decide +kernel)) ?_)
      refine st_seq (st_no (ans_eq (val_var rfl) val_c rfl (by decide +kernel)) ?_)
      refine st_seq (st_yes (ans_eq (val_var rfl) val_c rfl (by decide +kernel)) ?_)
      exact ⟨_, rfl, p, _, _, rfl, h.self, by rfl, _, rfl, a, _, _, _, rfl, rfl, hT, ix1 _ _ _, _, rfl, a, _, _, _, rfl, rfl, hT, ix2 _ _ _ _, p, S, ρ, m, L, r, c, rfl, h, by omega, hgl, hd.1, hd.2, q⟩
    | join r =>
      refine ⟨_, rfl, a, _, _, _, rfl, rfl, hT, ix0 _ _, ?_⟩
      dsimp only [gName]
      refine st_seq (st_no (ans_eq (val_var rfl) val_c rfl (by decide +kernel)) ?_)
      refine st_seq (st_no (ans_eq (val_var rfl) val_c rfl (by decide +kernel)) ?_)
      refine st_seq (st_no (ans_eq (val_var rfl) val_c rfl (by decide +kernel)) ?_)
      refine st_seq (st_no (ans_eq (val_var rfl) val_c rfl (by decide +kernel)) ?_)
      refine st_seq (st_no (ans_eq (val_var rfl) val_c rfl (by decide +kernel)) ?_)
      refine ans_eq (b := true) (val_var rfl) val_c rfl (by decide +kernel) _ (iteT ?_)
      exact ⟨_, rfl, p, _, _, rfl, h.self, by rfl, _, rfl, a, _, _, _, rfl, rfl, hT, ix1 _ _ _, p, S, ρ, m, L, r, rfl, h, by omega, hgl, q⟩
    | wait =>
      refine ⟨_, rfl, a, _, _, _, rfl, rfl, hT, ix0 _ _, ?_⟩
      dsimp only [gName]
      refine st_seq (st_no (ans_eq (val_var rfl) val_c rfl (by decide +kernel)) ?_)
      refine st_seq (st_no (ans_eq (val_var rfl) val_c rfl (by decide +kernel)) ?_)
      refine st_seq (st_no (ans_eq (val_var rfl) val_c rfl (by decide +kernel)) ?_)
      refine st_seq (st_no (ans_eq (val_var rfl) val_c rfl (by decide +kernel)) ?_)
      refine st_seq (st_no (ans_eq (val_var rfl) val_c rfl (by decide +kernel)) ?_)
      refine ans_eq (b := false) (val_var rfl) val_c rfl (by decide +kernel) _ (iteF ?_)
      exact ⟨_, rfl, p, _, _, rfl, h.self, by rfl, p, S, ρ, m, L, rfl, h, by omega, hgl, q⟩
end
end K15

set_option Elab.async false
set_option linter.all false
set_option autoImplicit false
set_option maxRecDepth 100000
set_option maxHeartbeats 4000000
namespace K15
open PySem L2
/-- amid a sweep: those from n - i on are done -/
def swE (S : LSS) (n i : Nat) : List (Ent Str) := S.ents.mapIdx (fun j e => if n ≤ j + i then sweepE S.ents n S.time j e else e)
theorem swE_at (S : LSS) (n i j : Nat) : (swE S n i)[j]? = (S.ents[j]?).map (fun e => if n ≤ j + i then sweepE S.ents n S.time j e else e) := List.getElem?_mapIdx
theorem swE_len (S : LSS) (n i : Nat) : (swE S n i).length = S.ents.length := List.length_mapIdx
theorem swE_0 (S : LSS) (n : Nat) : swE S n 0 = S.ents := by
  apply List.ext_getElem?
  intro j
  rw [swE_at]
  cases S.ents[j]? with
  | none => rfl
  | some e =>
    simp only [Option.map_some]
    by_cases h : n ≤ j + 0
    · rw [if_pos h]
      unfold sweepE
      rw [if_neg (by omega)]
    · rw [if_neg h]
theorem swE_end (S : LSS) (n : Nat) : swE S n n = (sweep0 S n).ents := by
  apply List.ext_getElem?
  intro j
  rw [swE_at, sweep0_at]
  cases S.ents[j]? with
  | none => rfl
  | some e =>
    simp only [Option.map_some]
    rw [if_pos (by omega)]
theorem swE_succ {S : LSS} {n i : Nat} {e : Ent Str} (hi : i < n) (h : S.ents[n - 1 - i]? = some e) : swE S n (i + 1) = (swE S n i).set (n - 1 - i) (sweepE S.ents n S.time (n - 1 - i) e) := by
  have hl := (List.getElem?_eq_some_iff.mp h).1
  apply List.ext_getElem?
  intro j
  rw [swE_at, List.getElem?_set]
  by_cases hj : n - 1 - i = j
  · subst hj
    rw [if_pos rfl, swE_len, if_pos hl, h]
    simp only [Option.map_some]
    rw [if_pos (by omega)]
  · rw [if_neg hj, swE_at]
    cases S.ents[j]? with
    | none => rfl
    | some x =>
      simp only [Option.map_some]
      by_cases h1 : n ≤ j + i
      · rw [if_pos h1, if_pos (by omega)]
      · rw [if_neg h1, if_neg (by omega)]
theorem swE_i {S : LSS} {n i : Nat} {e : Ent Str} (hi : i < n) (h : S.ents[n - 1 - i]? = some e) : (swE S n i)[n - 1 - i]? = some e := by
  rw [swE_at, h]
  simp only [Option.map_some]
  rw [if_neg (by omega)]
section
variable {P : Program} {w : World} {K : PySem.W.Frag} {mg : Str → Option Value} {base : Heap} {A : Adr} {f : Addr} {fd : FuncData}
abbrev s_Log_sweep : Stmt := inClass (top 17) 22
abbrev N_Log_sweep : List Str := ["self", "point", "found", "later", "place", "entry"]
abbrev P_Log_sweep : List Str := ["self", "point"]
theorem sc_Log_sweep : FnScope N_Log_sweep P_Log_sweep (C8.fnScope s_Log_sweep) := C8.fnScope_by (by decide +kernel)
def spSweep (A : Adr) : Sp := fun vs H Q _ => ∃ p S ρ m L, ∃ n : Nat, vs = [.ref p, .int (n : Int)] ∧ LogAt A H p S ρ m L ∧ m ≤ 1000 ∧ S.gds.length ≤ 1000 ∧ n ≤ S.ents.length ∧ ∀ (v : V) (H' : Hp), LogAt A H' p (sweep S n) ρ m L → Exc (Tg ρ) H H' → Q v H'
theorem sweep_ok (T : Txt K mg A) (me : Meth K A.CL "sweep" f) (F : C8.Fun K "sweep" "Log.sweep" s_Log_sweep f fd) (b : Binds K fd P_Log_sweep []) (m_many : C8.Met P w K mg base 1 A.CL "many" (spMany A) []) (m_let_go : C8.Met P w K mg base 3 A.CL "let_go" (spLetGo A) []) :
    C8.Met P w K mg base 4 A.CL "sweep" (spSweep A) [] := by
  refine C8.met0 T.cl me F b sc_Log_sweep (fun vs H Q E h => ?_) (fun cdv A' outer s H vs Q E hr h => ?_)
  · obtain ⟨p, S, ρ, m, L, n, rfl, _⟩ := h
    rfl
  · obtain ⟨p, S, ρ, m, L, n, rfl, h, hm, hgl, hn, q⟩ := h
    have hu := hu_of hr
    refine ⟨_, (pss_cons (ps_if (pt_not (pt_chain op_le op_le pe_int (pv 1) (C8.pe_mt0 m_many hr (by decide) (pv 0)))) (pss_one ps_never) pss_nil)
      (pss_cons (ps_par (i := 2) (j := 3) (by rfl) sc_Log_sweep.nd rfl rfl (by decide) rfl rfl (pa_cons (pe_lst pa_nil) (pa_cons pe_dnewK pa_nil)) (by rfl))
      (pss_cons (ps_for PassesOwn.never rfl (pi_range3 rfl T.b_range (pa_cons (pe_op op_sub (pv 1) pe_int) (pa_cons (pe_un un_neg pe_int) (pa_cons (pe_un un_neg pe_int) pa_nil)))) (pg_name (i := 4) sc_Log_sweep.nd rfl (Or.inl rfl)) (pss_cons (ps_set (i := 5) sc_Log_sweep.nd rfl (Or.inl rfl) (pe_ix (r := rIxL K) ix_list (pe_fld (pv 0) rfl) (pv 4) (fun _ _ => rfl)))
      (pss_cons (ps_if (PW.pt (pw_and (pt_not (pt_val (pe_slot T.scl T.sl_is_gone (pv 5)))) (pw_and1 (pt_cmp (pc_din hu (pe_slot T.scl T.sl_key (pv 5)) (pv 3)))))) (pss_cons (ps_slot T.scl T.sl_is_gone (pv 5) pe_bl)
      (pss_one (ps_expr (pe_bm PySem.F.plainAttrs_list PySem.F.slot_list_append PySem.F.type_list_append mt_append (pv 2) (pa_cons (pv 4) pa_nil))))) pss_nil)
      (pss_cons (ps_if (pt_cmpR op_isN (pe_slot T.scl T.sl_passed (pv 5)) pe_non (nomark _)) (pss_one (ps_slot T.scl T.sl_passed (pv 5) (pe_fld (pv 0) rfl))) pss_nil)
      (pss_one (ps_dput hu (pv 3) (pe_slot T.scl T.sl_key (pv 5)) pe_bl rfl))))))
      (pss_one (ps_ret (pe_callB cr_sortedI (by rfl) T.b_sorted (by decide +kernel) (pa_cons (pe_op op_cat (pv 2) (C8.pe_mt0 m_let_go hr (by decide) (pv 0))) pa_nil))))))), ?_⟩
    have hl := h.eLen
    have hlm := h.len.1
    refine st_seq (st_no (Ans.to (ans_not (ans_chain (g1 := fun i j => decide (i ≤ j)) (g2 := fun i j => decide (i ≤ j)) (i := 0) val_c (val_var rfl) (val_many h rfl) (decide_eq_true (by omega)) (decide_eq_true (show (n : Int) ≤ (S.ents.length : Int) by omega)))) rfl) ?_)
    refine ⟨Nat.zero_le _, fun D1 n1 => ?_⟩
    intro D2 n2
    refine ⟨_, _, rfl, ?_⟩
    have s1 := same_new (o := .lst []) n1
    have s2 := s1.trans (same_new (o := .dK []) n2)
    have d12 : D1 ≠ D2 := fun z => by rw [← z, upd_same] at n2; cases n2
    have n20 : H D2 = none := by rw [upd_ne d12.symm] at n2; exact n2
    have r1 := h.free n1
    have r2 := h.free n20
    have h2 := h.same s2
    have hD1 : upd (upd H D1 (.lst [])) D2 (.dK []) D1 = some (.lst []) := by rw [upd_ne d12]; exact upd_same
    have hD2 : upd (upd H D1 (.lst [])) D2 (.dK []) D2 = some (.dK []) := upd_same
    generalize upd (upd H D1 (.lst [])) D2 (.dK []) = H2 at s2 h2 hD1 hD2
    dsimp only
    refine st_seq ?_
    refine ⟨_, rfl, _, _, rfl, rfl, 1, rfl, 1, rfl, _, _, _, n, rfl, ?_, for_it (walk_rangeC (lo := (n : Int) - 1) (c := -1) (n := n)) (fun i σ H3 => ∃ (x y : Option V) (ns : List Int) (kl : List (L2.Key × V)), σ = [some (.ref p), some (.int (n : Int)), some (.ref D1), some (.ref D2), x, y] ∧ LogAt A H3 p { S with ents := swE S n i } ρ m L ∧ Exc (Tg ρ) H H3 ∧
      H3 D1 = some (.lst (ns.map V.int)) ∧ ns.length ≤ i ∧ H3 D2 = some (.dK kl) ∧ kl.length ≤ i ∧ ∀ k : Str, (valV kl (Sum.inr k)).isSome = true ↔ ∃ j e, n ≤ j + i ∧ j < n ∧ S.ents[j]? = some e ∧ e.key = k)
      ⟨none, none, [], [], rfl, by rw [swE_0]; exact h2, same_exc s2 _, hD1, Nat.le_refl _, hD2, Nat.le_refl _, fun k => ⟨fun z => (by cases z), fun ⟨j, e, z1, z2, _⟩ => (by omega)⟩⟩ (fun _ _ _ _ _ => True.intro) ?_ ?_⟩
    · have := RgC.neg (i := (n : Int) - 1) (j := -1) (by omega) (by omega) (by omega) (by omega)
      rw [show ((n : Int) - 1 - -1).toNat = n by omega] at this
      exact this
    · rintro i v σ H3 H4 hi ⟨x1, y1, ns, kl, rfl, g, e3, hD1, hns, hD2, hkl, hlat⟩ ⟨rfl, rfl⟩
      have hj0 : n - 1 - i < S.ents.length := by omega
      obtain ⟨e, he⟩ : ∃ e, S.ents[n - 1 - i]? = some e := ⟨_, List.getElem?_eq_getElem hj0⟩
      obtain ⟨xd, hx⟩ : ∃ xd, L.ea[n - 1 - i]? = some xd := ⟨_, List.getElem?_eq_getElem (by omega)⟩
      obtain ⟨x, dx⟩ := xd
      have hidx : (n : Int) - 1 + (i : Nat) * (-1) = ((n - 1 - i : Nat) : Int) := by omega
      show gName 4 (V.int ((n : Int) - 1 + (i : Nat) * (-1))) _ _ _
      rw [hidx]
      have ex : atI (L.ea.map fun x => V.ref x.1) ((n - 1 - i : Nat) : Int) = some (.ref x) := atI_nat (by rw [List.getElem?_map, hx]; rfl)
      obtain ⟨en, hen, hs⟩ := paired_at g.ents hx
      have hen : (swE S n i)[n - 1 - i]? = some en := hen
      rw [swE_i hi he] at hen
      cases hen
      dsimp only [gName]
      refine st_seq (asg_of (val_ixL (K := K) (vE T g (val_var rfl)) (val_var rfl) (SqL.of g.en) ex _ ?_))
      dsimp only [gName]
      have hk := h.keys e (List.mem_of_getElem? he)
      have rx := (h.rea _ _ hx).1
      have D1x : D1 ≠ x := fun z => by rw [z, rx] at r1; cases r1
      have D2x : D2 ≠ x := fun z => by rw [z, rx] at r2; cases r2
      have hlater : (valV kl (Sum.inr e.key)).isSome = laterB S.ents n (n - 1 - i) e.key := by
        rw [Bool.eq_iff_iff, hlat e.key, laterB_iff]
        constructor
        · rintro ⟨j, e', q1, q2, q3, q4⟩
          exact ⟨j, e', by omega, q2, q3, q4⟩
        · rintro ⟨j, e', q1, q2, q3, q4⟩
          exact ⟨j, e', by omega, q2, q3, q4⟩
      generalize hlb : laterB S.ents n (n - 1 - i) e.key = lb at hlater
      have eset : ∀ e', ({ ({ S with ents := swE S n i } : LSS) with ents := (swE S n i).set (n - 1 - i) e' } : LSS) = { S with ents := (swE S n i).set (n - 1 - i) e' } := fun _ => rfl
      let Pr : Ent Str → Hp → Prop := fun e' H5 => ∃ ns : List Int, LogAt A H5 p { S with ents := (swE S n i).set (n - 1 - i) e' } ρ m L ∧ Exc (Tg ρ) H H5 ∧ H5 D1 = some (.lst (ns.map V.int)) ∧ ns.length ≤ i + 1 ∧ H5 D2 = some (.dK kl) ∧ SlAt H5 x A.CE dx (slV e')
      have P0 : Pr e H4 := ⟨ns, by rw [set_same (swE_i hi he)]; exact g, e3, hD1, by omega, hD2, hs⟩
      refine cutS (Pr { e with gone := e.gone || lb }) (fun D' hD => ?_) (fun H5 p5 => ?_)
      · have hdin : DGet H4 D2 (.str e.key) (valV kl (Sum.inr e.key)) := DGet.k (k := Sum.inr e.key) hD2
        have cond := ans_and2 (ans_not (ans_val (val_slot (C := A.CE) (j := 0) (ta := tVar 5) (σ := (([some (.ref p), some (.int (n : Int)), some (.ref D1), some (.ref D2), x1, y1] : L2.St).set 4 (some (.int ((n - 1 - i : Nat) : Int)))).set 5 (some (.ref x))) (val_var rfl) hs rfl))) (ans_din (b := lb) (ta := tVar 3) (tb := tSlot A.CE 1 (tVar 5)) (val_var rfl) (val_slot (val_var rfl) hs rfl) hdin hlater)
        cases hg : (!e.gone && lb) with
        | true =>
          rw [hg] at cond
          refine st_yes cond ?_
          have hgb : (e.gone || lb) = true := by
            cases h1 : e.gone <;> cases h2 : lb <;> rw [h1, h2] at hg <;> first | rfl | cases hg
          rw [hgb] at hD
          have g5 := g.setEnt (e' := { e with gone := true }) hx hk
          have hD15 : upd H4 x (SlO A.CE dx x (slV { e with gone := true })) D1 = some (.lst (ns.map V.int)) := by rw [upd_ne D1x]; exact hD1
          have hD25 : upd H4 x (SlO A.CE dx x (slV { e with gone := true })) D2 = some (.dK kl) := by rw [upd_ne D2x]; exact hD2
          have hs5 : SlAt (upd H4 x (SlO A.CE dx x (slV { e with gone := true }))) x A.CE dx (slV { e with gone := true }) := hs.here
          have e5 : Exc (Tg ρ) H (upd H4 x (SlO A.CE dx x (slV { e with gone := true }))) := e3.at (tg rx)
          refine ⟨_, rfl, x, dx, _, rfl, hs, ?_⟩
          refine ⟨_, rfl, .inl ⟨rfl, _, SqL.of hD15⟩, _, rfl, D1, _, _, rfl, rfl, hD15, line_of (by rw [List.length_map]; omega), hD _ ?_⟩
          refine ⟨ns ++ [((n - 1 - i : Nat) : Int)], g5.updL r1 hD15, e5.born n1, by rw [List.map_append]; exact upd_same, by rw [List.length_append]; show ns.length + 1 ≤ i + 1; omega, by rw [upd_ne d12.symm]; exact hD25, ?_⟩
          refine sl_keep hs5 fun a o z ea => ?_
          rw [upd_ne ?_]
          · exact ea
          · rcases z with z | z
            · rw [z]; exact D1x.symm
            · rw [z]
              intro z2
              have := (h.rea _ _ hx).2
              rw [z2, r1] at this
              cases this
        | false =>
          rw [hg] at cond
          refine st_no cond (hD _ ?_)
          have hgb : (e.gone || lb) = e.gone := by
            cases h1 : e.gone <;> cases h2 : lb <;> rw [h1, h2] at hg <;> first | rfl | cases hg
          rw [hgb]
          exact P0
      generalize he1 : ({ e with gone := e.gone || lb } : Ent Str) = ee at p5
      have hke : ee.key = e.key := by rw [← he1]
      have hpe : ee.passed = e.passed := by rw [← he1]
      refine cutS (Pr { ee with passed := some (ee.passed.getD S.time) }) (fun D' hD => ?_) (fun H6 p6 => ?_)
      · obtain ⟨ns5, g5, e5, hD15, hns5, hD25, hs5⟩ := p5
        cases hpp : ee.passed with
        | none =>
          have hpv : (slV ee)[2]? = some (some V.non) := by unfold slV; rw [hpp]; rfl
          refine st_yes (ans_isN (val_slot (val_var rfl) hs5 hpv) rfl) ?_
          rw [hpp] at hD
          have g6 := g5.setEnt (e' := { ee with passed := some S.time }) hx (by rw [show ({ ee with passed := some S.time } : Ent Str).key = ee.key from rfl, hke]; exact hk)
          have e9 : ({ ({ S with ents := (swE S n i).set (n - 1 - i) ee } : LSS) with ents := ((swE S n i).set (n - 1 - i) ee).set (n - 1 - i) { ee with passed := some S.time } } : LSS) = { S with ents := (swE S n i).set (n - 1 - i) { ee with passed := some S.time } } := by rw [List.set_set]
          have g6' : LogAt A (upd H5 x (SlO A.CE dx x (slV { ee with passed := some S.time }))) p { S with ents := (swE S n i).set (n - 1 - i) { ee with passed := some S.time } } ρ m L := by
            rw [← e9]
            exact g6
          refine vT T g5 (val_var rfl) _ ⟨_, rfl, x, dx, _, rfl, hs5, hD _ ?_⟩
          refine ⟨ns5, g6', e5.at (tg rx), by rw [upd_ne D1x]; exact hD15, hns5, by rw [upd_ne D2x]; exact hD25, hs5.here⟩
        | some t =>
          have hpv : (slV ee)[2]? = some (some (V.int t)) := by unfold slV; rw [hpp]; rfl
          refine st_no (ans_isN (val_slot (val_var rfl) hs5 hpv) rfl) (hD _ ?_)
          have : ({ ee with passed := some (ee.passed.getD S.time) } : Ent Str) = ee := by
            rw [hpp]
            cases ee
            cases hpp
            rfl
          rw [this]
          exact ⟨ns5, g5, e5, hD15, hns5, hD25, hs5⟩
      obtain ⟨ns6, g6, e6, hD16, hns6, hD26, hs6⟩ := p6
      have hfin : ({ ee with passed := some (ee.passed.getD S.time) } : Ent Str) = sweepE S.ents n S.time (n - 1 - i) e := by
        unfold sweepE
        rw [if_pos (by omega), ← he1, hlb]
      rw [hfin] at g6
      rw [← swE_succ hi he] at g6
      have hk6 : (slV ({ ee with passed := some (ee.passed.getD S.time) } : Ent Str))[1]? = some (some (V.str e.key)) := by
        show some (some (V.str ee.key)) = _
        rw [hke]
      refine ⟨_, rfl, _, rfl, x, dx, _, _, rfl, hs6, hk6, D2, _, rfl, DPut.k (k := Sum.inr e.key) hD26 (line_of (by omega)), ?_⟩
      have g7 : LogAt A (upd H6 D2 (.dK (putK kl (Sum.inr e.key) (.bl true)))) p { S with ents := swE S n (i + 1) } ρ m L := g6.exc (P := fun a => a = D2) ((Exc.refl _ H6).at rfl) (fun a ys ea z => by
        have z : a = D2 := z
        rw [z, hD26] at ea
        cases ea) (fun a z => by
        have z : a = D2 := z
        rw [z]
        exact r2)
      refine ⟨_, _, ns6, putK kl (Sum.inr e.key) (.bl true), rfl, g7, e6.born n20, by rw [upd_ne d12]; exact hD16, hns6, upd_same, by have := length_putK kl (Sum.inr e.key : L2.Key) (V.bl true); omega, fun k => ?_⟩
      rw [valV_put]
      by_cases hkk : (Sum.inr k : L2.Key) = Sum.inr e.key
      · rw [if_pos hkk]
        have hkk : k = e.key := Sum.inr.inj hkk
        exact ⟨fun _ => ⟨n - 1 - i, e, by omega, by omega, he, hkk.symm⟩, fun _ => rfl⟩
      · rw [if_neg hkk, hlat k]
        constructor
        · rintro ⟨j, e', q1, q2, q3, q4⟩
          exact ⟨j, e', by omega, q2, q3, q4⟩
        · rintro ⟨j, e', q1, q2, q3, q4⟩
          refine ⟨j, e', ?_, q2, q3, q4⟩
          by_cases hj : j = n - 1 - i
          · exfalso
            rw [hj, he] at q3
            cases q3
            exact hkk (by rw [q4])
          · omega
    · rintro σ H3 ⟨x1, y1, ns, kl, rfl, g, e3, hD1, hns, hD2, hkl, hlat⟩
      rw [swE_end] at g
      refine ⟨_, rfl, _, rfl, p, _, _, rfl, g.self, by rfl, p, _, ρ, m, L, rfl, g, hm, hgl, fun l ms H4 h4 e4 nl hl4 hms => ?_⟩
      have hD14 := e4 _ _ hD1 (fun z => z r1)
      refine ⟨D1, l, _, _, rfl, rfl, hD14, hl4, Nat.le_of_lt (line_of (by rw [List.length_map, List.length_map]; omega)), fun z nz => ?_⟩
      have s5 := same_new (o := .lst (ns.map V.int ++ ms.map V.int)) nz
      refine ⟨z, ns ++ ms, rfl, SqL.of (by rw [List.map_append]; exact upd_same), fun ns' y _ _ ny => ?_⟩
      have s6 := s5.trans (same_new (o := .lst (ns'.map V.int)) ny)
      exact q _ _ (h4.same s6) ((e3.trans e4).trans (same_exc s6 _))
end
end K15

set_option Elab.async false
set_option linter.all false
set_option autoImplicit false
set_option maxRecDepth 100000
set_option maxHeartbeats 4000000
namespace K15
open PySem L2
theorem wrong_iff {S : LSS} {r s : Int} {k : Str} {i : Nat} {e : Ent Str} (hs : S.pl r = some s) (ht : S.tb r k ≠ none) (hi : S.ents[i]? = some e) (hk : e.key = k) (hl : ∀ j e', i < j → S.ents[j]? = some e' → e'.key ≠ k) :
    wrong S r k ↔ e.val = none ∧ (i : Int) < s := by
  constructor
  · rintro ⟨s', i', e', h1, h2, h3, h4, h5, h6, h7⟩
    rw [hs] at h1
    cases h1
    have : i' = i := by
      rcases Nat.lt_trichotomy i' i with q | q | q
      · exact absurd hk (h5 i e q hi)
      · exact q
      · exact absurd h4 (hl i' e' q h3)
    subst this
    rw [hi] at h3
    cases h3
    exact ⟨h6, h7⟩
  · rintro ⟨h6, h7⟩
    exact ⟨s, i, e, hs, ht, hi, hk, hl, h6, h7⟩
section
variable {P : Program} {w : World} {K : PySem.W.Frag} {mg : Str → Option Value} {base : Heap} {A : Adr} {f : Addr} {fd : FuncData}
abbrev s_Log_wrong : Stmt := inClass (top 17) 29
abbrev N_Log_wrong : List Str := ["self", "reader", "found", "key", "value", "place"]
abbrev P_Log_wrong : List Str := ["self", "reader"]
theorem sc_Log_wrong : FnScope N_Log_wrong P_Log_wrong (C8.fnScope s_Log_wrong) := C8.fnScope_by (by decide +kernel)
def spWrong (A : Adr) : Sp := fun vs H Q _ => ∃ p S ρ m L r, vs = [.ref p, .int r] ∧ LogAt A H p S ρ m L ∧ m ≤ 64 ∧ S.pl r ≠ none ∧ (∀ k, S.tb r k ≠ none → ∃ e, e ∈ S.ents ∧ e.key = k) ∧
  ∀ (l : Addr) (ks : List Str) (H' : Hp), Same H H' → H l = none → H' l = some (.lst (ks.map V.str)) → (∀ k, k ∈ ks ↔ wrong S r k) → (∀ k, k ∈ ks → PyData.strOk k = true) → ks.length ≤ 64 * m → Q (.ref l) H'
theorem wrong_ok (T : Txt K mg A) (me : Meth K A.CL "wrong" f) (F : C8.Fun K "wrong" "Log.wrong" s_Log_wrong f fd) (b : Binds K fd P_Log_wrong []) (m_table : C8.Met P w K mg base 2 A.CL "table" (spTab A) []) (m_last : C8.Met P w K mg base 1 A.CL "last" (spLast A) []) :
    C8.Met P w K mg base 3 A.CL "wrong" (spWrong A) [] := by
  refine C8.met0 T.cl me F b sc_Log_wrong (fun vs H Q E h => ?_) (fun cdv A' outer s H vs Q E hr h => ?_)
  · obtain ⟨p, S, ρ, m, L, r, rfl, _⟩ := h
    rfl
  · obtain ⟨p, S, ρ, m, L, r, rfl, h, hm, hp, htin, q⟩ := h
    have hu := hu_of hr
    refine ⟨_, (pss_cons (ps_set (i := 2) sc_Log_wrong.nd rfl (Or.inl rfl) (pe_lst pa_nil))
      (pss_cons (ps_for PassesOwn.never rfl (pi_list (C8.pe_mt m_table hr (by decide) (pv 0) (pa_cons (pv 1) pa_nil))) (pg_tup rfl (pgs_cons (pg_name (i := 3) sc_Log_wrong.nd rfl (Or.inl rfl)) (pgs_cons (pg_name (i := 4) sc_Log_wrong.nd rfl (Or.inl rfl)) pgs_nil))) (pss_cons (ps_set (i := 5) sc_Log_wrong.nd rfl (Or.inl rfl) (C8.pe_mt m_last hr (by decide) (pv 0) (pa_cons (pv 3) pa_nil)))
      (pss_one (ps_if (PW.pt (pw_and (pt_cmpR op_isN (pe_slot T.scl T.sl_value (pe_ix (r := rIxL K) ix_list (pe_fld (pv 0) rfl) (pv 5) (fun _ _ => rfl))) pe_non (nomark _)) (pw_and1 (pt_cmpR op_lt (pv 5) (pe_dget hu (pe_fld (pv 0) rfl) (pv 1) (fun _ _ => rfl)) (nomark _))))) (pss_one (ps_expr (pe_bm PySem.F.plainAttrs_list PySem.F.slot_list_append PySem.F.type_list_append mt_append (pv 2) (pa_cons (pv 3) pa_nil)))) pss_nil))))
      (pss_one (ps_ret (pv 2))))), ?_⟩
    obtain ⟨s, hs⟩ : ∃ s, S.pl r = some s := by
      cases e : S.pl r with
      | none => exact absurd e hp
      | some s => exact ⟨s, rfl⟩
    refine ⟨Nat.zero_le _, fun D nD => ?_⟩
    have rD := h.free nD
    have s1 := same_new (o := .lst []) nD
    have h1 := h.same s1
    have hD1 : upd H D (.lst []) D = some (.lst []) := upd_same
    generalize upd H D (.lst []) = H1 at s1 h1 hD1
    dsimp only [gName]
    refine st_seq ?_
    refine ⟨_, rfl, p, _, _, rfl, h1.self, by rfl, _, rfl, p, S, ρ, m, L, r, rfl, h1, hp, fun l0 as es H2 s2 n0 hl0 hT hes hso hesl => ?_⟩
    have hD2 := s2 _ _ hD1
    have h2 := h1.same s2
    have l0D : l0 ≠ D := fun z => by rw [z, hD1] at n0; cases n0
    have hal := hT.len
    rw [List.length_map] at hal
    have ntD : NoTup (fun a => a = D) H2 := fun a ys e z => by
      have z : a = D := z
      rw [z, hD2] at e
      cases e
    have at_h : ∀ {H3 : Hp}, Exc (fun a => a = D) H2 H3 → LogAt A H3 p S ρ m L := fun e => h2.exc e ntD fun a z => by
      have z : a = D := z
      rw [z]
      exact rD
    refine ⟨l0, rfl, ⟨_, SqL.of hl0⟩, for_list (K := K) (a := l0) (xs := as.map V.ref) (fun i σ H3 => ∃ (x y z : Option V) (ks : List Str), σ = [some (.ref p), some (.int r), some (.ref D), x, y, z] ∧ Exc (fun a => a = D) H2 H3 ∧ H3 D = some (.lst (ks.map V.str)) ∧ ks.length ≤ i ∧ ∀ k, k ∈ ks ↔ (∃ v, (k, v) ∈ es.take i) ∧ wrong S r k)
      ⟨none, none, none, [], rfl, Exc.refl _ _, hD2, Nat.le_refl _, fun k => ⟨fun z => (by cases z), fun z => (by obtain ⟨⟨v, z⟩, _⟩ := z; cases z)⟩⟩ (fun i σ H3 _ ⟨_, _, _, _, _, e3, _⟩ => SqL.of (e3 _ _ hl0 l0D)) ?_ ?_⟩
    · rintro i x σ H3 hi ⟨x1, x2, x3, ks, rfl, e3, hD3, hks, hmem⟩
      obtain ⟨a, ha, rfl⟩ := refs_ix hi
      obtain ⟨xs, hxs, hat⟩ := TupsAt.get hT ha
      rw [List.getElem?_map] at hxs
      cases he : es[i]? with
      | none => rw [he] at hxs; cases hxs
      | some kv =>
        rw [he] at hxs
        cases hxs
        obtain ⟨k, v⟩ := kv
        have hat3 := e3 _ _ hat (ntD _ _ hat)
        refine gpair (x := .str k) (y := .int v) hat3 ?_
        have h3 := at_h e3
        have htk : S.tb r k ≠ none := (hes k).mp ⟨v, List.mem_of_getElem? he⟩
        refine ⟨_, rfl, p, _, _, rfl, h3.self, by rfl, _, rfl, p, S, ρ, m, L, k, rfl, h3, by omega, htin k htk, fun j en H4 s4 hj hk hlast => ?_⟩
        have e4 := e3.trans (same_exc s4 _)
        have h4 := h3.same s4
        have hD4 := s4 _ _ hD3
        dsimp only [gName]
        have hw := wrong_iff hs htk hj hk hlast
        obtain ⟨xd, hx⟩ : ∃ xd, L.ea[j]? = some xd := ⟨_, List.getElem?_eq_getElem (by have := h4.eLen; have := (List.getElem?_eq_some_iff.mp hj).1; omega)⟩
        obtain ⟨en', hen', hsl⟩ := paired_at h4.ents hx
        rw [hj] at hen'
        cases hen'
        have ex : atI (L.ea.map fun x => V.ref x.1) (j : Int) = some (.ref xd.1) := atI_nat (by rw [List.getElem?_map, hx]; rfl)
        have gP := h4.gPL r
        rw [hs] at gP
        have c1 : Ans (tTest (tOp rIsN (tSlot A.CE 3 (tOp (rIxL K) (tFld K (tVar 0) "own_entries") (tVar 5))) (tC .non))) (((([some (.ref p), some (.int r), some (.ref D), x1, x2, x3] : L2.St).set 3 (some (.str k))).set 4 (some (.int v))).set 5 (some (.int (j : Int)))) H4 en.val.isNone := ans_isN (val_slot (val_ixL (K := K) (vE T h4 (val_var rfl)) (val_var rfl) (SqL.of h4.en) ex) hsl rfl) (by cases en.val <;> rfl)
        have c2 := ans_and2 c1 (ans_I0 (g := fun i j => decide (i < j)) (b := decide ((j : Int) < s)) (ta := tVar 5) (val_var rfl) (val_dget (vPL T h4 (val_var (i := 0) rfl)) (val_var (i := 1) rfl) gP) rfl)
        have tk : ∀ k', (∃ v', (k', v') ∈ es.take (i + 1)) ↔ (∃ v', (k', v') ∈ es.take i) ∨ k' = k := fun k' => by
          rw [take_snoc he]
          constructor
          · rintro ⟨v', z⟩
            rcases List.mem_append.mp z with z | z
            · exact .inl ⟨v', z⟩
            · have := List.mem_singleton.mp z
              cases this
              exact .inr rfl
          · rintro (⟨v', z⟩ | z)
            · exact ⟨v', List.mem_append_left _ z⟩
            · exact ⟨v, List.mem_append_right _ (List.mem_singleton.mpr (by rw [z]))⟩
        by_cases hc : (en.val.isNone && decide ((j : Int) < s)) = true
        · rw [hc] at c2
          refine st_yes c2 ?_
          rw [Bool.and_eq_true, Option.isNone_iff_eq_none, decide_eq_true_eq] at hc
          have hwk := hw.mpr hc
          refine ⟨_, rfl, .inl ⟨rfl, _, SqL.of hD4⟩, _, rfl, D, _, _, rfl, rfl, hD4, line_of (by rw [List.length_map]; have := (List.getElem?_eq_some_iff.mp he).1; omega), ?_⟩
          refine ⟨_, _, _, ks ++ [k], rfl, e4.at rfl, by rw [List.map_append]; exact upd_same, by rw [List.length_append]; show ks.length + 1 ≤ i + 1; omega, fun k' => ?_⟩
          rw [List.mem_append, hmem k', tk k', List.mem_singleton]
          constructor
          · rintro (z | z)
            · exact ⟨.inl z.1, z.2⟩
            · exact ⟨.inr z, by rw [z]; exact hwk⟩
          · rintro ⟨z | z, z2⟩
            · exact .inl ⟨z, z2⟩
            · exact .inr z
        · have hcf := Bool.eq_false_iff.mpr hc
          rw [hcf] at c2
          refine st_no c2 ?_
          have hwk : ¬ wrong S r k := fun z => hc (by
            have := hw.mp z
            rw [Bool.and_eq_true, Option.isNone_iff_eq_none, decide_eq_true_eq]
            exact this)
          refine ⟨_, _, _, ks, rfl, e4, hD4, by omega, fun k' => ?_⟩
          rw [hmem k', tk k']
          constructor
          · rintro z
            exact ⟨.inl z.1, z.2⟩
          · rintro ⟨z | z, z2⟩
            · exact ⟨z, z2⟩
            · rw [z] at z2
              exact absurd z2 hwk
    · rintro σ H3 ⟨x1, x2, x3, ks, rfl, e3, hD3, hks, hmem⟩
      rw [List.length_map] at hks hmem
      rw [hal, List.take_length] at hmem
      refine ⟨_, rfl, q D ks H3 (fun a o e => e3 _ _ (s2 _ _ (s1 a o e)) fun z => ?_) nD hD3 (fun k => ?_) (fun k hk => ?_) (by omega)⟩
      · rw [z, nD] at e
        cases e
      · rw [hmem k]
        constructor
        · exact fun z => z.2
        · intro z
          obtain ⟨s', i', e', z1, z2, z3⟩ := z
          exact ⟨(hes k).mpr z2, ⟨s', i', e', z1, z2, z3⟩⟩
      · obtain ⟨⟨v, hv⟩, _⟩ := (hmem k).mp hk
        exact hso _ hv
end
end K15

set_option Elab.async false
set_option linter.all false
set_option autoImplicit false
set_option maxRecDepth 100000
set_option maxHeartbeats 4000000
namespace K15
open PySem L2
/-- a number or a text -/
def atomV : V → Bool
  | .int _ => true
  | .str _ => true
  | _ => false
abbrev kLT : List Value := [.type "list", .type "tuple"]
theorem ty_atom {K : PySem.W.Frag} {H : Hp} {x : V} (h : atomV x = true) : ∃ t, TyX K H x t ∧ PySem.W.kitAny K t kLT = some false := by
  cases x <;> first | (cases h; done) | skip
  · exact ⟨_, .base (.int _), kitAny_cons (b := false) (kit_ty (by decide +kernel)) (fun _ => kitAny_cons (b := false) (kit_ty (by decide +kernel)) (fun _ => kitAny_nil) (fun z => by cases z)) (fun z => by cases z)⟩
  · exact ⟨_, .base (.str _), kitAny_cons (b := false) (kit_ty (by decide +kernel)) (fun _ => kitAny_cons (b := false) (kit_ty (by decide +kernel)) (fun _ => kitAny_nil) (fun z => by cases z)) (fun z => by cases z)⟩
theorem ty_list {K : PySem.W.Frag} {H : Hp} {a : Addr} {xs : List V} (h : H a = some (.lst xs)) : TyX K H (.ref a) (.type "list") ∧ PySem.W.kitAny K (.type "list") kLT = some true :=
  ⟨.base (.lst h), kitAny_cons (b := true) (kit_ty (by decide +kernel)) (fun z => by cases z) (fun _ => rfl)⟩
theorem ty_tup {K : PySem.W.Frag} {H : Hp} {a : Addr} {xs : List V} (h : H a = some (.tup xs)) : TyX K H (.ref a) (.type "tuple") ∧ PySem.W.kitAny K (.type "tuple") kLT = some true :=
  ⟨.base (.tup h), kitAny_cons (b := false) (kit_ty (by decide +kernel)) (fun _ => kitAny_cons (b := true) (kit_ty (by decide +kernel)) (fun z => by cases z) (fun _ => rfl)) (fun z => by cases z)⟩
theorem cls_LT : Paired ClsV [.ty "list", .ty "tuple"] kLT := .cons (.ty _) (.cons (.ty _) .nil)
abbrev s_as_tuples : Stmt := top 9
abbrev N_as_tuples : List Str := ["thing", "part"]
abbrev P_as_tuples : List Str := ["thing"]
theorem sc_as_tuples : FnScope N_as_tuples P_as_tuples (C8.fnScope s_as_tuples) := C8.fnScope_by (by decide +kernel)
def spNo : Sp := fun _ _ _ _ => False
def spAt0 : Sp := fun vs H Q _ => ∃ x, vs = [x] ∧ atomV x = true ∧ ∀ H', Same H H' → Q x H'
def spAt1 : Sp := fun vs H Q _ => ∃ (a : Addr) (xs : List V), vs = [.ref a] ∧ H a = some (.tup xs) ∧ xs.all atomV = true ∧ xs.length ≤ 1000 ∧ ∀ (p : Addr) (H' : Hp), Same H H' → H' p = some (.tup xs) → Q (.ref p) H'
def spAt2 : Sp := fun vs H Q _ => ∃ (a : Addr) (as : List Addr) (xss : List (List V)), vs = [.ref a] ∧ (H a = some (.lst (as.map V.ref)) ∨ H a = some (.tup (as.map V.ref))) ∧ TupsAt H as xss ∧ (∀ xs, xs ∈ xss → xs.all atomV = true ∧ xs.length ≤ 1000) ∧ xss.length ≤ 1000 ∧
  ∀ (p : Addr) (as' : List Addr) (H' : Hp), Same H H' → H' p = some (.tup (as'.map V.ref)) → TupsAt H' as' xss → Q (.ref p) H'
section
variable {P : Program} {w : World} {K : PySem.W.Frag} {mg : Str → Option Value} {base : Heap} {A : Adr} {f : Addr} {fd : FuncData}
theorem at_no (F : C8.Def K mg "as_tuples" s_as_tuples f fd) (b : Binds K fd P_as_tuples []) : C8.Cal P w K mg base 0 "as_tuples" spNo [] :=
  ⟨f, fd, P_as_tuples, [], ⟨fun _ _ _ _ h => h.elim, fun _ _ _ _ _ _ _ _ _ _ _ _ _ h => h.elim⟩, F.mgf, F.kp, b, .nil⟩
theorem at0_ok (T : Txt K mg A) (F : C8.Def K mg "as_tuples" s_as_tuples f fd) (b : Binds K fd P_as_tuples []) (c_as_tuples : C8.Cal P w K mg base 0 "as_tuples" spNo []) : C8.Cal P w K mg base 1 "as_tuples" spAt0 [] := by
  refine C8.cal0 F b .nil sc_as_tuples (fun vs H Q E h => ?_) (fun cdv A outer s H vs Q E hr h => ?_)
  · obtain ⟨x, rfl, _⟩ := h
    rfl
  · obtain ⟨x, rfl, hx, q⟩ := h
    have hu := hu_of hr
    refine ⟨_, (pss_one (ps_ret (pe_ifExp (pt_val (pe_callB (r := rIsiT K) call_isiT (by rfl) T.b_isinstance (by decide +kernel) (pa_cons (pv 0) (pa_cons (pe_tup (pa_cons (pe_bltn (v := .ty "list") (by rfl) T.b_list (by decide +kernel) rfl) (pa_cons (pe_bltn (v := .ty "tuple") (by rfl) T.b_tuple (by decide +kernel) rfl) pa_nil))) pa_nil)))) (pe_callTy call_tuple_of (by rfl) T.b_tuple (by decide +kernel) (pa_cons (pe_lc (own := [("part", 1)]) (g := (gName 1)) (by rfl) sc_as_tuples.nd  (pi_tup (pv 0)) (blkOk_by (own := [("part", 1)]) (N := N_as_tuples) (sc := C8.fnScope s_as_tuples) (by decide +kernel)) (fun _ _ _ _ _ => (pg_name (i := 1) sc_as_tuples.nd rfl (Or.inl rfl))) (fun _ _ _ _ _ => pts_nil) (fun _ _ _ _ _ => (C8.pe_c c_as_tuples hr (by decide) rfl (pa_cons (pv 1) pa_nil)))) pa_nil)) (pv 0)))), ?_⟩
    obtain ⟨t, ht, hk⟩ := ty_atom (K := K) (H := H) hx
    refine ⟨_, rfl, by show 2 ≤ sizeLine; decide, fun tp np => ?_⟩
    have s1 := same_new (o := .tup [.ty "list", .ty "tuple"]) np
    obtain ⟨t, ht, hk⟩ := ty_atom (K := K) (H := upd H tp (.tup [.ty "list", .ty "tuple"])) hx
    refine ⟨x, tp, _, t, kLT, false, rfl, upd_same, cls_LT, ht, hk, _, rfl, iteF ?_⟩
    exact ⟨_, rfl, q _ s1⟩
theorem at1_ok (T : Txt K mg A) (F : C8.Def K mg "as_tuples" s_as_tuples f fd) (b : Binds K fd P_as_tuples []) (c_as_tuples : C8.Cal P w K mg base 1 "as_tuples" spAt0 []) : C8.Cal P w K mg base 2 "as_tuples" spAt1 [] := by
  refine C8.cal0 F b .nil sc_as_tuples (fun vs H Q E h => ?_) (fun cdv A outer s H vs Q E hr h => ?_)
  · obtain ⟨a, xs, rfl, _⟩ := h
    rfl
  · obtain ⟨a, xs, rfl, ha, hx, hl, q⟩ := h
    have hu := hu_of hr
    refine ⟨_, (pss_one (ps_ret (pe_ifExp (pt_val (pe_callB (r := rIsiT K) call_isiT (by rfl) T.b_isinstance (by decide +kernel) (pa_cons (pv 0) (pa_cons (pe_tup (pa_cons (pe_bltn (v := .ty "list") (by rfl) T.b_list (by decide +kernel) rfl) (pa_cons (pe_bltn (v := .ty "tuple") (by rfl) T.b_tuple (by decide +kernel) rfl) pa_nil))) pa_nil)))) (pe_callTy call_tuple_of (by rfl) T.b_tuple (by decide +kernel) (pa_cons (pe_lc (own := [("part", 1)]) (g := (gName 1)) (by rfl) sc_as_tuples.nd  (pi_tup (pv 0)) (blkOk_by (own := [("part", 1)]) (N := N_as_tuples) (sc := C8.fnScope s_as_tuples) (by decide +kernel)) (fun _ _ _ _ _ => (pg_name (i := 1) sc_as_tuples.nd rfl (Or.inl rfl))) (fun _ _ _ _ _ => pts_nil) (fun _ _ _ _ _ => (C8.pe_c c_as_tuples hr (by decide) rfl (pa_cons (pv 1) pa_nil)))) pa_nil)) (pv 0)))), ?_⟩
    refine ⟨_, rfl, by show 2 ≤ sizeLine; decide, fun tp np => ?_⟩
    have s1 := same_new (o := .tup [.ty "list", .ty "tuple"]) np
    obtain ⟨ht, hk⟩ := ty_tup (K := K) (s1 _ _ ha)
    refine ⟨.ref a, tp, _, _, kLT, true, rfl, upd_same, cls_LT, ht, hk, _, rfl, iteT ?_⟩
    refine ⟨_, rfl, a, rfl, ⟨_, SqT.of (s1 _ _ ha)⟩, fun D nD => ?_⟩
    refine lc_it (walk_tup (K := K) (a := a) (xs := xs)) (fun i H1 => Same H H1 ∧ H1 D = some (.lst (xs.take i))) ⟨s1.trans (same_new nD), upd_same⟩ (fun i H1 _ h => SqT.of (h.1 _ _ ha)) ?_ ?_
    · rintro i x H1 H2 hi ⟨s2, hD⟩ ⟨rfl, hx2⟩
      refine ⟨rfl, ?_⟩
      unfold tYes
      refine iteT ?_
      have hxa := List.all_eq_true.mp hx x (List.mem_of_getElem? hx2)
      refine ⟨_, rfl, x, rfl, hxa, fun H3 s3 => ⟨xs.take i, s3 _ _ hD, line_of (by rw [List.length_take]; omega), ?_, ?_⟩⟩
      · intro a' o e
        rw [upd_ne (fun z => by rw [z] at e; have := s1 _ _ e; rw [nD] at this; cases this)]
        exact s3 _ _ (s2 _ _ e)
      · rw [take_snoc hx2]
        exact upd_same
    · rintro H1 ⟨s2, hD⟩
      rw [List.take_length] at hD
      refine ⟨D, _, rfl, .inl ⟨SqL.of hD, fun k nk => ?_⟩⟩
      exact q k _ (s2.trans (same_new nk)) upd_same
theorem at2_ok (T : Txt K mg A) (F : C8.Def K mg "as_tuples" s_as_tuples f fd) (b : Binds K fd P_as_tuples []) (c_as_tuples : C8.Cal P w K mg base 2 "as_tuples" spAt1 []) : C8.Cal P w K mg base 3 "as_tuples" spAt2 [] := by
  refine C8.cal0 F b .nil sc_as_tuples (fun vs H Q E h => ?_) (fun cdv A outer s H vs Q E hr h => ?_)
  · obtain ⟨a, as, xss, rfl, _⟩ := h
    rfl
  · obtain ⟨a, as, xss, rfl, ha, hT, hx, hl, q⟩ := h
    have hu := hu_of hr
    have hal := hT.len
    have step : ∀ (i : Nat) (x : V) (D : Addr) (H1 : Hp), H D = none → (as.map V.ref)[i]? = some x → (Same H H1 ∧ ∃ bs, H1 D = some (.lst (bs.map V.ref)) ∧ TupsAt H1 bs (xss.take i)) →
        spAt1 [x] H1 (fun y H4 => ∃ acc, H4 D = some (.lst acc) ∧ acc.length < sizeLine ∧ (Same H (upd H4 D (.lst (acc ++ [y]))) ∧ ∃ bs, upd H4 D (.lst (acc ++ [y])) D = some (.lst (bs.map V.ref)) ∧ TupsAt (upd H4 D (.lst (acc ++ [y]))) bs (xss.take (i + 1)))) C8.E0 := by
      rintro i x D H1 nD hi ⟨s1, bs, hD, hB⟩
      obtain ⟨a', ha', rfl⟩ := refs_ix hi
      obtain ⟨xs, hxs, hat⟩ := TupsAt.get hT ha'
      obtain ⟨h1, h2⟩ := hx xs (List.mem_of_getElem? hxs)
      have hil := (List.getElem?_eq_some_iff.mp hxs).1
      refine ⟨a', xs, rfl, s1 _ _ hat, h1, h2, fun p H4 s4 hp => ?_⟩
      have hD4 := s4 _ _ hD
      have nt : NoTup (fun a => a = D) H4 := fun a xs e z => by
        have z : a = D := z
        rw [z, hD4] at e
        cases e
      have e1 : Exc (fun a => a = D) H4 (upd H4 D (.lst (bs.map V.ref ++ [.ref p]))) := (Exc.refl _ H4).at rfl
      refine ⟨bs.map V.ref, hD4, line_of (by rw [List.length_map, hB.len, List.length_take]; omega), fun a o e => ?_, bs ++ [p], by rw [List.map_append]; exact upd_same, ?_⟩
      · rw [upd_ne (fun z => by rw [z, nD] at e; cases e)]
        exact s4 _ _ (s1 _ _ e)
      · rw [take_snoc hxs]
        exact TupsAt.snoc (TupsAt.exc (TupsAt.same hB s4) e1 nt) (e1 _ _ hp fun z => nt _ _ hp z)
    have nT : ∀ {D tp : Addr} {o : HO}, upd H tp o D = none → H D = none := fun {D tp o} e => by
      have : D ≠ tp := fun z => by rw [z, upd_same] at e; cases e
      rw [upd_ne this] at e
      exact e
    rcases ha with ha | ha
    · refine ⟨_, (pss_one (ps_ret (pe_ifExp (pt_val (pe_callB (r := rIsiT K) call_isiT (by rfl) T.b_isinstance (by decide +kernel) (pa_cons (pv 0) (pa_cons (pe_tup (pa_cons (pe_bltn (v := .ty "list") (by rfl) T.b_list (by decide +kernel) rfl) (pa_cons (pe_bltn (v := .ty "tuple") (by rfl) T.b_tuple (by decide +kernel) rfl) pa_nil))) pa_nil)))) (pe_callTy call_tuple_of (by rfl) T.b_tuple (by decide +kernel) (pa_cons (pe_lc (own := [("part", 1)]) (g := (gName 1)) (by rfl) sc_as_tuples.nd  (pi_list (pv 0)) (blkOk_by (own := [("part", 1)]) (N := N_as_tuples) (sc := C8.fnScope s_as_tuples) (by decide +kernel)) (fun _ _ _ _ _ => (pg_name (i := 1) sc_as_tuples.nd rfl (Or.inl rfl))) (fun _ _ _ _ _ => pts_nil) (fun _ _ _ _ _ => (C8.pe_c c_as_tuples hr (by decide) rfl (pa_cons (pv 1) pa_nil)))) pa_nil)) (pv 0)))), ?_⟩
      refine ⟨_, rfl, by show 2 ≤ sizeLine; decide, fun tp np => ?_⟩
      have s1 := same_new (o := .tup [.ty "list", .ty "tuple"]) np
      obtain ⟨ht, hk⟩ := ty_list (K := K) (s1 _ _ ha)
      refine ⟨.ref a, tp, _, _, kLT, true, rfl, upd_same, cls_LT, ht, hk, _, rfl, iteT ?_⟩
      refine ⟨_, rfl, a, rfl, ⟨_, SqL.of (s1 _ _ ha)⟩, fun D nD => ?_⟩
      refine lc_it (walk_list (K := K) (a := a) (xs := as.map V.ref)) (fun i H1 => Same H H1 ∧ ∃ bs, H1 D = some (.lst (bs.map V.ref)) ∧ TupsAt H1 bs (xss.take i)) ⟨s1.trans (same_new nD), [], upd_same, .nil⟩ (fun i H1 _ h => SqL.of (h.1 _ _ ha)) ?_ ?_
      · rintro i x H1 H2 hi hp ⟨rfl, hx2⟩
        refine ⟨rfl, ?_⟩
        unfold tYes
        refine iteT ?_
        exact ⟨_, rfl, step i x D _ (nT nD) hx2 hp⟩
      · rintro H1 ⟨s2, bs, hD, hB⟩
        rw [List.length_map, hal, List.take_length] at hB
        refine ⟨D, _, rfl, .inl ⟨SqL.of hD, fun k nk => ?_⟩⟩
        exact q k bs _ (s2.trans (same_new nk)) upd_same (TupsAt.same hB (same_new nk))
    · refine ⟨_, (pss_one (ps_ret (pe_ifExp (pt_val (pe_callB (r := rIsiT K) call_isiT (by rfl) T.b_isinstance (by decide +kernel) (pa_cons (pv 0) (pa_cons (pe_tup (pa_cons (pe_bltn (v := .ty "list") (by rfl) T.b_list (by decide +kernel) rfl) (pa_cons (pe_bltn (v := .ty "tuple") (by rfl) T.b_tuple (by decide +kernel) rfl) pa_nil))) pa_nil)))) (pe_callTy call_tuple_of (by rfl) T.b_tuple (by decide +kernel) (pa_cons (pe_lc (own := [("part", 1)]) (g := (gName 1)) (by rfl) sc_as_tuples.nd  (pi_tup (pv 0)) (blkOk_by (own := [("part", 1)]) (N := N_as_tuples) (sc := C8.fnScope s_as_tuples) (by decide +kernel)) (fun _ _ _ _ _ => (pg_name (i := 1) sc_as_tuples.nd rfl (Or.inl rfl))) (fun _ _ _ _ _ => pts_nil) (fun _ _ _ _ _ => (C8.pe_c c_as_tuples hr (by decide) rfl (pa_cons (pv 1) pa_nil)))) pa_nil)) (pv 0)))), ?_⟩
      refine ⟨_, rfl, by show 2 ≤ sizeLine; decide, fun tp np => ?_⟩
      have s1 := same_new (o := .tup [.ty "list", .ty "tuple"]) np
      obtain ⟨ht, hk⟩ := ty_tup (K := K) (s1 _ _ ha)
      refine ⟨.ref a, tp, _, _, kLT, true, rfl, upd_same, cls_LT, ht, hk, _, rfl, iteT ?_⟩
      refine ⟨_, rfl, a, rfl, ⟨_, SqT.of (s1 _ _ ha)⟩, fun D nD => ?_⟩
      refine lc_it (walk_tup (K := K) (a := a) (xs := as.map V.ref)) (fun i H1 => Same H H1 ∧ ∃ bs, H1 D = some (.lst (bs.map V.ref)) ∧ TupsAt H1 bs (xss.take i)) ⟨s1.trans (same_new nD), [], upd_same, .nil⟩ (fun i H1 _ h => SqT.of (h.1 _ _ ha)) ?_ ?_
      · rintro i x H1 H2 hi hp ⟨rfl, hx2⟩
        refine ⟨rfl, ?_⟩
        unfold tYes
        refine iteT ?_
        exact ⟨_, rfl, step i x D _ (nT nD) hx2 hp⟩
      · rintro H1 ⟨s2, bs, hD, hB⟩
        rw [List.length_map, hal, List.take_length] at hB
        refine ⟨D, _, rfl, .inl ⟨SqL.of hD, fun k nk => ?_⟩⟩
        exact q k bs _ (s2.trans (same_new nk)) upd_same (TupsAt.same hB (same_new nk))
end
end K15

set_option Elab.async false
set_option linter.all false
set_option autoImplicit false
set_option maxRecDepth 100000
set_option maxHeartbeats 4000000
namespace K15
open PySem L2
theorem gd_atoms (g : Bool × Int) : (gdV g).all atomV = true ∧ (gdV g).length ≤ 1000 := by
  obtain ⟨b, k⟩ := g
  cases b <;> exact ⟨rfl, by show 2 ≤ 1000; decide⟩
section
variable {P : Program} {w : World} {K : PySem.W.Frag} {mg : Str → Option Value} {base : Heap} {A : Adr} {f : Addr} {fd : FuncData}
abbrev s_Log___init__ : Stmt := inClass (top 17) 0
abbrev N_Log___init__ : List Str := ["self", "hold", "guards"]
abbrev P_Log___init__ : List Str := ["self", "hold", "guards"]
theorem sc_Log___init__ : FnScope N_Log___init__ P_Log___init__ (C8.fnScope s_Log___init__) := C8.fnScope_by (by decide +kernel)
def spLog (A : Adr) : Sp := fun vs H Q _ => ∃ (p dx : Addr) (hold : Int) (g : Addr) (gas : List Addr) (gs : List (Bool × Int)), vs = [.ref p, .int hold, .ref g] ∧ H p = some (.ins A.CL dx []) ∧ (H g = some (.lst (gas.map V.ref)) ∨ H g = some (.tup (gas.map V.ref))) ∧ TupsAt H gas (gs.map gdV) ∧ gs.length ≤ 1000 ∧ (∀ n, (true, n) ∈ gs → 0 ≤ n) ∧
  ∀ (H' : Hp) (ρ : Addr → Option Role) (L : Lay), LogAt A H' p (init hold gs) ρ 0 L → (∀ a o, H a = some o → a ≠ p → H' a = some o) → (∀ a, ρ a ≠ none → a = p ∨ H a = none) → Q .non H'
theorem log_ok {CL : Addr} (T : Txt K mg A) (hCL : A.CL = CL) (M : Mk K CL f) (hm : mg "Log" = some (.ref CL)) (F : C8.Fun K "__init__" "Log.__init__" s_Log___init__ f fd) (b : Binds K fd P_Log___init__ []) (c_as_tuples : C8.Cal P w K mg base 3 "as_tuples" spAt2 []) : C8.Mak P w K mg base 4 "Log" CL (spLog A) [] := by
  subst hCL
  refine C8.mak0 M hm F b .nil sc_Log___init__ (fun vs H Q E h => ?_) (fun cdv A' outer s H vs Q E hr h => ?_)
  · obtain ⟨p, dx, hold, g, gas, gs, rfl, _⟩ := h
    rfl
  · obtain ⟨p, dx, hold, g, gas, gs, rfl, hp, hg, hT, hgl, hgok, q⟩ := h
    refine ⟨_, (pss_cons (ps_fld (pv 0) (pv 1) rfl)
      (pss_cons (ps_fld (pv 0) (C8.pe_c c_as_tuples hr (by decide) rfl (pa_cons (pv 2) pa_nil)) rfl)
      (pss_cons (ps_fld (pv 0) (pe_lst pa_nil) rfl)
      (pss_cons (ps_fld (pv 0) pe_dnewK rfl)
      (pss_cons (ps_fld (pv 0) pe_dnewK rfl)
      (pss_cons (ps_fld (pv 0) (pe_lst pa_nil) rfl)
      (pss_one (ps_fld (pv 0) pe_int rfl)))))))), ?_⟩
    refine ⟨_, rfl, _, rfl, p, A.CL, dx, _, rfl, hp, T.cl, T.n_hold, Nat.le_of_ble_eq_true rfl, ?_⟩
    have ntP : ∀ {Hk : Hp} {fs : List (Str × V)}, Hk p = some (.ins A.CL dx fs) → NoTup (fun a => a = p) Hk := fun hk a xs e z => by
      have z : a = p := z
      rw [z, hk] at e
      cases e
    have gp : g ≠ p := fun z => by
      rw [z, hp] at hg
      rcases hg with hg | hg <;> cases hg
    have e1 : Exc (fun a => a = p) H (upd H p (.ins A.CL dx (putF "own_hold" (.int hold) []))) := (Exc.refl _ H).at rfl
    have hT1 := TupsAt.exc hT e1 (ntP hp)
    refine ⟨_, rfl, g, gas, _, rfl, ?_, hT1, fun xs hx => ?_, by rw [List.length_map]; exact hgl, fun G ga H2 s2 hG hGT => ?_⟩
    · rcases hg with hg | hg
      · exact .inl (e1 _ _ hg gp)
      · exact .inr (e1 _ _ hg gp)
    · obtain ⟨g', _, rfl⟩ := List.mem_map.mp hx
      exact gd_atoms g'
    have hp2 := s2 _ _ (upd_same (H := H) (a := p) (o := .ins A.CL dx (putF "own_hold" (.int hold) [])))
    refine ⟨_, rfl, p, A.CL, dx, _, rfl, hp2, T.cl, T.n_guards, Nat.le_of_ble_eq_true rfl, ?_⟩
    have e3 : Exc (fun a => a = p) H2 (upd H2 p (.ins A.CL dx (putF "own_guards" (.ref G) (putF "own_hold" (.int hold) [])))) := (Exc.refl _ H2).at rfl
    have Gp : G ≠ p := fun z => ntP hp2 _ _ hG z
    have hG3 := e3 _ _ hG Gp
    have hGT3 := TupsAt.exc hGT e3 (ntP hp2)
    have hp3 : upd H2 p (.ins A.CL dx (putF "own_guards" (.ref G) (putF "own_hold" (.int hold) []))) p = some _ := upd_same
    have E3 := (e1.trans (same_exc s2 _)).trans e3
    generalize upd H2 p (.ins A.CL dx (putF "own_guards" (.ref G) (putF "own_hold" (.int hold) []))) = H3 at e3 hG3 hGT3 hp3 E3
    -- an object that is made and stored
    have carry : ∀ {Hk : Hp} {x n : Addr} {ox o o2 : HO}, Hk x = some ox → Hk n = none → x ≠ p → upd (upd Hk n o) p o2 x = some ox := fun hx hn hxp => by
      rw [upd_ne hxp, upd_ne (ne_of_none hx hn)]
      exact hx
    have carryT : ∀ {Hk : Hp} {n : Addr} {o o2 : HO} {fs : List (Str × V)} {as : List Addr} {xss : List (List V)}, TupsAt Hk as xss → Hk n = none → Hk p = some (.ins A.CL dx fs) → TupsAt (upd (upd Hk n o) p o2) as xss := fun {Hk n o o2 fs as xss} h hn hk => h.imp fun a xs e => carry e hn fun z => ntP hk a xs e z
    have Ec : ∀ {Hk : Hp} {n : Addr} {o o2 : HO}, Exc (fun a => a = p) H Hk → Hk n = none → Exc (fun a => a = p) H (upd (upd Hk n o) p o2) := fun e hn => (e.new hn).at rfl
    have n0 : ∀ {Hk : Hp} {n : Addr} {fs : List (Str × V)}, Exc (fun a => a = p) H Hk → Hk p = some (.ins A.CL dx fs) → Hk n = none → n ≠ p ∧ H n = none := fun {Hk n fs} e hk hn => by
      have np : n ≠ p := fun z => by rw [z, hk] at hn; cases hn
      exact ⟨np, e.none hn np⟩
    refine ⟨Nat.zero_le _, fun E nE => ⟨_, rfl, p, A.CL, dx, _, rfl, by rw [upd_ne (n0 E3 hp3 nE).1.symm]; exact hp3, T.cl, T.n_entries, Nat.le_of_ble_eq_true rfl, ?_⟩⟩
    have iE := n0 E3 hp3 nE
    have hG4 := carry (o := .lst []) (o2 := .ins A.CL dx (putF "own_entries" (.ref E) (putF "own_guards" (.ref G) (putF "own_hold" (.int hold) [])))) hG3 nE Gp
    have hGT4 := carryT (o := .lst []) (o2 := .ins A.CL dx (putF "own_entries" (.ref E) (putF "own_guards" (.ref G) (putF "own_hold" (.int hold) [])))) hGT3 nE hp3
    have E4 := Ec (o := .lst []) (o2 := .ins A.CL dx (putF "own_entries" (.ref E) (putF "own_guards" (.ref G) (putF "own_hold" (.int hold) [])))) E3 nE
    have hE4 : upd (upd H3 E (.lst [])) p (.ins A.CL dx (putF "own_entries" (.ref E) (putF "own_guards" (.ref G) (putF "own_hold" (.int hold) [])))) E = some (.lst []) := by rw [upd_ne iE.1]; exact upd_same
    have hp4 : upd (upd H3 E (.lst [])) p (.ins A.CL dx (putF "own_entries" (.ref E) (putF "own_guards" (.ref G) (putF "own_hold" (.int hold) [])))) p = some _ := upd_same
    generalize upd (upd H3 E (.lst [])) p (.ins A.CL dx (putF "own_entries" (.ref E) (putF "own_guards" (.ref G) (putF "own_hold" (.int hold) [])))) = H4 at hG4 hGT4 E4 hE4 hp4
    intro PL nPL
    have iPL := n0 E4 hp4 nPL
    refine ⟨_, rfl, p, A.CL, dx, _, rfl, by rw [upd_ne iPL.1.symm]; exact hp4, T.cl, T.n_places, Nat.le_of_ble_eq_true rfl, ?_⟩
    generalize hf5 : putF "own_places" (.ref PL) (putF "own_entries" (.ref E) (putF "own_guards" (.ref G) (putF "own_hold" (.int hold) []))) = fs5
    have hG5 := carry (o := .dK []) (o2 := .ins A.CL dx fs5) hG4 nPL Gp
    have hGT5 := carryT (o := .dK []) (o2 := .ins A.CL dx fs5) hGT4 nPL hp4
    have E5 := Ec (o := .dK []) (o2 := .ins A.CL dx fs5) E4 nPL
    have hE5 := carry (o := .dK []) (o2 := .ins A.CL dx fs5) hE4 nPL iE.1
    have hPL5 : upd (upd H4 PL (.dK [])) p (.ins A.CL dx fs5) PL = some (.dK []) := by rw [upd_ne iPL.1]; exact upd_same
    have hp5 : upd (upd H4 PL (.dK [])) p (.ins A.CL dx fs5) p = some _ := upd_same
    generalize upd (upd H4 PL (.dK [])) p (.ins A.CL dx fs5) = H5 at hG5 hGT5 E5 hE5 hPL5 hp5
    intro TB nTB
    have iTB := n0 E5 hp5 nTB
    refine ⟨_, rfl, p, A.CL, dx, _, rfl, by rw [upd_ne iTB.1.symm]; exact hp5, T.cl, T.n_tables, by rw [← hf5]; exact Nat.le_of_ble_eq_true rfl, ?_⟩
    generalize hf6 : putF "own_tables" (.ref TB) fs5 = fs6
    have hG6 := carry (o := .dK []) (o2 := .ins A.CL dx fs6) hG5 nTB Gp
    have hGT6 := carryT (o := .dK []) (o2 := .ins A.CL dx fs6) hGT5 nTB hp5
    have E6 := Ec (o := .dK []) (o2 := .ins A.CL dx fs6) E5 nTB
    have hE6 := carry (o := .dK []) (o2 := .ins A.CL dx fs6) hE5 nTB iE.1
    have hPL6 := carry (o := .dK []) (o2 := .ins A.CL dx fs6) hPL5 nTB iPL.1
    have hTB6 : upd (upd H5 TB (.dK [])) p (.ins A.CL dx fs6) TB = some (.dK []) := by rw [upd_ne iTB.1]; exact upd_same
    have hp6 : upd (upd H5 TB (.dK [])) p (.ins A.CL dx fs6) p = some _ := upd_same
    have PLTB : PL ≠ TB := ne_of_none hPL5 nTB
    generalize upd (upd H5 TB (.dK [])) p (.ins A.CL dx fs6) = H6 at hG6 hGT6 E6 hE6 hPL6 hTB6 hp6
    refine ⟨Nat.zero_le _, fun CP nCP => ?_⟩
    have iCP := n0 E6 hp6 nCP
    refine ⟨_, rfl, p, A.CL, dx, _, rfl, by rw [upd_ne iCP.1.symm]; exact hp6, T.cl, T.n_copies, by rw [← hf6, ← hf5]; exact Nat.le_of_ble_eq_true rfl, ?_⟩
    generalize hf7 : putF "own_copies" (.ref CP) fs6 = fs7
    have hG7 := carry (o := .lst []) (o2 := .ins A.CL dx fs7) hG6 nCP Gp
    have hGT7 := carryT (o := .lst []) (o2 := .ins A.CL dx fs7) hGT6 nCP hp6
    have E7 := Ec (o := .lst []) (o2 := .ins A.CL dx fs7) E6 nCP
    have hE7 := carry (o := .lst []) (o2 := .ins A.CL dx fs7) hE6 nCP iE.1
    have hPL7 := carry (o := .lst []) (o2 := .ins A.CL dx fs7) hPL6 nCP iPL.1
    have hTB7 := carry (o := .lst []) (o2 := .ins A.CL dx fs7) hTB6 nCP iTB.1
    have hCP7 : upd (upd H6 CP (.lst [])) p (.ins A.CL dx fs7) CP = some (.lst []) := by rw [upd_ne iCP.1]; exact upd_same
    have hp7 : upd (upd H6 CP (.lst [])) p (.ins A.CL dx fs7) p = some _ := upd_same
    have ECP : E ≠ CP := ne_of_none hE6 nCP
    generalize upd (upd H6 CP (.lst [])) p (.ins A.CL dx fs7) = H7 at hG7 hGT7 E7 hE7 hPL7 hTB7 hCP7 hp7
    refine ⟨_, rfl, p, A.CL, dx, _, rfl, hp7, T.cl, T.n_time, by rw [← hf7, ← hf6, ← hf5]; exact Nat.le_of_ble_eq_true rfl, ?_⟩
    have hf8 : putF "own_time" (.int 0) fs7 = flds (init hold gs) ⟨dx, E, PL, TB, CP, G, [], fun _ => none, [], ga⟩ := by
      rw [← hf7, ← hf6, ← hf5]
      rfl
    rw [hf8]
    have ePL : E ≠ PL := fun z => by rw [z, hPL7] at hE7; cases hE7
    have eTB : E ≠ TB := fun z => by rw [z, hTB7] at hE7; cases hE7
    have cPL : CP ≠ PL := fun z => by rw [z, hPL7] at hCP7; cases hCP7
    have cTB : CP ≠ TB := fun z => by rw [z, hTB7] at hCP7; cases hCP7
    have k8 : ∀ {x : Addr} {o : HO}, H7 x = some o → x ≠ p → upd H7 p (.ins A.CL dx (flds (init hold gs) ⟨dx, E, PL, TB, CP, G, [], fun _ => none, [], ga⟩)) x = some o := fun h n => by rw [upd_ne n]; exact h
    refine q _ (fun a => if a = p then some .log else if a = E then some .ents else if a = PL then some .pls else if a = TB then some .tbs else if a = CP then some .cps else none) ⟨dx, E, PL, TB, CP, G, [], fun _ => none, [], ga⟩
      ⟨upd_same, k8 hG7 Gp, hGT7.imp fun a xs e => k8 e fun z => ntP hp7 a xs e z, k8 hE7 iE.1, .nil, ⟨[], k8 hPL7 iPL.1, DI.nil, Nat.le_refl _⟩, ⟨[], k8 hTB7 iTB.1, DI.nil, Nat.le_refl _⟩, fun r a e => (by cases e), fun _ => rfl, k8 hCP7 iCP.1, .nil, fun e he => (by cases he), ⟨Nat.le_refl _, Nat.le_refl _⟩, if_pos rfl, ?_, ?_, ?_, ?_, fun i x e => (by simp at e), fun r a e => (by cases e), fun i x e => (by simp at e), fun a ha => ?_, hgok⟩ (fun a o e n => k8 (E7 a o e n) n) (fun a ha => ?_)
    · show (if E = p then _ else _) = _
      rw [if_neg iE.1, if_pos rfl]
    · show (if PL = p then _ else _) = _
      rw [if_neg iPL.1, if_neg ePL.symm, if_pos rfl]
    · show (if TB = p then _ else _) = _
      rw [if_neg iTB.1, if_neg eTB.symm, if_neg PLTB.symm, if_pos rfl]
    · show (if CP = p then _ else _) = _
      rw [if_neg iCP.1, if_neg ECP.symm, if_neg cPL, if_neg cTB, if_pos rfl]
    · by_cases h1 : a = p
      · rw [h1]; exact ⟨_, upd_same, fun xs z => by cases z⟩
      by_cases h2 : a = E
      · rw [h2]; exact ⟨_, k8 hE7 iE.1, fun xs z => by cases z⟩
      by_cases h3 : a = PL
      · rw [h3]; exact ⟨_, k8 hPL7 iPL.1, fun xs z => by cases z⟩
      by_cases h4 : a = TB
      · rw [h4]; exact ⟨_, k8 hTB7 iTB.1, fun xs z => by cases z⟩
      by_cases h5 : a = CP
      · rw [h5]; exact ⟨_, k8 hCP7 iCP.1, fun xs z => by cases z⟩
      exact absurd (by rw [if_neg h1, if_neg h2, if_neg h3, if_neg h4, if_neg h5]) ha
    · by_cases h1 : a = p
      · exact .inl h1
      right
      by_cases h2 : a = E
      · rw [h2]; exact iE.2
      by_cases h3 : a = PL
      · rw [h3]; exact iPL.2
      by_cases h4 : a = TB
      · rw [h4]; exact iTB.2
      by_cases h5 : a = CP
      · rw [h5]; exact iCP.2
      exact absurd (by rw [if_neg h1, if_neg h2, if_neg h3, if_neg h4, if_neg h5]) ha
end
end K15

set_option Elab.async false
set_option linter.all false
set_option autoImplicit false
set_option maxRecDepth 100000
set_option maxHeartbeats 4000000
namespace K15
open PySem L2
theorem walk_enumT {K : PySem.W.Frag} {a : Addr} {xs : List V} : Walk (K15R.ItU K a) xs.length (fun H => SqT K H a xs) (YPair (fun i => some (.int (i : Nat))) (fun i => xs[i]?)) := by
  refine ⟨fun i _ hi q => ⟨xs, xs[i], q, by simp [hi]⟩, fun _ q => ⟨xs, q, rfl⟩, fun i H v H' _ q y => ?_⟩
  obtain ⟨T, x, h1, h2, h3, h4⟩ := y
  exact ⟨T, .int (i : Nat), x, h1, h2, h3, rfl, h4 xs q⟩
theorem while_a {c : TT} {tb : TS} {D : Ends} {σ : L2.St} {H : Hp} (Pv : Nat → L2.St → Hp → Prop) (h0 : ∃ m, Pv m σ H)
    (hs : ∀ m σ H, Pv m σ H → (Ans c σ H true ∧ tb { D with nx := fun σ' H' => ∃ m', m' < m ∧ Pv m' σ' H', ct := fun σ' H' => ∃ m', m' < m ∧ Pv m' σ' H', bk := D.nx } σ H) ∨ (Ans c σ H false ∧ D.nx σ H)) : tWhile c tb D σ H := by
  refine ⟨Pv, h0, fun m σ H p => ?_⟩
  rcases hs m σ H p with ⟨ha, k⟩ | ⟨ha, k⟩
  · exact ha _ (iteT ⟨_, fun σ' H' h => h, k⟩)
  · exact ha _ (iteF k)
/-- a log at work: all else stays -/
structure RunAt (H0 : Hp) (ρ0 : Addr → Option Role) (D : Addr) (H : Hp) (ρ : Addr → Option Role) : Prop where
  keep : ∀ a o, H0 a = some o → ρ0 a = none → a ≠ D → H a = some o
  new : ∀ a, ρ a ≠ none → ρ0 a ≠ none ∨ H0 a = none
  tk : ∃ o, H D = some o
theorem RunAt.tr {H0 H H' : Hp} {ρ0 ρ ρ' : Addr → Option Role} {D : Addr} (h : RunAt H0 ρ0 D H ρ) (hD : ρ D = none) (t : Tr H ρ H' ρ') : RunAt H0 ρ0 D H' ρ' := by
  refine ⟨fun a o e n nd => t.ex _ _ (h.keep a o e n nd) fun z => ?_, fun a z => ?_, ?_⟩
  · rcases h.new a z with q | q
    · exact q n
    · rw [e] at q; cases q
  · rcases t.new a z with q | q
    · exact h.new a q
    · cases e : H0 a with
      | none => exact .inr rfl
      | some o =>
        left
        intro n
        by_cases hd : a = D
        · obtain ⟨o', h1⟩ := h.tk
          rw [hd, h1] at q
          cases q
        · rw [h.keep a o e n hd] at q
          cases q
  · obtain ⟨o, h1⟩ := h.tk
    exact ⟨o, t.ex _ _ h1 fun z => z hD⟩
theorem RunAt.updD {H0 H : Hp} {ρ0 ρ : Addr → Option Role} {D : Addr} {o : HO} (h : RunAt H0 ρ0 D H ρ) : RunAt H0 ρ0 D (upd H D o) ρ :=
  ⟨fun a o e n nd => by rw [upd_ne nd]; exact h.keep a o e n nd, h.new, ⟨o, upd_same⟩⟩
def brV (pts : List Nat) : List (List V) := pts.zipIdx.map fun z => [.int (z.2 : Int), .int (z.1 : Int)]
theorem brV_at {pts : List Nat} {i q : Nat} (h : pts[i]? = some q) : (brV pts)[i]? = some [.int (i : Int), .int (q : Int)] := by
  unfold brV
  rw [List.getElem?_map, List.getElem?_zipIdx, h]
  simp
theorem brV_len (pts : List Nat) : (brV pts).length = pts.length := by
  unfold brV
  rw [List.length_map, List.length_zipIdx]
theorem pts_len : ∀ {es : List EvS} {ps : List Nat} {m : Nat}, PtsOk m es ps → ps.length = es.length + 1
  | _ :: es, _ :: ps, _, h => by
    have := pts_len (es := es) (ps := ps) h.2
    simp only [List.length_cons]
    omega
  | [], [_], _, _ => rfl
  | [], [], _, h => h.elim
  | _ :: _, [], _, h => h.elim
  | [], _ :: _ :: _, _, h => h.elim
theorem pts_at : ∀ {es : List EvS} {ps : List Nat} {W : K15.W} {i q : Nat}, PtsOk W.many es ps → ps[i]? = some q → q ≤ (wrun W (es.take i)).many
  | e :: es, p :: ps, W, 0, q, h, hq => by
    simp at hq
    subst hq
    exact h.1
  | e :: es, p :: ps, W, i + 1, q, h, hq => by
    rw [List.getElem?_cons_succ] at hq
    rw [List.take_succ_cons]
    refine pts_at (W := wstep W e) ?_ hq
    have : (wstep W e).many = W.many + (if isPut e = true then 1 else 0) := by cases e <;> rfl
    rw [this]
    exact h.2
  | [], [p], W, 0, q, h, hq => by
    simp at hq
    subst hq
    exact h
  | [], [p], W, i + 1, q, h, hq => by simp at hq
  | [], [], _, _, _, h, _ => h.elim
  | _ :: _, [], _, _, _, h, _ => h.elim
  | [], _ :: _ :: _, _, _, _, h, _ => h.elim
theorem drop_at {α : Type} {l : List α} {i : Nat} {x : α} (h : l[i]? = some x) : l.drop i = x :: l.drop (i + 1) := by
  have hl := (List.getElem?_eq_some_iff.mp h).1
  rw [List.drop_eq_getElem_cons hl]
  congr 1
  rw [List.getElem?_eq_getElem hl] at h
  exact Option.some.inj h
section
variable {P : Program} {w : World} {K : PySem.W.Frag} {mg : Str → Option Value} {base : Heap} {A : Adr} {f : Addr} {fd : FuncData}
abbrev s_run : Stmt := top 18
abbrev N_run : List Str := ["timetable", "hold", "sweeps", "guards", "log", "left", "time", "event", "point"]
abbrev P_run : List Str := ["timetable", "hold", "sweeps", "guards"]
theorem sc_run : FnScope N_run P_run (C8.fnScope s_run) := C8.fnScope_by (by decide +kernel)
/-- what a run is given -/
structure RunIn (H : Hp) (t br g : Addr) (as bas gas : List Addr) (es : List EvS) (pts : List Nat) (gs : List (Bool × Int)) : Prop where
  ht : H t = some (.tup (as.map V.ref))
  he : EvsAt H as es
  val : Valid W0 es
  ok : ∀ e, e ∈ es → evOk e
  len : es.length < 64
  hb : H br = some (.tup (bas.map V.ref))
  hp : TupsAt H bas (brV pts)
  pok : PtsOk 0 es pts
  hg : H g = some (.lst (gas.map V.ref)) ∨ H g = some (.tup (gas.map V.ref))
  hgs : TupsAt H gas (gs.map gdV)
  gl : gs.length ≤ 1000
  gok : ∀ n, (true, n) ∈ gs → 0 ≤ n
theorem ev_atoms (e : EvS) : (evV e).all atomV = true ∧ (evV e).length ≤ 1000 := by
  cases e <;> exact ⟨rfl, Nat.le_of_ble_eq_true rfl⟩
theorem br_atoms {pts : List Nat} {xs : List V} (h : xs ∈ brV pts) : xs.all atomV = true ∧ xs.length ≤ 1000 := by
  obtain ⟨z, _, rfl⟩ := List.mem_map.mp h
  exact ⟨rfl, by show 2 ≤ 1000; decide⟩
def spRun (A : Adr) : Sp := fun vs H Q _ => ∃ t br g as bas gas es pts gs, ∃ hold : Int, vs = [.ref t, .int hold, .ref br, .ref g] ∧ RunIn H t br g as bas gas es pts gs ∧
  ∀ (p : Addr) (ρ : Addr → Option Role) (L : Lay) (H' : Hp), Same H H' → LogAt A H' p (runE (init hold gs) es pts) ρ es.length L → WF (runE (init hold gs) es pts) (wrun W0 es) → Q (.ref p) H'
theorem run_ok (T : Txt K mg A) (F : C8.Def K mg "run" s_run f fd) (b : Binds K fd P_run []) (k_Log : C8.Mak P w K mg base 4 "Log" A.CL (spLog A) []) (c_as_tuples : C8.Cal P w K mg base 3 "as_tuples" spAt2 []) (m_sweep : C8.Met P w K mg base 4 A.CL "sweep" (spSweep A) []) (m_do : C8.Met P w K mg base 7 A.CL "do" (spDo A) []) :
    C8.Cal P w K mg base 8 "run" (spRun A) [] := by
  refine C8.cal0 F b .nil sc_run (fun vs H Q E h => ?_) (fun cdv A' outer s H vs Q E hr h => ?_)
  · obtain ⟨t, br, g, as, bas, gas, es, pts, gs, hold, rfl, _⟩ := h
    rfl
  · obtain ⟨t, br, g, as, bas, gas, es, pts, gs, hold, rfl, h, q⟩ := h
    have hu := hu_of hr
    refine ⟨_, (pss_cons (ps_par (i := 4) (j := 5) (by rfl) sc_run.nd rfl rfl (by decide) rfl rfl (pa_cons (C8.pe_mk k_Log hr (by decide) rfl (pa_cons (pv 1) (pa_cons (pv 3) pa_nil))) (pa_cons (pe_callTy call_list_of (by rfl) T.b_list (by decide +kernel) (pa_cons (C8.pe_c c_as_tuples hr (by decide) rfl (pa_cons (pv 2) pa_nil)) pa_nil)) pa_nil)) (by rfl))
      (pss_cons (ps_for PassesOwn.never rfl (K15R.pi_enumT (by rfl) T.b_enumerate (pa_cons (C8.pe_c c_as_tuples hr (by decide) rfl (pa_cons (pv 0) pa_nil)) pa_nil)) (pg_tup rfl (pgs_cons (pg_name (i := 6) sc_run.nd rfl (Or.inl rfl)) (pgs_cons (pg_name (i := 7) sc_run.nd rfl (Or.inl rfl)) pgs_nil))) (pss_cons (ps_while PassesOwn.never (PW.pt (pw_and (pt_cmpR op_gt (pe_callB (r := rLenQ K) call_len_seq (by rfl) T.b_len PySem.boot_len (pa_cons (pv 5) pa_nil)) pe_int (nomark _)) (pw_and1 (pt_cmpR op_eq (pe_ix (r := rIxT K) ix_tup (pe_ix (r := rIxL K) ix_list (pv 5) pe_int (fun _ _ => rfl)) pe_int (fun _ _ => rfl)) (pv 6) (nomark _))))) (pss_one (ps_expr (C8.pe_mt m_sweep hr (by decide) (pv 4) (pa_cons (pe_ix (r := rIxT K) ix_tup (pe_bm PySem.F.plainAttrs_list PySem.F.slot_list_pop PySem.F.type_list_pop mt_popAt (pv 5) (pa_cons pe_int pa_nil)) pe_int (fun _ _ => rfl)) pa_nil)))))
      (pss_one (ps_expr (C8.pe_mt m_do hr (by decide) (pv 4) (pa_cons (pv 7) pa_nil))))))
      (pss_cons (ps_for PassesOwn.never rfl (pi_list (pv 5)) (pg_tup rfl (pgs_cons (pg_name (i := 6) sc_run.nd rfl (Or.inl rfl)) (pgs_cons (pg_name (i := 8) sc_run.nd rfl (Or.inl rfl)) pgs_nil))) (pss_one (ps_expr (C8.pe_mt m_sweep hr (by decide) (pv 4) (pa_cons (pv 8) pa_nil)))))
      (pss_one (ps_ret (pv 4)))))), ?_⟩
    refine ⟨_, rfl, _, rfl, fun p dx np nd hne => ?_⟩
    have nd' : upd H dx (.own p) p = none := by rw [upd_ne hne.symm]; exact np
    have sX : Same H (upd (upd H dx (.own p)) p (.ins A.CL dx [])) := (same_new nd).trans (same_new nd')
    refine ⟨p, dx, hold, g, gas, gs, rfl, upd_same, ?_, TupsAt.same h.hgs sX, h.gl, h.gok, fun H1 ρ0 L0 hL k1 t1 => ⟨rfl, ?_⟩⟩
    · rcases h.hg with z | z
      · exact .inl (sX _ _ z)
      · exact .inr (sX _ _ z)
    have s1 : Same H H1 := fun a o e => k1 a o (sX a o e) (ne_of_none e np)
    have tg0 : ∀ a, ρ0 a ≠ none → H a = none := fun a z => by
      rcases t1 a z with e | e
      · rw [e]; exact np
      · cases hh : H a with
        | none => rfl
        | some o => rw [sX a o hh] at e; cases e
    refine ⟨_, rfl, br, bas, _, rfl, .inr (s1 _ _ h.hb), TupsAt.same h.hp s1, fun xs hx => br_atoms hx, ?_, fun T2 b2 H2 s2 hT2 hB2 => ?_⟩
    · rw [brV_len, pts_len h.pok]
      have := h.len
      omega
    refine ⟨T2, _, rfl, .inr (SqT.of hT2), fun D nD => ⟨_, _, rfl, ?_⟩⟩
    have s3 := same_new (o := .lst (b2.map V.ref)) nD
    have hL3 := (hL.same s2).same s3
    have rD := (hL.same s2).free nD
    have hB3 := TupsAt.same hB2 s3
    have hD3 : upd H2 D (.lst (b2.map V.ref)) D = some (.lst (b2.map V.ref)) := upd_same
    have S3 : Same H (upd H2 D (.lst (b2.map V.ref))) := (s1.trans s2).trans s3
    have nD0 : H D = none := by
      cases hh : H D with
      | none => rfl
      | some o => rw [s2 _ _ (s1 _ _ hh)] at nD; cases nD
    generalize upd H2 D (.lst (b2.map V.ref)) = H3 at s3 hL3 hB3 hD3 S3
    dsimp only
    refine st_seq ?_
    refine ⟨_, rfl, t, as, _, rfl, .inr (S3 _ _ h.ht), TupsAt.same h.he S3, fun xs hx => ?_, by rw [List.length_map]; have := h.len; omega, fun T1 a1 H4 s4 hT1 hE1 => ?_⟩
    · obtain ⟨e, _, rfl⟩ := List.mem_map.mp hx
      exact ev_atoms e
    have hL4 := hL3.same s4
    have hB4 := TupsAt.same hB3 s4
    have hD4 := s4 _ _ hD3
    have S4 := S3.trans s4
    have hal := EvsAt.len (es := es) hE1
    have hbl := hB4.len
    rw [brV_len, pts_len h.pok] at hbl
    have lt64 := h.len
    have hpl := pts_len h.pok
    have rD4 : ρ0 D = none := rD
    have b2at : ∀ (i q : Nat), pts[i]? = some q → ∃ c, b2[i]? = some c ∧ H4 c = some (.tup [.int (i : Int), .int (q : Int)]) ∧ ρ0 c = none ∧ c ≠ D := fun i q hq => by
      have hl := (List.getElem?_eq_some_iff.mp hq).1
      obtain ⟨c, hc⟩ : ∃ c, b2[i]? = some c := ⟨_, List.getElem?_eq_getElem (by omega)⟩
      obtain ⟨xs, hxs, hat⟩ := TupsAt.get hB4 hc
      rw [brV_at hq] at hxs
      cases hxs
      refine ⟨c, hc, hat, ?_, fun z => by rw [z, hD4] at hat; cases hat⟩
      cases e : ρ0 c with
      | none => rfl
      | some r => exact absurd (tg e) (hL4.noTup _ _ hat)
    have a1at : ∀ (i : Nat) (a : Addr), a1[i]? = some a → ∃ ev, es[i]? = some ev ∧ H4 a = some (.tup (evV ev)) ∧ ρ0 a = none ∧ a ≠ D := fun i a ha => by
      obtain ⟨ev, hev, hat⟩ := EvsAt.get (es := es) hE1 ha
      refine ⟨ev, hev, hat, ?_, fun z => by rw [z, hD4] at hat; cases hat⟩
      cases e : ρ0 a with
      | none => rfl
      | some r => exact absurd (tg e) (hL4.noTup _ _ hat)
    have rT1 : ρ0 T1 = none := by
      cases e : ρ0 T1 with
      | none => rfl
      | some r => exact absurd (tg e) (hL4.noTup _ _ hT1)
    have T1D : T1 ≠ D := fun z => by rw [z, hD4] at hT1; cases hT1
    have rDn : ∀ {H5 : Hp} {ρ : Addr → Option Role}, RunAt H4 ρ0 D H5 ρ → ρ D = none := fun {H5 ρ} r => by
      cases e : ρ D with
      | none => rfl
      | some x =>
        rcases r.new D (tg e) with z | z
        · exact absurd rD4 z
        · rw [hD4] at z; cases z
    refine ⟨T1, a1.map V.ref, rfl, SqT.of hT1, for_it (walk_enumT (K := K) (a := T1) (xs := a1.map V.ref)) (fun i σ H5 => ∃ (x6 x7 : Option V) (S : LSS) (ρ : Addr → Option Role) (L : Lay), σ = [some (.ref t), some (.int hold), some (.ref br), some (.ref g), some (.ref p), some (.ref D), x6, x7, none] ∧
      LogAt A H5 p S ρ i L ∧ WF S (wrun W0 (es.take i)) ∧ S.gds = gs ∧ RunAt H4 ρ0 D H5 ρ ∧ H5 D = some (.lst ((b2.drop i).map V.ref)) ∧ runE S (es.drop i) (pts.drop i) = runE (init hold gs) es pts)
      ⟨none, none, init hold gs, ρ0, L0, rfl, hL4, wf_init hold gs, rfl, ⟨fun a o e _ _ => e, fun a z => .inl z, _, hD4⟩, hD4, rfl⟩ (fun i σ H5 _ ⟨_, _, _, _, _, _, _, _, _, r, _⟩ => SqT.of (r.keep _ _ hT1 rT1 T1D)) ?_ ?_⟩
    · rintro i v σ H5 H6 hi ⟨x6, x7, S, ρ, L, rfl, g5, wf5, gd5, r5, hD5, hrun⟩ ⟨tp, y, z, rfl, nt, rfl, hy, hq⟩
      cases hy
      have hq : (a1.map V.ref)[i]? = some z := hq
      obtain ⟨a, ha, rfl⟩ := refs_ix hq
      obtain ⟨ev, hev, hat, ra, aD⟩ := a1at i a ha
      have hil := (List.getElem?_eq_some_iff.mp hev).1
      obtain ⟨pq, hpq⟩ : ∃ pq, pts[i]? = some pq := ⟨_, List.getElem?_eq_getElem (by omega)⟩
      obtain ⟨pq1, hpq1⟩ : ∃ pq1, pts[i + 1]? = some pq1 := ⟨_, List.getElem?_eq_getElem (by omega)⟩
      obtain ⟨c, hc, hct, rc, cD⟩ := b2at i pq hpq
      obtain ⟨c1, hc1, hct1, rc1, cD1⟩ := b2at (i + 1) pq1 hpq1
      obtain ⟨okv, stv⟩ := valid_at h.val hev
      have s6 := same_new (o := .tup [.int (i : Nat), .ref a]) nt
      have g6 := g5.same s6
      have r6 : RunAt H4 ρ0 D (upd H5 tp (.tup [.int (i : Nat), .ref a])) ρ := r5.tr (rDn r5) (Tr.same s6 ρ)
      have hD6 := s6 _ _ hD5
      have hpq2 : pq ≤ S.ents.length := by
        have := pts_at (W := W0) h.pok hpq
        rw [wf5.many]
        exact this
      have ρD := rDn r5
      refine gpair upd_same ?_
      refine st_seq ?_
      refine while_a (fun m σ H7 => σ = ((([some (.ref t), some (.int hold), some (.ref br), some (.ref g), some (.ref p), some (.ref D), x6, x7, none] : L2.St).set 6 (some (.int (i : Nat)))).set 7 (some (.ref a))) ∧ ∃ S1 : LSS, LogAt A H7 p S1 ρ i L ∧ RunAt H4 ρ0 D H7 ρ ∧
        ((m = 1 ∧ S1 = S ∧ H7 D = some (.lst ((b2.drop i).map V.ref))) ∨ (m = 0 ∧ S1 = sweep S pq ∧ H7 D = some (.lst ((b2.drop (i + 1)).map V.ref))))) ⟨1, rfl, S, g6, r6, .inl ⟨rfl, rfl, hD6⟩⟩ ?_
      rintro m σ H7 ⟨rfl, S1, g7, r7, hcase⟩
      have vc : ∀ (j : Nat) (c : Addr) (x : Int), b2[j]? = some c → H4 c = some (.tup [.int (j : Int), .int x]) → ρ0 c = none → c ≠ D → H7 D = some (.lst ((b2.drop j).map V.ref)) →
          Ans (tAnd (tTest (tOp (rI0 fun i j => .bl (decide (j < i))) (tCB (rLenQ K) (tCons (tVar 5) tNil)) (tC (.int 0)))) (tTest (tOp rEq (tOp (rIxT K) (tOp (rIxL K) (tVar 5) (tC (.int 0))) (tC (.int 0))) (tVar 6)))) ((([some (.ref t), some (.int hold), some (.ref br), some (.ref g), some (.ref p), some (.ref D), x6, x7, none] : L2.St).set 6 (some (.int (i : Nat)))).set 7 (some (.ref a))) H7 (decide (V.int (j : Int) = V.int (i : Int))) := by
        intro j c x hc hct rc cD hDj
        rw [drop_at hc, List.map_cons] at hDj
        have e1 := ans_I0 (g := fun i j => decide (j < i)) (b := true) (val_len (K := K) (σ := ((([some (.ref t), some (.int hold), some (.ref br), some (.ref g), some (.ref p), some (.ref D), x6, x7, none] : L2.St).set 6 (some (.int (i : Nat)))).set 7 (some (.ref a)))) (val_var (i := 5) rfl) (.inl (SqL.of hDj))) (val_c (v := .int 0)) (decide_eq_true (by rw [List.length_cons]; omega))
        have e2 := ans_eq (b := decide (V.int (j : Int) = V.int (i : Int))) (val_ixT (K := K) (val_ixL (K := K) (σ := ((([some (.ref t), some (.int hold), some (.ref br), some (.ref g), some (.ref p), some (.ref D), x6, x7, none] : L2.St).set 6 (some (.int (i : Nat)))).set 7 (some (.ref a)))) (val_var (i := 5) rfl) (val_c (v := .int 0)) (SqL.of hDj) (ix0 _ _)) (val_c (v := .int 0)) (SqT.of (r7.keep _ _ hct rc cD)) (ix0 _ _)) (val_var (i := 6) rfl) rfl rfl
        exact Ans.to (ans_and2 e1 e2) (Bool.true_and _)
      rcases hcase with ⟨rfl, rfl, hDj⟩ | ⟨rfl, rfl, hDj⟩
      · left
        refine ⟨Ans.to (vc i c pq hc hct rc cD hDj) (decide_eq_true rfl), ?_⟩
        have hDj' := hDj
        rw [drop_at hc, List.map_cons] at hDj'
        have g8 := g7.updL (o := .lst ((b2.drop (i + 1)).map V.ref)) ρD hDj'
        have r8 : RunAt H4 ρ0 D (upd H7 D (.lst ((b2.drop (i + 1)).map V.ref))) ρ := r7.updD
        have hc8 : upd H7 D (.lst ((b2.drop (i + 1)).map V.ref)) c = some (.tup [.int (i : Int), .int (pq : Int)]) := by rw [upd_ne cD]; exact r7.keep _ _ hct rc cD
        refine ⟨_, rfl, p, _, _, rfl, g7.self, by rfl, _, rfl, .inl ⟨rfl, _, SqL.of hDj'⟩, D, _, 0, 0, .ref c, rfl, rfl, hDj', by decide, by decide, seq0 _, rfl, ?_⟩
        refine ⟨c, _, 1, _, rfl, rfl, SqT.of hc8, ix1 _ _ _, p, _, ρ, i, L, pq, rfl, g8, by omega, by rw [gd5]; exact h.gl, hpq2, fun v H9 h9 e9 => ?_⟩
        refine ⟨0, by decide, rfl, _, h9, r8.tr ρD (Tr.of e9), .inr ⟨rfl, rfl, e9 _ _ upd_same fun z => z ρD⟩⟩
      · right
        refine ⟨Ans.to (vc (i + 1) c1 pq1 hc1 hct1 rc1 cD1 hDj) (decide_eq_false fun z => by have := V.int.inj z; omega), ?_⟩
        have wf7 := wf5.sweep pq
        have hat7 := r7.keep _ _ hat ra aD
        refine ⟨_, rfl, p, _, _, rfl, g7.self, by rfl, _, rfl, p, _, ρ, i, L, a, ev, rfl, g7, by omega, by show S.gds.length ≤ 1000; rw [gd5]; exact h.gl, hat7, h.ok ev (List.mem_of_getElem? hev), doOk_of wf7 okv, fun v H9 ρ9 L9 h9 t9 => ?_⟩
        refine ⟨_, _, stepE (sweep S pq) ev, ρ9, L9, rfl, h9, by rw [stv]; exact wf7.step okv, by rw [(step_const _ ev).2.1]; exact gd5, r7.tr ρD t9, t9.ex _ _ hDj fun z => z ρD, ?_⟩
        rw [← hrun, drop_at hev, drop_at hpq]
        rfl
    · rintro σ H5 ⟨x6, x7, S, ρ, L, rfl, g5, wf5, gd5, r5, hD5, hrun⟩
      rw [List.length_map, hal] at g5 wf5 hD5 hrun
      rw [List.take_length] at wf5
      rw [List.drop_length] at hrun
      obtain ⟨pq, hpq⟩ : ∃ pq, pts[es.length]? = some pq := ⟨_, List.getElem?_eq_getElem (by omega)⟩
      obtain ⟨c, hc, hct, rc, cD⟩ := b2at es.length pq hpq
      have hlast : b2.drop es.length = [c] := by
        rw [drop_at hc, List.drop_of_length_le (by omega)]
      have hlast2 : pts.drop es.length = [pq] := by
        rw [drop_at hpq, List.drop_of_length_le (by omega)]
      rw [hlast] at hD5
      rw [hlast2] at hrun
      have ρD := rDn r5
      have hpq2 : pq ≤ S.ents.length := by
        have := pts_at (W := W0) h.pok hpq
        rw [List.take_length] at this
        rw [wf5.many]
        exact this
      dsimp only
      refine st_seq ?_
      refine ⟨_, rfl, D, rfl, ⟨_, SqL.of hD5⟩, for_list (K := K) (a := D) (xs := [V.ref c]) (fun i σ H6 => ∃ (x6 x7 x8 : Option V) (S1 : LSS), σ = [some (.ref t), some (.int hold), some (.ref br), some (.ref g), some (.ref p), some (.ref D), x6, x7, x8] ∧ LogAt A H6 p S1 ρ es.length L ∧ RunAt H4 ρ0 D H6 ρ ∧ H6 D = some (.lst [.ref c]) ∧ ((i = 0 ∧ S1 = S) ∨ (i = 1 ∧ S1 = sweep S pq)))
        ⟨x6, x7, none, S, rfl, g5, r5, hD5, .inl ⟨rfl, rfl⟩⟩ (fun i σ H6 _ ⟨_, _, _, _, _, _, _, hd, _⟩ => SqL.of hd) ?_ ?_⟩
      · rintro i x σ H6 hi ⟨y6, y7, y8, S1, rfl, g6, r6, hD6, hc6⟩
        have hi0 : i = 0 := by
          cases i with
          | zero => rfl
          | succ j => simp at hi
        subst hi0
        simp at hi
        subst hi
        rcases hc6 with ⟨_, rfl⟩ | ⟨z, _⟩
        · have hc6 := r6.keep _ _ hct rc cD
          refine gpair hc6 ?_
          refine ⟨_, rfl, p, _, _, rfl, g6.self, by rfl, _, rfl, p, _, ρ, es.length, L, pq, rfl, g6, by omega, by rw [gd5]; exact h.gl, hpq2, fun v H9 h9 e9 => ?_⟩
          exact ⟨_, _, _, _, rfl, h9, r6.tr ρD (Tr.of e9), e9 _ _ hD6 fun z => z ρD, .inr ⟨rfl, rfl⟩⟩
        · cases z
      · rintro σ H6 ⟨y6, y7, y8, S1, rfl, g6, r6, hD6, hc6⟩
        rcases hc6 with ⟨z, _⟩ | ⟨_, rfl⟩
        · cases z
        · have eR : runE (init hold gs) es pts = sweep S pq := by rw [← hrun]; rfl
          refine ⟨_, rfl, q p ρ L H6 (fun a o e => r6.keep _ _ (S4 a o e) ?_ (fun z => by rw [z, nD0] at e; cases e)) (by rw [eR]; exact g6) (by rw [eR]; exact wf5.sweep pq)⟩
          cases hh : ρ0 a with
          | none => rfl
          | some x => rw [tg0 a (tg hh)] at e; cases e
end
end K15

set_option Elab.async false
set_option linter.all false
set_option autoImplicit false
set_option maxRecDepth 100000
set_option maxHeartbeats 4000000
namespace K15
open PySem L2
theorem out_it {J : It} {n : Nat} {G : Hp → Prop} {Y : Nat → Hp → V → Hp → Prop} {body : (Hp → Prop) → V → Hp → Prop} {Qd : Hp → Prop} {H0 : Hp} (w : Walk J n G Y) (Pv : Nat → Hp → Prop) (h0 : Pv 0 H0) (hG : ∀ i H, i ≤ n → Pv i H → G H)
    (hs : ∀ i x H H', i < n → Pv i H → Y i H x H' → body (Pv (i + 1)) x H') (hd : ∀ H, Pv n H → Qd H) :
    ∃ W : Nat → Nat → Hp → Prop, (∃ m, W 0 m H0) ∧ ∀ i m H, W i m H → (J.stop i H ∧ Qd H) ∨ (J.go i H ∧ ∃ Nx : Hp → Prop, (∀ H', Nx H' → ∃ m', m' < m ∧ W (i + 1) m' H') ∧ ∀ x H', J.yld i H x H' → body Nx x H') := by
  refine ⟨fun i m H => m = n - i ∧ i ≤ n ∧ Pv i H, ⟨n, by simp, Nat.zero_le _, h0⟩, ?_⟩
  rintro i m H ⟨rfl, hi, p⟩
  have q := hG i H hi p
  by_cases hlt : i < n
  · exact .inr ⟨w.goes i H hlt q, Pv (i + 1), fun H' p' => ⟨n - (i + 1), by omega, rfl, hlt, p'⟩, fun x H' y => hs i x H H' hlt p (w.yields i H x H' hlt q y)⟩
  · have e : i = n := by omega
    subst e
    exact .inl ⟨w.stops H q, hd H p⟩
theorem line2 {n : Nat} (h : n ≤ 1000000) : n < sizeLine := Nat.lt_of_le_of_lt h (by decide)
/-- a reader and a key -/
def duV (d : Int × Str) : List V := [.int d.1, .str d.2]
section
variable {P : Program} {w : World} {K : PySem.W.Frag} {mg : Str → Option Value} {base : Heap} {A : Adr} {f : Addr} {fd : FuncData}
abbrev s_wrong_pairs : Stmt := top 21
abbrev N_wrong_pairs : List Str := ["timetable", "hold", "sweeps", "guards", "log", "reader", "key"]
abbrev P_wrong_pairs : List Str := ["timetable", "hold", "sweeps", "guards"]
theorem sc_wrong_pairs : FnScope N_wrong_pairs P_wrong_pairs (C8.fnScope s_wrong_pairs) := C8.fnScope_by (by decide +kernel)
def spPairs : Sp := fun vs H Q _ => ∃ t br g as bas gas es pts gs, ∃ hold : Int, vs = [.ref t, .int hold, .ref br, .ref g] ∧ RunIn H t br g as bas gas es pts gs ∧
  ∀ (l : Addr) (ds : List Addr) (dus : List (Int × Str)) (H' : Hp), Same H H' → H l = none → H' l = some (.lst (ds.map V.ref)) → TupsAt H' ds (dus.map duV) → (∀ r k, (r, k) ∈ dus ↔ wrong (runE (init hold gs) es pts) r k) → (∀ d, d ∈ dus → PyData.strOk d.2 = true) → dus.length ≤ 300000 → Q (.ref l) H'
theorem pairs_ok (T : Txt K mg A) (F : C8.Def K mg "wrong_pairs" s_wrong_pairs f fd) (b : Binds K fd P_wrong_pairs []) (c_run : C8.Cal P w K mg base 8 "run" (spRun A) []) (m_readers : C8.Met P w K mg base 1 A.CL "readers" (spReaders A) []) (m_wrong : C8.Met P w K mg base 3 A.CL "wrong" (spWrong A) []) :
    C8.Cal P w K mg base 9 "wrong_pairs" spPairs [] := by
  refine C8.cal0 F b .nil sc_wrong_pairs (fun vs H Q E h => ?_) (fun cdv A' outer s H vs Q E hr h => ?_)
  · obtain ⟨t, br, g, as, bas, gas, es, pts, gs, hold, rfl, _⟩ := h
    rfl
  · obtain ⟨t, br, g, as, bas, gas, es, pts, gs, hold, rfl, h, q⟩ := h
    have hu := hu_of hr
    refine ⟨_, (pss_cons (ps_set (i := 4) sc_wrong_pairs.nd rfl (Or.inr rfl) (C8.pe_c c_run hr (by decide) rfl (pa_cons (pv 0) (pa_cons (pv 1) (pa_cons (pv 2) (pa_cons (pv 3) pa_nil))))))
      (pss_one (ps_ret (pe_lc2 (own := [("reader", 5), ("key", 6)]) (vs1 := [6]) (g := (gName 5)) (g1 := (gName 6)) (wi1 := iList K _) (by rfl) sc_wrong_pairs.nd  (pi_list (C8.pe_mt0 m_readers hr (by decide) (pv 4))) (blkOk_by (own := [("reader", 5), ("key", 6)]) (N := N_wrong_pairs) (sc := C8.fnScope s_wrong_pairs) (by decide +kernel)) (by decide) (fun _ _ _ _ _ => (pg_name (i := 5) sc_wrong_pairs.nd rfl (Or.inl rfl))) (fun _ _ _ _ _ => pts_nil) (fun _ _ _ _ _ => (pi_list (C8.pe_mt m_wrong hr (by decide) (pv 4) (pa_cons (pv 5) pa_nil)))) (fun _ _ _ _ _ => (pg_name (i := 6) sc_wrong_pairs.nd rfl (Or.inl rfl))) (fun _ _ _ _ _ => pts_nil) (fun _ _ _ _ _ => (pe_tup (pa_cons (pv 5) (pa_cons (pv 6) pa_nil)))))))), ?_⟩
    have hlen := h.len
    refine ⟨_, rfl, _, rfl, _, rfl, _, rfl, t, br, g, as, bas, gas, es, pts, gs, hold, rfl, h, fun p ρ L H1 s1 hL wf => ?_⟩
    generalize runE (init hold gs) es pts = S at hL wf q
    dsimp only [gName]
    refine ⟨_, rfl, p, _, _, rfl, hL.self, by rfl, p, S, ρ, _, L, rfl, hL, hlen, fun l0 rs n0 hrs hrl => ⟨l0, rfl, ⟨_, SqL.of upd_same⟩, fun D nD => ?_⟩⟩
    have s2 := same_new (o := .lst (rs.map V.int)) n0
    have hl0 : upd H1 l0 (.lst (rs.map V.int)) l0 = some (.lst (rs.map V.int)) := upd_same
    have hL2 := hL.same s2
    generalize upd H1 l0 (.lst (rs.map V.int)) = H2 at s2 hl0 hL2 nD
    have nD0 : H D = none := by
      cases hh : H D with
      | none => rfl
      | some o => rw [s2 _ _ (s1 _ _ hh)] at nD; cases nD
    refine out_it (walk_list (K := K) (a := l0) (xs := rs.map V.int)) (fun i H3 => Same H2 H3 ∧ ∃ (ds : List Addr) (dus : List (Int × Str)), H3 D = some (.lst (ds.map V.ref)) ∧ TupsAt H3 ds (dus.map duV) ∧ (∀ r k, (r, k) ∈ dus ↔ r ∈ rs.take i ∧ wrong S r k) ∧ (∀ d, d ∈ dus → PyData.strOk d.2 = true) ∧ dus.length ≤ i * 4096)
      ⟨same_new nD, [], [], upd_same, .nil, fun r k => ⟨fun z => (by cases z), fun z => (by cases z.1)⟩, fun d z => (by cases z), Nat.zero_le _⟩ (fun i H3 _ h => SqL.of (h.1 _ _ hl0)) ?_ ?_
    · rintro i x H3 H4 hi ⟨s3, ds, dus, hD3, hT3, hm3, hk3, hl3⟩ ⟨rfl, hx⟩
      rw [List.getElem?_map] at hx
      cases hr : rs[i]? with
      | none => rw [hr] at hx; cases hx
      | some r =>
        rw [hr] at hx
        cases hx
        have hpl := (hrs r).mp (List.mem_of_getElem? hr)
        have hi64 : i < 64 := by have := (List.getElem?_eq_some_iff.mp hr).1; omega
        refine ⟨rfl, ?_⟩
        unfold tYes
        refine iteT ?_
        have hL4 := hL2.same s3
        refine ⟨_, rfl, p, _, _, rfl, hL4.self, by rfl, _, rfl, p, S, ρ, _, L, r, rfl, hL4, by omega, hpl, wf.tin r, fun l1 ks H5 s5 n1 hl1 hks hko hkl => ⟨l1, rfl, ⟨_, SqL.of hl1⟩, ?_⟩⟩
        have l1D : l1 ≠ D := fun z => by rw [z, hD3] at n1; cases n1
        have hkl2 : ks.length ≤ 4096 := by omega
        refine out_it (walk_list (K := K) (a := l1) (xs := ks.map V.str)) (fun j H6 => Same H2 H6 ∧ H6 l1 = some (.lst (ks.map V.str)) ∧ ∃ (ds : List Addr) (dus' : List (Int × Str)), H6 D = some (.lst (ds.map V.ref)) ∧ TupsAt H6 ds (dus'.map duV) ∧ dus' = dus ++ (ks.take j).map (fun k => (r, k)))
          ⟨s3.trans s5, hl1, ds, dus, s5 _ _ hD3, TupsAt.same hT3 s5, by rw [List.take_zero, List.map_nil, List.append_nil]⟩ (fun j H6 _ h => SqL.of h.2.1) ?_ ?_
        · rintro j y H6 H7 hj ⟨s6, hl6, ds6, dus6, hD6, hT6, rfl⟩ ⟨rfl, hy⟩
          rw [List.getElem?_map] at hy
          cases hk : ks[j]? with
          | none => rw [hk] at hy; cases hy
          | some k =>
            rw [hk] at hy
            cases hy
            refine ⟨rfl, ?_⟩
            refine iteT ?_
            refine ⟨_, rfl, _, rfl, by show 2 ≤ sizeLine; decide, fun u nu => ?_⟩
            have s8 := same_new (o := .tup [.int r, .str k]) nu
            have hD8 := s8 _ _ hD6
            have hl8 := s8 _ _ hl6
            have hT8 := TupsAt.same hT6 s8
            have hu8 : upd H7 u (.tup [.int r, .str k]) u = some (.tup (duV (r, k))) := upd_same
            have hdl := hT6.len
            rw [List.length_map, List.length_append, List.length_map, List.length_take] at hdl
            refine ⟨ds6.map V.ref, hD8, line2 (by rw [List.length_map]; omega), ?_⟩
            generalize upd H7 u (.tup [.int r, .str k]) = H8 at s8 hD8 hl8 hT8 hu8
            have e9 : Exc (fun a => a = D) H8 (upd H8 D (.lst (ds6.map V.ref ++ [.ref u]))) := (Exc.refl _ H8).at rfl
            have nt : NoTup (fun a => a = D) H8 := fun a xs e z => by
              have z : a = D := z
              rw [z, hD8] at e
              cases e
            refine ⟨fun a o e => e9 _ _ (s8 _ _ (s6 a o e)) fun z => (by rw [z, nD] at e; cases e), e9 _ _ hl8 l1D, ds6 ++ [u], (dus ++ (ks.take j).map (fun k => (r, k))) ++ [(r, k)], by rw [List.map_append]; exact upd_same, ?_, ?_⟩
            · rw [List.map_append]
              exact TupsAt.snoc (TupsAt.exc hT8 e9 nt) (e9 _ _ hu8 fun z => nt _ _ hu8 z)
            · rw [take_snoc hk, List.map_append, ← List.append_assoc]
              rfl
        · rintro H6 ⟨s6, _, ds6, dus6, hD6, hT6, rfl⟩
          rw [List.length_map, List.take_length] at hT6
          refine ⟨s6, ds6, _, hD6, hT6, fun r' k' => ?_, fun d hd => ?_, ?_⟩
          · rw [List.mem_append, hm3 r' k', take_snoc hr, List.mem_append, List.mem_singleton, List.mem_map]
            constructor
            · rintro (z | ⟨k, z1, z2⟩)
              · exact ⟨.inl z.1, z.2⟩
              · cases z2
                exact ⟨.inr rfl, (hks k').mp z1⟩
            · rintro ⟨z | z, z2⟩
              · exact .inl ⟨z, z2⟩
              · right
                rw [z] at z2
                exact ⟨k', (hks k').mpr z2, by rw [z]⟩
          · rcases List.mem_append.mp hd with z | z
            · exact hk3 d z
            · obtain ⟨k, z1, rfl⟩ := List.mem_map.mp z
              exact hko k z1
          · rw [List.length_append, List.length_map]
            omega
    · rintro H3 ⟨s3, ds, dus, hD3, hT3, hm3, hk3, hl3⟩
      rw [List.length_map] at hm3 hl3
      rw [List.take_length] at hm3
      refine q D ds dus H3 ((s1.trans s2).trans s3) nD0 hD3 hT3 (fun r k => ?_) hk3 (by omega)
      rw [hm3 r k]
      constructor
      · exact fun z => z.2
      · intro z
        refine ⟨(hrs r).mpr ?_, z⟩
        obtain ⟨s', _, _, z1, _⟩ := z
        rw [z1]
        intro e
        cases e
end
end K15

set_option Elab.async false
set_option linter.all false
set_option autoImplicit false
set_option maxRecDepth 100000
set_option maxHeartbeats 4000000
namespace K15
open PySem L2
def ptF : Addr × EvS → List V := fun p => if isPut p.2 = true then [.ref p.1] else []
theorem ptF_len : ∀ p, (ptF p).length ≤ 1 := fun p => by
  unfold ptF
  split <;> simp
theorem ptF_many : ∀ (as : List Addr) (es : List EvS) (W : K15.W), as.length = es.length → (wrun W es).many = W.many + ((as.zip es).flatMap ptF).length
  | [], [], _, _ => rfl
  | a :: as, [], _, h => by cases h
  | [], e :: es, _, h => by cases h
  | a :: as, e :: es, W, h => by
    have h : as.length + 1 = es.length + 1 := h
    rw [List.zip_cons_cons, List.flatMap_cons, List.length_append]
    show (wrun (wstep W e) es).many = _
    rw [ptF_many as es (wstep W e) (Nat.succ.inj h)]
    have : (wstep W e).many = W.many + (ptF (a, e)).length := by cases e <;> rfl
    rw [this]
    omega
theorem ev_put0 (e : EvS) : ∃ wd, atI (evV e) 0 = some (.str wd) ∧ inV (V.str wd) [.str "put", .str "drop"] = isPut e := by
  cases e <;> refine ⟨_, ix0 _ _, ?_⟩ <;> first | (show _ = true; decide +kernel) | (show _ = false; decide +kernel)
theorem zip_take {α β : Type} : ∀ (as : List α) (bs : List β) (i : Nat), (as.take i).zip (bs.take i) = (as.zip bs).take i
  | _, _, 0 => by simp
  | [], _, i + 1 => by simp
  | _ :: _, [], i + 1 => by simp
  | a :: as, b :: bs, i + 1 => by
    rw [List.take_succ_cons, List.take_succ_cons, List.zip_cons_cons, List.zip_cons_cons, List.take_succ_cons, zip_take as bs i]
section
variable {P : Program} {w : World} {K : PySem.W.Frag} {mg : Str → Option Value} {base : Heap} {A : Adr} {f : Addr} {fd : FuncData}
abbrev s_many_at : Stmt := top 10
abbrev N_many_at : List Str := ["timetable", "time", "event"]
abbrev P_many_at : List Str := ["timetable", "time"]
theorem sc_many_at : FnScope N_many_at P_many_at (C8.fnScope s_many_at) := C8.fnScope_by (by decide +kernel)
def spManyAt : Sp := fun vs H Q _ => ∃ (t : Addr) (as : List Addr) (es : List EvS) (i : Nat), vs = [.ref t, .int (i : Int)] ∧ H t = some (.tup (as.map V.ref)) ∧ EvsAt H as es ∧ es.length ≤ 1000 ∧ i ≤ es.length ∧ ∀ H', Same H H' → Q (.int ((wrun W0 (es.take i)).many : Int)) H'
theorem manyat_ok (T : Txt K mg A) (F : C8.Def K mg "many_at" s_many_at f fd) (b : Binds K fd P_many_at []) : C8.Cal P w K mg base 1 "many_at" spManyAt [] := by
  refine C8.cal0 F b .nil sc_many_at (fun vs H Q E h => ?_) (fun cdv A outer s H vs Q E hr h => ?_)
  · obtain ⟨t, as, es, i, rfl, _⟩ := h
    rfl
  · obtain ⟨t, as, es, i, rfl, ht, he, hl, hi, q⟩ := h
    have hu := hu_of hr
    refine ⟨_, (pss_one (ps_ret (pe_callB (r := rLenQ K) call_len_seq (by rfl) T.b_len PySem.boot_len (pa_cons (pe_lc (own := [("event", 2)]) (g := (gName 2)) (by rfl) sc_many_at.nd  (pi_tup (pe_slice (r := rSlA K) sl_tupA (pv 0) po_none (po_some (pv 1)))) (blkOk_by (own := [("event", 2)]) (N := N_many_at) (sc := C8.fnScope s_many_at) (by decide +kernel)) (fun _ _ _ _ _ => (pg_name (i := 2) sc_many_at.nd rfl (Or.inl rfl))) (fun _ _ _ _ _ => (pts_one (pt_cmpR (r := rIn K false) op_in_seq (pe_ix (r := rIxT K) ix_tup (pv 2) pe_int (fun _ _ => rfl)) (pe_tup (pa_cons (C8.pe_gc rfl T.gPUT) (pa_cons (C8.pe_gc rfl T.gDROP) pa_nil))) (by with_unfolding_all rfl)))) (fun _ _ _ _ _ => (pv 2))) pa_nil)))), ?_⟩
    have hal := he.len
    have hs : ∀ (H1 : Hp), Same H H1 → ∀ (k : Nat) (x : V) (H2 H3 : Hp), k < ((as.take i).map V.ref).length → Same H1 H2 → YAt ((as.take i).map V.ref) k H2 x H3 → ∃ σ2, wipe σ2 [2] = wipe (L2.start N_many_at [V.ref t, V.int (i : Int)]) [2] ∧ Same H2 H3 ∧
        (∀ Q : L2.St → Hp → Prop, Q σ2 H3 → gName 2 x (wipe (L2.start N_many_at [V.ref t, V.int (i : Int)]) [2]) H3 Q) ∧
        ((AnsH (tTest (tOp (rIn K false) (tOp (rIxT K) (tVar 2) (tC (.int 0))) (tTup (tCons (tC (.str "put")) (tCons (tC (.str "drop")) tNil))))) σ2 H3 true (Same H3) ∧ ∃ y, (∀ H4, Same H3 H4 → Val (tVar 2) σ2 H4 y) ∧ (((as.take i).zip (es.take i)).take (k + 1)).flatMap ptF = (((as.take i).zip (es.take i)).take k).flatMap ptF ++ [y]) ∨
         (AnsH (tTest (tOp (rIn K false) (tOp (rIxT K) (tVar 2) (tC (.int 0))) (tTup (tCons (tC (.str "put")) (tCons (tC (.str "drop")) tNil))))) σ2 H3 false (Same H3) ∧ (((as.take i).zip (es.take i)).take (k + 1)).flatMap ptF = (((as.take i).zip (es.take i)).take k).flatMap ptF)) := by
      rintro H1 s1 k x H2 H3 hk s2 ⟨rfl, hx⟩
      obtain ⟨a, ha, rfl⟩ := refs_ix hx
      have ha' := ha
      rw [List.getElem?_take] at ha
      split at ha
      · rename_i hki
        obtain ⟨e, hee, hat⟩ := he.get ha
        obtain ⟨wd, w0, w1⟩ := ev_put0 e
        have hat2 := s2 _ _ (s1 _ _ hat)
        have hee' : (es.take i)[k]? = some e := by rw [List.getElem?_take, if_pos hki]; exact hee
        refine ⟨_, wipe_put _ 2 (some (.ref a)), Same.refl _, fun Q q => q, ?_⟩
        have e1 := take_flat ptF (zip_at ha' hee')
        have an : AnsH (tTest (tOp (rIn K false) (tOp (rIxT K) (tVar 2) (tC (.int 0))) (tTup (tCons (tC (.str "put")) (tCons (tC (.str "drop")) tNil))))) ((wipe (L2.start N_many_at [V.ref t, V.int (i : Int)]) [2]).set 2 (some (.ref a))) H3 (isPut e) (Same H3) := fun Q q => ans_in2 (val_ixT (K := K) (val_var rfl) val_c (SqT.of hat2) w0) rfl rfl rfl w1 Q (fun H3 ⟨p, np, e3⟩ => q _ (by rw [e3]; exact same_new np))
        cases hp : isPut e with
        | true =>
          rw [hp] at an
          refine .inl ⟨an, .ref a, fun H4 _ => val_var rfl, ?_⟩
          rw [e1]
          unfold ptF
          rw [if_pos hp]
        | false =>
          rw [hp] at an
          refine .inr ⟨an, ?_⟩
          rw [e1]
          unfold ptF
          rw [if_neg (by rw [hp]; decide), List.append_nil]
      · cases ha
    have hcnt : (((as.take i).zip (es.take i)).take ((as.take i).map V.ref).length).flatMap ptF = ((as.take i).zip (es.take i)).flatMap ptF := by
      congr 1
      refine List.take_of_length_le ?_
      rw [List.length_zip, List.length_map]
      omega
    have hmany := ptF_many (as.take i) (es.take i) W0 (by rw [List.length_take, List.length_take]; omega)
    have h00 : W0.many = 0 := rfl
    refine ⟨_, rfl, _, rfl, i, rfl, t, _, rfl, SqT.of ht, fun hcase => ?_, fun hcase T1 nT1 => ?_⟩
    · have hin : i = (as.map V.ref).length := by
        have h2 : min ((i : Int)).toNat (as.map V.ref).length = (as.map V.ref).length := by
          have := hcase.2
          rw [show HT.sIx (as.map V.ref).length (as.map V.ref).length (some (i : Int)) = min i (as.map V.ref).length from HT.sIx_nat _ _ _] at this
          rw [Int.toNat_natCast]
          exact this
        rw [Int.toNat_natCast, List.length_map] at h2
        rw [List.length_map]
        omega
      have htk : as.take i = as := List.take_of_length_le (by rw [hin, List.length_map]; exact Nat.le_refl _)
      refine ⟨t, rfl, ⟨_, SqT.of ht⟩, fun D nD => ?_⟩
      refine lcF0 (walk_tup (K := K) (a := t) (xs := (as.take i).map V.ref)) (fun H' s => SqT.of (by rw [htk]; exact s _ _ ht)) (by rw [List.length_map, List.length_take]; omega) (fun k => (((as.take i).zip (es.take i)).take k).flatMap ptF) rfl (fun k _ => flat_len_take ptF_len _ _) (hs H (Same.refl H)) nD fun H' s2 hD => ?_
      rw [hcnt] at hD
      refine ⟨D, _, rfl, .inl (SqL.of hD), ?_⟩
      have := q H' s2
      rw [hmany, h00, Nat.zero_add] at this
      exact this
    · have hcut : cutV (as.map V.ref) none (some (i : Int)) = (as.take i).map V.ref := by
        unfold cutV
        rw [show HT.sIx (as.map V.ref).length (as.map V.ref).length (some (i : Int)) = min i (as.map V.ref).length from HT.sIx_nat _ _ _]
        show ((as.map V.ref).drop 0).take (min i (as.map V.ref).length - 0) = _
        rw [List.drop_zero, Nat.sub_zero, List.length_map, List.map_take]
        congr 1
        omega
      rw [hcut]
      have s1 := same_new (o := .tup ((as.take i).map V.ref)) nT1
      have hT1 : upd H T1 (.tup ((as.take i).map V.ref)) T1 = some (.tup ((as.take i).map V.ref)) := upd_same
      generalize upd H T1 (.tup ((as.take i).map V.ref)) = H1 at s1 hT1
      refine ⟨T1, rfl, ⟨_, SqT.of hT1⟩, fun D nD => ?_⟩
      refine lcF0 (walk_tup (K := K) (a := T1) (xs := (as.take i).map V.ref)) (fun H' s => SqT.of (s _ _ hT1)) (by rw [List.length_map, List.length_take]; omega) (fun k => (((as.take i).zip (es.take i)).take k).flatMap ptF) rfl (fun k _ => flat_len_take ptF_len _ _) (hs H1 s1) nD fun H' s2 hD => ?_
      rw [hcnt] at hD
      refine ⟨D, _, rfl, .inl (SqL.of hD), ?_⟩
      have := q H' (s1.trans s2)
      rw [hmany, h00, Nat.zero_add] at this
      exact this
end
end K15

set_option Elab.async false
set_option linter.all false
set_option autoImplicit false
set_option maxRecDepth 100000
set_option maxHeartbeats 4000000
namespace K15
open PySem L2
theorem brV_snoc (pts : List Nat) (q : Nat) : brV (pts ++ [q]) = brV pts ++ [[.int (pts.length : Int), .int (q : Int)]] := by
  unfold brV
  rw [List.zipIdx_append, List.map_append]
  simp
theorem pts_ok : ∀ {es : List EvS} {ps : List Nat} {W : K15.W}, ps.length = es.length + 1 → (∀ i q, ps[i]? = some q → q ≤ (wrun W (es.take i)).many) → PtsOk W.many es ps
  | e :: es, p :: ps, W, hl, h => by
    refine ⟨h 0 p rfl, ?_⟩
    have : W.many + (if isPut e = true then 1 else 0) = (wstep W e).many := by cases e <;> rfl
    rw [this]
    refine pts_ok (by simpa using hl) fun i q hq => ?_
    have := h (i + 1) q (by rw [List.getElem?_cons_succ]; exact hq)
    rw [List.take_succ_cons] at this
    exact this
  | [], [p], W, _, h => h 0 p rfl
  | [], [], _, hl, _ => by cases hl
  | _ :: _, [], _, hl, _ => by cases hl
  | [], _ :: _ :: _, _, hl, _ => by cases hl
def bdV (d : Int × Int) : List V := [.int d.1, .int d.2]
def bdF (i : Int) (d : Int × Int) : List V := if i ≤ d.1 then [.int d.2] else []
theorem bdF_len (i : Int) : ∀ d, (bdF i d).length ≤ 1 := fun d => by
  unfold bdF
  split <;> simp
theorem bdF_ints (i : Int) (ds : List (Int × Int)) (h : ∀ d, d ∈ ds → 0 ≤ d.2) : ∃ ns : List Int, ds.flatMap (bdF i) = ns.map V.int ∧ (∀ n, n ∈ ns → 0 ≤ n) ∧ ns.length ≤ ds.length := by
  induction ds with
  | nil => exact ⟨[], rfl, fun _ h => (by cases h), Nat.le_refl _⟩
  | cons d ds ih =>
    obtain ⟨ns, h1, h2, h3⟩ := ih fun x hx => h x (List.mem_cons_of_mem _ hx)
    rw [List.flatMap_cons, h1]
    unfold bdF
    split
    · refine ⟨d.2 :: ns, rfl, fun n hn => ?_, by simp only [List.length_cons]; omega⟩
      rcases List.mem_cons.mp hn with e | e
      · rw [e]; exact h d List.mem_cons_self
      · exact h2 n e
    · exact ⟨ns, rfl, h2, by simp only [List.length_cons]; omega⟩
theorem min_ex : ∀ (n : Int) (ns : List Int), ∃ m, m ∈ n :: ns ∧ ∀ y, y ∈ n :: ns → m ≤ y
  | n, [] => ⟨n, List.mem_cons_self, fun y hy => by rw [List.mem_singleton.mp hy]; exact Int.le_refl _⟩
  | n, x :: ns => by
    obtain ⟨m, h1, h2⟩ := min_ex x ns
    by_cases h : n ≤ m
    · refine ⟨n, List.mem_cons_self, fun y hy => ?_⟩
      rcases List.mem_cons.mp hy with e | e
      · rw [e]; exact Int.le_refl _
      · exact Int.le_trans h (h2 y e)
    · refine ⟨m, List.mem_cons_of_mem _ h1, fun y hy => ?_⟩
      rcases List.mem_cons.mp hy with e | e
      · rw [e]; omega
      · exact h2 y e
section
variable {P : Program} {w : World} {K : PySem.W.Frag} {mg : Str → Option Value} {base : Heap} {A : Adr} {f : Addr} {fd : FuncData}
abbrev s_sweeps_under : Stmt := top 20
abbrev N_sweeps_under : List Str := ["timetable", "bounds", "found", "time", "end", "point", "points"]
abbrev P_sweeps_under : List Str := ["timetable", "bounds"]
theorem sc_sweeps_under : FnScope N_sweeps_under P_sweeps_under (C8.fnScope s_sweeps_under) := C8.fnScope_by (by decide +kernel)
def spUnder : Sp := fun vs H Q _ => ∃ (t l : Addr) (as bs : List Addr) (es : List EvS) (bds : List (Int × Int)), vs = [.ref t, .ref l] ∧ H t = some (.tup (as.map V.ref)) ∧ EvsAt H as es ∧ es.length ≤ 100 ∧ H l = some (.lst (bs.map V.ref)) ∧ TupsAt H bs (bds.map bdV) ∧ (∀ d, d ∈ bds → 0 ≤ d.2) ∧ bds.length ≤ 1000 ∧
  ∀ (p : Addr) (ds : List Addr) (pts : List Nat) (H' : Hp), Same H H' → H' p = some (.tup (ds.map V.ref)) → TupsAt H' ds (brV pts) → PtsOk 0 es pts → Q (.ref p) H'
theorem under_ok (T : Txt K mg A) (F : C8.Def K mg "sweeps_under" s_sweeps_under f fd) (b : Binds K fd P_sweeps_under []) (c_many_at : C8.Cal P w K mg base 1 "many_at" spManyAt []) : C8.Cal P w K mg base 2 "sweeps_under" spUnder [] := by
  refine C8.cal0 F b .nil sc_sweeps_under (fun vs H Q E h => ?_) (fun cdv A outer s H vs Q E hr h => ?_)
  · obtain ⟨t, l, as, bs, es, bds, rfl, _⟩ := h
    rfl
  · obtain ⟨t, l, as, bs, es, bds, rfl, ht, he, hl, hbl, hB, hb0, hbn, q⟩ := h
    have hu := hu_of hr
    refine ⟨_, (pss_cons (ps_set (i := 2) sc_sweeps_under.nd rfl (Or.inl rfl) (pe_lst pa_nil))
      (pss_cons (ps_for PassesOwn.never rfl (pi_range1 rfl T.b_range (pa_cons (pe_op op_add (pe_callB (r := rLenQ K) call_len_seq (by rfl) T.b_len PySem.boot_len (pa_cons (pv 0) pa_nil)) pe_int) pa_nil)) (pg_name (i := 3) sc_sweeps_under.nd rfl (Or.inr rfl)) (pss_cons (ps_setLc (i := 6) (own := [("end", 4), ("point", 5)]) (g := (gTup K 2 (gCons (gName 4) (gCons (gName 5) gNil)))) (by rfl) sc_sweeps_under.nd rfl rfl (sw_true rfl rfl rfl (by decide +kernel)) (pi_list (pv 1)) (blkOk_by (own := [("end", 4), ("point", 5)]) (N := N_sweeps_under) (sc := C8.fnScope s_sweeps_under) (by decide +kernel)) (fun _ _ _ _ _ => (pg_tup rfl (pgs_cons (pg_name (i := 4) sc_sweeps_under.nd rfl (Or.inl rfl)) (pgs_cons (pg_name (i := 5) sc_sweeps_under.nd rfl (Or.inl rfl)) pgs_nil)))) (fun _ _ _ _ _ => (pts_one (pt_cmpR op_le (pv 3) (pv 4) (nomark _)))) (fun _ _ _ _ _ => (pv 5)))
      (pss_one (ps_expr (pe_bm PySem.F.plainAttrs_list PySem.F.slot_list_append PySem.F.type_list_append mt_append (pv 2) (pa_cons (pe_tup (pa_cons (pv 3) (pa_cons (pe_callB (r := rMin K) (cr_min rfl) (by rfl) T.b_min (by decide +kernel) (pa_cons (pe_op op_cat (pe_lst (pa_cons (C8.pe_c c_many_at hr (by decide) rfl (pa_cons (pv 0) (pa_cons (pv 3) pa_nil))) pa_nil)) (pv 6)) pa_nil)) pa_nil))) pa_nil))))))
      (pss_one (ps_ret (pe_callTy call_tuple_of (by rfl) T.b_tuple (by decide +kernel) (pa_cons (pv 2) pa_nil)))))), ?_⟩
    have hal := he.len
    have hbl2 := hB.len
    rw [List.length_map] at hbl2
    refine ⟨Nat.zero_le _, fun D nD => ?_⟩
    dsimp only [gName]
    refine st_seq ?_
    have s0 := same_new (o := .lst []) nD
    refine ⟨_, rfl, t, _, rfl, .inr (SqT.of (s0 _ _ ht)), _, _, rfl, rfl, _, rfl, by rw [List.length_map]; omega, by rw [List.length_map]; omega, for_range (fun i σ H1 => ∃ (x3 x6 : Option V) (ds : List Addr) (pts : List Nat), σ = [some (.ref t), some (.ref l), some (.ref D), x3, none, none, x6] ∧ Same H H1 ∧ H1 D = some (.lst (ds.map V.ref)) ∧ TupsAt H1 ds (brV pts) ∧ pts.length = i ∧ ∀ j q, pts[j]? = some q → q ≤ (wrun W0 (es.take j)).many)
      ⟨none, none, [], [], rfl, s0, upd_same, .nil, rfl, fun j q z => (by simp at z)⟩ ?_ ?_⟩
    · rintro i σ H1 hi ⟨x3, x6, ds, pts, rfl, s1, hD, hT, hpl, hpq⟩
      have hi' : i ≤ es.length := by
        rw [List.length_map] at hi
        omega
      rw [show (0 : Int) + (i : Int) = (i : Int) from Int.zero_add _]
      dsimp only [gName]
      refine st_seq (st_setH (lcF (walk_list (K := K) (a := l) (xs := bs.map V.ref)) (fun R r => ⟨_, rfl, l, rfl, ⟨_, SqL.of (s1 _ _ hbl)⟩, r⟩) (fun H' s => SqL.of (s _ _ (s1 _ _ hbl))) (by rw [List.length_map]; omega) (fun k => (bds.take k).flatMap (bdF (i : Int))) rfl (fun k _ => flat_len_take (bdF_len _) _ _) ?_) ?_)
      · rintro k x H2 H3 hk s2 ⟨rfl, hx⟩
        obtain ⟨a, ha, rfl⟩ := refs_ix hx
        obtain ⟨xs, hxs, hat⟩ := TupsAt.get hB ha
        rw [List.getElem?_map] at hxs
        cases hd : bds[k]? with
        | none => rw [hd] at hxs; cases hxs
        | some d =>
          rw [hd] at hxs
          cases hxs
          have hat2 := s2 _ _ (s1 _ _ hat)
          have e1 := take_flat (bdF (i : Int)) hd
          refine ⟨_, ?_, Same.refl _, fun Q q => gpair (x := .int d.1) (y := .int d.2) hat2 q, ?_⟩
          · rfl
          by_cases hc : (i : Int) ≤ d.1
          · refine .inl ⟨ansH (ans_I0 (g := fun i j => decide (i ≤ j)) (val_var rfl) (val_var rfl) (decide_eq_true hc)), .int d.2, fun H4 _ => val_var rfl, ?_⟩
            rw [e1]
            unfold bdF
            rw [if_pos hc]
          · refine .inr ⟨ansH (ans_I0 (g := fun i j => decide (i ≤ j)) (val_var rfl) (val_var rfl) (decide_eq_false hc)), ?_⟩
            rw [e1]
            unfold bdF
            rw [if_neg hc, List.append_nil]
      · rintro v H2 ⟨M, rfl, nM, s2, hM⟩
        rw [List.length_map, hbl2, List.take_length] at hM
        obtain ⟨ns, hns, hn0, hnl⟩ := bdF_ints (i : Int) bds hb0
        rw [hns] at hM
        have hD2 := s2 _ _ hD
        have s12 := s1.trans s2
        refine ⟨_, rfl, .inl ⟨rfl, _, SqL.of hD2⟩, _, rfl, _, rfl, _, rfl, t, as, es, i, rfl, s12 _ _ ht, TupsAt.same he s12, by omega, hi', fun H3 s3 => ?_⟩
        refine ⟨by show 1 ≤ sizeLine; decide, fun M1 nM1 => ?_⟩
        have s4 := same_new (o := .lst [.int ((wrun W0 (es.take i)).many : Int)]) nM1
        refine ⟨_, rfl, M1, M, _, _, rfl, rfl, upd_same, s4 _ _ (s3 _ _ hM), Nat.le_of_lt (line_of (by rw [List.length_map]; show 1 + ns.length ≤ 100000; omega)), fun M2 nM2 => ?_⟩
        have s5 := same_new (o := .lst ([V.int ((wrun W0 (es.take i)).many : Int)] ++ ns.map V.int)) nM2
        refine ⟨M2, ((wrun W0 (es.take i)).many : Int) :: ns, rfl, SqL.of upd_same, Nat.succ_pos _, fun mn hmn hmin => ?_⟩
        have hmn0 : 0 ≤ mn := by
          rcases List.mem_cons.mp hmn with e | e
          · rw [e]; exact Int.natCast_nonneg _
          · exact hn0 mn e
        have hmn1 := hmin _ List.mem_cons_self
        obtain ⟨qn, hqn⟩ : ∃ qn : Nat, mn = (qn : Int) := ⟨mn.toNat, (Int.toNat_of_nonneg hmn0).symm⟩
        subst hqn
        refine ⟨by show 2 ≤ sizeLine; decide, fun u nu => ?_⟩
        have s6 := same_new (o := .tup [.int (i : Int), .int (qn : Int)]) nu
        have sAll := (s3.trans s4).trans (s5.trans s6)
        have hD6 := sAll _ _ hD2
        have hT6 := TupsAt.same (TupsAt.same hT s2) sAll
        have S6 := s12.trans sAll
        have hu6 : upd (upd (upd H3 M1 (.lst [.int ((wrun W0 (es.take i)).many : Int)])) M2 (.lst ([V.int ((wrun W0 (es.take i)).many : Int)] ++ ns.map V.int))) u (.tup [.int (i : Int), .int (qn : Int)]) u = some (.tup [.int (i : Int), .int (qn : Int)]) := upd_same
        have hdl := hT6.len
        rw [brV_len] at hdl
        refine ⟨D, _, _, rfl, rfl, hD6, line_of (by rw [List.length_map]; omega), ?_⟩
        generalize upd (upd (upd H3 M1 (.lst [.int ((wrun W0 (es.take i)).many : Int)])) M2 (.lst ([V.int ((wrun W0 (es.take i)).many : Int)] ++ ns.map V.int))) u (.tup [.int (i : Int), .int (qn : Int)]) = H6 at hD6 hT6 S6 hu6
        have e9 : Exc (fun a => a = D) H6 (upd H6 D (.lst (ds.map V.ref ++ [.ref u]))) := (Exc.refl _ H6).at rfl
        have ntD : NoTup (fun a => a = D) H6 := fun a xs e z => by
          have z : a = D := z
          rw [z, hD6] at e
          cases e
        refine ⟨_, _, ds ++ [u], pts ++ [qn], rfl, fun a o e => e9 _ _ (S6 a o e) fun z => (by rw [z, nD] at e; cases e), by rw [List.map_append]; exact upd_same, ?_, by rw [List.length_append, hpl]; rfl, fun j x hx => ?_⟩
        · rw [brV_snoc, hpl]
          exact TupsAt.snoc (TupsAt.exc hT6 e9 ntD) (e9 _ _ hu6 fun z => ntD _ _ hu6 z)
        · rcases snoc_at hx with z | ⟨z1, z2⟩
          · exact hpq j x z
          · rw [z1, z2, hpl]
            omega
    · rintro σ H1 ⟨x3, x6, ds, pts, rfl, s1, hD, hT, hpl, hpq⟩
      have hpl2 : pts.length = es.length + 1 := by
        rw [hpl, List.length_map, hal]
        omega
      refine ⟨_, rfl, D, _, rfl, .inl ⟨SqL.of hD, fun k nk => ?_⟩⟩
      have sk := same_new (o := .tup (ds.map V.ref)) nk
      exact q k ds pts _ (s1.trans sk) upd_same (TupsAt.same hT sk) (pts_ok (W := W0) hpl2 hpq)
end
end K15

set_option Elab.async false
set_option linter.all false
set_option autoImplicit false
set_option maxRecDepth 100000
set_option maxHeartbeats 4000000
namespace K15
open PySem L2
theorem units65 {X : Around} {k : Nat} (hr : Room k X) : X.units + 65 < cLine := by
  have := hr.un
  omega
/-- a list of what is wrong -/
structure PairsAt (H : Hp) (l : Addr) (ds : List Addr) (dus : List (Int × Str)) (S : LSS) : Prop where
  lst : H l = some (.lst (ds.map V.ref))
  tups : TupsAt H ds (dus.map duV)
  mem : ∀ r k, (r, k) ∈ dus ↔ wrong S r k
  ok : ∀ d, d ∈ dus → PyData.strOk d.2 = true
  len : dus.length ≤ 300000
theorem PairsAt.same {H H' : Hp} {l : Addr} {ds : List Addr} {dus : List (Int × Str)} {S : LSS} (h : PairsAt H l ds dus S) (s : Same H H') : PairsAt H' l ds dus S := ⟨s _ _ h.lst, TupsAt.same h.tups s, h.mem, h.ok, h.len⟩
theorem du_ok {d : Int × Str} (h : PyData.strOk d.2 = true) : okVs (duV d) := by
  show (true && (PyData.strOk d.2 && true)) = true
  rw [h]
  rfl
theorem PairsAt.okT {H : Hp} {l : Addr} {ds : List Addr} {dus : List (Int × Str)} {S : LSS} (h : PairsAt H l ds dus S) : okTs (dus.map duV) := fun xs hx => by
  obtain ⟨d, hd, rfl⟩ := List.mem_map.mp hx
  exact du_ok (h.ok d hd)
theorem PairsAt.dp {K : PySem.W.Frag} {H : Hp} {l : Addr} {ds : List Addr} {dus : List (Int × Str)} {S : LSS} (h : PairsAt H l ds dus S) : Dp K H (.ref l) (.list ((dus.map duV).map dT)) := dp_list (SqL.of h.lst) h.tups h.okT
theorem PairsAt.nil {H : Hp} {l : Addr} {ds : List Addr} {dus : List (Int × Str)} {S : LSS} (h : PairsAt H l ds dus S) (n : ∀ r k, ¬ wrong S r k) : dus = [] := by
  rw [List.eq_nil_iff_forall_not_mem]
  rintro ⟨r, k⟩ hd
  exact n r k ((h.mem r k).mp hd)
section
variable {σ : L2.St} {H : Hp} {K : PySem.W.Frag} {t : TT} {te : TE} {b : Bool}
theorem ansH_not (h : AnsH t σ H b (Same H)) : AnsH (tNot t) σ H (!b) (Same H) := fun Q q => h _ fun H' s => q H' s
theorem ansH_val (h : ValH te σ H (fun v H' => v = .bl b ∧ Same H H')) : AnsH (tB te) σ H b (Same H) := fun Q q => h _ fun v H' e => ⟨b, e.1, q H' e.2⟩
theorem AnsH.to {b' : Bool} {P : Hp → Prop} (h : AnsH t σ H b P) (e : b = b') : AnsH t σ H b' P := e ▸ h
/-- all([x in last for x in now]) -/
theorem v_all {l0 l1 : Addr} {d0 d1 : List Addr} {u0 u1 : List (Int × Str)} {S0 S1 : LSS} {i j k : Nat} (h0 : PairsAt H l0 d0 u0 S0) (h1 : PairsAt H l1 d1 u1 S1) (hw : ∀ r k, wrong S1 r k → wrong S0 r k) (hi : σ[i]? = some (some (.ref l1))) (hk : σ[k]? = some (some (.ref l0))) (hj : j < σ.length) (hjk : j ≠ k) :
    ValH (tCB (rAll K) (tCons (tLc (iList K (tVar i)) (gName j) tYes (tOp (rInD K) (tVar j) (tVar k)) [j]) tNil)) σ H (fun v H' => v = .bl true ∧ Same H H') := by
  intro Q q
  have hl := h1.tups.len
  rw [List.length_map] at hl
  have hn := h1.len
  unfold tCB tCons
  refine lcF (walk_list (K := K) (a := l1) (xs := d1.map V.ref)) (fun R r => ⟨_, hi, l1, rfl, ⟨_, SqL.of h1.lst⟩, r⟩) (fun H' s => SqL.of (s _ _ h1.lst)) (by rw [List.length_map]; omega) (fun n => List.replicate n (V.bl true)) rfl (fun n _ => by rw [List.length_replicate]; exact Nat.le_refl _) ?_ _ ?_
  · rintro n x H1 H2 hn2 s1 ⟨rfl, hx⟩
    obtain ⟨a, ha, rfl⟩ := refs_ix hx
    obtain ⟨xs, hxs, hat⟩ := TupsAt.get h1.tups ha
    rw [List.getElem?_map] at hxs
    cases hd : u1[n]? with
    | none => rw [hd] at hxs; cases hxs
    | some d =>
      rw [hd] at hxs
      cases hxs
      refine ⟨_, wipe_put σ j _, Same.refl _, fun Q q => q, .inl ⟨yes_same, .bl true, fun H3 s3 Q q => ?_, by rw [List.replicate_succ']⟩⟩
      have st := s1.trans s3
      have ok := du_ok (h1.ok d (List.mem_of_getElem? hd))
      refine ⟨_, wipe_at hj, _, by rw [wipe_ne hjk]; exact hk, dT (duV d), _, dp_tup (st _ _ hat) ok, (h0.same st).dp, dT_shaped ok, dLT_shaped h0.okT, ?_⟩
      rw [any_eqv ok h0.okT, decide_eq_true]
      · exact q
      · have hm := List.mem_of_getElem? hd
        exact List.mem_map_of_mem ((h0.mem d.1 d.2).mpr (hw _ _ ((h1.mem d.1 d.2).mp hm)))
  · rintro v H1 ⟨p, rfl, np, s1, hp⟩
    refine ⟨p, List.replicate (d1.map V.ref).length true, rfl, SqL.of (by rw [List.map_replicate]; exact hp), ?_⟩
    have : (List.replicate (d1.map V.ref).length true).all id = true := by
      rw [List.all_eq_true]
      intro x hx
      rw [(List.mem_replicate.mp hx).2]
      rfl
    rw [this]
    exact q _ _ ⟨rfl, s1⟩
end
theorem RunIn.same {H H' : Hp} {t br g : Addr} {as bas gas : List Addr} {es : List EvS} {pts : List Nat} {gs : List (Bool × Int)} (h : RunIn H t br g as bas gas es pts gs) (s : Same H H') : RunIn H' t br g as bas gas es pts gs :=
  ⟨s _ _ h.ht, TupsAt.same h.he s, h.val, h.ok, h.len, s _ _ h.hb, TupsAt.same h.hp s, h.pok, h.hg.elim (fun z => .inl (s _ _ z)) (fun z => .inr (s _ _ z)), TupsAt.same h.hgs s, h.gl, h.gok⟩
section
variable {P : Program} {w : World} {K : PySem.W.Frag} {mg : Str → Option Value} {base : Heap} {A : Adr} {f : Addr} {fd : FuncData}
abbrev s__law_holds_right : Stmt := top 36
abbrev N__law_holds_right : List Str := ["_law_table_here", "_law_broom", "_law_watch_here", "_law_last", "_law_keep", "_law_now", "_law_duo"]
abbrev P__law_holds_right : List Str := ["_law_table_here", "_law_broom", "_law_watch_here"]
theorem sc__law_holds_right : FnScope N__law_holds_right P__law_holds_right (C8.fnScope s__law_holds_right) := C8.fnScope_by (by decide +kernel)
def spHolds : Sp := fun vs H Q _ => ∃ t br g as bas gas es pts gs, vs = [.ref t, .ref br, .ref g] ∧ RunIn H t br g as bas gas es pts gs ∧ ∀ H', Same H H' → Q (.bl true) H'
theorem holds_ok (T : Txt K mg A) (F : C8.Def K mg "_law_holds_right" s__law_holds_right f fd) (b : Binds K fd P__law_holds_right []) (c_wrong_pairs : C8.Cal P w K mg base 9 "wrong_pairs" spPairs []) : C8.Cal P w K mg base 10 "_law_holds_right" spHolds [] := by
  refine C8.cal0 F b .nil sc__law_holds_right (fun vs H Q E h => ?_) (fun cdv A' outer s H vs Q E hr h => ?_)
  · obtain ⟨t, br, g, as, bas, gas, es, pts, gs, rfl, _⟩ := h
    rfl
  · obtain ⟨t, br, g, as, bas, gas, es, pts, gs, rfl, h, q⟩ := h
    have hu := hu_of hr
    refine ⟨_, (pss_cons (ps_set (i := 3) sc__law_holds_right.nd rfl (Or.inr rfl) (C8.pe_c c_wrong_pairs hr (by decide) rfl (pa_cons (pv 0) (pa_cons pe_int (pa_cons (pv 1) (pa_cons (pv 2) pa_nil))))))
      (pss_cons (ps_for PassesOwn.never rfl (pi_range2 rfl T.b_range (pa_cons pe_int (pa_cons pe_int pa_nil))) (pg_name (i := 4) sc__law_holds_right.nd rfl (Or.inl rfl)) (pss_cons (ps_set (i := 5) sc__law_holds_right.nd rfl (Or.inl rfl) (C8.pe_c c_wrong_pairs hr (by decide) rfl (pa_cons (pv 0) (pa_cons (pv 4) (pa_cons (pv 1) (pa_cons (pv 2) pa_nil))))))
      (pss_cons (ps_if (pt_not (pt_val (pe_callB (r := rAll K) (cr_all rfl) (by rfl) T.b_all (by decide +kernel) (pa_cons (pe_lc (own := [("_law_duo", 6)]) (g := (gName 6)) (by rfl) sc__law_holds_right.nd  (pi_list (pv 5)) (blkOk_by (own := [("_law_duo", 6)]) (N := N__law_holds_right) (sc := C8.fnScope s__law_holds_right) (by decide +kernel)) (fun _ _ _ _ _ => (pg_name (i := 6) sc__law_holds_right.nd rfl (Or.inl rfl))) (fun _ _ _ _ _ => pts_nil) (fun _ _ _ _ _ => (pe_cmpR (r := rInD K) (op_inD (units65 hr)) (pv 6) (pv 3) (by with_unfolding_all rfl)))) pa_nil)))) (pss_one (ps_ret pe_bl)) pss_nil)
      (pss_one (ps_set (i := 3) sc__law_holds_right.nd rfl (Or.inr rfl) (pv 5))))))
      (pss_one (ps_ret (pe_cmpR (r := rEqD K) (op_eqD hr.units) (C8.pe_c c_wrong_pairs hr (by decide) rfl (pa_cons (pv 0) (pa_cons (pe_op op_add (pe_callB (r := rLenQ K) call_len_seq (by rfl) T.b_len PySem.boot_len (pa_cons (pv 0) pa_nil)) pe_int) (pa_cons (pv 1) (pa_cons (pv 2) pa_nil))))) (pe_lst pa_nil) (nomark _)))))), ?_⟩
    refine ⟨_, rfl, _, rfl, _, rfl, t, br, g, as, bas, gas, es, pts, gs, 0, rfl, h, fun l0 d0 u0 H1 s1 n0 k1 k2 k3 k4 k5 => ?_⟩
    have p0 : PairsAt H1 l0 d0 u0 (runE (init 0 gs) es pts) := ⟨k1, k2, k3, k4, k5⟩
    dsimp only [gName]
    refine st_seq ?_
    refine ⟨_, _, rfl, ⟨by decide, by decide, by decide, by decide⟩, for_range (n := 7) (fun i σ H2 => ∃ (x4 x5 : Option V) (l : Addr) (ds : List Addr) (dus : List (Int × Str)), σ = [some (.ref t), some (.ref br), some (.ref g), some (.ref l), x4, x5, none] ∧ Same H H2 ∧ PairsAt H2 l ds dus (runE (init (i : Int) gs) es pts))
      ⟨none, none, l0, d0, u0, rfl, s1, p0⟩ ?_ ?_⟩
    · rintro i σ H2 hi ⟨x4, x5, l, ds, dus, rfl, s2, p2⟩
      refine ⟨_, rfl, _, rfl, _, rfl, _, rfl, t, br, g, as, bas, gas, es, pts, gs, 1 + (i : Int), rfl, h.same s2, fun l3 d3 u3 H3 s3 n3 k1 k2 k3 k4 k5 => ?_⟩
      have p3 : PairsAt H3 l3 d3 u3 (runE (init (1 + (i : Int)) gs) es pts) := ⟨k1, k2, k3, k4, k5⟩
      dsimp only [gName]
      refine st_seq (st_noH (AnsH.to (ansH_not (ansH_val (v_all (K := K) (i := 5) (j := 6) (k := 3) (p2.same s3) p3 (fun r k z => K15.mono (by omega) (fun x hx => hx) es pts z) rfl rfl (Nat.le_of_ble_eq_true rfl) (by decide)))) rfl) (fun H4 s4 => ?_))
      refine ⟨_, rfl, _, _, l3, d3, u3, rfl, (s2.trans s3).trans s4, ?_⟩
      have : (1 + (i : Int)) = ((i + 1 : Nat) : Int) := by omega
      rw [← this]
      exact p3.same s4
    · rintro σ H2 ⟨x4, x5, l, ds, dus, rfl, s2, p2⟩
      have hal := h.he.len
      refine ⟨_, rfl, _, rfl, t, _, rfl, .inr (SqT.of (s2 _ _ h.ht)), _, _, rfl, rfl, _, rfl, _, rfl, t, br, g, as, bas, gas, es, pts, gs, _, rfl, h.same s2, fun l3 d3 u3 H3 s3 n3 k1 k2 k3 k4 k5 => ?_⟩
      have p3 : PairsAt H3 l3 d3 u3 (runE (init (((as.map V.ref).length : Int) + 1) gs) es pts) := ⟨k1, k2, k3, k4, k5⟩
      have e3 : u3 = [] := p3.nil fun r k => K15.long (by rw [List.length_map, hal]; omega) h.val r k
      subst e3
      refine ⟨Nat.zero_le _, fun p np => ?_⟩
      have s4 := same_new (o := .lst []) np
      refine ⟨_, _, (p3.same s4).dp, .lst (SqL.of upd_same) .nil, dLT_shaped p3.okT, nil_shaped, ?_⟩
      rw [eqv_nil]
      exact q _ ((s2.trans s3).trans s4)
end
end K15

set_option Elab.async false
set_option linter.all false
set_option autoImplicit false
set_option maxRecDepth 100000
set_option maxHeartbeats 4000000
namespace K15
open PySem L2
theorem gdV_inj {g g' : Bool × Int} (h : gdV g = gdV g') : g = g' := by
  obtain ⟨b, n⟩ := g
  obtain ⟨b', n'⟩ := g'
  have hne : ¬ (V.str "copy" = V.str "reader") := by decide +kernel
  cases b <;> cases b'
  · have h : [V.str "reader", V.int n] = [V.str "reader", V.int n'] := h
    injection h with _ h
    injection h with h _
    injection h with h
    rw [h]
  · have h : [V.str "reader", V.int n] = [V.str "copy", V.int n'] := h
    injection h with h _
    exact absurd h.symm hne
  · have h : [V.str "copy", V.int n] = [V.str "reader", V.int n'] := h
    injection h with h _
    exact absurd h hne
  · have h : [V.str "copy", V.int n] = [V.str "copy", V.int n'] := h
    injection h with _ h
    injection h with h _
    injection h with h
    rw [h]
abbrev GZ := Addr × (Bool × Int)
def gN : Bool → Str
  | true => "copy"
  | false => "reader"
def gzF (z : GZ) : K15R.TI2 := (z.1, gN z.2.1, z.2.2)
def gzG (t : K15R.TI2) : GZ := (t.1, (decide (t.2.1 = ("copy" : Str)), t.2.2))
theorem gz_id (z : GZ) : gzG (gzF z) = z := by
  obtain ⟨a, b, n⟩ := z
  cases b
  · show (a, (decide (("reader" : Str) = ("copy" : Str)), n)) = (a, (false, n))
    rw [decide_eq_false (by decide +kernel)]
  · show (a, (decide (("copy" : Str) = ("copy" : Str)), n)) = (a, (true, n))
    rw [decide_eq_true rfl]
theorem gdV_gN (g : Bool × Int) : gdV g = [.str (gN g.1), .int g.2] := by
  obtain ⟨b, n⟩ := g
  cases b <;> rfl
theorem gz_perm {us : List K15R.TI2} {zs : List GZ} (h : us.Perm (zs.map gzF)) : ∃ zs' : List GZ, zs'.Perm zs ∧ us = zs'.map gzF := by
  refine ⟨us.map gzG, ?_, ?_⟩
  · have := h.map gzG
    rw [List.map_map] at this
    have e : zs.map (gzG ∘ gzF) = zs := by
      conv => rhs; rw [← List.map_id zs]
      exact List.map_congr_left fun z _ => gz_id z
    rw [e] at this
    exact this
  · rw [List.map_map]
    conv => lhs; rw [← List.map_id us]
    refine List.map_congr_left fun t ht => ?_
    obtain ⟨z, _, rfl⟩ := List.mem_map.mp (h.mem_iff.mp ht)
    show gzF z = gzF (gzG (gzF z))
    rw [gz_id]
theorem gz_of {H : Hp} {gs : List (Bool × Int)} : ∀ {as : List Addr}, (∀ a, a ∈ as → ∃ g, g ∈ gs ∧ H a = some (.tup (gdV g))) → ∃ Z : List GZ, Z.map (·.1) = as ∧ ∀ z, z ∈ Z → H z.1 = some (.tup (gdV z.2)) ∧ z.2 ∈ gs
  | [], _ => ⟨[], rfl, fun _ h => (by cases h)⟩
  | a :: as, h => by
    obtain ⟨g, h1, h2⟩ := h a List.mem_cons_self
    obtain ⟨Z, h3, h4⟩ := gz_of (as := as) fun x hx => h x (List.mem_cons_of_mem _ hx)
    refine ⟨(a, g) :: Z, by rw [List.map_cons, h3], fun z hz => ?_⟩
    rcases List.mem_cons.mp hz with e | e
    · rw [e]; exact ⟨h2, h1⟩
    · exact h4 z e
theorem gz_tups {H : Hp} : ∀ {zs : List GZ}, (∀ z, z ∈ zs → H z.1 = some (.tup (gdV z.2))) → TupsAt H (zs.map (·.1)) ((zs.map (·.2)).map gdV)
  | [], _ => .nil
  | z :: zs, h => .cons (h z List.mem_cons_self) (gz_tups fun x hx => h x (List.mem_cons_of_mem _ hx))
theorem paired_mem {α β : Type} {F : α → β → Prop} {as : List α} {bs : List β} (h : Paired F as bs) : ∀ {a : α}, a ∈ as → ∃ b, b ∈ bs ∧ F a b := by
  induction h with
  | nil => intro a h; cases h
  | cons r t ih =>
    intro a h
    rcases List.mem_cons.mp h with e | e
    · rw [e]; exact ⟨_, List.mem_cons_self, r⟩
    · obtain ⟨b, h1, h2⟩ := ih e
      exact ⟨b, List.mem_cons_of_mem _ h1, h2⟩
theorem paired_mem' {α β : Type} {F : α → β → Prop} {as : List α} {bs : List β} (h : Paired F as bs) : ∀ {b : β}, b ∈ bs → ∃ a, a ∈ as ∧ F a b := by
  induction h with
  | nil => intro a h; cases h
  | cons r t ih =>
    intro a h
    rcases List.mem_cons.mp h with e | e
    · rw [e]; exact ⟨_, List.mem_cons_self, r⟩
    · obtain ⟨b, h1, h2⟩ := ih e
      exact ⟨b, List.mem_cons_of_mem _ h1, h2⟩
/-- all guards that there are -/
abbrev gAll (es : List EvS) (ns : List Int) : List (Bool × Int) := (List.range (saves es)).map (fun (k : Nat) => ((true, (k : Int)) : Bool × Int)) ++ ns.map (fun (r : Int) => ((false, r) : Bool × Int))
theorem gAll_nn {es : List EvS} {ns : List Int} : ∀ k, (true, k) ∈ gAll es ns → 0 ≤ k := fun k hk => by
  rcases List.mem_append.mp hk with hk | hk
  · obtain ⟨j, _, e⟩ := List.mem_map.mp hk
    cases e
    exact Int.natCast_nonneg _
  · obtain ⟨j, _, e⟩ := List.mem_map.mp hk
    cases e
theorem gAll_len {es : List EvS} {ns : List Int} (h : es.length < 64) (hn : ns.length < 64) : (gAll es ns).length ≤ 130 := by
  rw [List.length_append, List.length_map, List.length_map, List.length_range]
  have := saves_le es
  omega
/-- the first two of a row -/
def ev2 (e : EvS) : List V := (evV e).take 2
theorem ev2_ok {e : EvS} (h : evOk e) : okVs (ev2 e) := by
  have h : (evV e).all okV = true := h
  show ((evV e).take 2).all okV = true
  rw [List.all_eq_true] at h ⊢
  exact fun x hx => h x (List.mem_of_mem_take hx)
theorem ev2_load {e : EvS} {r : Int} : ev2 e = [.str "load", .int r] ↔ ∃ c, e = .load r c := by
  constructor
  · intro h
    cases e with
    | load r' c =>
      have h : [V.str "load", V.int r'] = [V.str "load", V.int r] := h
      injection h with _ h
      injection h with h _
      injection h with h
      exact ⟨c, by rw [h]⟩
    | put k v => exact absurd (List.cons.inj h).1 (by decide +kernel)
    | drop k => exact absurd (List.cons.inj h).1 (by decide +kernel)
    | join k => exact absurd (List.cons.inj h).1 (by decide +kernel)
    | read k v => exact absurd (List.cons.inj h).1 (by decide +kernel)
    | save k => exact absurd (List.cons.inj h).1 (by decide +kernel)
    | wait => exact absurd (List.cons.inj h).1 (by decide +kernel)
  · rintro ⟨c, rfl⟩
    rfl
section
variable {σ : L2.St} {H : Hp} {K : PySem.W.Frag} {t : Addr} {as : List Addr} {es : List EvS} {i j : Nat}
/-- [row[:2] for row in table] -/
theorem v_two (hv : σ[i]? = some (some (.ref t))) (ht : H t = some (.tup (as.map V.ref))) (he : EvsAt H as es) (hj : j < σ.length) (hl : es.length ≤ 1000) :
    ValH (tLc (iTup K (tVar i)) (gName j) tYes (tSl (rSlA K) (tVar j) tNoPart (tPart (tC (.int 2)))) [j]) σ H (fun v H' => ∃ p bs, v = .ref p ∧ H p = none ∧ Same H H' ∧ H' p = some (.lst (bs.map V.ref)) ∧ TupsAt H' bs (es.map ev2)) := by
  have hal := he.len
  intro Q q
  refine lcT (walk_tup (K := K) (a := t) (xs := as.map V.ref)) (fun R r => ⟨_, hv, t, rfl, ⟨_, SqT.of ht⟩, r⟩) (fun H' s => SqT.of (s _ _ ht)) (by rw [List.length_map]; omega) (fun k => (es.take k).map ev2) rfl (fun k _ => by rw [List.length_map, List.length_take]; omega) ?_ Q ?_
  · rintro k x H1 H2 hk s1 ⟨rfl, hx⟩
    obtain ⟨a, ha, rfl⟩ := refs_ix hx
    obtain ⟨e, hee, hat⟩ := he.get ha
    refine ⟨_, wipe_put σ j _, Same.refl _, fun Q q => q, .inl ⟨yes_same, ev2 e, fun H3 s3 Q q => ?_, by rw [take_snoc hee, List.map_append]; rfl⟩⟩
    have hat3 := s3 _ _ (s1 _ _ hat)
    refine ⟨_, wipe_at hj, 2, rfl, a, _, rfl, SqT.of hat3, fun hc => ?_, fun hc p np => ?_⟩
    · refine q _ _ ⟨a, rfl, Same.refl _, ?_⟩
      have : ev2 e = evV e := by
        refine List.take_of_length_le ?_
        have h2 := hc.2
        rw [show HT.sIx (evV e).length (evV e).length (some (2 : Int)) = min 2 (evV e).length from HT.sIx_nat _ _ 2] at h2
        omega
      rw [this]
      exact hat3
    · refine q _ _ ⟨p, rfl, same_new np, ?_⟩
      have : cutV (evV e) none (some 2) = ev2 e := by
        unfold cutV ev2
        rw [show HT.sIx (evV e).length (evV e).length (some (2 : Int)) = min 2 (evV e).length from HT.sIx_nat _ _ 2]
        show ((evV e).drop 0).take (min 2 (evV e).length - 0) = _
        rw [List.drop_zero, Nat.sub_zero]
        by_cases h : 2 ≤ (evV e).length
        · rw [show min 2 (evV e).length = 2 by omega]
        · rw [List.take_of_length_le (by omega), List.take_of_length_le (by omega)]
      rw [this]
      exact upd_same
  · rintro v H' ⟨p, bs, rfl, np, sm, hp, hT⟩
    rw [List.length_map, hal, List.take_length] at hT
    exact q _ _ ⟨p, bs, rfl, np, sm, hp, hT⟩
/-- ("load", p) not in [row[:2] for row in table] -/
theorem a_load {i2 : Nat} {r : Int} {bb : Bool} (hv : σ[i]? = some (some (.ref t))) (hr : σ[i2]? = some (some (.int r))) (ht : H t = some (.tup (as.map V.ref))) (he : EvsAt H as es) (ok : ∀ e, e ∈ es → evOk e) (hj : j < σ.length) (hl : es.length ≤ 1000) (hb : bb = true ↔ ∀ c, Ev.load r c ∉ es) :
    AnsH (tTest (tOp (rNotInD K) (tTup (tCons (tC (.str "load")) (tCons (tVar i2) tNil))) (tLc (iTup K (tVar i)) (gName j) tYes (tSl (rSlA K) (tVar j) tNoPart (tPart (tC (.int 2)))) [j]))) σ H bb (Same H) := by
  intro Q q
  refine ⟨_, hr, by show 2 ≤ sizeLine; decide, fun u nu => ?_⟩
  have s1 := same_new (o := .tup [.str "load", .int r]) nu
  have hu1 : upd H u (.tup [.str "load", .int r]) u = some (.tup [.str "load", .int r]) := upd_same
  generalize upd H u (.tup [.str "load", .int r]) = H1 at s1 hu1
  refine v_two (K := K) hv (s1 _ _ ht) (TupsAt.same he s1) hj hl _ ?_
  rintro v H2 ⟨p, bs, rfl, np, s2, hp, hT⟩
  have ok2 : okTs (es.map ev2) := fun xs hx => by
    obtain ⟨e, he, rfl⟩ := List.mem_map.mp hx
    exact ev2_ok (ok e he)
  have okl : okVs [.str "load", .int r] := by
    show ((PyData.strOk "load") && true) = true
    decide +kernel
  refine ⟨dT [.str "load", .int r], _, dp_tup (s2 _ _ hu1) okl, dp_list (SqL.of hp) hT ok2, dT_shaped okl, dLT_shaped ok2, bb, congrArg V.bl ?_, q _ (s1.trans s2)⟩
  rw [any_eqv okl ok2]
  rw [Bool.eq_iff_iff, hb, Bool.not_eq_true', decide_eq_false_iff_not, List.mem_map]
  constructor
  · intro h c hc
    exact h ⟨_, hc, rfl⟩
  · rintro h ⟨e, he, h2⟩
    obtain ⟨c, rfl⟩ := ev2_load.mp h2
    exact h c he
/-- [duo for duo in told if duo[0] == p] != [] -/
theorem a_none {l : Addr} {ds : List Addr} {dus : List (Int × Str)} {S : LSS} {r : Int} {k : Nat} (h : PairsAt H l ds dus S) (hn : ∀ k, ¬ wrong S r k) (hi : σ[i]? = some (some (.ref l))) (hk : σ[k]? = some (some (.int r))) (hj : j < σ.length) (hjk : j ≠ k) :
    AnsH (tTest (tOp (rNeD K) (tLc (iList K (tVar i)) (gName j) (tTest (tOp rEq (tOp (rIxT K) (tVar j) (tC (.int 0))) (tVar k))) (tVar j) [j]) (tLst tNil))) σ H false (Same H) := by
  have hl := h.tups.len
  rw [List.length_map] at hl
  have hln := h.len
  intro Q q
  unfold tTest tOp
  refine lcF (walk_list (K := K) (a := l) (xs := ds.map V.ref)) (fun R r => ⟨_, hi, l, rfl, ⟨_, SqL.of h.lst⟩, r⟩) (fun H' s => SqL.of (s _ _ h.lst)) (by rw [List.length_map]; omega) (fun _ => []) rfl (fun _ _ => Nat.zero_le _) ?_ _ ?_
  · rintro n x H1 H2 hn2 s1 ⟨rfl, hx⟩
    obtain ⟨a, ha, rfl⟩ := refs_ix hx
    obtain ⟨xs, hxs, hat⟩ := TupsAt.get h.tups ha
    rw [List.getElem?_map] at hxs
    cases hd : dus[n]? with
    | none => rw [hd] at hxs; cases hxs
    | some d =>
      rw [hd] at hxs
      cases hxs
      have hne : ¬ V.int d.1 = V.int r := fun z => by
        have hw := (h.mem d.1 d.2).mp (List.mem_of_getElem? hd)
        rw [V.int.inj z] at hw
        exact hn _ hw
      refine ⟨_, wipe_put σ j _, Same.refl _, fun Q q => q, .inr ⟨?_, rfl⟩⟩
      exact ansH (ans_eq (val_ixT (K := K) (val_var (wipe_at hj)) (val_c (v := .int 0)) (SqT.of (s1 _ _ hat)) (ix0 _ _)) (val_var (by rw [wipe_ne hjk]; exact hk)) rfl (decide_eq_false hne))
  · rintro v H1 ⟨p, rfl, np, s1, hp⟩
    refine ⟨Nat.zero_le _, fun p2 np2 => ?_⟩
    have s2 := same_new (o := .lst []) np2
    refine ⟨.list [], .list [], .lst (SqL.of (s2 _ _ hp)) .nil, .lst (SqL.of upd_same) .nil, nil_shaped, nil_shaped, false, ?_, q _ (s1.trans s2)⟩
    rw [eqv_nil]
    rfl
end
end K15

set_option Elab.async false
set_option linter.all false
set_option autoImplicit false
set_option maxRecDepth 100000
set_option maxHeartbeats 4000000
namespace K15
open PySem L2
section
variable {P : Program} {w : World} {K : PySem.W.Frag} {mg : Str → Option Value} {base : Heap} {A : Adr} {f : Addr} {fd : FuncData}
abbrev s__law_right : Stmt := top 37
abbrev N__law_right : List Str := ["_law_box_here", "_law_turn", "_law_table_here", "_law_again", "_law_some", "_law_broom", "_law_row", "_law_count", "_law_readers_so", "_law_k", "_law_p", "_law_every", "_law_keep", "_law_watch_here", "_law_last", "_law_own", "_law_now", "_law_duo", "_law_told"]
abbrev P__law_right : List Str := ["_law_box_here"]
theorem sc__law_right : FnScope N__law_right P__law_right (C8.fnScope s__law_right) := C8.fnScope_by (by decide +kernel)
def spRight : Sp := fun vs H Q _ => ∃ b : Addr, vs = [.ref b] ∧ BoxAt H b 0 ∧ ∀ H', Exc (fun a => a = b) H H' → Q (.bl true) H'
theorem right_ok (T : Txt K mg A) (F : C8.Def K mg "_law_right" s__law_right f fd) (b : Binds K fd P__law_right []) (c_l_take : C8.Cal P w K mg base 1 "_law_take" spTake []) (c_l_drawn : C8.Cal P w K mg base 5 "_law_drawn" spDrawn []) (c_sweeps_under : C8.Cal P w K mg base 2 "sweeps_under" spUnder [])
    (c_l_watch : C8.Cal P w K mg base 2 "_law_watch" (spWatch K) []) (c_l_holds_right : C8.Cal P w K mg base 10 "_law_holds_right" spHolds []) (c_wrong_pairs : C8.Cal P w K mg base 9 "wrong_pairs" spPairs []) (c_l_strewn : C8.Cal P w K mg base 2 "_law_strewn" (spStrewn K) []) : C8.Cal P w K mg base 11 "_law_right" spRight [] := by
  refine C8.cal0 F b .nil sc__law_right (fun vs H Q E h => ?_) (fun cdv A' outer s H vs Q E hr h => ?_)
  · obtain ⟨b, rfl, _⟩ := h
    rfl
  · obtain ⟨b, rfl, hb, q⟩ := h
    have hu := hu_of hr
    refine ⟨_, (pss_cons (ps_for PassesOwn.never rfl (pi_range1 rfl T.b_range (pa_cons pe_int pa_nil)) (pg_name (i := 1) sc__law_right.nd rfl (Or.inl rfl)) (pss_cons (ps_set (i := 2) sc__law_right.nd rfl (Or.inr rfl) (C8.pe_c c_l_drawn hr (by decide) rfl (pa_cons (pv 0) (pa_cons pe_int pa_nil))))
      (pss_cons (ps_setLc (i := 4) (own := [("_law_again", 3)]) (g := (gName 3)) (by rfl) sc__law_right.nd rfl rfl (sw_true rfl rfl rfl (by decide +kernel)) (pi_range1 rfl T.b_range (pa_cons (C8.pe_c c_l_take hr (by decide) rfl (pa_cons (pv 0) (pa_cons pe_int pa_nil))) pa_nil)) (blkOk_by (own := [("_law_again", 3)]) (N := N__law_right) (sc := C8.fnScope s__law_right) (by decide +kernel)) (fun _ _ _ _ _ => (pg_name (i := 3) sc__law_right.nd rfl (Or.inl rfl))) (fun _ _ _ _ _ => pts_nil) (fun _ _ _ _ _ => (pe_tup (pa_cons (C8.pe_c c_l_take hr (by decide) rfl (pa_cons (pv 0) (pa_cons (pe_op op_add (pe_callB (r := rLenQ K) call_len_seq (by rfl) T.b_len PySem.boot_len (pa_cons (pv 2) pa_nil)) pe_int) pa_nil))) (pa_cons (C8.pe_c c_l_take hr (by decide) rfl (pa_cons (pv 0) (pa_cons pe_int pa_nil))) pa_nil)))))
      (pss_cons (ps_set (i := 5) sc__law_right.nd rfl (Or.inl rfl) (C8.pe_c c_sweeps_under hr (by decide) rfl (pa_cons (pv 2) (pa_cons (pv 4) pa_nil))))
      (pss_cons (ps_set (i := 7) sc__law_right.nd rfl (Or.inl rfl) (pe_callB (r := rLenQ K) call_len_seq (by rfl) T.b_len PySem.boot_len (pa_cons (pe_lc (own := [("_law_row", 6)]) (g := (gName 6)) (by rfl) sc__law_right.nd  (pi_tup (pv 2)) (blkOk_by (own := [("_law_row", 6)]) (N := N__law_right) (sc := C8.fnScope s__law_right) (by decide +kernel)) (fun _ _ _ _ _ => (pg_name (i := 6) sc__law_right.nd rfl (Or.inl rfl))) (fun _ _ _ _ _ => (pts_one (pt_cmpR op_eq (pe_ix (r := rIxT K) ix_tup (pv 6) pe_int (fun _ _ => rfl)) pe_str (nomark _)))) (fun _ _ _ _ _ => (pv 6))) pa_nil)))
      (pss_cons (ps_set (i := 8) sc__law_right.nd rfl (Or.inl rfl) (pe_callB (cr_sortedSet rfl) (by rfl) T.b_sorted (by decide +kernel) (pa_cons (pe_callTy (K15R.cr_setOfL rfl) (by rfl) T.b_set (by decide +kernel) (pa_cons (pe_lc (own := [("_law_row", 6)]) (g := (gName 6)) (by rfl) sc__law_right.nd  (pi_tup (pv 2)) (blkOk_by (own := [("_law_row", 6)]) (N := N__law_right) (sc := C8.fnScope s__law_right) (by decide +kernel)) (fun _ _ _ _ _ => (pg_name (i := 6) sc__law_right.nd rfl (Or.inl rfl))) (fun _ _ _ _ _ => (pts_one (pt_cmpR (r := rIn K false) op_in_seq (pe_ix (r := rIxT K) ix_tup (pv 6) pe_int (fun _ _ => rfl)) (pe_tup (pa_cons pe_str (pa_cons pe_str pa_nil))) (by with_unfolding_all rfl)))) (fun _ _ _ _ _ => (pe_ix (r := rIxT K) ix_tup (pv 6) pe_int (fun _ _ => rfl)))) pa_nil)) pa_nil)))
      (pss_cons (ps_set (i := 11) sc__law_right.nd rfl (Or.inl rfl) (pe_op op_cat (pe_lc (own := [("_law_k", 9)]) (g := (gName 9)) (by rfl) sc__law_right.nd  (pi_range1 rfl T.b_range (pa_cons (pv 7) pa_nil)) (blkOk_by (own := [("_law_k", 9)]) (N := N__law_right) (sc := C8.fnScope s__law_right) (by decide +kernel)) (fun _ _ _ _ _ => (pg_name (i := 9) sc__law_right.nd rfl (Or.inl rfl))) (fun _ _ _ _ _ => pts_nil) (fun _ _ _ _ _ => (pe_tup (pa_cons pe_str (pa_cons (pv 9) pa_nil))))) (pe_lc (own := [("_law_p", 10)]) (g := (gName 10)) (by rfl) sc__law_right.nd  (pi_list (pv 8)) (blkOk_by (own := [("_law_p", 10)]) (N := N__law_right) (sc := C8.fnScope s__law_right) (by decide +kernel)) (fun _ _ _ _ _ => (pg_name (i := 10) sc__law_right.nd rfl (Or.inl rfl))) (fun _ _ _ _ _ => pts_nil) (fun _ _ _ _ _ => (pe_tup (pa_cons pe_str (pa_cons (pv 10) pa_nil)))))))
      (pss_cons (ps_if (pt_not (pt_val (C8.pe_c c_l_holds_right hr (by decide) rfl (pa_cons (pv 2) (pa_cons (pv 5) (pa_cons (C8.pe_c c_l_watch hr (by decide) rfl (pa_cons (pv 0) (pa_cons (pv 2) pa_nil))) pa_nil)))))) (pss_one (ps_ret pe_bl)) pss_nil)
      (pss_cons (ps_par (i := 12) (j := 13) (by rfl) sc__law_right.nd rfl rfl (by decide) rfl rfl (pa_cons (C8.pe_c c_l_take hr (by decide) rfl (pa_cons (pv 0) (pa_cons pe_int pa_nil))) (pa_cons (pe_lst pa_nil) pa_nil)) (by rfl))
      (pss_cons (ps_set (i := 14) sc__law_right.nd rfl (Or.inr rfl) (C8.pe_c c_wrong_pairs hr (by decide) rfl (pa_cons (pv 2) (pa_cons (pv 12) (pa_cons (pv 5) (pa_cons (pv 13) pa_nil))))))
      (pss_cons (ps_for PassesOwn.never rfl (pi_list (C8.pe_c c_l_strewn hr (by decide) rfl (pa_cons (pv 0) (pa_cons (pv 11) pa_nil)))) (pg_name (i := 15) sc__law_right.nd rfl (Or.inl rfl)) (pss_cons (ps_set (i := 13) sc__law_right.nd rfl (Or.inl rfl) (pe_callB (K15R.cr_sortedG hr.units) (by rfl) T.b_sorted (by decide +kernel) (pa_cons (pe_op op_cat (pv 13) (pe_lst (pa_cons (pv 15) pa_nil))) pa_nil)))
      (pss_cons (ps_set (i := 16) sc__law_right.nd rfl (Or.inl rfl) (C8.pe_c c_wrong_pairs hr (by decide) rfl (pa_cons (pv 2) (pa_cons (pv 12) (pa_cons (pv 5) (pa_cons (pv 13) pa_nil))))))
      (pss_cons (ps_if (pt_not (pt_val (pe_callB (r := rAll K) (cr_all rfl) (by rfl) T.b_all (by decide +kernel) (pa_cons (pe_lc (own := [("_law_duo", 17)]) (g := (gName 17)) (by rfl) sc__law_right.nd  (pi_list (pv 16)) (blkOk_by (own := [("_law_duo", 17)]) (N := N__law_right) (sc := C8.fnScope s__law_right) (by decide +kernel)) (fun _ _ _ _ _ => (pg_name (i := 17) sc__law_right.nd rfl (Or.inl rfl))) (fun _ _ _ _ _ => pts_nil) (fun _ _ _ _ _ => (pe_cmpR (r := rInD K) (op_inD (units65 hr)) (pv 17) (pv 14) (by with_unfolding_all rfl)))) pa_nil)))) (pss_one (ps_ret pe_bl)) pss_nil)
      (pss_one (ps_set (i := 14) sc__law_right.nd rfl (Or.inr rfl) (pv 16)))))))
      (pss_cons (ps_if (pt_cmpR (r := rNeD K) (op_neD hr.units) (pv 14) (pe_lst pa_nil) (nomark _)) (pss_one (ps_ret pe_bl)) pss_nil)
      (pss_one (ps_for PassesOwn.never rfl (pi_list (pv 8)) (pg_name (i := 10) sc__law_right.nd rfl (Or.inr rfl)) (pss_one (ps_if (pt_cmpR (r := rNotInD K) (op_notInD (units65 hr)) (pe_tup (pa_cons pe_str (pa_cons (pv 10) pa_nil))) (pe_lc (own := [("_law_row", 6)]) (g := (gName 6)) (by rfl) sc__law_right.nd  (pi_tup (pv 2)) (blkOk_by (own := [("_law_row", 6)]) (N := N__law_right) (sc := C8.fnScope s__law_right) (by decide +kernel)) (fun _ _ _ _ _ => (pg_name (i := 6) sc__law_right.nd rfl (Or.inl rfl))) (fun _ _ _ _ _ => pts_nil) (fun _ _ _ _ _ => (pe_slice (r := rSlA K) sl_tupA (pv 6) po_none (po_some pe_int)))) (by with_unfolding_all rfl)) (pss_cons (ps_set (i := 18) sc__law_right.nd rfl (Or.inl rfl) (C8.pe_c c_wrong_pairs hr (by decide) rfl (pa_cons (pv 2) (pa_cons (pv 12) (pa_cons (pv 5) (pa_cons (pe_lst (pa_cons (pe_tup (pa_cons pe_str (pa_cons (pv 10) pa_nil))) pa_nil)) pa_nil))))))
      (pss_one (ps_if (pt_cmpR (r := rNeD K) (op_neD hr.units) (pe_lc (own := [("_law_duo", 17)]) (g := (gName 17)) (by rfl) sc__law_right.nd  (pi_list (pv 18)) (blkOk_by (own := [("_law_duo", 17)]) (N := N__law_right) (sc := C8.fnScope s__law_right) (by decide +kernel)) (fun _ _ _ _ _ => (pg_name (i := 17) sc__law_right.nd rfl (Or.inl rfl))) (fun _ _ _ _ _ => (pts_one (pt_cmpR op_eq (pe_ix (r := rIxT K) ix_tup (pv 17) pe_int (fun _ _ => rfl)) (pv 10) (nomark _)))) (fun _ _ _ _ _ => (pv 17))) (pe_lst pa_nil) (nomark _)) (pss_one (ps_ret pe_bl)) pss_nil))) pss_nil))))))))))))))))
      (pss_one (ps_ret pe_bl))), ?_⟩
    refine st_seq ?_
    refine ⟨2, rfl, by decide, by decide, for_range (n := 2) (fun i σ H1 => ∃ x1 x2 x3 x4 x5 x6 x7 x8 x9 x10 x11 x12 x13 x14 x15 x16 x17 x18 : Option V, σ = [some (.ref b), x1, x2, x3, x4, x5, x6, x7, x8, x9, x10, x11, x12, x13, x14, x15, x16, x17, x18] ∧ Exc (fun a => a = b) H H1 ∧ BoxAt H1 b (100000 * i))
      ⟨none, none, none, none, none, none, none, none, none, none, none, none, none, none, none, none, none, none, rfl, Exc.refl _ _, hb.mono (by omega)⟩ ?_ ?_⟩
    · rintro i σ H0 hi ⟨x1, x2, x3, x4, x5, x6, x7, x8, x9, x10, x11, x12, x13, x14, x15, x16, x17, x18, rfl, e0, hb0⟩
      refine ⟨_, rfl, b, _, rfl, hb0, by omega, fun T1 as es H1 hb1 e1 hT he val len ok => ?_⟩
      have E1 := e0.trans e1
      have hal := he.len
      dsimp only [gName]
      refine st_seq ?_
      refine ⟨_, rfl, b, 3, _, rfl, by decide, by decide, hb1, by omega, fun r H2 r0 r1 hb2 e2 => ?_⟩
      have E2 := E1.trans e2
      have hT2 := e2 _ _ hT (noTup_b hb1 _ _ hT)
      have he2 := TupsAt.exc he e2 (noTup_b hb1)
      refine ⟨r, rfl, by omega, by omega, fun D4 nD4 => ?_⟩
      have bD4 := hb2.ne nD4
      refine lc_it (walk_range (lo := 0) (n := r.toNat)) (fun j H3 => Exc (fun a => a = b) H2 H3 ∧ BoxAt H3 b (100000 * i + 3000 + 1 + 2 * j) ∧ ∃ (bs : List Addr) (bds : List (Int × Int)), H3 D4 = some (.lst (bs.map V.ref)) ∧ TupsAt H3 bs (bds.map bdV) ∧ (∀ d, d ∈ bds → 0 ≤ d.2) ∧ bds.length ≤ j)
        ⟨same_exc (same_new nD4) _, (hb2.upd' nD4).mono (by omega), [], [], upd_same, .nil, fun _ h => (by cases h), Nat.le_refl _⟩ (fun _ _ _ _ => True.intro) ?_ ?_
      · rintro j x H3 H4 hj ⟨e3, hb3, bs, bds, hD, hB, hd0, hdl⟩ ⟨rfl, rfl⟩
        refine ⟨rfl, ?_⟩
        unfold tYes
        refine iteT ?_
        have hT3 := e3 _ _ hT2 (noTup_b hb2 _ _ hT2)
        refine ⟨_, rfl, _, rfl, T1, _, rfl, .inr (SqT.of hT3), _, _, rfl, rfl, b, _, _, rfl, by omega, by rw [List.length_map]; omega, hb3, by omega, fun y H5 y0 y1 hb5 e5 => ?_⟩
        refine ⟨_, rfl, b, 8, _, rfl, by decide, by decide, hb5, by omega, fun z H6 z0 z1 hb6 e6 => ?_⟩
        refine ⟨by show 2 ≤ sizeLine; decide, fun u nu => ?_⟩
        have e56 := e5.trans e6
        have hD6 := e56 _ _ hD bD4.symm
        have hB6 := TupsAt.exc hB e56 (noTup_b hb3)
        have s7 := same_new (o := .tup [.int y, .int z]) nu
        have hD7 := s7 _ _ hD6
        have hB7 := TupsAt.same hB6 s7
        have hu7 : upd H6 u (.tup [.int y, .int z]) u = some (.tup (bdV (y, z))) := upd_same
        refine ⟨bs.map V.ref, hD7, line_of (by rw [List.length_map, hB.len, List.length_map]; omega), ?_⟩
        have hb7 := box_same hb6 s7
        have E7 := (e3.trans e56).trans (same_exc s7 (fun a => a = b))
        generalize upd H6 u (.tup [.int y, .int z]) = H7 at hD7 hB7 hu7 hb7 E7
        have e8 : Exc (fun a => a = D4) H7 (upd H7 D4 (.lst (bs.map V.ref ++ [.ref u]))) := (Exc.refl _ H7).at rfl
        have nt : NoTup (fun a => a = D4) H7 := fun a xs e z => by
          have z : a = D4 := z
          rw [z, hD7] at e
          cases e
        refine ⟨E7.out e8 fun x z => .inr (by have z : x = D4 := z; rw [z]; exact nD4), (hb7.exc e8 bD4).mono (by omega), bs ++ [u], bds ++ [(y, z)], by rw [List.map_append]; exact upd_same, ?_, fun d hd => ?_, by rw [List.length_append]; show bds.length + 1 ≤ j + 1; omega⟩
        · rw [List.map_append]
          exact TupsAt.snoc (TupsAt.exc hB7 e8 nt) (e8 _ _ hu7 fun z => nt _ _ hu7 z)
        · rcases List.mem_append.mp hd with hd | hd
          · exact hd0 d hd
          · rw [List.mem_singleton.mp hd]
            exact z0
      · rintro H3 ⟨e3, hb3, bs, bds, hD, hB, hd0, hdl⟩
        have E3 := E2.trans e3
        have hT3 := e3 _ _ hT2 (noTup_b hb2 _ _ hT2)
        have he3 := TupsAt.exc he2 e3 (noTup_b hb2)
        have hr3 : r.toNat ≤ 2 := by omega
        dsimp only [gName]
        refine st_seq ?_
        refine ⟨_, rfl, _, rfl, T1, D4, as, bs, es, bds, rfl, hT3, he3, by omega, hD, hB, hd0, by omega, fun br bas pts H4 s4 hbr hbp hpok => ?_⟩
        have hT4 := s4 _ _ hT3
        have he4 := TupsAt.same he3 s4
        dsimp only [gName]
        refine st_seq (st_setH (v_count (K := K) (i := 2) (j := 6) rfl hT4 he4 (Nat.le_of_ble_eq_true rfl) (by omega)) ?_)
        rintro v H5 ⟨rfl, s5⟩
        refine st_seq (st_setH (v_readers (K := K) (i := 2) (j := 6) rfl (s5 _ _ hT4) (TupsAt.same he4 s5) (Nat.le_of_ble_eq_true rfl) len) ?_)
        rintro v H6 ⟨rs, ns, rfl, nrs, s6, hrs, hns, hnl⟩
        refine st_seq (st_setH (v_every (K := K) (m := saves es) (i := 7) (j := 9) (i2 := 8) (j2 := 10) rfl (by have := saves_le es; omega) (Nat.le_of_ble_eq_true rfl) rfl hrs (Nat.le_of_ble_eq_true rfl) (by omega)) ?_)
        rintro v H7 ⟨ev, gas, rfl, nev, s7, hev, hgas⟩
        have s47 := (s5.trans s6).trans s7
        have hb7 := box_same (box_same hb3 s4) s47
        have E7 := (E3.trans (same_exc s4 _)).trans (same_exc s47 _)
        have hT7 := s47 _ _ hT4
        have he7 : EvsAt H7 as es := TupsAt.same he4 s47
        have hbr7 := s47 _ _ hbr
        have hbp7 := TupsAt.same hbp s47
        have hrs7 := s7 _ _ hrs
        have rsb : rs ≠ b := fun z => by
          obtain ⟨_, _, _, q1, _⟩ := (box_same hb3 s4).ex
          have := s5 _ _ q1
          rw [← z, nrs] at this
          cases this
        have evb : ev ≠ b := fun z => by
          obtain ⟨_, _, _, q1, _⟩ := (box_same (box_same (box_same hb3 s4) s5) s6).ex
          rw [← z, nev] at q1
          cases q1
        clear hb0 e0 hb1 e1 hT he E1 hb2 e2 hT2 he2 E2 e3 hb3 hD hB hd0 hdl E3 hT3 he3 s4 hbr hbp hT4 he4 s5 s6 s7 s47 hrs
        have mkIn : ∀ {H8 : Hp} {g : Addr} {ga : List Addr} {gs : List (Bool × Int)}, Exc (fun a => a = b) H7 H8 → (H8 g = some (.lst (ga.map V.ref)) ∨ H8 g = some (.tup (ga.map V.ref))) → TupsAt H8 ga (gs.map gdV) → gs.length ≤ 1000 → (∀ n, (true, n) ∈ gs → 0 ≤ n) → RunIn H8 T1 br g as bas ga es pts gs := fun e hg hgs hgl hgn =>
          ⟨e _ _ hT7 (noTup_b hb7 _ _ hT7), TupsAt.exc he7 e (noTup_b hb7), val, ok, len, e _ _ hbr7 (noTup_b hb7 _ _ hbr7), TupsAt.exc hbp7 e (noTup_b hb7), hpok, hg, hgs, hgl, hgn⟩
        refine st_seq ?_
        refine ⟨_, rfl, _, rfl, _, rfl, _, rfl, b, T1, as, es, _, rfl, hT7, he7, len, hb7, by omega, fun W wgas wgs H8 hb8 e8 hW hWg hWl hWn => ?_⟩
        refine ⟨T1, br, W, as, bas, wgas, es, pts, wgs, rfl, mkIn e8 (.inr hW) hWg (by omega) hWn, fun H9 s9 => ⟨_, rfl, iteF ?_⟩⟩
        have hb9 := box_same hb8 s9
        have e9 := e8.trans (same_exc s9 (fun a => a = b))
        dsimp only
        refine st_seq ?_
        refine ⟨_, rfl, b, 3, _, rfl, by decide, by decide, hb9, by omega, fun kp H10 k0 k1 hb10 e10 => ⟨Nat.zero_le _, fun L13 n13 => ⟨_, _, rfl, ?_⟩⟩⟩
        have s11 := same_new (o := .lst []) n13
        have e11 := (e9.trans e10).trans (same_exc s11 (fun a => a = b))
        have hb11 := box_same hb10 s11
        have hL11 : upd H10 L13 (.lst []) L13 = some (.lst []) := upd_same
        generalize upd H10 L13 (.lst []) = H11 at s11 e11 hb11 hL11
        dsimp only
        refine st_seq ?_
        refine ⟨_, rfl, _, rfl, _, rfl, _, rfl, T1, br, L13, as, bas, [], es, pts, [], kp, rfl, mkIn e11 (.inl hL11) .nil (Nat.zero_le _) (fun _ h => (by cases h)), fun l14 d14 u14 H12 s12 n12 q1 q2 q3 q4 q5 => ?_⟩
        have p14 : PairsAt H12 l14 d14 u14 (runE (init kp []) es pts) := ⟨q1, q2, q3, q4, q5⟩
        have e12 := e11.trans (same_exc s12 (fun a => a = b))
        have hb12 := box_same hb11 s12
        have L13b : L13 ≠ b := (hb10.ne n13).symm
        have l14b : l14 ≠ b := (hb11.ne n12).symm
        dsimp only [gName]
        refine st_seq ?_
        have hev12 := e12 _ _ hev evb
        have hgas12 := TupsAt.exc hgas e12 (noTup_b hb7)
        have hgl := gAll_len (ns := ns) len hnl
        have hgasl : gas.length = (gAll es ns).length := by
          have := hgas.len
          rw [List.length_map] at this
          exact this
        refine ⟨_, rfl, _, rfl, b, ev, gas, _, rfl, hev12, fun a ha => ?_, by omega, hb12, by omega, fun sp as' H13 hb13 e13 nsp hsp pm => ?_⟩
        · obtain ⟨xs, hxs, hat⟩ := paired_mem hgas12 ha
          obtain ⟨g, _, rfl⟩ := List.mem_map.mp hxs
          exact ⟨_, hat, gd_ok g⟩
        have E13 := e12.trans e13
        have hgas13 := TupsAt.exc hgas12 e13 (noTup_b hb12)
        have p13 : PairsAt H13 l14 d14 u14 (runE (init kp []) es pts) := ⟨e13 _ _ p14.lst l14b, TupsAt.exc p14.tups e13 (noTup_b hb12), q3, q4, q5⟩
        have hL13 := e13 _ _ (s12 _ _ hL11) L13b
        obtain ⟨Z, hZ1, hZ2⟩ := gz_of (H := H13) (gs := gAll es ns) (as := as') fun a ha => by
          obtain ⟨xs, hxs, hat⟩ := paired_mem hgas13 (pm.mem_iff.mp ha)
          obtain ⟨g, hg, rfl⟩ := List.mem_map.mp hxs
          exact ⟨g, hg, hat⟩
        have hZall : ∀ g, g ∈ gAll es ns → ∃ z, z ∈ Z ∧ z.2 = g := fun g hg => by
          obtain ⟨a, ha, hat⟩ := paired_mem' hgas13 (List.mem_map_of_mem (f := gdV) hg)
          have ha' := pm.mem_iff.mpr ha
          rw [← hZ1] at ha'
          obtain ⟨z, hz, rfl⟩ := List.mem_map.mp ha'
          refine ⟨z, hz, gdV_inj ?_⟩
          have := (hZ2 z hz).1
          rw [hat] at this
          injection this with this
          injection this with this
          exact this.symm
        have hZl : Z.length ≤ 130 := by
          have h1 := congrArg List.length hZ1
          rw [List.length_map] at h1
          have h2 := pm.length_eq
          omega
        refine ⟨sp, rfl, ⟨_, SqL.of hsp⟩, for_list (K := K) (a := sp) (xs := as'.map V.ref) (fun j σ Hj => ∃ (x1 x3 x6 x9 x10 x15 x16 x17 x18 : Option V) (y7 : V) (Lg l : Addr) (zs : List GZ) (ds : List Addr) (dus : List (Int × Str)),
            σ = [some (.ref b), x1, some (.ref T1), x3, some (.ref D4), some (.ref br), x6, some y7, some (.ref rs), x9, x10, some (.ref ev), some (.int kp), some (.ref Lg), some (.ref l), x15, x16, x17, x18] ∧ Same H13 Hj ∧
            Hj Lg = some (.lst (zs.map fun z => V.ref z.1)) ∧ zs.Perm (Z.take j) ∧ PairsAt Hj l ds dus (runE (init kp (zs.map (·.2))) es pts))
          ⟨_, _, _, _, _, _, _, _, _, _, L13, l14, [], d14, u14, rfl, Same.refl _, hL13, List.Perm.refl _, p13⟩ (fun j σ Hj _ ⟨_, _, _, _, _, _, _, _, _, _, _, _, _, _, _, _, sj, _⟩ => SqL.of (sj _ _ hsp)) ?_ ?_⟩
        · rintro j x σ Hj hx ⟨y1, y3, y6, y9, y10, y15, y16, y17, y18, y7, Lg, l, zs, ds, dus, rfl, sj, hLg, hzp, pj⟩
          obtain ⟨a, ha, rfl⟩ := refs_ix hx
          obtain ⟨z, hz, rfl⟩ : ∃ z, Z[j]? = some z ∧ z.1 = a := by
            rw [← hZ1, List.getElem?_map] at ha
            cases e : Z[j]? with
            | none => rw [e] at ha; cases ha
            | some z => rw [e] at ha; cases ha; exact ⟨z, rfl, rfl⟩
          have hzsl : zs.length ≤ 130 := by
            have := hzp.length_eq
            rw [List.length_take] at this
            omega
          have hzat : ∀ y, y ∈ zs ++ [z] → H13 y.1 = some (.tup (gdV y.2)) ∧ y.2 ∈ gAll es ns := fun y hy => by
            rcases List.mem_append.mp hy with hy | hy
            · exact hZ2 y (List.mem_of_mem_take (hzp.mem_iff.mp hy))
            · rw [List.mem_singleton.mp hy]
              exact hZ2 z (List.mem_of_getElem? hz)
          refine ⟨_, rfl, _, rfl, by show 1 ≤ sizeLine; decide, fun M nM => ?_⟩
          have sM := same_new (o := .lst [.ref z.1]) nM
          refine ⟨Lg, M, _, _, rfl, rfl, sM _ _ hLg, upd_same, Nat.le_of_lt (line_of (by rw [List.length_map]; show zs.length + 1 ≤ 100000; omega)), fun M2 nM2 => ?_⟩
          have eqM : (zs.map fun z => V.ref z.1) ++ [V.ref z.1] = ((zs ++ [z]).map gzF).map fun t => V.ref t.1 := by
            rw [List.map_map, List.map_append]
            rfl
          rw [eqM]
          have sM2 := sM.trans (same_new (o := .lst (((zs ++ [z]).map gzF).map fun t => V.ref t.1)) nM2)
          have sj2 := sj.trans sM2
          refine ⟨M2, (zs ++ [z]).map gzF, rfl, SqL.of upd_same, fun t ht => ?_, fun us Mp pmU nMp => ?_⟩
          · obtain ⟨y, hy, rfl⟩ := List.mem_map.mp ht
            have := sj2 _ _ (hzat y hy).1
            rw [gdV_gN] at this
            exact SqT.of this
          obtain ⟨zs', pmz, rfl⟩ := gz_perm pmU
          have sMp := same_new (o := .lst ((zs'.map gzF).map fun t => V.ref t.1)) nMp
          have sj3 := sj2.trans sMp
          have sK := sM2.trans sMp
          have hMp : upd (upd (upd Hj M (.lst [.ref z.1])) M2 (.lst (((zs ++ [z]).map gzF).map fun t => V.ref t.1))) Mp (.lst ((zs'.map gzF).map fun t => V.ref t.1)) Mp = some (.lst ((zs'.map (·.1)).map V.ref)) := by
            rw [upd_same, List.map_map, List.map_map]
            rfl
          generalize upd (upd (upd Hj M (.lst [.ref z.1])) M2 (.lst (((zs ++ [z]).map gzF).map fun t => V.ref t.1))) Mp (.lst ((zs'.map gzF).map fun t => V.ref t.1)) = Hk at sj3 sK hMp
          have hz' : ∀ y, y ∈ zs' → H13 y.1 = some (.tup (gdV y.2)) ∧ y.2 ∈ gAll es ns := fun y hy => hzat y (pmz.mem_iff.mp hy)
          have hz'l : zs'.length ≤ 131 := by
            have := pmz.length_eq
            rw [List.length_append] at this
            have h1 : [z].length = 1 := rfl
            omega
          dsimp only [gName]
          refine st_seq ?_
          refine ⟨_, rfl, _, rfl, _, rfl, _, rfl, T1, br, Mp, as, bas, zs'.map (·.1), es, pts, zs'.map (·.2), kp, rfl, mkIn (E13.trans (same_exc sj3 _)) (.inl hMp) (gz_tups fun y hy => sj3 _ _ (hz' y hy).1) (by rw [List.length_map]; omega) (fun n hn => ?_), fun l3 d3 u3 H3 s3 n3 c1 c2 c3 c4 c5 => ?_⟩
          · obtain ⟨y, hy, e⟩ := List.mem_map.mp hn
            have := (hz' y hy).2
            rw [e] at this
            exact gAll_nn n this
          have p3 : PairsAt H3 l3 d3 u3 (runE (init kp (zs'.map (·.2))) es pts) := ⟨c1, c2, c3, c4, c5⟩
          dsimp only [gName]
          refine st_seq (st_noH (AnsH.to (ansH_not (ansH_val (v_all (K := K) (i := 16) (j := 17) (k := 14) ((pj.same sK).same s3) p3 (fun r k zz => K15.mono (Int.le_refl _) (fun g hg => ?_) es pts zz) rfl rfl (Nat.le_of_ble_eq_true rfl) (by decide)))) rfl) (fun H4 s4 => ?_))
          · obtain ⟨y, hy, rfl⟩ := List.mem_map.mp hg
            exact List.mem_map_of_mem (pmz.mem_iff.mpr (List.mem_append_left _ hy))
          refine ⟨_, rfl, ?_⟩
          refine ⟨_, _, _, _, _, _, _, _, _, _, Mp, l3, zs', d3, u3, rfl, (sj3.trans s3).trans s4, ?_, ?_, p3.same s4⟩
          · rw [show (zs'.map fun z => V.ref z.1) = (zs'.map (·.1)).map V.ref by rw [List.map_map]; rfl]
            exact s4 _ _ (s3 _ _ hMp)
          · rw [take_snoc hz]
            exact pmz.trans (hzp.append_right [z])
        · rintro σ Hj ⟨y1, y3, y6, y9, y10, y15, y16, y17, y18, y7, Lg, l, zs, ds, dus, rfl, sj, hLg, hzp, pj⟩
          have hZt : Z.take (as'.map V.ref).length = Z := by
            refine List.take_of_length_le ?_
            rw [List.length_map, ← hZ1, List.length_map]
            exact Nat.le_refl _
          rw [hZt] at hzp
          have hin : ∀ g, g ∈ gAll es ns → g ∈ zs.map (·.2) := fun g hg => by
            obtain ⟨z, hz, rfl⟩ := hZall g hg
            exact List.mem_map_of_mem (hzp.mem_iff.mpr hz)
          have none_ : ∀ r k, ¬ wrong (runE (init kp (zs.map (·.2))) es pts) r k := fun r k => K15.all (pts_len hpok) val (fun r hr => hin _ (List.mem_append_right _ (List.mem_map_of_mem ((hns r).mpr (jl_mem.mpr hr))))) (fun c hc => hin _ (List.mem_append_left _ (List.mem_map.mpr ⟨c, List.mem_range.mpr hc, rfl⟩))) r k
          have hd0 := pj.nil none_
          dsimp only
          refine st_seq (st_noH (ans_neNil (K := K) (b := false) (val_var rfl) (fun H' sm => (pj.same sm).dp) (dLT_shaped pj.okT) (by rw [hd0]; rfl)) (fun H14 s14 => ?_))
          have sj14 := sj.trans s14
          have hrs14 := sj14 _ _ (E13 _ _ hrs7 rsb)
          have E14 := E13.trans (same_exc sj14 (fun a => a = b))
          have hb14 := box_same hb13 sj14
          have hT14 := E14 _ _ hT7 (noTup_b hb7 _ _ hT7)
          have he14 : EvsAt H14 as es := TupsAt.exc he7 E14 (noTup_b hb7)
          refine ⟨_, rfl, rs, rfl, ⟨_, SqL.of hrs14⟩, for_list (K := K) (a := rs) (xs := ns.map V.int) (fun j σ Hk => ∃ x1 x3 x4 x6 x7 x9 x10 x11 x13 x14 x15 x16 x17 x18 : Option V,
              σ = [some (.ref b), x1, some (.ref T1), x3, x4, some (.ref br), x6, x7, some (.ref rs), x9, x10, x11, some (.int kp), x13, x14, x15, x16, x17, x18] ∧ Same H14 Hk)
            ⟨_, _, _, _, _, _, _, _, _, _, _, _, _, _, rfl, Same.refl _⟩ (fun j σ Hk _ ⟨_, _, _, _, _, _, _, _, _, _, _, _, _, _, _, sk⟩ => SqL.of (sk _ _ hrs14)) ?_ ?_⟩
          · rintro j x σ Hk hx ⟨z1, z3, z4, z6, z7, z9, z10, z11, z13, z14, z15, z16, z17, z18, rfl, sk⟩
            rw [List.getElem?_map] at hx
            cases hnj : ns[j]? with
            | none => rw [hnj] at hx; cases hx
            | some r =>
              rw [hnj] at hx
              cases hx
              by_cases hld : ∀ c, Ev.load r c ∉ es
              · refine st_yesH (a_load (K := K) (i := 2) (j := 6) (i2 := 10) (r := r) (bb := true) rfl rfl (sk _ _ hT14) (TupsAt.same he14 sk) ok (Nat.le_of_ble_eq_true rfl) (by omega) ⟨fun _ => hld, fun _ => rfl⟩) (fun H15 s15 => ?_)
                have s15' := sk.trans s15
                refine ⟨_, rfl, _, rfl, _, rfl, _, rfl, by show 2 ≤ sizeLine; decide, fun u nu => ⟨by show 1 ≤ sizeLine; decide, fun G nG => ?_⟩⟩
                have s16 := (same_new (o := .tup [.str "reader", .int r]) nu).trans (same_new (o := .lst [.ref u]) nG)
                have hu16 := (same_new (o := .lst [.ref u]) nG) _ _ (upd_same (H := H15) (a := u) (o := .tup [.str "reader", .int r]))
                refine ⟨T1, br, G, as, bas, [u], es, pts, [(false, r)], kp, rfl, mkIn (E14.trans (same_exc (s15'.trans s16) _)) (.inl upd_same) (.cons hu16 .nil) (by show 1 ≤ 1000; decide) (fun n hn => by cases List.mem_singleton.mp hn), fun l3 d3 u3 H3 s3 n3 c1 c2 c3 c4 c5 => ?_⟩
                have p3 : PairsAt H3 l3 d3 u3 (runE (init kp [(false, r)]) es pts) := ⟨c1, c2, c3, c4, c5⟩
                dsimp only [gName]
                refine st_noH (a_none (K := K) (i := 18) (j := 17) (k := 10) (r := r) p3 (fun k => K15.self val (List.mem_singleton.mpr rfl) hld k) rfl rfl (Nat.le_of_ble_eq_true rfl) (by decide)) (fun H17 s17 => ?_)
                exact ⟨_, _, _, _, _, _, _, _, _, _, _, _, _, _, rfl, ((s15'.trans s16).trans s3).trans s17⟩
              · refine st_noH (a_load (K := K) (i := 2) (j := 6) (i2 := 10) (r := r) (bb := false) rfl rfl (sk _ _ hT14) (TupsAt.same he14 sk) ok (Nat.le_of_ble_eq_true rfl) (by omega) ⟨fun z => (by cases z), fun z => absurd z hld⟩) (fun H15 s15 => ?_)
                exact ⟨_, _, _, _, _, _, _, _, _, _, _, _, _, _, rfl, sk.trans s15⟩
          · rintro σ Hk ⟨z1, z3, z4, z6, z7, z9, z10, z11, z13, z14, z15, z16, z17, z18, rfl, sk⟩
            exact ⟨_, _, _, _, _, _, _, _, _, _, _, _, _, _, _, _, _, _, rfl, (E7.trans E14).trans (same_exc sk _), (box_same hb14 sk).mono (by omega)⟩
    · rintro σ H1 ⟨x1, x2, x3, x4, x5, x6, x7, x8, x9, x10, x11, x12, x13, x14, x15, x16, x17, x18, rfl, e1, hb1⟩
      exact q _ e1
end
end K15

set_option Elab.async false
set_option linter.all false
set_option autoImplicit false
set_option maxRecDepth 100000
set_option maxHeartbeats 4000000
namespace K15
open PySem L2
theorem seq_new {K : PySem.W.Frag} {H H' : Hp} {a p : Addr} {xs : List V} (h : SqL K H a xs) (n : H p = none) (e : Exc (fun x => x = p) H H') : SqL K H' a xs := by
  rcases h with (h | ⟨o, h⟩) | h
  · exact .inl (.inl (e _ _ h (ne_of_none h n)))
  · exact .inl (.inr ⟨o, e _ _ h (ne_of_none h n)⟩)
  · exact .inr h
theorem seq_same {K : PySem.W.Frag} {H H' : Hp} {a : Addr} {xs : List V} (h : SqL K H a xs) (s : Same H H') : SqL K H' a xs := (same_exc s fun _ => False).seq h (fun z => z)
section
variable {P : Program} {w : World} {K : PySem.W.Frag} {mg : Str → Option Value} {base : Heap} {A : Adr} {f : Addr} {fd : FuncData}
abbrev s_law : Stmt := top 38
abbrev N_law : List Str := ["_law_script", "_law_k"]
abbrev P_law : List Str := ["_law_script"]
theorem sc_law : FnScope N_law P_law (C8.fnScope s_law) := C8.fnScope_by (by decide +kernel)
def spLaw (K : PySem.W.Frag) : Sp := fun vs H Q _ => ∃ (a : Addr) (ns : List Int), vs = [.ref a] ∧ SqL K H a (ns.map V.int) ∧ (∀ n ∈ ns, Builtin.Int.intBits n ≤ 1048576) ∧ ns.length ≤ 63 ∧ ∀ H', Q (.bl true) H'
theorem law_ok (T : Txt K mg A) (F : C8.Fun K "law" "law" s_law f fd) (c_l_box : C8.Cal P w K mg base 1 "_law_box" (spBox K) []) (c_l_right : C8.Cal P w K mg base 11 "_law_right" spRight []) : FnOk P w K mg base C8.CX0 12 f fd ["_law_script"] (spLaw K) := by
  refine C8.fn0 (k := 11) F sc_law (fun vs H Q E h => ?_) (fun cdv A' outer s H vs Q E hr h => ?_)
  · obtain ⟨a, ns, rfl, _⟩ := h
    rfl
  · obtain ⟨a, ns, rfl, hs, hbit, hl, q⟩ := h
    have hu := hu_of hr
    refine ⟨_, (pss_one (ps_ret (pe_callB (r := rAll K) (cr_all rfl) (by rfl) T.b_all (by decide +kernel) (pa_cons (pe_lc (own := [("_law_k", 1)]) (g := (gName 1)) (by rfl) sc_law.nd  (pi_range1 rfl T.b_range (pa_cons (pe_op op_add pe_int (pe_callB (call_min2 rfl) (by rfl) T.b_min (by decide +kernel) (pa_cons pe_int (pa_cons (pe_callB (r := rLenQ K) call_len_seq (by rfl) T.b_len PySem.boot_len (pa_cons (pv 0) pa_nil)) pa_nil)))) pa_nil)) (blkOk_by (own := [("_law_k", 1)]) (N := N_law) (sc := C8.fnScope s_law) (by decide +kernel)) (fun _ _ _ _ _ => (pg_name (i := 1) sc_law.nd rfl (Or.inl rfl))) (fun _ _ _ _ _ => pts_nil) (fun _ _ _ _ _ => (C8.pe_c c_l_right hr (by decide) rfl (pa_cons (C8.pe_c c_l_box hr (by decide) rfl (pa_cons (pv 0) (pa_cons (pv 1) pa_nil))) pa_nil)))) pa_nil)))), ?_⟩
    have hsl : ((ns.map V.int).length : Int) ≤ 63 := by rw [List.length_map]; omega
    have hn2 : 1 ≤ 1 + (if ((ns.map V.int).length : Int) < 2 then ((ns.map V.int).length : Int) else 2) ∧ 1 + (if ((ns.map V.int).length : Int) < 2 then ((ns.map V.int).length : Int) else 2) ≤ 3 := by split <;> omega
    refine ⟨_, rfl, a, _, rfl, .inl hs, _, _, rfl, _, _, rfl, rfl, _, rfl, by omega, by omega, fun D nD => ?_⟩
    generalize 1 + (if ((ns.map V.int).length : Int) < 2 then ((ns.map V.int).length : Int) else 2) = N at hn2
    refine lc_it (walk_range (lo := 0) (n := N.toNat)) (fun i H1 => Same H H1 ∧ H1 D = some (.lst ((List.replicate i true).map V.bl))) ⟨same_new nD, upd_same⟩ (fun _ _ _ _ => True.intro) ?_ ?_
    · rintro i x H1 H2 hi ⟨h1, hD⟩ ⟨rfl, rfl⟩
      refine ⟨rfl, ?_⟩
      unfold tYes
      refine iteT ?_
      refine ⟨_, rfl, _, rfl, a, ns, _, rfl, seq_same hs h1, hbit, by omega, by omega, fun p H3 np hb3 s3 => ?_⟩
      refine ⟨p, rfl, hb3, fun H4 e4 => ?_⟩
      have pD : D ≠ p := ne_of_none hD np
      have hD4 := e4 _ _ (s3 _ _ hD) pD
      refine ⟨_, hD4, line_of (by rw [List.length_map, List.length_replicate]; omega), ?_, ?_⟩
      · intro x o e
        rw [upd_ne (fun z => by rw [z, nD] at e; cases e)]
        exact e4 _ _ (s3 _ _ (h1 _ _ e)) (ne_of_none (h1 _ _ e) np)
      · rw [List.replicate_succ', List.map_append]
        exact upd_same
    · rintro H1 ⟨h1, hD⟩
      refine ⟨D, _, rfl, SqL.of hD, ?_⟩
      have : (List.replicate N.toNat true).all id = true := by
        rw [List.all_eq_true]
        intro x hx
        rw [(List.mem_replicate.mp hx).2]
        rfl
      rw [this]
      exact q _
end
end K15

set_option Elab.async false
set_option linter.all false
set_option autoImplicit false
set_option maxRecDepth 100000
set_option maxHeartbeats 4000000
namespace K15
open PySem L2
theorem run_binds {K : PySem.W.Frag} {f : Addr} {fd : FuncData} {e1 e2 : Addr} (F : FunD K "run" "run" (C8.fnArgs s_run) (C8.fnBody s_run) (C8.fnScope s_run) [.ref e1, .ref e2] [] f fd) : Binds K fd P_run [] := by
  obtain ⟨ds, hv, hb⟩ := F.binds1 (ps := P_run) 4 2 (by simp) rfl fun T kV doc pm an cdv ct us its hl hi => match us, hl, its, hi with
    | [_, _, _, _], _, [_, _], _ => ⟨_, rfl, rfl⟩
  cases hv
  exact hb
theorem pairs_binds {K : PySem.W.Frag} {f : Addr} {fd : FuncData} {e1 : Addr} (F : FunD K "wrong_pairs" "wrong_pairs" (C8.fnArgs s_wrong_pairs) (C8.fnBody s_wrong_pairs) (C8.fnScope s_wrong_pairs) [.ref e1] [] f fd) : Binds K fd P_wrong_pairs [] := by
  obtain ⟨ds, hv, hb⟩ := F.binds1 (ps := P_wrong_pairs) 4 1 (by simp) rfl fun T kV doc pm an cdv ct us its hl hi => match us, hl, its, hi with
    | [_, _, _, _], _, [_], _ => ⟨_, rfl, rfl⟩
  cases hv
  exact hb
theorem log_binds {K : PySem.W.Frag} {f : Addr} {fd : FuncData} {e1 : Addr} (F : FunD K "__init__" "Log.__init__" (C8.fnArgs s_Log___init__) (C8.fnBody s_Log___init__) (C8.fnScope s_Log___init__) [.ref e1] [] f fd) : Binds K fd P_Log___init__ [] := by
  obtain ⟨ds, hv, hb⟩ := F.binds1 (ps := P_Log___init__) 3 1 (by simp) rfl fun T kV doc pm an cdv ct us its hl hi => match us, hl, its, hi with
    | [_, _, _], _, [_], _ => ⟨_, rfl, rfl⟩
  cases hv
  exact hb
section
open PySem.Spec PyProof.Rows
theorem all_mk {l : PySem.W.OpenLaw} {w : World} {K : PySem.W.Frag} {h : Heap} {mg : Str → Option Value} {fa : Addr} (X : K.In h) (G : h.Ns mainGlobals mg) (hfa : mg "law" = some (.ref fa))
    {CL CE pk pv pg pp : Addr}
    {fd0 : Addr} {odd0 and0 : Option Addr} {sld0 : Array (Option Value)} {ocd0 kVd0 dcd0 pmd0 cdd0 ctd0 : Value}
    {fd1 : Addr} {odd1 and1 : Option Addr} {sld1 : Array (Option Value)} {ocd1 kVd1 dcd1 pmd1 cdd1 ctd1 : Value}
    {fd2 : Addr} {odd2 and2 : Option Addr} {sld2 : Array (Option Value)} {ocd2 kVd2 dcd2 pmd2 cdd2 ctd2 : Value}
    {Td2 ed2_0 ed2_1 : Addr} {ddd2 : Option Addr} {nd2 : Nat} {sdd2 : Array (Option Value)} {ocdd2 : Value}
    {fd3 : Addr} {odd3 and3 : Option Addr} {sld3 : Array (Option Value)} {ocd3 kVd3 dcd3 pmd3 cdd3 ctd3 : Value}
    {fd4 : Addr} {odd4 and4 : Option Addr} {sld4 : Array (Option Value)} {ocd4 kVd4 dcd4 pmd4 cdd4 ctd4 : Value}
    {Td4 ed4_0 : Addr} {ddd4 : Option Addr} {nd4 : Nat} {sdd4 : Array (Option Value)} {ocdd4 : Value}
    {fd5 : Addr} {odd5 and5 : Option Addr} {sld5 : Array (Option Value)} {ocd5 kVd5 dcd5 pmd5 cdd5 ctd5 : Value}
    {fd6 : Addr} {odd6 and6 : Option Addr} {sld6 : Array (Option Value)} {ocd6 kVd6 dcd6 pmd6 cdd6 ctd6 : Value}
    {fd7 : Addr} {odd7 and7 : Option Addr} {sld7 : Array (Option Value)} {ocd7 kVd7 dcd7 pmd7 cdd7 ctd7 : Value}
    {fd8 : Addr} {odd8 and8 : Option Addr} {sld8 : Array (Option Value)} {ocd8 kVd8 dcd8 pmd8 cdd8 ctd8 : Value}
    {fd9 : Addr} {odd9 and9 : Option Addr} {sld9 : Array (Option Value)} {ocd9 kVd9 dcd9 pmd9 cdd9 ctd9 : Value}
    {fd10 : Addr} {odd10 and10 : Option Addr} {sld10 : Array (Option Value)} {ocd10 kVd10 dcd10 pmd10 cdd10 ctd10 : Value}
    {fd11 : Addr} {odd11 and11 : Option Addr} {sld11 : Array (Option Value)} {ocd11 kVd11 dcd11 pmd11 cdd11 ctd11 : Value}
    {fd12 : Addr} {odd12 and12 : Option Addr} {sld12 : Array (Option Value)} {ocd12 kVd12 dcd12 pmd12 cdd12 ctd12 : Value}
    {fd13 : Addr} {odd13 and13 : Option Addr} {sld13 : Array (Option Value)} {ocd13 kVd13 dcd13 pmd13 cdd13 ctd13 : Value}
    {fd14 : Addr} {odd14 and14 : Option Addr} {sld14 : Array (Option Value)} {ocd14 kVd14 dcd14 pmd14 cdd14 ctd14 : Value}
    {fd15 : Addr} {odd15 and15 : Option Addr} {sld15 : Array (Option Value)} {ocd15 kVd15 dcd15 pmd15 cdd15 ctd15 : Value}
    {fd16 : Addr} {odd16 and16 : Option Addr} {sld16 : Array (Option Value)} {ocd16 kVd16 dcd16 pmd16 cdd16 ctd16 : Value}
    {fd17 : Addr} {odd17 and17 : Option Addr} {sld17 : Array (Option Value)} {ocd17 kVd17 dcd17 pmd17 cdd17 ctd17 : Value}
    {fd18 : Addr} {odd18 and18 : Option Addr} {sld18 : Array (Option Value)} {ocd18 kVd18 dcd18 pmd18 cdd18 ctd18 : Value}
    {fd19 : Addr} {odd19 and19 : Option Addr} {sld19 : Array (Option Value)} {ocd19 kVd19 dcd19 pmd19 cdd19 ctd19 : Value}
    {fd20 : Addr} {odd20 and20 : Option Addr} {sld20 : Array (Option Value)} {ocd20 kVd20 dcd20 pmd20 cdd20 ctd20 : Value}
    {fm0 : Addr} {odm0 anm0 : Option Addr} {slm0 : Array (Option Value)} {ocm0 kVm0 dcm0 pmm0 cdm0 ctm0 : Value}
    {Tm0 em0_0 : Addr} {ddm0 : Option Addr} {nm0 : Nat} {sdm0 : Array (Option Value)} {ocdm0 : Value}
    {fm1 : Addr} {odm1 anm1 : Option Addr} {slm1 : Array (Option Value)} {ocm1 kVm1 dcm1 pmm1 cdm1 ctm1 : Value}
    {fm2 : Addr} {odm2 anm2 : Option Addr} {slm2 : Array (Option Value)} {ocm2 kVm2 dcm2 pmm2 cdm2 ctm2 : Value}
    {fm3 : Addr} {odm3 anm3 : Option Addr} {slm3 : Array (Option Value)} {ocm3 kVm3 dcm3 pmm3 cdm3 ctm3 : Value}
    {fm4 : Addr} {odm4 anm4 : Option Addr} {slm4 : Array (Option Value)} {ocm4 kVm4 dcm4 pmm4 cdm4 ctm4 : Value}
    {fm5 : Addr} {odm5 anm5 : Option Addr} {slm5 : Array (Option Value)} {ocm5 kVm5 dcm5 pmm5 cdm5 ctm5 : Value}
    {fm6 : Addr} {odm6 anm6 : Option Addr} {slm6 : Array (Option Value)} {ocm6 kVm6 dcm6 pmm6 cdm6 ctm6 : Value}
    {fm7 : Addr} {odm7 anm7 : Option Addr} {slm7 : Array (Option Value)} {ocm7 kVm7 dcm7 pmm7 cdm7 ctm7 : Value}
    {fm8 : Addr} {odm8 anm8 : Option Addr} {slm8 : Array (Option Value)} {ocm8 kVm8 dcm8 pmm8 cdm8 ctm8 : Value}
    {fm9 : Addr} {odm9 anm9 : Option Addr} {slm9 : Array (Option Value)} {ocm9 kVm9 dcm9 pmm9 cdm9 ctm9 : Value}
    {fm10 : Addr} {odm10 anm10 : Option Addr} {slm10 : Array (Option Value)} {ocm10 kVm10 dcm10 pmm10 cdm10 ctm10 : Value}
    {fm11 : Addr} {odm11 anm11 : Option Addr} {slm11 : Array (Option Value)} {ocm11 kVm11 dcm11 pmm11 cdm11 ctm11 : Value}
    {fm12 : Addr} {odm12 anm12 : Option Addr} {slm12 : Array (Option Value)} {ocm12 kVm12 dcm12 pmm12 cdm12 ctm12 : Value}
    {fm13 : Addr} {odm13 anm13 : Option Addr} {slm13 : Array (Option Value)} {ocm13 kVm13 dcm13 pmm13 cdm13 ctm13 : Value}
    {fm14 : Addr} {odm14 anm14 : Option Addr} {slm14 : Array (Option Value)} {ocm14 kVm14 dcm14 pmm14 cdm14 ctm14 : Value}
    {fm15 : Addr} {odm15 anm15 : Option Addr} {slm15 : Array (Option Value)} {ocm15 kVm15 dcm15 pmm15 cdm15 ctm15 : Value}
    {fm16 : Addr} {odm16 anm16 : Option Addr} {slm16 : Array (Option Value)} {ocm16 kVm16 dcm16 pmm16 cdm16 ctm16 : Value}
    {fm17 : Addr} {odm17 anm17 : Option Addr} {slm17 : Array (Option Value)} {ocm17 kVm17 dcm17 pmm17 cdm17 ctm17 : Value}
    {fm18 : Addr} {odm18 anm18 : Option Addr} {slm18 : Array (Option Value)} {ocm18 kVm18 dcm18 pmm18 cdm18 ctm18 : Value}
    {fm19 : Addr} {odm19 anm19 : Option Addr} {slm19 : Array (Option Value)} {ocm19 kVm19 dcm19 pmm19 cdm19 ctm19 : Value}
    {fm20 : Addr} {odm20 anm20 : Option Addr} {slm20 : Array (Option Value)} {ocm20 kVm20 dcm20 pmm20 cdm20 ctm20 : Value}
    {fm21 : Addr} {odm21 anm21 : Option Addr} {slm21 : Array (Option Value)} {ocm21 kVm21 dcm21 pmm21 cdm21 ctm21 : Value}
    {fe0 : Addr} {ode0 ane0 : Option Addr} {sle0 : Array (Option Value)} {oce0 kVe0 dce0 pme0 cde0 cte0 : Value}
    {tCOPY : Tok}
    {tDROP : Tok}
    {tJOIN : Tok}
    {tLOAD : Tok}
    {tPUT : Tok}
    {tREAD : Tok}
    {tSAVE : Tok}
    (aL : PySem.W.nsIn K mainGlobals "Log" = some (some (.ref CL))) (aE : PySem.W.nsIn K mainGlobals "Entry" = some (some (.ref CE)))
    (ad0 : PySem.W.nsIn K mainGlobals "as_tuples" = some (some (.ref fd0)))
    (ld0 : K.lookup fd0 = some ⟨ocd0, odd0, .func (PySem.W.fnOf "as_tuples" "as_tuples" (C8.fnArgs s_as_tuples) (C8.fnBody s_as_tuples) (C8.fnScope s_as_tuples) .none kVd0 dcd0 pmd0 and0 cdd0 ctd0), sld0⟩) (cd0 : PySem.W.codeIn K cdd0 "as_tuples" = true) (kd0 : PySem.W.keepIn K (.ref fd0) = true)
    (ad1 : PySem.W.nsIn K mainGlobals "many_at" = some (some (.ref fd1)))
    (ld1 : K.lookup fd1 = some ⟨ocd1, odd1, .func (PySem.W.fnOf "many_at" "many_at" (C8.fnArgs s_many_at) (C8.fnBody s_many_at) (C8.fnScope s_many_at) .none kVd1 dcd1 pmd1 and1 cdd1 ctd1), sld1⟩) (cd1 : PySem.W.codeIn K cdd1 "many_at" = true) (kd1 : PySem.W.keepIn K (.ref fd1) = true)
    (ad2 : PySem.W.nsIn K mainGlobals "run" = some (some (.ref fd2)))
    (ld2 : K.lookup fd2 = some ⟨ocd2, odd2, .func (PySem.W.fnOf "run" "run" (C8.fnArgs s_run) (C8.fnBody s_run) (C8.fnScope s_run) (.ref Td2) kVd2 dcd2 pmd2 and2 cdd2 ctd2), sld2⟩) (cd2 : PySem.W.codeIn K cdd2 "run" = true) (kd2 : PySem.W.keepIn K (.ref fd2) = true) (td2 : K.lookup Td2 = some ⟨ocdd2, ddd2, .seq #[.ref ed2_0, .ref ed2_1] nd2, sdd2⟩)
    (ad3 : PySem.W.nsIn K mainGlobals "sweeps_under" = some (some (.ref fd3)))
    (ld3 : K.lookup fd3 = some ⟨ocd3, odd3, .func (PySem.W.fnOf "sweeps_under" "sweeps_under" (C8.fnArgs s_sweeps_under) (C8.fnBody s_sweeps_under) (C8.fnScope s_sweeps_under) .none kVd3 dcd3 pmd3 and3 cdd3 ctd3), sld3⟩) (cd3 : PySem.W.codeIn K cdd3 "sweeps_under" = true) (kd3 : PySem.W.keepIn K (.ref fd3) = true)
    (ad4 : PySem.W.nsIn K mainGlobals "wrong_pairs" = some (some (.ref fd4)))
    (ld4 : K.lookup fd4 = some ⟨ocd4, odd4, .func (PySem.W.fnOf "wrong_pairs" "wrong_pairs" (C8.fnArgs s_wrong_pairs) (C8.fnBody s_wrong_pairs) (C8.fnScope s_wrong_pairs) (.ref Td4) kVd4 dcd4 pmd4 and4 cdd4 ctd4), sld4⟩) (cd4 : PySem.W.codeIn K cdd4 "wrong_pairs" = true) (kd4 : PySem.W.keepIn K (.ref fd4) = true) (td4 : K.lookup Td4 = some ⟨ocdd4, ddd4, .seq #[.ref ed4_0] nd4, sdd4⟩)
    (ad5 : PySem.W.nsIn K mainGlobals "_law_box" = some (some (.ref fd5)))
    (ld5 : K.lookup fd5 = some ⟨ocd5, odd5, .func (PySem.W.fnOf "_law_box" "_law_box" (C8.fnArgs s__law_box) (C8.fnBody s__law_box) (C8.fnScope s__law_box) .none kVd5 dcd5 pmd5 and5 cdd5 ctd5), sld5⟩) (cd5 : PySem.W.codeIn K cdd5 "_law_box" = true) (kd5 : PySem.W.keepIn K (.ref fd5) = true)
    (ad6 : PySem.W.nsIn K mainGlobals "_law_take" = some (some (.ref fd6)))
    (ld6 : K.lookup fd6 = some ⟨ocd6, odd6, .func (PySem.W.fnOf "_law_take" "_law_take" (C8.fnArgs s__law_take) (C8.fnBody s__law_take) (C8.fnScope s__law_take) .none kVd6 dcd6 pmd6 and6 cdd6 ctd6), sld6⟩) (cd6 : PySem.W.codeIn K cdd6 "_law_take" = true) (kd6 : PySem.W.keepIn K (.ref fd6) = true)
    (ad7 : PySem.W.nsIn K mainGlobals "_law_of" = some (some (.ref fd7)))
    (ld7 : K.lookup fd7 = some ⟨ocd7, odd7, .func (PySem.W.fnOf "_law_of" "_law_of" (C8.fnArgs s__law_of) (C8.fnBody s__law_of) (C8.fnScope s__law_of) .none kVd7 dcd7 pmd7 and7 cdd7 ctd7), sld7⟩) (cd7 : PySem.W.codeIn K cdd7 "_law_of" = true) (kd7 : PySem.W.keepIn K (.ref fd7) = true)
    (ad8 : PySem.W.nsIn K mainGlobals "_law_strewn" = some (some (.ref fd8)))
    (ld8 : K.lookup fd8 = some ⟨ocd8, odd8, .func (PySem.W.fnOf "_law_strewn" "_law_strewn" (C8.fnArgs s__law_strewn) (C8.fnBody s__law_strewn) (C8.fnScope s__law_strewn) .none kVd8 dcd8 pmd8 and8 cdd8 ctd8), sld8⟩) (cd8 : PySem.W.codeIn K cdd8 "_law_strewn" = true) (kd8 : PySem.W.keepIn K (.ref fd8) = true)
    (ad9 : PySem.W.nsIn K mainGlobals "_law_event" = some (some (.ref fd9)))
    (ld9 : K.lookup fd9 = some ⟨ocd9, odd9, .func (PySem.W.fnOf "_law_event" "_law_event" (C8.fnArgs s__law_event) (C8.fnBody s__law_event) (C8.fnScope s__law_event) .none kVd9 dcd9 pmd9 and9 cdd9 ctd9), sld9⟩) (cd9 : PySem.W.codeIn K cdd9 "_law_event" = true) (kd9 : PySem.W.keepIn K (.ref fd9) = true)
    (ad10 : PySem.W.nsIn K mainGlobals "_law_moved" = some (some (.ref fd10)))
    (ld10 : K.lookup fd10 = some ⟨ocd10, odd10, .func (PySem.W.fnOf "_law_moved" "_law_moved" (C8.fnArgs s__law_moved) (C8.fnBody s__law_moved) (C8.fnScope s__law_moved) .none kVd10 dcd10 pmd10 and10 cdd10 ctd10), sld10⟩) (cd10 : PySem.W.codeIn K cdd10 "_law_moved" = true) (kd10 : PySem.W.keepIn K (.ref fd10) = true)
    (ad11 : PySem.W.nsIn K mainGlobals "_law_table" = some (some (.ref fd11)))
    (ld11 : K.lookup fd11 = some ⟨ocd11, odd11, .func (PySem.W.fnOf "_law_table" "_law_table" (C8.fnArgs s__law_table) (C8.fnBody s__law_table) (C8.fnScope s__law_table) .none kVd11 dcd11 pmd11 and11 cdd11 ctd11), sld11⟩) (cd11 : PySem.W.codeIn K cdd11 "_law_table" = true) (kd11 : PySem.W.keepIn K (.ref fd11) = true)
    (ad12 : PySem.W.nsIn K mainGlobals "_law_ended" = some (some (.ref fd12)))
    (ld12 : K.lookup fd12 = some ⟨ocd12, odd12, .func (PySem.W.fnOf "_law_ended" "_law_ended" (C8.fnArgs s__law_ended) (C8.fnBody s__law_ended) (C8.fnScope s__law_ended) .none kVd12 dcd12 pmd12 and12 cdd12 ctd12), sld12⟩) (cd12 : PySem.W.codeIn K cdd12 "_law_ended" = true) (kd12 : PySem.W.keepIn K (.ref fd12) = true)
    (ad13 : PySem.W.nsIn K mainGlobals "_law_watch" = some (some (.ref fd13)))
    (ld13 : K.lookup fd13 = some ⟨ocd13, odd13, .func (PySem.W.fnOf "_law_watch" "_law_watch" (C8.fnArgs s__law_watch) (C8.fnBody s__law_watch) (C8.fnScope s__law_watch) .none kVd13 dcd13 pmd13 and13 cdd13 ctd13), sld13⟩) (cd13 : PySem.W.codeIn K cdd13 "_law_watch" = true) (kd13 : PySem.W.keepIn K (.ref fd13) = true)
    (ad14 : PySem.W.nsIn K mainGlobals "_law_lots" = some (some (.ref fd14)))
    (ld14 : K.lookup fd14 = some ⟨ocd14, odd14, .func (PySem.W.fnOf "_law_lots" "_law_lots" (C8.fnArgs s__law_lots) (C8.fnBody s__law_lots) (C8.fnScope s__law_lots) .none kVd14 dcd14 pmd14 and14 cdd14 ctd14), sld14⟩) (cd14 : PySem.W.codeIn K cdd14 "_law_lots" = true) (kd14 : PySem.W.keepIn K (.ref fd14) = true)
    (ad15 : PySem.W.nsIn K mainGlobals "_law_beside" = some (some (.ref fd15)))
    (ld15 : K.lookup fd15 = some ⟨ocd15, odd15, .func (PySem.W.fnOf "_law_beside" "_law_beside" (C8.fnArgs s__law_beside) (C8.fnBody s__law_beside) (C8.fnScope s__law_beside) .none kVd15 dcd15 pmd15 and15 cdd15 ctd15), sld15⟩) (cd15 : PySem.W.codeIn K cdd15 "_law_beside" = true) (kd15 : PySem.W.keepIn K (.ref fd15) = true)
    (ad16 : PySem.W.nsIn K mainGlobals "_law_fit" = some (some (.ref fd16)))
    (ld16 : K.lookup fd16 = some ⟨ocd16, odd16, .func (PySem.W.fnOf "_law_fit" "_law_fit" (C8.fnArgs s__law_fit) (C8.fnBody s__law_fit) (C8.fnScope s__law_fit) .none kVd16 dcd16 pmd16 and16 cdd16 ctd16), sld16⟩) (cd16 : PySem.W.codeIn K cdd16 "_law_fit" = true) (kd16 : PySem.W.keepIn K (.ref fd16) = true)
    (ad17 : PySem.W.nsIn K mainGlobals "_law_drawn" = some (some (.ref fd17)))
    (ld17 : K.lookup fd17 = some ⟨ocd17, odd17, .func (PySem.W.fnOf "_law_drawn" "_law_drawn" (C8.fnArgs s__law_drawn) (C8.fnBody s__law_drawn) (C8.fnScope s__law_drawn) .none kVd17 dcd17 pmd17 and17 cdd17 ctd17), sld17⟩) (cd17 : PySem.W.codeIn K cdd17 "_law_drawn" = true) (kd17 : PySem.W.keepIn K (.ref fd17) = true)
    (ad18 : PySem.W.nsIn K mainGlobals "_law_holds_right" = some (some (.ref fd18)))
    (ld18 : K.lookup fd18 = some ⟨ocd18, odd18, .func (PySem.W.fnOf "_law_holds_right" "_law_holds_right" (C8.fnArgs s__law_holds_right) (C8.fnBody s__law_holds_right) (C8.fnScope s__law_holds_right) .none kVd18 dcd18 pmd18 and18 cdd18 ctd18), sld18⟩) (cd18 : PySem.W.codeIn K cdd18 "_law_holds_right" = true) (kd18 : PySem.W.keepIn K (.ref fd18) = true)
    (ad19 : PySem.W.nsIn K mainGlobals "_law_right" = some (some (.ref fd19)))
    (ld19 : K.lookup fd19 = some ⟨ocd19, odd19, .func (PySem.W.fnOf "_law_right" "_law_right" (C8.fnArgs s__law_right) (C8.fnBody s__law_right) (C8.fnScope s__law_right) .none kVd19 dcd19 pmd19 and19 cdd19 ctd19), sld19⟩) (cd19 : PySem.W.codeIn K cdd19 "_law_right" = true) (kd19 : PySem.W.keepIn K (.ref fd19) = true)
    (ad20 : PySem.W.nsIn K mainGlobals "law" = some (some (.ref fd20)))
    (ld20 : K.lookup fd20 = some ⟨ocd20, odd20, .func (PySem.W.fnOf "law" "law" (C8.fnArgs s_law) (C8.fnBody s_law) (C8.fnScope s_law) .none kVd20 dcd20 pmd20 and20 cdd20 ctd20), sld20⟩) (cd20 : PySem.W.codeIn K cdd20 "law" = true) (kd20 : PySem.W.keepIn K (.ref fd20) = true)
    (am0 : PySem.W.findIn K (.ref CL) "__init__" = some (some (.ref fm0))) (im0 : PySem.W.isFn K (.ref fm0) = true)
    (lm0 : K.lookup fm0 = some ⟨ocm0, odm0, .func (PySem.W.fnOf "__init__" "Log.__init__" (C8.fnArgs s_Log___init__) (C8.fnBody s_Log___init__) (C8.fnScope s_Log___init__) (.ref Tm0) kVm0 dcm0 pmm0 anm0 cdm0 ctm0), slm0⟩) (cm0 : PySem.W.codeIn K cdm0 "Log.__init__" = true) (km0 : PySem.W.keepIn K (.ref fm0) = true) (tm0 : K.lookup Tm0 = some ⟨ocdm0, ddm0, .seq #[.ref em0_0] nm0, sdm0⟩)
    (am1 : PySem.W.findIn K (.ref CL) "many" = some (some (.ref fm1))) (im1 : PySem.W.isFn K (.ref fm1) = true)
    (lm1 : K.lookup fm1 = some ⟨ocm1, odm1, .func (PySem.W.fnOf "many" "Log.many" (C8.fnArgs s_Log_many) (C8.fnBody s_Log_many) (C8.fnScope s_Log_many) .none kVm1 dcm1 pmm1 anm1 cdm1 ctm1), slm1⟩) (cm1 : PySem.W.codeIn K cdm1 "Log.many" = true) (km1 : PySem.W.keepIn K (.ref fm1) = true)
    (am2 : PySem.W.findIn K (.ref CL) "look_joined" = some (some (.ref fm2))) (im2 : PySem.W.isFn K (.ref fm2) = true)
    (lm2 : K.lookup fm2 = some ⟨ocm2, odm2, .func (PySem.W.fnOf "look_joined" "Log.look_joined" (C8.fnArgs s_Log_look_joined) (C8.fnBody s_Log_look_joined) (C8.fnScope s_Log_look_joined) .none kVm2 dcm2 pmm2 anm2 cdm2 ctm2), slm2⟩) (cm2 : PySem.W.codeIn K cdm2 "Log.look_joined" = true) (km2 : PySem.W.keepIn K (.ref fm2) = true)
    (am3 : PySem.W.findIn K (.ref CL) "go_on" = some (some (.ref fm3))) (im3 : PySem.W.isFn K (.ref fm3) = true)
    (lm3 : K.lookup fm3 = some ⟨ocm3, odm3, .func (PySem.W.fnOf "go_on" "Log.go_on" (C8.fnArgs s_Log_go_on) (C8.fnBody s_Log_go_on) (C8.fnScope s_Log_go_on) .none kVm3 dcm3 pmm3 anm3 cdm3 ctm3), slm3⟩) (cm3 : PySem.W.codeIn K cdm3 "Log.go_on" = true) (km3 : PySem.W.keepIn K (.ref fm3) = true)
    (am4 : PySem.W.findIn K (.ref CL) "let_go" = some (some (.ref fm4))) (im4 : PySem.W.isFn K (.ref fm4) = true)
    (lm4 : K.lookup fm4 = some ⟨ocm4, odm4, .func (PySem.W.fnOf "let_go" "Log.let_go" (C8.fnArgs s_Log_let_go) (C8.fnBody s_Log_let_go) (C8.fnScope s_Log_let_go) .none kVm4 dcm4 pmm4 anm4 cdm4 ctm4), slm4⟩) (cm4 : PySem.W.codeIn K cdm4 "Log.let_go" = true) (km4 : PySem.W.keepIn K (.ref fm4) = true)
    (am5 : PySem.W.findIn K (.ref CL) "append" = some (some (.ref fm5))) (im5 : PySem.W.isFn K (.ref fm5) = true)
    (lm5 : K.lookup fm5 = some ⟨ocm5, odm5, .func (PySem.W.fnOf "append" "Log.append" (C8.fnArgs s_Log_append) (C8.fnBody s_Log_append) (C8.fnScope s_Log_append) .none kVm5 dcm5 pmm5 anm5 cdm5 ctm5), slm5⟩) (cm5 : PySem.W.codeIn K cdm5 "Log.append" = true) (km5 : PySem.W.keepIn K (.ref fm5) = true)
    (am6 : PySem.W.findIn K (.ref CL) "put" = some (some (.ref fm6))) (im6 : PySem.W.isFn K (.ref fm6) = true)
    (lm6 : K.lookup fm6 = some ⟨ocm6, odm6, .func (PySem.W.fnOf "put" "Log.put" (C8.fnArgs s_Log_put) (C8.fnBody s_Log_put) (C8.fnScope s_Log_put) .none kVm6 dcm6 pmm6 anm6 cdm6 ctm6), slm6⟩) (cm6 : PySem.W.codeIn K cdm6 "Log.put" = true) (km6 : PySem.W.keepIn K (.ref fm6) = true)
    (am7 : PySem.W.findIn K (.ref CL) "drop" = some (some (.ref fm7))) (im7 : PySem.W.isFn K (.ref fm7) = true)
    (lm7 : K.lookup fm7 = some ⟨ocm7, odm7, .func (PySem.W.fnOf "drop" "Log.drop" (C8.fnArgs s_Log_drop) (C8.fnBody s_Log_drop) (C8.fnScope s_Log_drop) .none kVm7 dcm7 pmm7 anm7 cdm7 ctm7), slm7⟩) (cm7 : PySem.W.codeIn K cdm7 "Log.drop" = true) (km7 : PySem.W.keepIn K (.ref fm7) = true)
    (am8 : PySem.W.findIn K (.ref CL) "join" = some (some (.ref fm8))) (im8 : PySem.W.isFn K (.ref fm8) = true)
    (lm8 : K.lookup fm8 = some ⟨ocm8, odm8, .func (PySem.W.fnOf "join" "Log.join" (C8.fnArgs s_Log_join) (C8.fnBody s_Log_join) (C8.fnScope s_Log_join) .none kVm8 dcm8 pmm8 anm8 cdm8 ctm8), slm8⟩) (cm8 : PySem.W.codeIn K cdm8 "Log.join" = true) (km8 : PySem.W.keepIn K (.ref fm8) = true)
    (am9 : PySem.W.findIn K (.ref CL) "read" = some (some (.ref fm9))) (im9 : PySem.W.isFn K (.ref fm9) = true)
    (lm9 : K.lookup fm9 = some ⟨ocm9, odm9, .func (PySem.W.fnOf "read" "Log.read" (C8.fnArgs s_Log_read) (C8.fnBody s_Log_read) (C8.fnScope s_Log_read) .none kVm9 dcm9 pmm9 anm9 cdm9 ctm9), slm9⟩) (cm9 : PySem.W.codeIn K cdm9 "Log.read" = true) (km9 : PySem.W.keepIn K (.ref fm9) = true)
    (am10 : PySem.W.findIn K (.ref CL) "save" = some (some (.ref fm10))) (im10 : PySem.W.isFn K (.ref fm10) = true)
    (lm10 : K.lookup fm10 = some ⟨ocm10, odm10, .func (PySem.W.fnOf "save" "Log.save" (C8.fnArgs s_Log_save) (C8.fnBody s_Log_save) (C8.fnScope s_Log_save) .none kVm10 dcm10 pmm10 anm10 cdm10 ctm10), slm10⟩) (cm10 : PySem.W.codeIn K cdm10 "Log.save" = true) (km10 : PySem.W.keepIn K (.ref fm10) = true)
    (am11 : PySem.W.findIn K (.ref CL) "load" = some (some (.ref fm11))) (im11 : PySem.W.isFn K (.ref fm11) = true)
    (lm11 : K.lookup fm11 = some ⟨ocm11, odm11, .func (PySem.W.fnOf "load" "Log.load" (C8.fnArgs s_Log_load) (C8.fnBody s_Log_load) (C8.fnScope s_Log_load) .none kVm11 dcm11 pmm11 anm11 cdm11 ctm11), slm11⟩) (cm11 : PySem.W.codeIn K cdm11 "Log.load" = true) (km11 : PySem.W.keepIn K (.ref fm11) = true)
    (am12 : PySem.W.findIn K (.ref CL) "wait" = some (some (.ref fm12))) (im12 : PySem.W.isFn K (.ref fm12) = true)
    (lm12 : K.lookup fm12 = some ⟨ocm12, odm12, .func (PySem.W.fnOf "wait" "Log.wait" (C8.fnArgs s_Log_wait) (C8.fnBody s_Log_wait) (C8.fnScope s_Log_wait) .none kVm12 dcm12 pmm12 anm12 cdm12 ctm12), slm12⟩) (cm12 : PySem.W.codeIn K cdm12 "Log.wait" = true) (km12 : PySem.W.keepIn K (.ref fm12) = true)
    (am13 : PySem.W.findIn K (.ref CL) "do" = some (some (.ref fm13))) (im13 : PySem.W.isFn K (.ref fm13) = true)
    (lm13 : K.lookup fm13 = some ⟨ocm13, odm13, .func (PySem.W.fnOf "do" "Log.do" (C8.fnArgs s_Log_do) (C8.fnBody s_Log_do) (C8.fnScope s_Log_do) .none kVm13 dcm13 pmm13 anm13 cdm13 ctm13), slm13⟩) (cm13 : PySem.W.codeIn K cdm13 "Log.do" = true) (km13 : PySem.W.keepIn K (.ref fm13) = true)
    (am14 : PySem.W.findIn K (.ref CL) "guarded" = some (some (.ref fm14))) (im14 : PySem.W.isFn K (.ref fm14) = true)
    (lm14 : K.lookup fm14 = some ⟨ocm14, odm14, .func (PySem.W.fnOf "guarded" "Log.guarded" (C8.fnArgs s_Log_guarded) (C8.fnBody s_Log_guarded) (C8.fnScope s_Log_guarded) .none kVm14 dcm14 pmm14 anm14 cdm14 ctm14), slm14⟩) (cm14 : PySem.W.codeIn K cdm14 "Log.guarded" = true) (km14 : PySem.W.keepIn K (.ref fm14) = true)
    (am15 : PySem.W.findIn K (.ref CL) "is_old" = some (some (.ref fm15))) (im15 : PySem.W.isFn K (.ref fm15) = true)
    (lm15 : K.lookup fm15 = some ⟨ocm15, odm15, .func (PySem.W.fnOf "is_old" "Log.is_old" (C8.fnArgs s_Log_is_old) (C8.fnBody s_Log_is_old) (C8.fnScope s_Log_is_old) .none kVm15 dcm15 pmm15 anm15 cdm15 ctm15), slm15⟩) (cm15 : PySem.W.codeIn K cdm15 "Log.is_old" = true) (km15 : PySem.W.keepIn K (.ref fm15) = true)
    (am16 : PySem.W.findIn K (.ref CL) "sweep" = some (some (.ref fm16))) (im16 : PySem.W.isFn K (.ref fm16) = true)
    (lm16 : K.lookup fm16 = some ⟨ocm16, odm16, .func (PySem.W.fnOf "sweep" "Log.sweep" (C8.fnArgs s_Log_sweep) (C8.fnBody s_Log_sweep) (C8.fnScope s_Log_sweep) .none kVm16 dcm16 pmm16 anm16 cdm16 ctm16), slm16⟩) (cm16 : PySem.W.codeIn K cdm16 "Log.sweep" = true) (km16 : PySem.W.keepIn K (.ref fm16) = true)
    (am17 : PySem.W.findIn K (.ref CL) "there" = some (some (.ref fm17))) (im17 : PySem.W.isFn K (.ref fm17) = true)
    (lm17 : K.lookup fm17 = some ⟨ocm17, odm17, .func (PySem.W.fnOf "there" "Log.there" (C8.fnArgs s_Log_there) (C8.fnBody s_Log_there) (C8.fnScope s_Log_there) .none kVm17 dcm17 pmm17 anm17 cdm17 ctm17), slm17⟩) (cm17 : PySem.W.codeIn K cdm17 "Log.there" = true) (km17 : PySem.W.keepIn K (.ref fm17) = true)
    (am18 : PySem.W.findIn K (.ref CL) "readers" = some (some (.ref fm18))) (im18 : PySem.W.isFn K (.ref fm18) = true)
    (lm18 : K.lookup fm18 = some ⟨ocm18, odm18, .func (PySem.W.fnOf "readers" "Log.readers" (C8.fnArgs s_Log_readers) (C8.fnBody s_Log_readers) (C8.fnScope s_Log_readers) .none kVm18 dcm18 pmm18 anm18 cdm18 ctm18), slm18⟩) (cm18 : PySem.W.codeIn K cdm18 "Log.readers" = true) (km18 : PySem.W.keepIn K (.ref fm18) = true)
    (am19 : PySem.W.findIn K (.ref CL) "table" = some (some (.ref fm19))) (im19 : PySem.W.isFn K (.ref fm19) = true)
    (lm19 : K.lookup fm19 = some ⟨ocm19, odm19, .func (PySem.W.fnOf "table" "Log.table" (C8.fnArgs s_Log_table) (C8.fnBody s_Log_table) (C8.fnScope s_Log_table) .none kVm19 dcm19 pmm19 anm19 cdm19 ctm19), slm19⟩) (cm19 : PySem.W.codeIn K cdm19 "Log.table" = true) (km19 : PySem.W.keepIn K (.ref fm19) = true)
    (am20 : PySem.W.findIn K (.ref CL) "last" = some (some (.ref fm20))) (im20 : PySem.W.isFn K (.ref fm20) = true)
    (lm20 : K.lookup fm20 = some ⟨ocm20, odm20, .func (PySem.W.fnOf "last" "Log.last" (C8.fnArgs s_Log_last) (C8.fnBody s_Log_last) (C8.fnScope s_Log_last) .none kVm20 dcm20 pmm20 anm20 cdm20 ctm20), slm20⟩) (cm20 : PySem.W.codeIn K cdm20 "Log.last" = true) (km20 : PySem.W.keepIn K (.ref fm20) = true)
    (am21 : PySem.W.findIn K (.ref CL) "wrong" = some (some (.ref fm21))) (im21 : PySem.W.isFn K (.ref fm21) = true)
    (lm21 : K.lookup fm21 = some ⟨ocm21, odm21, .func (PySem.W.fnOf "wrong" "Log.wrong" (C8.fnArgs s_Log_wrong) (C8.fnBody s_Log_wrong) (C8.fnScope s_Log_wrong) .none kVm21 dcm21 pmm21 anm21 cdm21 ctm21), slm21⟩) (cm21 : PySem.W.codeIn K cdm21 "Log.wrong" = true) (km21 : PySem.W.keepIn K (.ref fm21) = true)
    (ae0 : PySem.W.findIn K (.ref CE) "__init__" = some (some (.ref fe0))) (ie0 : PySem.W.isFn K (.ref fe0) = true)
    (le0 : K.lookup fe0 = some ⟨oce0, ode0, .func (PySem.W.fnOf "__init__" "Entry.__init__" (C8.fnArgs s_Entry___init__) (C8.fnBody s_Entry___init__) (C8.fnScope s_Entry___init__) .none kVe0 dce0 pme0 ane0 cde0 cte0), sle0⟩) (ce0 : PySem.W.codeIn K cde0 "Entry.__init__" = true) (ke0 : PySem.W.keepIn K (.ref fe0) = true)
    (pgL : PySem.W.plainGet K CL Str.empty = true) (hdL : PySem.W.hasDictIn K CL = true) (poL : PySem.W.plainOver K CL = true) (saL : PySem.W.findIn K (.ref CL) "__setattr__" = some (some (.builtin "object.__setattr__"))) (mkL : PySem.W.makesIn K CL = true) (kcL : PySem.W.keepIn K (.ref CL) = true)
    (pgE : PySem.W.plainGet K CE Str.empty = true) (icE : PySem.W.isClsIn K CE = true) (poE : PySem.W.plainOver K CE = true) (saE : PySem.W.findIn K (.ref CE) "__setattr__" = some (some (.builtin "object.__setattr__"))) (mkE : PySem.W.makesIn K CE = true) (kcE : PySem.W.keepIn K (.ref CE) = true)
    (sa_is_gone : PySem.W.findIn K (.ref CE) "is_gone" = some (some (.ref pg))) (sg_is_gone : PySem.W.specialIn K (.ref pg) "__get__" = some (some (.builtin "member_descriptor.__get__"))) (st_is_gone : PySem.W.takesIn K (.ref pg) = some true) (si_is_gone : PySem.W.slotIn K pg CE = some 0) (sy_is_gone : PySem.W.typeIn K (.ref pg) = some (.type "member_descriptor"))
    (sa_key : PySem.W.findIn K (.ref CE) "key" = some (some (.ref pk))) (sg_key : PySem.W.specialIn K (.ref pk) "__get__" = some (some (.builtin "member_descriptor.__get__"))) (st_key : PySem.W.takesIn K (.ref pk) = some true) (si_key : PySem.W.slotIn K pk CE = some 1) (sy_key : PySem.W.typeIn K (.ref pk) = some (.type "member_descriptor"))
    (sa_passed : PySem.W.findIn K (.ref CE) "passed" = some (some (.ref pp))) (sg_passed : PySem.W.specialIn K (.ref pp) "__get__" = some (some (.builtin "member_descriptor.__get__"))) (st_passed : PySem.W.takesIn K (.ref pp) = some true) (si_passed : PySem.W.slotIn K pp CE = some 2) (sy_passed : PySem.W.typeIn K (.ref pp) = some (.type "member_descriptor"))
    (sa_value : PySem.W.findIn K (.ref CE) "value" = some (some (.ref pv))) (sg_value : PySem.W.specialIn K (.ref pv) "__get__" = some (some (.builtin "member_descriptor.__get__"))) (st_value : PySem.W.takesIn K (.ref pv) = some true) (si_value : PySem.W.slotIn K pv CE = some 3) (sy_value : PySem.W.typeIn K (.ref pv) = some (.type "member_descriptor"))
    (n_hold : PySem.W.findIn K (.ref CL) "own_hold" = some none)
    (n_guards : PySem.W.findIn K (.ref CL) "own_guards" = some none)
    (n_entries : PySem.W.findIn K (.ref CL) "own_entries" = some none)
    (n_places : PySem.W.findIn K (.ref CL) "own_places" = some none)
    (n_tables : PySem.W.findIn K (.ref CL) "own_tables" = some none)
    (n_copies : PySem.W.findIn K (.ref CL) "own_copies" = some none)
    (n_time : PySem.W.findIn K (.ref CL) "own_time" = some none)
    (gCOPY : PySem.W.nsIn K mainGlobals "COPY" = some (some (.str "copy" tCOPY)))
    (gDROP : PySem.W.nsIn K mainGlobals "DROP" = some (some (.str "drop" tDROP)))
    (gJOIN : PySem.W.nsIn K mainGlobals "JOIN" = some (some (.str "join" tJOIN)))
    (gLOAD : PySem.W.nsIn K mainGlobals "LOAD" = some (some (.str "load" tLOAD)))
    (gPUT : PySem.W.nsIn K mainGlobals "PUT" = some (some (.str "put" tPUT)))
    (gREAD : PySem.W.nsIn K mainGlobals "READ" = some (some (.str "read" tREAD)))
    (gSAVE : PySem.W.nsIn K mainGlobals "SAVE" = some (some (.str "save" tSAVE)))
    (z_abs : PySem.W.nsIn K mainGlobals "abs" = some none)
    (z_all : PySem.W.nsIn K mainGlobals "all" = some none)
    (z_dict : PySem.W.nsIn K mainGlobals "dict" = some none)
    (z_enumerate : PySem.W.nsIn K mainGlobals "enumerate" = some none)
    (z_int : PySem.W.nsIn K mainGlobals "int" = some none)
    (z_isinstance : PySem.W.nsIn K mainGlobals "isinstance" = some none)
    (z_len : PySem.W.nsIn K mainGlobals "len" = some none)
    (z_list : PySem.W.nsIn K mainGlobals "list" = some none)
    (z_min : PySem.W.nsIn K mainGlobals "min" = some none)
    (z_range : PySem.W.nsIn K mainGlobals "range" = some none)
    (z_set : PySem.W.nsIn K mainGlobals "set" = some none)
    (z_sorted : PySem.W.nsIn K mainGlobals "sorted" = some none)
    (z_sum : PySem.W.nsIn K mainGlobals "sum" = some none)
    (z_tuple : PySem.W.nsIn K mainGlobals "tuple" = some none)
    : ∃ fd : FuncData, (∀ (s : Shared) (v : Value), BindsTo s fd ⟨[v], []⟩ [("_law_script", v)]) ∧ ∀ base : Heap, K.In base → base.Ns mainGlobals mg → FnOk l.prog w K mg base C8.CX0 12 fa fd ["_law_script"] (spLaw K) := by
  have e := hfa.symm.trans (PySem.W.mg_of X G ad20)
  cases e
  have Fd0 : C8.Fun K "as_tuples" "as_tuples" s_as_tuples _ _ := ⟨ocd0, odd0, _, kVd0, dcd0, pmd0, and0, cdd0, ctd0, sld0, rfl, ld0, cd0⟩
  have bd0 : Binds K _ P_as_tuples [] := C8.Fun.binds Fd0 rfl (ps := P_as_tuples) fun _ _ _ _ _ _ us hl => match us, hl with | [_], _ => rfl
  have Dd0 : C8.Def K mg "as_tuples" s_as_tuples _ _ := ⟨Fd0, PySem.W.mg_of X G ad0, kd0⟩
  have Fd1 : C8.Fun K "many_at" "many_at" s_many_at _ _ := ⟨ocd1, odd1, _, kVd1, dcd1, pmd1, and1, cdd1, ctd1, sld1, rfl, ld1, cd1⟩
  have bd1 : Binds K _ P_many_at [] := C8.Fun.binds Fd1 rfl (ps := P_many_at) fun _ _ _ _ _ _ us hl => match us, hl with | [_, _], _ => rfl
  have Dd1 : C8.Def K mg "many_at" s_many_at _ _ := ⟨Fd1, PySem.W.mg_of X G ad1, kd1⟩
  have Fd2 : C8.Fun K "run" "run" s_run _ _ := ⟨ocd2, odd2, _, kVd2, dcd2, pmd2, and2, cdd2, ctd2, sld2, rfl, ld2, cd2⟩
  have bd2 := run_binds (e1 := ed2_0) (e2 := ed2_1) (f := fd2) ⟨⟨ocd2, odd2, _, kVd2, dcd2, pmd2, and2, cdd2, ctd2, sld2, rfl, ld2, cd2, .inr ⟨by simp, Td2, _, [.ref ed2_0, .ref ed2_1], nd2, rfl, td2, rfl, .cons rfl (.cons rfl .nil)⟩, .inl rfl⟩, kd2⟩
  have Dd2 : C8.Def K mg "run" s_run _ _ := ⟨Fd2, PySem.W.mg_of X G ad2, kd2⟩
  have Fd3 : C8.Fun K "sweeps_under" "sweeps_under" s_sweeps_under _ _ := ⟨ocd3, odd3, _, kVd3, dcd3, pmd3, and3, cdd3, ctd3, sld3, rfl, ld3, cd3⟩
  have bd3 : Binds K _ P_sweeps_under [] := C8.Fun.binds Fd3 rfl (ps := P_sweeps_under) fun _ _ _ _ _ _ us hl => match us, hl with | [_, _], _ => rfl
  have Dd3 : C8.Def K mg "sweeps_under" s_sweeps_under _ _ := ⟨Fd3, PySem.W.mg_of X G ad3, kd3⟩
  have Fd4 : C8.Fun K "wrong_pairs" "wrong_pairs" s_wrong_pairs _ _ := ⟨ocd4, odd4, _, kVd4, dcd4, pmd4, and4, cdd4, ctd4, sld4, rfl, ld4, cd4⟩
  have bd4 := pairs_binds (e1 := ed4_0) (f := fd4) ⟨⟨ocd4, odd4, _, kVd4, dcd4, pmd4, and4, cdd4, ctd4, sld4, rfl, ld4, cd4, .inr ⟨by simp, Td4, _, [.ref ed4_0], nd4, rfl, td4, rfl, .cons rfl .nil⟩, .inl rfl⟩, kd4⟩
  have Dd4 : C8.Def K mg "wrong_pairs" s_wrong_pairs _ _ := ⟨Fd4, PySem.W.mg_of X G ad4, kd4⟩
  have Fd5 : C8.Fun K "_law_box" "_law_box" s__law_box _ _ := ⟨ocd5, odd5, _, kVd5, dcd5, pmd5, and5, cdd5, ctd5, sld5, rfl, ld5, cd5⟩
  have bd5 : Binds K _ P__law_box [] := C8.Fun.binds Fd5 rfl (ps := P__law_box) fun _ _ _ _ _ _ us hl => match us, hl with | [_, _], _ => rfl
  have Dd5 : C8.Def K mg "_law_box" s__law_box _ _ := ⟨Fd5, PySem.W.mg_of X G ad5, kd5⟩
  have Fd6 : C8.Fun K "_law_take" "_law_take" s__law_take _ _ := ⟨ocd6, odd6, _, kVd6, dcd6, pmd6, and6, cdd6, ctd6, sld6, rfl, ld6, cd6⟩
  have bd6 : Binds K _ P__law_take [] := C8.Fun.binds Fd6 rfl (ps := P__law_take) fun _ _ _ _ _ _ us hl => match us, hl with | [_, _], _ => rfl
  have Dd6 : C8.Def K mg "_law_take" s__law_take _ _ := ⟨Fd6, PySem.W.mg_of X G ad6, kd6⟩
  have Fd7 : C8.Fun K "_law_of" "_law_of" s__law_of _ _ := ⟨ocd7, odd7, _, kVd7, dcd7, pmd7, and7, cdd7, ctd7, sld7, rfl, ld7, cd7⟩
  have bd7 : Binds K _ P__law_of [] := C8.Fun.binds Fd7 rfl (ps := P__law_of) fun _ _ _ _ _ _ us hl => match us, hl with | [_, _], _ => rfl
  have Dd7 : C8.Def K mg "_law_of" s__law_of _ _ := ⟨Fd7, PySem.W.mg_of X G ad7, kd7⟩
  have Fd8 : C8.Fun K "_law_strewn" "_law_strewn" s__law_strewn _ _ := ⟨ocd8, odd8, _, kVd8, dcd8, pmd8, and8, cdd8, ctd8, sld8, rfl, ld8, cd8⟩
  have bd8 : Binds K _ P__law_strewn [] := C8.Fun.binds Fd8 rfl (ps := P__law_strewn) fun _ _ _ _ _ _ us hl => match us, hl with | [_, _], _ => rfl
  have Dd8 : C8.Def K mg "_law_strewn" s__law_strewn _ _ := ⟨Fd8, PySem.W.mg_of X G ad8, kd8⟩
  have Fd9 : C8.Fun K "_law_event" "_law_event" s__law_event _ _ := ⟨ocd9, odd9, _, kVd9, dcd9, pmd9, and9, cdd9, ctd9, sld9, rfl, ld9, cd9⟩
  have bd9 : Binds K _ P__law_event [] := C8.Fun.binds Fd9 rfl (ps := P__law_event) fun _ _ _ _ _ _ us hl => match us, hl with | [_, _, _, _, _], _ => rfl
  have Dd9 : C8.Def K mg "_law_event" s__law_event _ _ := ⟨Fd9, PySem.W.mg_of X G ad9, kd9⟩
  have Fd10 : C8.Fun K "_law_moved" "_law_moved" s__law_moved _ _ := ⟨ocd10, odd10, _, kVd10, dcd10, pmd10, and10, cdd10, ctd10, sld10, rfl, ld10, cd10⟩
  have bd10 : Binds K _ P__law_moved [] := C8.Fun.binds Fd10 rfl (ps := P__law_moved) fun _ _ _ _ _ _ us hl => match us, hl with | [_, _], _ => rfl
  have Dd10 : C8.Def K mg "_law_moved" s__law_moved _ _ := ⟨Fd10, PySem.W.mg_of X G ad10, kd10⟩
  have Fd11 : C8.Fun K "_law_table" "_law_table" s__law_table _ _ := ⟨ocd11, odd11, _, kVd11, dcd11, pmd11, and11, cdd11, ctd11, sld11, rfl, ld11, cd11⟩
  have bd11 : Binds K _ P__law_table [] := C8.Fun.binds Fd11 rfl (ps := P__law_table) fun _ _ _ _ _ _ us hl => match us, hl with | [_, _, _, _, _, _], _ => rfl
  have Dd11 : C8.Def K mg "_law_table" s__law_table _ _ := ⟨Fd11, PySem.W.mg_of X G ad11, kd11⟩
  have Fd12 : C8.Fun K "_law_ended" "_law_ended" s__law_ended _ _ := ⟨ocd12, odd12, _, kVd12, dcd12, pmd12, and12, cdd12, ctd12, sld12, rfl, ld12, cd12⟩
  have bd12 : Binds K _ P__law_ended [] := C8.Fun.binds Fd12 rfl (ps := P__law_ended) fun _ _ _ _ _ _ us hl => match us, hl with | [_], _ => rfl
  have Dd12 : C8.Def K mg "_law_ended" s__law_ended _ _ := ⟨Fd12, PySem.W.mg_of X G ad12, kd12⟩
  have Fd13 : C8.Fun K "_law_watch" "_law_watch" s__law_watch _ _ := ⟨ocd13, odd13, _, kVd13, dcd13, pmd13, and13, cdd13, ctd13, sld13, rfl, ld13, cd13⟩
  have bd13 : Binds K _ P__law_watch [] := C8.Fun.binds Fd13 rfl (ps := P__law_watch) fun _ _ _ _ _ _ us hl => match us, hl with | [_, _], _ => rfl
  have Dd13 : C8.Def K mg "_law_watch" s__law_watch _ _ := ⟨Fd13, PySem.W.mg_of X G ad13, kd13⟩
  have Fd14 : C8.Fun K "_law_lots" "_law_lots" s__law_lots _ _ := ⟨ocd14, odd14, _, kVd14, dcd14, pmd14, and14, cdd14, ctd14, sld14, rfl, ld14, cd14⟩
  have bd14 : Binds K _ P__law_lots [] := C8.Fun.binds Fd14 rfl (ps := P__law_lots) fun _ _ _ _ _ _ us hl => match us, hl with | [_, _, _], _ => rfl
  have Dd14 : C8.Def K mg "_law_lots" s__law_lots _ _ := ⟨Fd14, PySem.W.mg_of X G ad14, kd14⟩
  have Fd15 : C8.Fun K "_law_beside" "_law_beside" s__law_beside _ _ := ⟨ocd15, odd15, _, kVd15, dcd15, pmd15, and15, cdd15, ctd15, sld15, rfl, ld15, cd15⟩
  have bd15 : Binds K _ P__law_beside [] := C8.Fun.binds Fd15 rfl (ps := P__law_beside) fun _ _ _ _ _ _ us hl => match us, hl with | [_, _, _], _ => rfl
  have Dd15 : C8.Def K mg "_law_beside" s__law_beside _ _ := ⟨Fd15, PySem.W.mg_of X G ad15, kd15⟩
  have Fd16 : C8.Fun K "_law_fit" "_law_fit" s__law_fit _ _ := ⟨ocd16, odd16, _, kVd16, dcd16, pmd16, and16, cdd16, ctd16, sld16, rfl, ld16, cd16⟩
  have bd16 : Binds K _ P__law_fit [] := C8.Fun.binds Fd16 rfl (ps := P__law_fit) fun _ _ _ _ _ _ us hl => match us, hl with | [_, _, _, _], _ => rfl
  have Dd16 : C8.Def K mg "_law_fit" s__law_fit _ _ := ⟨Fd16, PySem.W.mg_of X G ad16, kd16⟩
  have Fd17 : C8.Fun K "_law_drawn" "_law_drawn" s__law_drawn _ _ := ⟨ocd17, odd17, _, kVd17, dcd17, pmd17, and17, cdd17, ctd17, sld17, rfl, ld17, cd17⟩
  have bd17 : Binds K _ P__law_drawn [] := C8.Fun.binds Fd17 rfl (ps := P__law_drawn) fun _ _ _ _ _ _ us hl => match us, hl with | [_, _], _ => rfl
  have Dd17 : C8.Def K mg "_law_drawn" s__law_drawn _ _ := ⟨Fd17, PySem.W.mg_of X G ad17, kd17⟩
  have Fd18 : C8.Fun K "_law_holds_right" "_law_holds_right" s__law_holds_right _ _ := ⟨ocd18, odd18, _, kVd18, dcd18, pmd18, and18, cdd18, ctd18, sld18, rfl, ld18, cd18⟩
  have bd18 : Binds K _ P__law_holds_right [] := C8.Fun.binds Fd18 rfl (ps := P__law_holds_right) fun _ _ _ _ _ _ us hl => match us, hl with | [_, _, _], _ => rfl
  have Dd18 : C8.Def K mg "_law_holds_right" s__law_holds_right _ _ := ⟨Fd18, PySem.W.mg_of X G ad18, kd18⟩
  have Fd19 : C8.Fun K "_law_right" "_law_right" s__law_right _ _ := ⟨ocd19, odd19, _, kVd19, dcd19, pmd19, and19, cdd19, ctd19, sld19, rfl, ld19, cd19⟩
  have bd19 : Binds K _ P__law_right [] := C8.Fun.binds Fd19 rfl (ps := P__law_right) fun _ _ _ _ _ _ us hl => match us, hl with | [_], _ => rfl
  have Dd19 : C8.Def K mg "_law_right" s__law_right _ _ := ⟨Fd19, PySem.W.mg_of X G ad19, kd19⟩
  have Fd20 : C8.Fun K "law" "law" s_law _ _ := ⟨ocd20, odd20, _, kVd20, dcd20, pmd20, and20, cdd20, ctd20, sld20, rfl, ld20, cd20⟩
  have bd20 : Binds K _ P_law [] := C8.Fun.binds Fd20 rfl (ps := P_law) fun _ _ _ _ _ _ us hl => match us, hl with | [_], _ => rfl
  have Dd20 : C8.Def K mg "law" s_law _ _ := ⟨Fd20, PySem.W.mg_of X G ad20, kd20⟩
  have Fm0 : C8.Fun K "__init__" "Log.__init__" s_Log___init__ _ _ := ⟨ocm0, odm0, _, kVm0, dcm0, pmm0, anm0, cdm0, ctm0, slm0, rfl, lm0, cm0⟩
  have bm0 := log_binds (e1 := em0_0) (f := fm0) ⟨⟨ocm0, odm0, _, kVm0, dcm0, pmm0, anm0, cdm0, ctm0, slm0, rfl, lm0, cm0, .inr ⟨by simp, Tm0, _, [.ref em0_0], nm0, rfl, tm0, rfl, .cons rfl .nil⟩, .inl rfl⟩, km0⟩
  have Fm1 : C8.Fun K "many" "Log.many" s_Log_many _ _ := ⟨ocm1, odm1, _, kVm1, dcm1, pmm1, anm1, cdm1, ctm1, slm1, rfl, lm1, cm1⟩
  have bm1 : Binds K _ P_Log_many [] := C8.Fun.binds Fm1 rfl (ps := P_Log_many) fun _ _ _ _ _ _ us hl => match us, hl with | [_], _ => rfl
  have Fm2 : C8.Fun K "look_joined" "Log.look_joined" s_Log_look_joined _ _ := ⟨ocm2, odm2, _, kVm2, dcm2, pmm2, anm2, cdm2, ctm2, slm2, rfl, lm2, cm2⟩
  have bm2 : Binds K _ P_Log_look_joined [] := C8.Fun.binds Fm2 rfl (ps := P_Log_look_joined) fun _ _ _ _ _ _ us hl => match us, hl with | [_, _], _ => rfl
  have Fm3 : C8.Fun K "go_on" "Log.go_on" s_Log_go_on _ _ := ⟨ocm3, odm3, _, kVm3, dcm3, pmm3, anm3, cdm3, ctm3, slm3, rfl, lm3, cm3⟩
  have bm3 : Binds K _ P_Log_go_on [] := C8.Fun.binds Fm3 rfl (ps := P_Log_go_on) fun _ _ _ _ _ _ us hl => match us, hl with | [_], _ => rfl
  have Fm4 : C8.Fun K "let_go" "Log.let_go" s_Log_let_go _ _ := ⟨ocm4, odm4, _, kVm4, dcm4, pmm4, anm4, cdm4, ctm4, slm4, rfl, lm4, cm4⟩
  have bm4 : Binds K _ P_Log_let_go [] := C8.Fun.binds Fm4 rfl (ps := P_Log_let_go) fun _ _ _ _ _ _ us hl => match us, hl with | [_], _ => rfl
  have Fm5 : C8.Fun K "append" "Log.append" s_Log_append _ _ := ⟨ocm5, odm5, _, kVm5, dcm5, pmm5, anm5, cdm5, ctm5, slm5, rfl, lm5, cm5⟩
  have bm5 : Binds K _ P_Log_append [] := C8.Fun.binds Fm5 rfl (ps := P_Log_append) fun _ _ _ _ _ _ us hl => match us, hl with | [_, _, _], _ => rfl
  have Fm6 : C8.Fun K "put" "Log.put" s_Log_put _ _ := ⟨ocm6, odm6, _, kVm6, dcm6, pmm6, anm6, cdm6, ctm6, slm6, rfl, lm6, cm6⟩
  have bm6 : Binds K _ P_Log_put [] := C8.Fun.binds Fm6 rfl (ps := P_Log_put) fun _ _ _ _ _ _ us hl => match us, hl with | [_, _, _], _ => rfl
  have Fm7 : C8.Fun K "drop" "Log.drop" s_Log_drop _ _ := ⟨ocm7, odm7, _, kVm7, dcm7, pmm7, anm7, cdm7, ctm7, slm7, rfl, lm7, cm7⟩
  have bm7 : Binds K _ P_Log_drop [] := C8.Fun.binds Fm7 rfl (ps := P_Log_drop) fun _ _ _ _ _ _ us hl => match us, hl with | [_, _], _ => rfl
  have Fm8 : C8.Fun K "join" "Log.join" s_Log_join _ _ := ⟨ocm8, odm8, _, kVm8, dcm8, pmm8, anm8, cdm8, ctm8, slm8, rfl, lm8, cm8⟩
  have bm8 : Binds K _ P_Log_join [] := C8.Fun.binds Fm8 rfl (ps := P_Log_join) fun _ _ _ _ _ _ us hl => match us, hl with | [_, _], _ => rfl
  have Fm9 : C8.Fun K "read" "Log.read" s_Log_read _ _ := ⟨ocm9, odm9, _, kVm9, dcm9, pmm9, anm9, cdm9, ctm9, slm9, rfl, lm9, cm9⟩
  have bm9 : Binds K _ P_Log_read [] := C8.Fun.binds Fm9 rfl (ps := P_Log_read) fun _ _ _ _ _ _ us hl => match us, hl with | [_, _, _], _ => rfl
  have Fm10 : C8.Fun K "save" "Log.save" s_Log_save _ _ := ⟨ocm10, odm10, _, kVm10, dcm10, pmm10, anm10, cdm10, ctm10, slm10, rfl, lm10, cm10⟩
  have bm10 : Binds K _ P_Log_save [] := C8.Fun.binds Fm10 rfl (ps := P_Log_save) fun _ _ _ _ _ _ us hl => match us, hl with | [_, _], _ => rfl
  have Fm11 : C8.Fun K "load" "Log.load" s_Log_load _ _ := ⟨ocm11, odm11, _, kVm11, dcm11, pmm11, anm11, cdm11, ctm11, slm11, rfl, lm11, cm11⟩
  have bm11 : Binds K _ P_Log_load [] := C8.Fun.binds Fm11 rfl (ps := P_Log_load) fun _ _ _ _ _ _ us hl => match us, hl with | [_, _, _], _ => rfl
  have Fm12 : C8.Fun K "wait" "Log.wait" s_Log_wait _ _ := ⟨ocm12, odm12, _, kVm12, dcm12, pmm12, anm12, cdm12, ctm12, slm12, rfl, lm12, cm12⟩
  have bm12 : Binds K _ P_Log_wait [] := C8.Fun.binds Fm12 rfl (ps := P_Log_wait) fun _ _ _ _ _ _ us hl => match us, hl with | [_], _ => rfl
  have Fm13 : C8.Fun K "do" "Log.do" s_Log_do _ _ := ⟨ocm13, odm13, _, kVm13, dcm13, pmm13, anm13, cdm13, ctm13, slm13, rfl, lm13, cm13⟩
  have bm13 : Binds K _ P_Log_do [] := C8.Fun.binds Fm13 rfl (ps := P_Log_do) fun _ _ _ _ _ _ us hl => match us, hl with | [_, _], _ => rfl
  have Fm14 : C8.Fun K "guarded" "Log.guarded" s_Log_guarded _ _ := ⟨ocm14, odm14, _, kVm14, dcm14, pmm14, anm14, cdm14, ctm14, slm14, rfl, lm14, cm14⟩
  have bm14 : Binds K _ P_Log_guarded [] := C8.Fun.binds Fm14 rfl (ps := P_Log_guarded) fun _ _ _ _ _ _ us hl => match us, hl with | [_], _ => rfl
  have Fm15 : C8.Fun K "is_old" "Log.is_old" s_Log_is_old _ _ := ⟨ocm15, odm15, _, kVm15, dcm15, pmm15, anm15, cdm15, ctm15, slm15, rfl, lm15, cm15⟩
  have bm15 : Binds K _ P_Log_is_old [] := C8.Fun.binds Fm15 rfl (ps := P_Log_is_old) fun _ _ _ _ _ _ us hl => match us, hl with | [_, _], _ => rfl
  have Fm16 : C8.Fun K "sweep" "Log.sweep" s_Log_sweep _ _ := ⟨ocm16, odm16, _, kVm16, dcm16, pmm16, anm16, cdm16, ctm16, slm16, rfl, lm16, cm16⟩
  have bm16 : Binds K _ P_Log_sweep [] := C8.Fun.binds Fm16 rfl (ps := P_Log_sweep) fun _ _ _ _ _ _ us hl => match us, hl with | [_, _], _ => rfl
  have Fm17 : C8.Fun K "there" "Log.there" s_Log_there _ _ := ⟨ocm17, odm17, _, kVm17, dcm17, pmm17, anm17, cdm17, ctm17, slm17, rfl, lm17, cm17⟩
  have bm17 : Binds K _ P_Log_there [] := C8.Fun.binds Fm17 rfl (ps := P_Log_there) fun _ _ _ _ _ _ us hl => match us, hl with | [_], _ => rfl
  have Fm18 : C8.Fun K "readers" "Log.readers" s_Log_readers _ _ := ⟨ocm18, odm18, _, kVm18, dcm18, pmm18, anm18, cdm18, ctm18, slm18, rfl, lm18, cm18⟩
  have bm18 : Binds K _ P_Log_readers [] := C8.Fun.binds Fm18 rfl (ps := P_Log_readers) fun _ _ _ _ _ _ us hl => match us, hl with | [_], _ => rfl
  have Fm19 : C8.Fun K "table" "Log.table" s_Log_table _ _ := ⟨ocm19, odm19, _, kVm19, dcm19, pmm19, anm19, cdm19, ctm19, slm19, rfl, lm19, cm19⟩
  have bm19 : Binds K _ P_Log_table [] := C8.Fun.binds Fm19 rfl (ps := P_Log_table) fun _ _ _ _ _ _ us hl => match us, hl with | [_, _], _ => rfl
  have Fm20 : C8.Fun K "last" "Log.last" s_Log_last _ _ := ⟨ocm20, odm20, _, kVm20, dcm20, pmm20, anm20, cdm20, ctm20, slm20, rfl, lm20, cm20⟩
  have bm20 : Binds K _ P_Log_last [] := C8.Fun.binds Fm20 rfl (ps := P_Log_last) fun _ _ _ _ _ _ us hl => match us, hl with | [_, _], _ => rfl
  have Fm21 : C8.Fun K "wrong" "Log.wrong" s_Log_wrong _ _ := ⟨ocm21, odm21, _, kVm21, dcm21, pmm21, anm21, cdm21, ctm21, slm21, rfl, lm21, cm21⟩
  have bm21 : Binds K _ P_Log_wrong [] := C8.Fun.binds Fm21 rfl (ps := P_Log_wrong) fun _ _ _ _ _ _ us hl => match us, hl with | [_, _], _ => rfl
  have Fe0 : C8.Fun K "__init__" "Entry.__init__" s_Entry___init__ _ _ := ⟨oce0, ode0, _, kVe0, dce0, pme0, ane0, cde0, cte0, sle0, rfl, le0, ce0⟩
  have be0 : Binds K _ P_Entry___init__ [] := C8.Fun.binds Fe0 rfl (ps := P_Entry___init__) fun _ _ _ _ _ _ us hl => match us, hl with | [_, _, _], _ => rfl
  let A : Adr := ⟨CL, CE, pk, pv, pg, pp⟩
  have T : Txt K mg A := ⟨⟨pgL, hdL, poL, saL⟩, n_hold, n_guards, n_entries, n_places, n_tables, n_copies, n_time, ⟨pgE, icE, poE, saE⟩, ⟨sa_is_gone, sg_is_gone, st_is_gone, si_is_gone, sy_is_gone, by decide⟩, ⟨sa_key, sg_key, st_key, si_key, sy_key, by decide⟩, ⟨sa_passed, sg_passed, st_passed, si_passed, sy_passed, by decide⟩, ⟨sa_value, sg_value, st_value, si_value, sy_value, by decide⟩, ⟨_, PySem.W.mg_of X G gPUT, ⟨_, rfl⟩⟩, ⟨_, PySem.W.mg_of X G gDROP, ⟨_, rfl⟩⟩, ⟨_, PySem.W.mg_of X G gJOIN, ⟨_, rfl⟩⟩, ⟨_, PySem.W.mg_of X G gREAD, ⟨_, rfl⟩⟩, ⟨_, PySem.W.mg_of X G gSAVE, ⟨_, rfl⟩⟩, ⟨_, PySem.W.mg_of X G gLOAD, ⟨_, rfl⟩⟩, ⟨_, PySem.W.mg_of X G gCOPY, ⟨_, rfl⟩⟩, PySem.W.mg_none_of X G z_len, PySem.W.mg_none_of X G z_int, PySem.W.mg_none_of X G z_abs, PySem.W.mg_none_of X G z_min, PySem.W.mg_none_of X G z_sorted, PySem.W.mg_none_of X G z_set, PySem.W.mg_none_of X G z_tuple, PySem.W.mg_none_of X G z_list, PySem.W.mg_none_of X G z_dict, PySem.W.mg_none_of X G z_sum, PySem.W.mg_none_of X G z_all, PySem.W.mg_none_of X G z_range, PySem.W.mg_none_of X G z_enumerate, PySem.W.mg_none_of X G z_isinstance⟩
  refine ⟨PySem.W.fnOf "law" "law" (C8.fnArgs s_law) (C8.fnBody s_law) (C8.fnScope s_law) .none kVd20 dcd20 pmd20 and20 cdd20 ctd20, fun s v => .of_eq rfl, fun base _ _ => ?_⟩
  have c_take := take_ok (P := l.prog) (w := w) (base := base) T Dd6 bd6
  have c_box := box_ok (P := l.prog) (w := w) (base := base) T Dd5 bd5
  have c_of := of_ok T Dd7 bd7 c_take
  have c_moved := moved_ok (P := l.prog) (w := w) (base := base) T Dd10 bd10
  have c_ended := ended_ok T Dd12 bd12 c_moved
  have c_event := event_ok T Dd9 bd9 c_take c_of
  have c_table := table_ok T Dd11 bd11 c_event c_moved
  have c_watch := watch_ok T Dd13 bd13 c_take
  have c_strewn := strewn_ok T Dd8 bd8 c_take
  have c_beside := beside_ok T Dd15 bd15 c_take
  have c_lots := lots_ok T Dd14 bd14 c_take
  have c_fit := fit_ok T Dd16 bd16 c_take c_lots c_moved c_beside c_ended
  have c_drawn := drawn_ok T Dd17 bd17 c_take c_of c_fit c_table c_ended
  have m_many := many_ok (P := l.prog) (w := w) (base := base) T ⟨am1, im1, km1⟩ Fm1 bm1
  have m_look := look_ok (P := l.prog) (w := w) (base := base) T ⟨am2, im2, km2⟩ Fm2 bm2
  have m_old := isOld_ok (P := l.prog) (w := w) (base := base) T ⟨am15, im15, km15⟩ Fm15 bm15
  have m_readers := readers_ok (P := l.prog) (w := w) (base := base) T ⟨am18, im18, km18⟩ Fm18 bm18
  have m_there := there_ok (P := l.prog) (w := w) (base := base) T ⟨am17, im17, km17⟩ Fm17 bm17
  have m_table := tab_ok T ⟨am19, im19, km19⟩ Fm19 bm19 m_look
  have m_last := last_ok (P := l.prog) (w := w) (base := base) T ⟨am20, im20, km20⟩ Fm20 bm20
  have m_guarded := guarded_ok T ⟨am14, im14, km14⟩ Fm14 bm14 m_many
  have m_let_go := letgo_ok T ⟨am4, im4, km4⟩ Fm4 bm4 m_guarded m_old
  have m_go_on := goon_ok T ⟨am3, im3, km3⟩ Fm3 bm3 m_let_go
  have k_entry := entry_ok (P := l.prog) (w := w) (base := base) (CE := CE) T ⟨mkE, ae0, ie0, kcE⟩ (PySem.W.mg_of X G aE) Fe0 be0
  have m_append := append_ok T ⟨am5, im5, km5⟩ Fm5 bm5 k_entry m_go_on
  have m_put := put_ok T ⟨am6, im6, km6⟩ Fm6 bm6 m_append
  have m_drop := drop_ok T ⟨am7, im7, km7⟩ Fm7 bm7 m_append
  have m_wait := wait_ok T ⟨am12, im12, km12⟩ Fm12 bm12 m_go_on
  have m_join := join_ok T ⟨am8, im8, km8⟩ Fm8 bm8 m_go_on
  have m_load := load_ok T ⟨am11, im11, km11⟩ Fm11 bm11 m_go_on
  have m_save := save_ok T ⟨am10, im10, km10⟩ Fm10 bm10 m_look m_go_on
  have m_read := read_ok T ⟨am9, im9, km9⟩ Fm9 bm9 m_look m_many m_there m_go_on
  have m_do := do_ok T ⟨am13, im13, km13⟩ Fm13 bm13 m_put m_drop m_read m_save m_load m_join m_wait
  have m_sweep := sweep_ok T ⟨am16, im16, km16⟩ Fm16 bm16 m_many m_let_go
  have m_wrong := wrong_ok T ⟨am21, im21, km21⟩ Fm21 bm21 m_table m_last
  have c_at := at2_ok T Dd0 bd0 (at1_ok T Dd0 bd0 (at0_ok (P := l.prog) (w := w) (base := base) T Dd0 bd0 (at_no Dd0 bd0)))
  have k_log := log_ok T rfl ⟨mkL, am0, im0, kcL⟩ (PySem.W.mg_of X G aL) Fm0 bm0 c_at
  have c_run := run_ok T Dd2 bd2 k_log c_at m_sweep m_do
  have c_pairs := pairs_ok T Dd4 bd4 c_run m_readers m_wrong
  have c_many_at := manyat_ok (P := l.prog) (w := w) (base := base) T Dd1 bd1
  have c_under := under_ok T Dd3 bd3 c_many_at
  have c_holds := holds_ok T Dd18 bd18 c_pairs
  have c_right := right_ok T Dd19 bd19 c_take c_drawn c_under c_watch c_holds c_pairs c_strewn
  exact law_ok T Fd20 c_box c_right
theorem walk {l : PySem.W.OpenLaw} {q : Program} {loose : List Str} {XP : (Str → Option Value) → Heap → Prop} {YP : World → Heap → Prop} {d : DefRec} {K : Params → PySem.W.Frag} (hn : l.most = some 63) (hdf : d.params.defaults = [])
    (hY : ∀ (w : World) (h : Heap), YP w h → (K w.params).In h)
    (F : ∀ (w : World) (mg : Str → Option Value) (fa : Addr) (h : Heap), (K w.params).In h → h.Ns mainGlobals mg → mg d.name = some (.ref fa) →
      ∃ fd : FuncData, (∀ (s : Shared) (u : Value), BindsTo s fd ⟨[u], []⟩ [("_law_script", u)]) ∧ ∀ base : Heap, (K w.params).In base → base.Ns mainGlobals mg → FnOk l.prog w (K w.params) mg base C8.CX0 12 fa fd ["_law_script"] (spLaw (K w.params))) :
    PySem.W.WalkO q loose XP YP l.row.toRowW d [] (fun f vs => PySem.call f vs) :=
  L2.walk_ofB (n := 63) (k := 12) (x := "_law_script") (CX := fun _ => C8.CX0) (sp := fun w => spLaw (K w.params)) hn (by decide) hdf ⟨rfl, by decide, by decide⟩ hY F (fun _ _ a ns hl hb _ hS => ⟨a, ns, rfl, hS, hb, hl, fun _ => rfl⟩) fun _ _ _ _ _ z => z
end
end K15

open PySem PySem.W PyProof.Rows
set_option maxRecDepth 100000 in
set_option maxHeartbeats 0 in
theorem PySem.Challenge.cw_missedmarks_k15_whole_longer_holds_and_m_holds : PySem.Challenge.rw_missedmarks_k15_whole_longer_holds_and_m.Holds := by
  w_on; o_law; k_head; (case hw => w_witness2)
  k_fill
  refine K15.walk (l := PySem.Challenge.rw_missedmarks_k15_whole_longer_holds_and_m) rfl rfl (fun w h Y => PySem.W.kIn_of Y) ?F
  case F =>
    intro w mg fa h KX G hmg
    refine' K15.all_mk KX G hmg ?aL ?aE ?ad0 ?ld0 ?cd0 ?kd0 ?ad1 ?ld1 ?cd1 ?kd1 ?ad2 ?ld2 ?cd2 ?kd2 ?td2 ?ad3 ?ld3 ?cd3 ?kd3 ?ad4 ?ld4 ?cd4 ?kd4 ?td4 ?ad5 ?ld5 ?cd5 ?kd5 ?ad6 ?ld6 ?cd6 ?kd6 ?ad7 ?ld7 ?cd7 ?kd7 ?ad8 ?ld8 ?cd8 ?kd8 ?ad9 ?ld9 ?cd9 ?kd9 ?ad10 ?ld10 ?cd10 ?kd10 ?ad11 ?ld11 ?cd11 ?kd11 ?ad12 ?ld12 ?cd12 ?kd12 ?ad13 ?ld13 ?cd13 ?kd13 ?ad14 ?ld14 ?cd14 ?kd14 ?ad15 ?ld15 ?cd15 ?kd15 ?ad16 ?ld16 ?cd16 ?kd16 ?ad17 ?ld17 ?cd17 ?kd17 ?ad18 ?ld18 ?cd18 ?kd18 ?ad19 ?ld19 ?cd19 ?kd19 ?ad20 ?ld20 ?cd20 ?kd20 ?am0 ?im0 ?lm0 ?cm0 ?km0 ?tm0 ?am1 ?im1 ?lm1 ?cm1 ?km1 ?am2 ?im2 ?lm2 ?cm2 ?km2 ?am3 ?im3 ?lm3 ?cm3 ?km3 ?am4 ?im4 ?lm4 ?cm4 ?km4 ?am5 ?im5 ?lm5 ?cm5 ?km5 ?am6 ?im6 ?lm6 ?cm6 ?km6 ?am7 ?im7 ?lm7 ?cm7 ?km7 ?am8 ?im8 ?lm8 ?cm8 ?km8 ?am9 ?im9 ?lm9 ?cm9 ?km9 ?am10 ?im10 ?lm10 ?cm10 ?km10 ?am11 ?im11 ?lm11 ?cm11 ?km11 ?am12 ?im12 ?lm12 ?cm12 ?km12 ?am13 ?im13 ?lm13 ?cm13 ?km13 ?am14 ?im14 ?lm14 ?cm14 ?km14 ?am15 ?im15 ?lm15 ?cm15 ?km15 ?am16 ?im16 ?lm16 ?cm16 ?km16 ?am17 ?im17 ?lm17 ?cm17 ?km17 ?am18 ?im18 ?lm18 ?cm18 ?km18 ?am19 ?im19 ?lm19 ?cm19 ?km19 ?am20 ?im20 ?lm20 ?cm20 ?km20 ?am21 ?im21 ?lm21 ?cm21 ?km21 ?ae0 ?ie0 ?le0 ?ce0 ?ke0 ?pgL ?hdL ?poL ?saL ?mkL ?kcL ?pgE ?icE ?poE ?saE ?mkE ?kcE ?sa_is_gone ?sg_is_gone ?st_is_gone ?si_is_gone ?sy_is_gone ?sa_key ?sg_key ?st_key ?si_key ?sy_key ?sa_passed ?sg_passed ?st_passed ?si_passed ?sy_passed ?sa_value ?sg_value ?st_value ?si_value ?sy_value ?n_hold ?n_guards ?n_entries ?n_places ?n_tables ?n_copies ?n_time ?gCOPY ?gDROP ?gJOIN ?gLOAD ?gPUT ?gREAD ?gSAVE ?z_abs ?z_all ?z_dict ?z_enumerate ?z_int ?z_isinstance ?z_len ?z_list ?z_min ?z_range ?z_set ?z_sorted ?z_sum ?z_tuple
    (case aL => k_is)
    (case aE => k_is)
    (case ad0 => k_is)
    (case ld0 => k_is)
    (case cd0 => k_is)
    (case kd0 => k_is)
    (case ad1 => k_is)
    (case ld1 => k_is)
    (case cd1 => k_is)
    (case kd1 => k_is)
    (case ad2 => k_is)
    (case ld2 => k_is)
    (case cd2 => k_is)
    (case kd2 => k_is)
    (case td2 => k_is)
    (case ad3 => k_is)
    (case ld3 => k_is)
    (case cd3 => k_is)
    (case kd3 => k_is)
    (case ad4 => k_is)
    (case ld4 => k_is)
    (case cd4 => k_is)
    (case kd4 => k_is)
    (case td4 => k_is)
    (case ad5 => k_is)
    (case ld5 => k_is)
    (case cd5 => k_is)
    (case kd5 => k_is)
    (case ad6 => k_is)
    (case ld6 => k_is)
    (case cd6 => k_is)
    (case kd6 => k_is)
    (case ad7 => k_is)
    (case ld7 => k_is)
    (case cd7 => k_is)
    (case kd7 => k_is)
    (case ad8 => k_is)
    (case ld8 => k_is)
    (case cd8 => k_is)
    (case kd8 => k_is)
    (case ad9 => k_is)
    (case ld9 => k_is)
    (case cd9 => k_is)
    (case kd9 => k_is)
    (case ad10 => k_is)
    (case ld10 => k_is)
    (case cd10 => k_is)
    (case kd10 => k_is)
    (case ad11 => k_is)
    (case ld11 => k_is)
    (case cd11 => k_is)
    (case kd11 => k_is)
    (case ad12 => k_is)
    (case ld12 => k_is)
    (case cd12 => k_is)
    (case kd12 => k_is)
    (case ad13 => k_is)
    (case ld13 => k_is)
    (case cd13 => k_is)
    (case kd13 => k_is)
    (case ad14 => k_is)
    (case ld14 => k_is)
    (case cd14 => k_is)
    (case kd14 => k_is)
    (case ad15 => k_is)
    (case ld15 => k_is)
    (case cd15 => k_is)
    (case kd15 => k_is)
    (case ad16 => k_is)
    (case ld16 => k_is)
    (case cd16 => k_is)
    (case kd16 => k_is)
    (case ad17 => k_is)
    (case ld17 => k_is)
    (case cd17 => k_is)
    (case kd17 => k_is)
    (case ad18 => k_is)
    (case ld18 => k_is)
    (case cd18 => k_is)
    (case kd18 => k_is)
    (case ad19 => k_is)
    (case ld19 => k_is)
    (case cd19 => k_is)
    (case kd19 => k_is)
    (case ad20 => k_is)
    (case ld20 => k_is)
    (case cd20 => k_is)
    (case kd20 => k_is)
    (case am0 => k_is)
    (case im0 => k_is)
    (case lm0 => k_is)
    (case cm0 => k_is)
    (case km0 => k_is)
    (case tm0 => k_is)
    (case am1 => k_is)
    (case im1 => k_is)
    (case lm1 => k_is)
    (case cm1 => k_is)
    (case km1 => k_is)
    (case am2 => k_is)
    (case im2 => k_is)
    (case lm2 => k_is)
    (case cm2 => k_is)
    (case km2 => k_is)
    (case am3 => k_is)
    (case im3 => k_is)
    (case lm3 => k_is)
    (case cm3 => k_is)
    (case km3 => k_is)
    (case am4 => k_is)
    (case im4 => k_is)
    (case lm4 => k_is)
    (case cm4 => k_is)
    (case km4 => k_is)
    (case am5 => k_is)
    (case im5 => k_is)
    (case lm5 => k_is)
    (case cm5 => k_is)
    (case km5 => k_is)
    (case am6 => k_is)
    (case im6 => k_is)
    (case lm6 => k_is)
    (case cm6 => k_is)
    (case km6 => k_is)
    (case am7 => k_is)
    (case im7 => k_is)
    (case lm7 => k_is)
    (case cm7 => k_is)
    (case km7 => k_is)
    (case am8 => k_is)
    (case im8 => k_is)
    (case lm8 => k_is)
    (case cm8 => k_is)
    (case km8 => k_is)
    (case am9 => k_is)
    (case im9 => k_is)
    (case lm9 => k_is)
    (case cm9 => k_is)
    (case km9 => k_is)
    (case am10 => k_is)
    (case im10 => k_is)
    (case lm10 => k_is)
    (case cm10 => k_is)
    (case km10 => k_is)
    (case am11 => k_is)
    (case im11 => k_is)
    (case lm11 => k_is)
    (case cm11 => k_is)
    (case km11 => k_is)
    (case am12 => k_is)
    (case im12 => k_is)
    (case lm12 => k_is)
    (case cm12 => k_is)
    (case km12 => k_is)
    (case am13 => k_is)
    (case im13 => k_is)
    (case lm13 => k_is)
    (case cm13 => k_is)
    (case km13 => k_is)
    (case am14 => k_is)
    (case im14 => k_is)
    (case lm14 => k_is)
    (case cm14 => k_is)
    (case km14 => k_is)
    (case am15 => k_is)
    (case im15 => k_is)
    (case lm15 => k_is)
    (case cm15 => k_is)
    (case km15 => k_is)
    (case am16 => k_is)
    (case im16 => k_is)
    (case lm16 => k_is)
    (case cm16 => k_is)
    (case km16 => k_is)
    (case am17 => k_is)
    (case im17 => k_is)
    (case lm17 => k_is)
    (case cm17 => k_is)
    (case km17 => k_is)
    (case am18 => k_is)
    (case im18 => k_is)
    (case lm18 => k_is)
    (case cm18 => k_is)
    (case km18 => k_is)
    (case am19 => k_is)
    (case im19 => k_is)
    (case lm19 => k_is)
    (case cm19 => k_is)
    (case km19 => k_is)
    (case am20 => k_is)
    (case im20 => k_is)
    (case lm20 => k_is)
    (case cm20 => k_is)
    (case km20 => k_is)
    (case am21 => k_is)
    (case im21 => k_is)
    (case lm21 => k_is)
    (case cm21 => k_is)
    (case km21 => k_is)
    (case ae0 => k_is)
    (case ie0 => k_is)
    (case le0 => k_is)
    (case ce0 => k_is)
    (case ke0 => k_is)
    (case pgL => k_is)
    (case hdL => k_is)
    (case poL => k_is)
    (case saL => k_is)
    (case mkL => k_is)
    (case kcL => k_is)
    (case pgE => k_is)
    (case icE => k_is)
    (case poE => k_is)
    (case saE => k_is)
    (case mkE => k_is)
    (case kcE => k_is)
    (case sa_is_gone => k_is)
    (case sg_is_gone => k_is)
    (case st_is_gone => k_is)
    (case si_is_gone => k_is)
    (case sy_is_gone => k_is)
    (case sa_key => k_is)
    (case sg_key => k_is)
    (case st_key => k_is)
    (case si_key => k_is)
    (case sy_key => k_is)
    (case sa_passed => k_is)
    (case sg_passed => k_is)
    (case st_passed => k_is)
    (case si_passed => k_is)
    (case sy_passed => k_is)
    (case sa_value => k_is)
    (case sg_value => k_is)
    (case st_value => k_is)
    (case si_value => k_is)
    (case sy_value => k_is)
    (case n_hold => k_is)
    (case n_guards => k_is)
    (case n_entries => k_is)
    (case n_places => k_is)
    (case n_tables => k_is)
    (case n_copies => k_is)
    (case n_time => k_is)
    (case gCOPY => k_is)
    (case gDROP => k_is)
    (case gJOIN => k_is)
    (case gLOAD => k_is)
    (case gPUT => k_is)
    (case gREAD => k_is)
    (case gSAVE => k_is)
    (case z_abs => k_is)
    (case z_all => k_is)
    (case z_dict => k_is)
    (case z_enumerate => k_is)
    (case z_int => k_is)
    (case z_isinstance => k_is)
    (case z_len => k_is)
    (case z_list => k_is)
    (case z_min => k_is)
    (case z_range => k_is)
    (case z_set => k_is)
    (case z_sorted => k_is)
    (case z_sum => k_is)
    (case z_tuple => k_is)
