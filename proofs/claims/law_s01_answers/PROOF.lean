import PyProof.Rows.All
import PyVamacf
import Wide.All
import OpenK.AllK
import Wide.FinOn
import KE.GoesComp
import KE.GoesRaise
import HandS.ForSpec
import HandS.Comp
import PyProof.EqAt
import PyProof.EqKinds
import PyProof.TupleCall
import Open.SpecLaws
import KE.OsGo
import HandS.Deep
import HandS.Iter
import HandS.More
import HandS.TryMany
import HandS.Steps
import PySem.Challenge.RW_programends_s01_answers
import HandS.Evl
/-! Reading lists of numbers: what the program's Reader does, as plain functions, against the specification's readers. -/
namespace Pe
open VamacBase

/-- the next number, within bounds -/
def takeR (lo hi : Int) : List Int → Option (Int × List Int)
  | [] => none
  | z :: r => if lo ≤ z ∧ z ≤ hi then some (z, r) else none
theorem takeR_cons (lo hi z : Int) (r : List Int) : takeR lo hi (z :: r) = if lo ≤ z ∧ z ≤ hi then some (z, r) else none := rfl
theorem takeR_some {lo hi : Int} {x : List Int} {u : Int × List Int} (h : takeR lo hi x = some u) : x = u.1 :: u.2 ∧ lo ≤ u.1 ∧ u.1 ≤ hi := by
  cases x with
  | nil => cases h
  | cons z r =>
    rw [takeR_cons] at h
    split at h
    · rename_i c
      cases h
      exact ⟨rfl, c⟩
    · cases h
def hasF (k : Int) : Bool := k == 3 || k == 4 || k == 5 || k == 6 || k == 9
def hasN (k : Int) : Bool := k == 3 || k == 4 || k == 9
def dSort : Deed → Int
  | .down => 0
  | .up => 1
  | .top => 2
  | .write _ _ => 3
  | .add _ _ => 4
  | .copy _ => 5
  | .paste _ => 6
  | .delete => 7
  | .double => 8
  | .find _ _ => 9
def dField : Deed → Nat
  | .write f _ => f
  | .add f _ => f
  | .copy f => f
  | .paste f => f
  | .find f _ => f
  | _ => 0
def deedOf (k f v : Int) : Deed :=
  if k = 0 then .down else if k = 1 then .up else if k = 2 then .top else if k = 3 then .write f.toNat v else if k = 4 then .add f.toNat v else if k = 5 then .copy f.toNat
  else if k = 6 then .paste f.toNat else if k = 7 then .delete else if k = 8 then .double else .find f.toNat v
/-- sort, field, number, step -/
abbrev Raw := Int × Int × Int × Int
def rawDeed (ws : Bool) (x : List Int) : Option (Raw × List Int) :=
  (takeR 0 9 x).bind fun u => (if hasF u.1 = true then takeR 0 2 u.2 else some (0, u.2)).bind fun v => (if hasN u.1 = true then takeR (-999) 999 v.2 else some (0, v.2)).bind fun w =>
    (if (hasN u.1 && ws) = true then takeR (-999) 999 w.2 else some (0, w.2)).map fun s => ((u.1, v.1, w.1, s.1), s.2)
/-- what a raw deed tells -/
structure RawOf (a : Raw) (d : Deed) : Prop where
  sort : a.1 = dSort d
  field : a.2.1 = (dField d : Int)
  num : a.2.2.1 = numberOf d
theorem readNat_take (lo hi : Nat) (x : List Int) : readNat lo hi x = (takeR lo hi x).map fun u => (u.1.toNat, u.2) := by
  cases x with
  | nil => rfl
  | cons z r =>
    show (if int lo ≤ z ∧ z ≤ int hi then some (z.toNat, r) else none) = _
    rw [takeR_cons]
    unfold int
    split <;> rfl
theorem readValue_take (x : List Int) : readValue x = takeR (-999) 999 x := by
  cases x with
  | nil => rfl
  | cons z r =>
    show (if okValue z = true then some (z, r) else none) = _
    rw [takeR_cons]
    have e : (okValue z = true) = (-999 ≤ z ∧ z ≤ 999) := by
      unfold okValue VALUE
      simp
    simp only [e]
theorem readField_take (x : List Int) : readField x = (takeR 0 2 x).map fun u => (u.1.toNat, u.2) := readNat_take 0 2 x
theorem readPair_fv (x : List Int) : readPair readField readValue x = (takeR 0 2 x).bind fun u => (takeR (-999) 999 u.2).map fun v => ((u.1.toNat, v.1), v.2) := by
  unfold readPair
  rw [readField_take]
  cases takeR 0 2 x with
  | none => rfl
  | some u =>
    show (readValue u.2).map _ = (takeR (-999) 999 u.2).map _
    rw [readValue_take]
theorem readDeed_other {z : Int} {r : List Int} (h : ¬ (0 ≤ z ∧ z ≤ 9)) : readDeed (z :: r) = none := by
  unfold readDeed
  split <;> first | rfl | (rename_i e; cases e; exact absurd (by decide) h)
theorem ten {z : Int} (h : 0 ≤ z ∧ z ≤ 9) : z = 0 ∨ z = 1 ∨ z = 2 ∨ z = 3 ∨ z = 4 ∨ z = 5 ∨ z = 6 ∨ z = 7 ∨ z = 8 ∨ z = 9 := by omega
/-- the deed with its step, as the specification reads it -/
def specDeed (ws : Bool) (x : List Int) : Option ((Deed × Int) × List Int) :=
  (readDeed x).bind fun d => (if (hasNumber d.1 && ws) = true then readValue d.2 else some (0, d.2)).map fun s => ((d.1, s.1), s.2)
theorem rawDeed_spec (ws : Bool) (x : List Int) : specDeed ws x = (rawDeed ws x).map fun a => ((deedOf a.1.1 a.1.2.1 a.1.2.2.1, a.1.2.2.2), a.2) := by
  unfold specDeed rawDeed
  cases x with
  | nil => rfl
  | cons z r =>
    by_cases h : 0 ≤ z ∧ z ≤ 9
    · rw [takeR_cons, if_pos h]
      have e5 : readValue = takeR (-999) 999 := funext readValue_take
      have e6 : ∀ y, readPair readField readValue y = (takeR 0 2 y).bind fun u => (takeR (-999) 999 u.2).map fun v => ((u.1.toNat, v.1), v.2) := readPair_fv
      have e7 : ∀ y, readField y = (takeR 0 2 y).map fun u => (u.1.toNat, u.2) := readField_take
      rcases ten h with rfl | rfl | rfl | rfl | rfl | rfl | rfl | rfl | rfl | rfl
      · cases ws <;> rfl
      · cases ws <;> rfl
      · cases ws <;> rfl
      · show ((readPair readField readValue r).map fun u => (Deed.write u.1.1 u.1.2, u.2)).bind _ = _
        rw [e6, e5]
        cases ws <;> (simp only [Option.bind_some]; show _ = Option.map _ (Option.bind (takeR 0 2 r) _); cases takeR 0 2 r with
          | none => rfl
          | some v =>
            simp only [Option.bind_some]
            show _ = Option.map _ (Option.bind (takeR (-999) 999 v.2) _)
            cases takeR (-999) 999 v.2 with
            | none => rfl
            | some w =>
              first
                | rfl
                | (simp only [Option.bind_some, Option.map_some]
                   show Option.map _ (takeR (-999) 999 w.2) = Option.map _ (Option.map _ (takeR (-999) 999 w.2))
                   cases takeR (-999) 999 w.2 <;> rfl))
      · show ((readPair readField readValue r).map fun u => (Deed.add u.1.1 u.1.2, u.2)).bind _ = _
        rw [e6, e5]
        cases ws <;> (simp only [Option.bind_some]; show _ = Option.map _ (Option.bind (takeR 0 2 r) _); cases takeR 0 2 r with
          | none => rfl
          | some v =>
            simp only [Option.bind_some]
            show _ = Option.map _ (Option.bind (takeR (-999) 999 v.2) _)
            cases takeR (-999) 999 v.2 with
            | none => rfl
            | some w =>
              first
                | rfl
                | (simp only [Option.bind_some, Option.map_some]
                   show Option.map _ (takeR (-999) 999 w.2) = Option.map _ (Option.map _ (takeR (-999) 999 w.2))
                   cases takeR (-999) 999 w.2 <;> rfl))
      · show ((readField r).map fun u => (Deed.copy u.1, u.2)).bind _ = _
        rw [e7]
        cases ws <;> (simp only [Option.bind_some]; show _ = Option.map _ (Option.bind (takeR 0 2 r) _); cases takeR 0 2 r <;> rfl)
      · show ((readField r).map fun u => (Deed.paste u.1, u.2)).bind _ = _
        rw [e7]
        cases ws <;> (simp only [Option.bind_some]; show _ = Option.map _ (Option.bind (takeR 0 2 r) _); cases takeR 0 2 r <;> rfl)
      · cases ws <;> rfl
      · cases ws <;> rfl
      · show ((readPair readField readValue r).map fun u => (Deed.find u.1.1 u.1.2, u.2)).bind _ = _
        rw [e6, e5]
        cases ws <;> (simp only [Option.bind_some]; show _ = Option.map _ (Option.bind (takeR 0 2 r) _); cases takeR 0 2 r with
          | none => rfl
          | some v =>
            simp only [Option.bind_some]
            show _ = Option.map _ (Option.bind (takeR (-999) 999 v.2) _)
            cases takeR (-999) 999 v.2 with
            | none => rfl
            | some w =>
              first
                | rfl
                | (simp only [Option.bind_some, Option.map_some]
                   show Option.map _ (takeR (-999) 999 w.2) = Option.map _ (Option.map _ (takeR (-999) 999 w.2))
                   cases takeR (-999) 999 w.2 <;> rfl))
    · rw [takeR_cons, if_neg h, readDeed_other h]
      rfl

theorem takeR_len {lo hi : Int} {x : List Int} {u : Int × List Int} (h : takeR lo hi x = some u) : x.length = u.2.length + 1 := by
  rw [(takeR_some h).1]
  rfl
/-- an optional number: what it is, how much is left -/
theorem optTake {c : Bool} {lo hi : Int} {x : List Int} {u : Int × List Int} (h : (if c = true then takeR lo hi x else some (0, x)) = some u) : (c = true ∧ lo ≤ u.1 ∧ u.1 ≤ hi ∨ c = false ∧ u.1 = 0) ∧ u.2.length ≤ x.length := by
  cases c with
  | true =>
    rw [if_pos rfl] at h
    have q := takeR_some h
    exact ⟨.inl ⟨rfl, q.2⟩, by rw [takeR_len h]; exact Nat.le_succ _⟩
  | false =>
    rw [if_neg Bool.false_ne_true] at h
    cases h
    exact ⟨.inr ⟨rfl, rfl⟩, Nat.le_refl _⟩
structure RawOk (a : Raw) : Prop where
  k0 : 0 ≤ a.1
  k9 : a.1 ≤ 9
  f : hasF a.1 = true ∧ 0 ≤ a.2.1 ∧ a.2.1 ≤ 2 ∨ hasF a.1 = false ∧ a.2.1 = 0
  v : hasN a.1 = true ∧ -999 ≤ a.2.2.1 ∧ a.2.2.1 ≤ 999 ∨ hasN a.1 = false ∧ a.2.2.1 = 0
  s : hasN a.1 = true ∧ -999 ≤ a.2.2.2 ∧ a.2.2.2 ≤ 999 ∨ a.2.2.2 = 0
theorem rawDeed_ok {ws : Bool} {x : List Int} {a : Raw} {y : List Int} (h : rawDeed ws x = some (a, y)) : RawOk a ∧ y.length < x.length ∧ (ws = false → a.2.2.2 = 0) := by
  unfold rawDeed at h
  cases e1 : takeR 0 9 x with
  | none => rw [e1] at h; cases h
  | some u =>
    rw [e1] at h
    simp only [Option.bind_some] at h
    cases e2 : (if hasF u.1 = true then takeR 0 2 u.2 else some (0, u.2)) with
    | none => rw [e2] at h; cases h
    | some v =>
      rw [e2] at h
      simp only [Option.bind_some] at h
      cases e3 : (if hasN u.1 = true then takeR (-999) 999 v.2 else some (0, v.2)) with
      | none => rw [e3] at h; cases h
      | some w =>
        rw [e3] at h
        simp only [Option.bind_some] at h
        cases e4 : (if (hasN u.1 && ws) = true then takeR (-999) 999 w.2 else some (0, w.2)) with
        | none => rw [e4] at h; cases h
        | some s =>
          rw [e4] at h
          cases h
          have q1 := takeR_some e1
          have q2 := optTake e2
          have q3 := optTake e3
          have q4 := optTake e4
          refine ⟨⟨q1.2.1, q1.2.2, q2.1, q3.1, ?_⟩, ?_, fun hw => ?_⟩
          · rcases q4.1 with ⟨c, b⟩ | ⟨_, c⟩
            · exact .inl ⟨(Bool.and_eq_true_iff.mp c).1, b⟩
            · exact .inr c
          · have l1 := takeR_len e1
            have l2 := q2.2
            have l3 := q3.2
            have l4 := q4.2
            show s.2.length < x.length
            omega
          · rcases q4.1 with ⟨c, b⟩ | ⟨_, c⟩
            · rw [hw, Bool.and_false] at c
              cases c
            · exact c
theorem okValue_iff {z : Int} : okValue z = true ↔ -999 ≤ z ∧ z ≤ 999 := by
  unfold okValue VALUE
  simp
theorem okField_iff {f : Nat} : okField f = true ↔ f ≤ 2 := by
  unfold okField FIELDS
  simp
  omega
theorem deedOf_ok {a : Raw} (h : RawOk a) : RawOf a (deedOf a.1 a.2.1 a.2.2.1) ∧ okDeed (deedOf a.1 a.2.1 a.2.2.1) = true ∧ okValue a.2.2.2 = true ∧ (hasNumber (deedOf a.1 a.2.1 a.2.2.1) || a.2.2.2 == 0) = true ∧ hasNumber (deedOf a.1 a.2.1 a.2.2.1) = hasN a.1 := by
  obtain ⟨k, f, v, s⟩ := a
  obtain ⟨k0, k9, hf, hv, hs⟩ := h
  simp only at k0 k9 hf hv hs ⊢
  have vs : okValue s = true := by
    rw [okValue_iff]
    rcases hs with ⟨_, b⟩ | b
    · exact b
    · omega
  have F : ∀ {d : Deed} {n : Bool}, (n = true → 0 ≤ f ∧ f ≤ 2) → n = true → okField f.toNat = true ∧ (f.toNat : Int) = f := fun {d n} h1 h2 => by
    have q := h1 h2
    exact ⟨okField_iff.mpr (by omega), by omega⟩
  rcases ten ⟨k0, k9⟩ with rfl | rfl | rfl | rfl | rfl | rfl | rfl | rfl | rfl | rfl <;>
    (simp only [hasF, hasN] at hf hv hs
     simp (config := { decide := true }) only [true_and, false_and, or_false, false_or] at hf hv hs
     refine ⟨⟨rfl, ?_, ?_⟩, ?_, vs, ?_, rfl⟩ <;>
       (try simp (config := { decide := true }) only [deedOf, if_true, if_false]) <;>
       first
         | (show _ = (0 : Int); omega)
         | (show f = ((f.toNat : Nat) : Int); omega)
         | (show v = v; rfl)
         | (show (okField f.toNat && okValue v) = true; rw [okField_iff.mpr (by omega), okValue_iff.mpr (by omega)]; rfl)
         | (show okField f.toNat = true; exact okField_iff.mpr (by omega))
         | rfl
         | (show (_ || s == 0) = true; simp only [hasNumber, Bool.true_or]; done)
         | (show (_ || s == 0) = true; simp [hasNumber]; omega))
end Pe
set_option linter.all false
/-! A program read: the program's Reader.pieces, as plain functions, against readProg. -/
namespace Pe
open VamacBase

def rdDeed (x : List Int) : Option (Prog × List Int) := (rawDeed true x).map fun d => (.deed (deedOf d.1.1 d.1.2.1 d.1.2.2.1) d.1.2.2.2 .done, d.2)
/-- one piece, as a program of one -/
def piece1 (inner : List Int → Option (Prog × List Int)) (x : List Int) : Option (Prog × List Int) := (takeR 0 3 x).bind fun u =>
  if u.1 = 0 then rdDeed u.2
  else if u.1 = 1 then (takeR 1 9 u.2).bind fun n => (inner n.2).map fun b => (.times n.1.toNat b.1 .done, b.2)
  else if u.1 = 2 then (inner u.2).map fun b => (.toEnd b.1 .done, b.2)
  else (takeR 0 2 u.2).bind fun f => (takeR (-999) 999 f.2).bind fun v => (inner v.2).map fun b => (.when f.1.toNat v.1 b.1 .done, b.2)
def rowN (inner : List Int → Option (Prog × List Int)) : Nat → List Int → Option (Prog × List Int)
  | 0, x => some (.done, x)
  | n + 1, x => (piece1 inner x).bind fun u => (rowN inner n u.2).map fun v => (u.1.andThen v.1, v.2)
def rowR : Nat → List Int → Option (Prog × List Int)
  | 0 => fun _ => none
  | m + 1 => fun x => (takeR 0 16 x).bind fun u => rowN (rowR m) u.1.toNat u.2
def fin {A : Type} (o : Option (A × List Int)) : Option A := match o with
  | some (u, []) => some u
  | _ => none
theorem whole_fin {A : Type} (a : Reader A) (x : List Int) : whole a x = fin (a x) := rfl
theorem fin_none {A : Type} : fin (none : Option (A × List Int)) = none := rfl
theorem fin_nil {A : Type} (u : A) : fin (some (u, ([] : List Int))) = some u := rfl
theorem fin_cons {A : Type} (u : A) (z : Int) (r : List Int) : fin (some (u, z :: r)) = none := rfl
def readP (x : List Int) : Option Prog := (fin (rowR 4 x)).bind fun p => if p.size ≤ 16 then some p else none

/-! ### single pieces -/
inductive One : Prog → Prop
  | deed (d : Deed) (s : Int) : One (.deed d s .done)
  | times (n : Nat) (b : Prog) : One (.times n b .done)
  | toEnd (b : Prog) : One (.toEnd b .done)
  | when (f : Nat) (v : Int) (b : Prog) : One (.when f v b .done)

theorem map_some {A B : Type} {f : A → B} {o : Option A} {b : B} (h : o.map f = some b) : ∃ a, o = some a ∧ f a = b := by
  cases o with
  | none => cases h
  | some a => exact ⟨a, rfl, Option.some.inj h⟩
theorem bind_some {A B : Type} {f : A → Option B} {o : Option A} {b : B} (h : o.bind f = some b) : ∃ a, o = some a ∧ f a = some b := by
  cases o with
  | none => cases h
  | some a => exact ⟨a, rfl, h⟩

/-- what is known of a row read -/
structure RowOk (p : Prog) (m : Nat) (x y : List Int) : Prop where
  ok : okPieces p = true
  deep : p.depth ≤ m
  len : y.length ≤ x.length

theorem rdDeed_ok {x : List Int} {p : Prog} {y : List Int} (h : rdDeed x = some (p, y)) : RowOk p 0 x y ∧ y.length < x.length ∧ ∃ d s, p = .deed d s .done := by
  obtain ⟨⟨a, z⟩, e, q⟩ := map_some h
  cases q
  obtain ⟨o, l, _⟩ := rawDeed_ok e
  obtain ⟨r, o1, o2, o3, o4⟩ := deedOf_ok o
  refine ⟨⟨?_, Nat.le_refl _, Nat.le_of_lt l⟩, l, _, _, rfl⟩
  show (okDeed _ && (okValue _ && (_ && okPieces .done))) = true
  rw [o1, o2, o3]
  rfl
theorem rowN_ok (m : Nat) (ih : ∀ x p y, rowR m x = some (p, y) → RowOk p (m - 1) x y ∧ 0 < m) : ∀ n x p y, rowN (rowR m) n x = some (p, y) → RowOk p m x y
  | 0, x, p, y, h => by
    cases h
    exact ⟨rfl, Nat.zero_le _, Nat.le_refl _⟩
  | n + 1, x, p, y, h => by
    obtain ⟨⟨q, z⟩, e, h2⟩ := bind_some h
    obtain ⟨⟨r, z2⟩, e2, h3⟩ := map_some h2
    cases h3
    have R := rowN_ok m ih n _ _ _ e2
    obtain ⟨⟨k, z3⟩, e3, e4⟩ := bind_some e
    have t3 := takeR_some e3
    have l3 := takeR_len e3
    simp only at t3 l3 e4
    split at e4
    · obtain ⟨⟨o1, o2, o3⟩, l, d, s, rfl⟩ := rdDeed_ok e4
      refine ⟨?_, ?_, by have := R.len; simp only at *; omega⟩
      · show (okDeed d && (okValue s && ((hasNumber d || s == 0) && okPieces r))) = true
        have o1' : (okDeed d && (okValue s && ((hasNumber d || s == 0) && okPieces .done))) = true := o1
        simp only [Bool.and_eq_true] at o1' ⊢
        exact ⟨o1'.1, o1'.2.1, o1'.2.2.1, R.ok⟩
      · exact R.deep
    · split at e4
      · obtain ⟨⟨k2, z4⟩, e5, e6⟩ := bind_some e4
        obtain ⟨⟨b, z5⟩, e7, e8⟩ := map_some e6
        cases e8
        obtain ⟨B, hm⟩ := ih _ _ _ e7
        have t5 := takeR_some e5
        have l5 := takeR_len e5
        simp only at t5 l5 e7
        refine ⟨?_, ?_, by have := R.len; have := B.len; simp only at *; omega⟩
        · show (decide (1 ≤ k2.toNat) && (decide (k2.toNat ≤ TIMES) && (okPieces b && okPieces r))) = true
          rw [B.ok, R.ok, decide_eq_true (by omega), decide_eq_true (by unfold TIMES; omega)]
          rfl
        · show Nat.max (b.depth + 1) r.depth ≤ m
          have := B.deep
          exact Nat.max_le.mpr ⟨by omega, R.deep⟩
      · split at e4
        · obtain ⟨⟨b, z5⟩, e7, e8⟩ := map_some e4
          cases e8
          obtain ⟨B, hm⟩ := ih _ _ _ e7
          refine ⟨?_, ?_, by have := R.len; have := B.len; simp only at *; omega⟩
          · show (okPieces b && okPieces r) = true
            rw [B.ok, R.ok]
            rfl
          · show Nat.max (b.depth + 1) r.depth ≤ m
            have := B.deep
            exact Nat.max_le.mpr ⟨by omega, R.deep⟩
        · obtain ⟨⟨f, z4⟩, e5, e6⟩ := bind_some e4
          obtain ⟨⟨v, z6⟩, e9, e10⟩ := bind_some e6
          obtain ⟨⟨b, z5⟩, e7, e8⟩ := map_some e10
          cases e8
          obtain ⟨B, hm⟩ := ih _ _ _ e7
          have t5 := takeR_some e5
          have l5 := takeR_len e5
          have t9 := takeR_some e9
          have l9 := takeR_len e9
          simp only at t5 l5 e7 t9 l9
          refine ⟨?_, ?_, by have := R.len; have := B.len; simp only at *; omega⟩
          · show (okField f.toNat && (okValue v && (okPieces b && okPieces r))) = true
            rw [B.ok, R.ok, okField_iff.mpr (by omega), okValue_iff.mpr t9.2]
            rfl
          · show Nat.max (b.depth + 1) r.depth ≤ m
            have := B.deep
            exact Nat.max_le.mpr ⟨by omega, R.deep⟩
theorem rowR_ok : ∀ m x p y, rowR m x = some (p, y) → RowOk p (m - 1) x y ∧ 0 < m
  | 0, x, p, y, h => by cases h
  | m + 1, x, p, y, h => by
    obtain ⟨⟨k, z3⟩, e3, e4⟩ := bind_some h
    have l3 := takeR_len e3
    have R := rowN_ok m (rowR_ok m) _ _ _ _ e4
    exact ⟨⟨R.ok, R.deep, by have := R.len; simp only at *; omega⟩, Nat.succ_pos _⟩

/-! ### the specification's reader -/
theorem readPieces_zero (f : Nat) (x : List Int) : readPieces (f + 1) 0 x = some (.done, x) := by
  unfold readPieces
  exact if_pos rfl
def specRow (f : Nat) (y : List Int) : Option (Prog × List Int) := (readNat 0 PIECES y).bind fun k => readPieces f k.1 k.2
theorem specRow_take (f : Nat) (y : List Int) : specRow f y = (takeR 0 16 y).bind fun k => readPieces f k.1.toNat k.2 := by
  unfold specRow
  rw [readNat_take]
  show Option.bind (Option.map _ (takeR 0 16 y)) _ = _
  cases takeR 0 16 y <;> rfl
/-- one piece by the specification -/
def specPiece (f : Nat) (x : List Int) : Option (Prog × List Int) := (takeR 0 3 x).bind fun u =>
  if u.1 = 0 then rdDeed u.2
  else if u.1 = 1 then (takeR 1 9 u.2).bind fun n => (specRow f n.2).map fun b => (.times n.1.toNat b.1 .done, b.2)
  else if u.1 = 2 then (specRow f u.2).map fun b => (.toEnd b.1 .done, b.2)
  else (takeR 0 2 u.2).bind fun g => (takeR (-999) 999 g.2).bind fun v => (specRow f v.2).map fun b => (.when g.1.toNat v.1 b.1 .done, b.2)
theorem deed_step (y : List Int) {B : Type} (k : Deed → Int → List Int → Option B) :
    ((readDeed y).bind fun d => (if hasNumber d.1 = true then readValue d.2 else some (0, d.2)).bind fun s => k d.1 s.1 s.2) = (specDeed true y).bind fun d => k d.1.1 d.1.2 d.2 := by
  unfold specDeed
  cases readDeed y with
  | none => rfl
  | some d =>
    simp only [Option.bind_some, Bool.and_true]
    cases (if hasNumber d.1 = true then readValue d.2 else some (0, d.2)) <;> rfl
theorem readPieces_succ (f n : Nat) (x : List Int) : readPieces (f + 1) (n + 1) x = (specPiece f x).bind fun u => (readPieces f n u.2).map fun v => (u.1.andThen v.1, v.2) := by
  conv => lhs; unfold readPieces
  simp only [if_neg (Nat.succ_ne_zero n), Nat.add_sub_cancel]
  unfold specPiece
  cases x with
  | nil => rfl
  | cons z y =>
    rw [takeR_cons]
    by_cases h : 0 ≤ z ∧ z ≤ 3
    · rw [if_pos h]
      simp only [Option.bind_some]
      have four : z = 0 ∨ z = 1 ∨ z = 2 ∨ z = 3 := by omega
      rcases four with rfl | rfl | rfl | rfl
      · simp only [if_true]
        show ((readDeed y).bind fun d => (if hasNumber d.1 = true then readValue d.2 else some (0, d.2)).bind fun s => (readPieces f n s.2).map fun r => (Prog.deed d.1 s.1 r.1, r.2)) = _
        rw [deed_step y (fun d s z => (readPieces f n z).map fun r => (Prog.deed d s r.1, r.2)), rawDeed_spec]
        unfold rdDeed
        cases rawDeed true y with
        | none => rfl
        | some a => rfl
      · simp (config := { decide := true }) only [if_true, if_false]
        show ((readNat 1 TIMES y).bind fun k => (specRow f k.2).bind fun b => (readPieces f n b.2).map fun r => (Prog.times k.1 b.1 r.1, r.2)) = _
        rw [readNat_take]
        show Option.bind (Option.map _ (takeR 1 9 y)) _ = Option.bind (Option.bind (takeR 1 9 y) _) _
        cases takeR 1 9 y with
        | none => rfl
        | some k =>
          simp only [Option.bind_some, Option.map_some]
          cases specRow f k.2 with
          | none => rfl
          | some b => rfl
      · simp (config := { decide := true }) only [if_true, if_false]
        show ((specRow f y).bind fun b => (readPieces f n b.2).map fun r => (Prog.toEnd b.1 r.1, r.2)) = _
        cases specRow f y with
        | none => rfl
        | some b => rfl
      · simp (config := { decide := true }) only [if_true, if_false]
        show ((readPair readField readValue y).bind fun u => (specRow f u.2).bind fun b => (readPieces f n b.2).map fun r => (Prog.when u.1.1 u.1.2 b.1 r.1, r.2)) = _
        rw [readPair_fv]
        cases takeR 0 2 y with
        | none => rfl
        | some g =>
          simp only [Option.bind_some]
          cases takeR (-999) 999 g.2 with
          | none => rfl
          | some v =>
            simp only [Option.bind_some, Option.map_some]
            cases specRow f v.2 with
            | none => rfl
            | some b => rfl
    · rw [if_neg h]
      simp only [Option.bind_none]
      split <;> first | rfl | (rename_i e; cases e; exact absurd (by decide) h)
/-- sound: with fuel enough the specification reads the same -/
theorem sound : ∀ (f m n : Nat) (x : List Int) (p : Prog) (y : List Int), x.length < f → rowN (rowR m) n x = some (p, y) → readPieces f n x = some (p, y)
  | 0, m, n, x, p, y, hf, _ => absurd hf (Nat.not_lt_zero _)
  | f + 1, m, 0, x, p, y, hf, h => by
    rw [readPieces_zero]
    exact h
  | f + 1, m, n + 1, x, p, y, hf, h => by
    obtain ⟨⟨q, z⟩, e, h2⟩ := bind_some h
    obtain ⟨⟨r, z2⟩, e2, h3⟩ := map_some h2
    cases h3
    have inn : ∀ (g m : Nat) (x' : List Int) (b : Prog) (y' : List Int), x'.length ≤ f → rowR m x' = some (b, y') → specRow f x' = some (b, y') ∧ y'.length < x'.length := by
      intro g m x' b y' hl hb
      cases m with
      | zero => cases hb
      | succ m =>
        obtain ⟨⟨k, z3⟩, e3, e4⟩ := bind_some hb
        have l3 := takeR_len e3
        have R := rowN_ok m (rowR_ok m) _ _ _ _ e4
        rw [specRow_take, e3]
        simp only at l3 e4
        refine ⟨?_, by have := R.len; simp only at *; omega⟩
        simp only [Option.bind_some]
        exact sound f m _ _ _ _ (by omega) e4
    rw [readPieces_succ]
    obtain ⟨⟨k, z3⟩, e3, e4⟩ := bind_some e
    have l3 := takeR_len e3
    simp only at l3 e4
    have key : specPiece f x = some (q, z) ∧ z.length < f := by
      unfold specPiece
      rw [e3]
      simp only [Option.bind_some]
      split at e4
      · rename_i c
        rw [if_pos c]
        exact ⟨e4, by have := (rdDeed_ok e4).2.1; omega⟩
      · rename_i c
        rw [if_neg c]
        split at e4
        · rename_i c
          rw [if_pos c]
          obtain ⟨⟨k2, z4⟩, e5, e6⟩ := bind_some e4
          obtain ⟨⟨b, z5⟩, e7, e8⟩ := map_some e6
          cases e8
          have l5 := takeR_len e5
          simp only at l5 e7
          obtain ⟨s1, s2⟩ := inn f m _ _ _ (by omega) e7
          rw [e5]
          simp only [Option.bind_some]
          rw [s1]
          exact ⟨rfl, by simp only at *; omega⟩
        · rename_i c
          rw [if_neg c]
          split at e4
          · rename_i c
            rw [if_pos c]
            obtain ⟨⟨b, z5⟩, e7, e8⟩ := map_some e4
            cases e8
            obtain ⟨s1, s2⟩ := inn f m _ _ _ (by omega) e7
            rw [s1]
            exact ⟨rfl, by simp only at *; omega⟩
          · rename_i c
            rw [if_neg c]
            obtain ⟨⟨g, z4⟩, e5, e6⟩ := bind_some e4
            obtain ⟨⟨v, z6⟩, e9, e10⟩ := bind_some e6
            obtain ⟨⟨b, z5⟩, e7, e8⟩ := map_some e10
            cases e8
            have l5 := takeR_len e5
            have l9 := takeR_len e9
            simp only at l5 e7 l9
            obtain ⟨s1, s2⟩ := inn f m _ _ _ (by omega) e7
            rw [e5]
            simp only [Option.bind_some]
            rw [e9]
            simp only [Option.bind_some]
            rw [s1]
            exact ⟨rfl, by simp only at *; omega⟩
    rw [key.1]
    simp only [Option.bind_some]
    rw [sound f m n _ _ _ key.2 e2]
    rfl
/-- complete: what the specification reads, not too deep, is read -/
theorem complete : ∀ (f m n : Nat) (x : List Int) (p : Prog) (y : List Int), readPieces f n x = some (p, y) → p.depth ≤ m → rowN (rowR m) n x = some (p, y)
  | 0, m, n, x, p, y, h, _ => by
    rw [readPieces] at h
    cases h
  | f + 1, m, 0, x, p, y, h, _ => by
    rw [readPieces_zero] at h
    exact h
  | f + 1, m, n + 1, x, p, y, h, hd => by
    rw [readPieces_succ] at h
    obtain ⟨⟨q, z⟩, e, h2⟩ := bind_some h
    obtain ⟨⟨r, z2⟩, e2, h3⟩ := map_some h2
    cases h3
    have inn : ∀ (m : Nat) (x' : List Int) (b : Prog) (y' : List Int), b.depth ≤ m → specRow f x' = some (b, y') → rowR (m + 1) x' = some (b, y') := by
      intro m x' b y' hb hs
      rw [specRow_take] at hs
      obtain ⟨⟨k, z3⟩, e3, e4⟩ := bind_some hs
      show (takeR 0 16 x').bind _ = _
      rw [e3]
      exact complete f m _ _ _ _ e4 hb
    obtain ⟨⟨k, z3⟩, e3, e4⟩ := bind_some e
    simp only at e4
    have mx : ∀ {a b : Nat}, Nat.max (a + 1) b ≤ m → ∃ m', m = m' + 1 ∧ a ≤ m' ∧ b ≤ m := fun {a b} h => by
      have := Nat.max_le.mp h
      exact ⟨m - 1, by omega, by omega, this.2⟩
    have key : piece1 (rowR m) x = some (q, z) ∧ r.depth ≤ m := by
      unfold piece1
      rw [e3]
      simp only [Option.bind_some]
      split at e4
      · rename_i c
        rw [if_pos c]
        obtain ⟨_, _, d, s, rfl⟩ := rdDeed_ok e4
        exact ⟨e4, hd⟩
      · rename_i c
        rw [if_neg c]
        split at e4
        · rename_i c
          rw [if_pos c]
          obtain ⟨⟨k2, z4⟩, e5, e6⟩ := bind_some e4
          obtain ⟨⟨b, z5⟩, e7, e8⟩ := map_some e6
          cases e8
          obtain ⟨m', rfl, h1, h2⟩ := mx (show Nat.max (b.depth + 1) r.depth ≤ m from hd)
          rw [e5]
          simp only [Option.bind_some]
          rw [inn m' _ _ _ h1 e7]
          exact ⟨rfl, h2⟩
        · rename_i c
          rw [if_neg c]
          split at e4
          · rename_i c
            rw [if_pos c]
            obtain ⟨⟨b, z5⟩, e7, e8⟩ := map_some e4
            cases e8
            obtain ⟨m', rfl, h1, h2⟩ := mx (show Nat.max (b.depth + 1) r.depth ≤ m from hd)
            rw [inn m' _ _ _ h1 e7]
            exact ⟨rfl, h2⟩
          · rename_i c
            rw [if_neg c]
            obtain ⟨⟨g, z4⟩, e5, e6⟩ := bind_some e4
            obtain ⟨⟨v, z6⟩, e9, e10⟩ := bind_some e6
            obtain ⟨⟨b, z5⟩, e7, e8⟩ := map_some e10
            cases e8
            obtain ⟨m', rfl, h1, h2⟩ := mx (show Nat.max (b.depth + 1) r.depth ≤ m from hd)
            rw [e5]
            simp only [Option.bind_some]
            rw [e9]
            simp only [Option.bind_some]
            rw [inn m' _ _ _ h1 e7]
            exact ⟨rfl, h2⟩
    show (piece1 (rowR m) x).bind _ = _
    rw [key.1]
    simp only [Option.bind_some]
    rw [complete f m n _ _ _ e2 key.2]
    rfl
theorem readP_ok {x : List Int} {p : Prog} (h : readP x = some p) : okProg p = true ∧ rowR 4 x = some (p, []) := by
  unfold readP at h
  obtain ⟨q, e, h2⟩ := bind_some h
  split at h2
  · rename_i c
    cases h2
    have e2 : rowR 4 x = some (p, []) := by
      unfold fin at e
      split at e
      · rename_i u he
        cases e
        exact he
      · cases e
    have R := (rowR_ok 4 _ _ _ e2).1
    refine ⟨?_, e2⟩
    show (okPieces p && (decide (p.size ≤ PIECES) && decide (p.depth ≤ DEPTH))) = true
    rw [R.ok, decide_eq_true (show p.size ≤ PIECES from c), decide_eq_true (show p.depth ≤ DEPTH from R.deep)]
    rfl
  · cases h2
theorem readProg_take (x : List Int) : readProg x = (takeR 0 16 x).bind fun k => (readPieces (x.length + 1) k.1.toNat k.2).bind fun u => if okProg u.1 = true then some u else none := by
  unfold readProg
  rw [readNat_take]
  show Option.bind (Option.map _ (takeR 0 16 x)) _ = _
  cases takeR 0 16 x <;> rfl
/-- **the program's reader is the specification's** -/
theorem readP_spec (x : List Int) : whole readProg x = readP x := by
  rw [whole_fin, readProg_take]
  cases hp : readP x with
  | some p =>
    obtain ⟨ok, e⟩ := readP_ok hp
    obtain ⟨⟨k, z⟩, e3, e4⟩ := bind_some e
    have l := takeR_len e3
    simp only at e4 l
    rw [e3]
    simp only [Option.bind_some]
    rw [sound (x.length + 1) 3 _ _ _ _ (by omega) e4]
    simp only [Option.bind_some]
    rw [if_pos ok]
    rfl
  | none =>
    cases e3 : takeR 0 16 x with
    | none => rfl
    | some k =>
      simp only [Option.bind_some]
      cases e4 : readPieces (x.length + 1) k.1.toNat k.2 with
      | none => rfl
      | some u =>
        simp only [Option.bind_some]
        by_cases ok : okProg u.1 = true
        · rw [if_pos ok]
          obtain ⟨p, y⟩ := u
          cases y with
          | cons a b => rfl
          | nil =>
            exfalso
            have ok' : (okPieces p && (decide (p.size ≤ PIECES) && decide (p.depth ≤ DEPTH))) = true := ok
            simp only [Bool.and_eq_true, decide_eq_true_eq] at ok'
            have c := complete _ 3 _ _ _ _ e4 ok'.2.2
            have e5 : rowR 4 x = some (p, []) := by
              show (takeR 0 16 x).bind _ = _
              rw [e3]
              exact c
            unfold readP at hp
            rw [e5, fin_nil] at hp
            simp only [Option.bind_some] at hp
            rw [if_pos (show p.size ≤ 16 from ok'.2.1)] at hp
            cases hp
        · rw [if_neg ok]
          rfl
end Pe
set_option linter.all false
/-! Recordings, tables, fields read. -/
namespace Pe
open VamacBase

def takeN (lo hi : Int) : Nat → List Int → Option (List Int × List Int)
  | 0, x => some ([], x)
  | n + 1, x => (takeR lo hi x).bind fun u => (takeN lo hi n u.2).map fun v => (u.1 :: v.1, v.2)
theorem takeN_ok {lo hi : Int} : ∀ {n : Nat} {x : List Int} {u : List Int × List Int}, takeN lo hi n x = some u → u.1.length = n ∧ ∀ z ∈ u.1, lo ≤ z ∧ z ≤ hi
  | 0, x, u, h => by
    cases h
    exact ⟨rfl, fun z hz => absurd hz (List.not_mem_nil)⟩
  | n + 1, x, u, h => by
    obtain ⟨a, e, h2⟩ := bind_some h
    obtain ⟨v, e2, h3⟩ := map_some h2
    cases h3
    have q := takeR_some e
    have ih := takeN_ok e2
    refine ⟨by show v.1.length + 1 = n + 1; rw [ih.1], fun z hz => ?_⟩
    rcases List.mem_cons.mp hz with rfl | hz
    · exact q.2
    · exact ih.2 z hz
def fieldsR (x : List Int) : Option (List Int × List Int) := (takeR 0 3 x).bind fun u => takeN 0 2 u.1.toNat u.2
theorem readTimes_field : ∀ (n : Nat) (x : List Int), readTimes readField n x = (takeN 0 2 n x).map fun u => (u.1.map Int.toNat, u.2)
  | 0, x => rfl
  | n + 1, x => by
    show (readField x).bind _ = _
    rw [readField_take]
    show _ = Option.map _ (Option.bind (takeR 0 2 x) _)
    cases takeR 0 2 x with
    | none => rfl
    | some u =>
      simp only [Option.map_some, Option.bind_some]
      rw [readTimes_field n u.2]
      cases takeN 0 2 n u.2 <;> rfl
theorem fin_map {A B : Type} (f : A → B) (o : Option (A × List Int)) : fin (o.map fun u => (f u.1, u.2)) = (fin o).map f := by
  cases o with
  | none => rfl
  | some u =>
    obtain ⟨a, r⟩ := u
    cases r <;> rfl
theorem fin_some {A : Type} {o : Option (A × List Int)} {u : A} (h : fin o = some u) : o = some (u, []) := by
  unfold fin at h
  split at h
  · cases h
    rfl
  · cases h
theorem fields_spec (x : List Int) : whole (readListed 0 FIELDS readField) x = (fin (fieldsR x)).map (List.map Int.toNat) := by
  rw [whole_fin, ← fin_map]
  unfold readListed fieldsR
  rw [readNat_take]
  show fin (Option.bind (Option.map _ (takeR 0 3 x)) _) = _
  cases takeR 0 3 x with
  | none => rfl
  | some u =>
    simp only [Option.map_some, Option.bind_some]
    rw [readTimes_field]
theorem fieldsR_ok {x : List Int} {u : List Int × List Int} (h : fieldsR x = some u) : u.1.length ≤ 3 ∧ ∀ z ∈ u.1, 0 ≤ z ∧ z ≤ 2 := by
  obtain ⟨a, e, h2⟩ := bind_some h
  have q := takeR_some e
  have n := takeN_ok h2
  exact ⟨by rw [n.1]; omega, n.2⟩

/-! ### recordings -/
def toDeed (a : Raw) : Deed := deedOf a.1 a.2.1 a.2.2.1
def rawN : Nat → List Int → Option (List Raw × List Int)
  | 0, x => some ([], x)
  | n + 1, x => (rawDeed false x).bind fun u => (rawN n u.2).map fun v => (u.1 :: v.1, v.2)
def deedsR (x : List Int) : Option (List Raw × List Int) := (takeR 0 20 x).bind fun u => rawN u.1.toNat u.2
theorem readDeed_raw (x : List Int) : readDeed x = (rawDeed false x).map fun a => (toDeed a.1, a.2) := by
  have e := rawDeed_spec false x
  have e2 : (specDeed false x).map (fun u => (u.1.1, u.2)) = readDeed x := by
    unfold specDeed
    cases readDeed x with
    | none => rfl
    | some d => simp
  rw [← e2, e]
  cases rawDeed false x <;> rfl
theorem readTimes_deed : ∀ (n : Nat) (x : List Int), readTimes readDeed n x = (rawN n x).map fun u => (u.1.map toDeed, u.2)
  | 0, x => rfl
  | n + 1, x => by
    show (readDeed x).bind _ = _
    rw [readDeed_raw]
    show _ = Option.map _ (Option.bind (rawDeed false x) _)
    cases rawDeed false x with
    | none => rfl
    | some u =>
      simp only [Option.map_some, Option.bind_some]
      rw [readTimes_deed n u.2]
      cases rawN n u.2 <;> rfl
theorem deeds_spec (x : List Int) : Vamacf.readDeeds x = (fin (deedsR x)).map (List.map toDeed) := by
  show whole (readListed 0 20 readDeed) x = _
  rw [whole_fin, ← fin_map]
  unfold readListed deedsR
  rw [readNat_take]
  show fin (Option.bind (Option.map _ (takeR 0 20 x)) _) = _
  cases takeR 0 20 x with
  | none => rfl
  | some u =>
    simp only [Option.map_some, Option.bind_some]
    rw [readTimes_deed]
theorem rawN_ok : ∀ {n : Nat} {x : List Int} {u : List Raw × List Int}, rawN n x = some u → u.1.length = n ∧ ∀ a ∈ u.1, RawOk a ∧ a.2.2.2 = 0
  | 0, x, u, h => by
    cases h
    exact ⟨rfl, fun z hz => absurd hz (List.not_mem_nil)⟩
  | n + 1, x, u, h => by
    obtain ⟨a, e, h2⟩ := bind_some h
    obtain ⟨v, e2, h3⟩ := map_some h2
    cases h3
    have q := rawDeed_ok (a := a.1) (y := a.2) e
    have ih := rawN_ok e2
    refine ⟨by show v.1.length + 1 = n + 1; rw [ih.1], fun z hz => ?_⟩
    rcases List.mem_cons.mp hz with rfl | hz
    · exact ⟨q.1, q.2.2 rfl⟩
    · exact ih.2 z hz
theorem deedsR_ok {x : List Int} {u : List Raw × List Int} (h : deedsR x = some u) : u.1.length ≤ 20 ∧ ∀ a ∈ u.1, RawOk a ∧ a.2.2.2 = 0 := by
  obtain ⟨a, e, h2⟩ := bind_some h
  have q := takeR_some e
  have n := rawN_ok h2
  exact ⟨by rw [n.1]; omega, n.2⟩

/-! ### tables -/
def rowsN : Nat → List Int → Option (List (List Int) × List Int)
  | 0, x => some ([], x)
  | n + 1, x => (takeN (-999) 999 3 x).bind fun u => (rowsN n u.2).map fun v => (u.1 :: v.1, v.2)
def tabR (x : List Int) : Option (Table × List Int) := (takeR 0 8 x).bind fun u => (rowsN u.1.toNat u.2).bind fun v => (takeR 0 u.1 v.2).bind fun c => (takeR (-999) 999 c.2).map fun b => (⟨v.1, c.1.toNat, b.1⟩, b.2)
structure TabOk (t : Table) : Prop where
  many : t.rows.length ≤ 8
  three : ∀ r ∈ t.rows, r.length = 3
  cur : t.at_ ≤ t.rows.length
theorem readTimes_value : ∀ (n : Nat) (x : List Int), readTimes readValue n x = takeN (-999) 999 n x
  | 0, x => rfl
  | n + 1, x => by
    show (readValue x).bind _ = (takeR (-999) 999 x).bind _
    rw [readValue_take]
    cases takeR (-999) 999 x with
    | none => rfl
    | some u =>
      simp only [Option.bind_some]
      rw [readTimes_value n u.2]
theorem readTimes_rows : ∀ (n : Nat) (x : List Int), readTimes (readTimes readValue FIELDS) n x = rowsN n x
  | 0, x => rfl
  | n + 1, x => by
    show (readTimes readValue 3 x).bind _ = (takeN (-999) 999 3 x).bind _
    rw [readTimes_value]
    cases takeN (-999) 999 3 x with
    | none => rfl
    | some u =>
      simp only [Option.bind_some]
      rw [readTimes_rows n u.2]
theorem rowsN_ok : ∀ {n : Nat} {x : List Int} {u : List (List Int) × List Int}, rowsN n x = some u → u.1.length = n ∧ ∀ r ∈ u.1, r.length = 3 ∧ ∀ z ∈ r, -999 ≤ z ∧ z ≤ 999
  | 0, x, u, h => by
    cases h
    exact ⟨rfl, fun z hz => absurd hz (List.not_mem_nil)⟩
  | n + 1, x, u, h => by
    obtain ⟨a, e, h2⟩ := bind_some h
    obtain ⟨v, e2, h3⟩ := map_some h2
    cases h3
    have q := takeN_ok e
    have ih := rowsN_ok e2
    refine ⟨by show v.1.length + 1 = n + 1; rw [ih.1], fun z hz => ?_⟩
    rcases List.mem_cons.mp hz with rfl | hz
    · exact q
    · exact ih.2 z hz
theorem tabR_ok {x : List Int} {t : Table} {y : List Int} (h : tabR x = some (t, y)) : TabOk t := by
  obtain ⟨u, e1, h1⟩ := bind_some h
  obtain ⟨v, e2, h2⟩ := bind_some h1
  obtain ⟨c, e3, h3⟩ := bind_some h2
  obtain ⟨b, e4, h4⟩ := map_some h3
  cases h4
  have q1 := takeR_some e1
  have q2 := rowsN_ok e2
  have q3 := takeR_some e3
  refine ⟨?_, fun r hr => (q2.2 r hr).1, ?_⟩
  · show v.1.length ≤ 8
    rw [q2.1]
    omega
  · show c.1.toNat ≤ v.1.length
    rw [q2.1]
    omega
theorem table_spec (x : List Int) : whole readTable x = fin (tabR x) := by
  rw [whole_fin]
  congr 1
  unfold readTable tabR
  have e8 : readListed 0 ROWS (readTimes readValue FIELDS) x = (takeR 0 8 x).bind fun u => rowsN u.1.toNat u.2 := by
    unfold readListed
    rw [readNat_take]
    show Option.bind (Option.map _ (takeR 0 8 x)) _ = _
    cases takeR 0 8 x with
    | none => rfl
    | some u =>
      simp only [Option.map_some, Option.bind_some]
      rw [readTimes_rows]
  have e9 : ∀ y, readPair (readNat 0 ROWS) readValue y = (takeR 0 8 y).bind fun c => (takeR (-999) 999 c.2).map fun b => ((c.1.toNat, b.1), b.2) := fun y => by
    unfold readPair
    rw [readNat_take]
    show Option.bind (Option.map _ (takeR 0 8 y)) _ = _
    cases takeR 0 8 y with
    | none => rfl
    | some c =>
      simp only [Option.map_some, Option.bind_some]
      rw [readValue_take]
  have e10 : readPair (readListed 0 ROWS (readTimes readValue FIELDS)) (readPair (readNat 0 ROWS) readValue) x = ((takeR 0 8 x).bind fun u => rowsN u.1.toNat u.2).bind fun v => (readPair (readNat 0 ROWS) readValue v.2).map fun w => ((v.1, w.1), w.2) := by
    show (readListed 0 ROWS (readTimes readValue FIELDS) x).bind _ = _
    rw [e8]
  rw [e10]
  cases e1 : takeR 0 8 x with
  | none => rfl
  | some u =>
    simp only [Option.bind_some]
    cases e2 : rowsN u.1.toNat u.2 with
    | none => rfl
    | some v =>
      simp only [Option.bind_some]
      rw [e9]
      have q1 := takeR_some e1
      have q2 := rowsN_ok e2
      cases e3 : v.2 with
      | nil => rfl
      | cons z r =>
        rw [takeR_cons, takeR_cons]
        by_cases c : 0 ≤ z ∧ z ≤ u.1
        · rw [if_pos (show 0 ≤ z ∧ z ≤ 8 by omega), if_pos c]
          simp only [Option.bind_some]
          cases e4 : takeR (-999) 999 r with
          | none => rfl
          | some b =>
            have q4 := takeR_some e4
            simp only [Option.map_some, Option.bind_some]
            refine if_pos ?_
            unfold okTable
            rw [Bool.and_eq_true, Bool.and_eq_true, decide_eq_true_eq]
            refine ⟨by show v.1.length ≤ 8; rw [q2.1]; omega, ?_, ?_⟩
            · rw [List.all_eq_true]
              intro a ha
              obtain ⟨l3, vv⟩ := q2.2 a ha
              rw [Bool.and_eq_true]
              refine ⟨by rw [l3]; rfl, ?_⟩
              rw [List.all_eq_true]
              exact fun w hw => okValue_iff.mpr (vv w hw)
            · rw [Bool.and_eq_true, decide_eq_true_eq]
              exact ⟨by show z.toNat ≤ v.1.length; rw [q2.1]; omega, okValue_iff.mpr q4.2⟩
        · rw [if_neg c]
          by_cases d : 0 ≤ z ∧ z ≤ 8
          · rw [if_pos d]
            simp only [Option.bind_some, Option.bind_none]
            cases e4 : takeR (-999) 999 r with
            | none => rfl
            | some b =>
              simp only [Option.map_some, Option.bind_some]
              refine if_neg ?_
              intro h
              unfold okTable at h
              rw [Bool.and_eq_true, Bool.and_eq_true, Bool.and_eq_true, decide_eq_true_eq, decide_eq_true_eq] at h
              have h3 : z.toNat ≤ v.1.length := h.2.2.1
              rw [q2.1] at h3
              omega
          · rw [if_neg d]
            rfl
end Pe
set_option linter.all false
/-! What is told of programs: the program's loops over rows and over all pieces, against the specification. -/
namespace Pe
open VamacBase Vamacf

/-- the pieces of a row, each as a program of one -/
def heads : Prog → List Prog
  | .done => []
  | .deed d s r => .deed d s .done :: heads r
  | .times n b r => .times n b .done :: heads r
  | .toEnd b r => .toEnd b .done :: heads r
  | .when f v b r => .when f v b .done :: heads r
/-- all pieces, each ahead of those in it -/
def flat : Prog → List Prog
  | .done => []
  | .deed d s r => .deed d s .done :: flat r
  | .times n b r => .times n b .done :: (flat b ++ flat r)
  | .toEnd b r => .toEnd b .done :: (flat b ++ flat r)
  | .when f v b r => .when f v b .done :: (flat b ++ flat r)
/-- what stands in a piece -/
def inner : Prog → Prog
  | .times _ b _ => b
  | .toEnd b _ => b
  | .when _ _ b _ => b
  | _ => .done
theorem flat_length : ∀ p : Prog, (flat p).length = p.size
  | .done => rfl
  | .deed d s r => by show (flat r).length + 1 = r.size + 1; rw [flat_length r]
  | .times n b r => by show (flat b ++ flat r).length + 1 = b.size + r.size + 1; rw [List.length_append, flat_length b, flat_length r]
  | .toEnd b r => by show (flat b ++ flat r).length + 1 = b.size + r.size + 1; rw [List.length_append, flat_length b, flat_length r]
  | .when f v b r => by show (flat b ++ flat r).length + 1 = b.size + r.size + 1; rw [List.length_append, flat_length b, flat_length r]
theorem heads_length : ∀ p : Prog, (heads p).length = p.row
  | .done => rfl
  | .deed d s r => by show (heads r).length + 1 = r.row + 1; rw [heads_length r]
  | .times n b r => by show (heads r).length + 1 = r.row + 1; rw [heads_length r]
  | .toEnd b r => by show (heads r).length + 1 = r.row + 1; rw [heads_length r]
  | .when f v b r => by show (heads r).length + 1 = r.row + 1; rw [heads_length r]
theorem row_le : ∀ p : Prog, p.row ≤ p.size
  | .done => Nat.le_refl _
  | .deed d s r => by show r.row + 1 ≤ r.size + 1; have := row_le r; omega
  | .times n b r => by show r.row + 1 ≤ b.size + r.size + 1; have := row_le r; omega
  | .toEnd b r => by show r.row + 1 ≤ b.size + r.size + 1; have := row_le r; omega
  | .when f v b r => by show r.row + 1 ≤ b.size + r.size + 1; have := row_le r; omega
theorem flat_step {q r : Prog} (h : One q) : flat (q.andThen r) = q :: (flat (inner q) ++ flat r) := by cases h <;> rfl
theorem heads_step {q r : Prog} (h : One q) : heads (q.andThen r) = q :: heads r := by cases h <;> rfl
/-- sizes and depths add up -/
theorem size_heads : ∀ p : Prog, ((heads p).map Prog.size).sum = p.size
  | .done => rfl
  | .deed d s r => by show 1 + ((heads r).map Prog.size).sum = r.size + 1; rw [size_heads r]; omega
  | .times n b r => by show (b.size + 0 + 1) + ((heads r).map Prog.size).sum = b.size + r.size + 1; rw [size_heads r]; omega
  | .toEnd b r => by show (b.size + 0 + 1) + ((heads r).map Prog.size).sum = b.size + r.size + 1; rw [size_heads r]; omega
  | .when f v b r => by show (b.size + 0 + 1) + ((heads r).map Prog.size).sum = b.size + r.size + 1; rw [size_heads r]; omega
theorem size_one {q : Prog} (h : One q) : q.size = 1 + (inner q).size := by
  cases h with
  | deed d s => rfl
  | times n b => show b.size + 0 + 1 = _; show _ = 1 + b.size; omega
  | toEnd b => show b.size + 0 + 1 = _; show _ = 1 + b.size; omega
  | when f v b => show b.size + 0 + 1 = _; show _ = 1 + b.size; omega
def isDeed : Prog → Bool
  | .deed _ _ _ => true
  | _ => false
theorem depth_one {q : Prog} (h : One q) : q.depth = if isDeed q = true then 0 else 1 + (inner q).depth := by
  cases h with
  | deed d s => rfl
  | times n b => show max (b.depth + 1) 0 = 1 + b.depth; omega
  | toEnd b => show max (b.depth + 1) 0 = 1 + b.depth; omega
  | when f v b => show max (b.depth + 1) 0 = 1 + b.depth; omega
theorem depth_cons {q r : Prog} (h : One q) : (q.andThen r).depth = Nat.max q.depth r.depth := by
  cases h with
  | deed d s => show r.depth = Nat.max 0 r.depth; exact (Nat.max_eq_right (Nat.zero_le _)).symm
  | times n b => show max (b.depth + 1) r.depth = max (max (b.depth + 1) 0) r.depth; omega
  | toEnd b => show max (b.depth + 1) r.depth = max (max (b.depth + 1) 0) r.depth; omega
  | when f v b => show max (b.depth + 1) r.depth = max (max (b.depth + 1) 0) r.depth; omega
/-- a row is nothing, or a piece and a row -/
theorem row_cases (p : Prog) : p = .done ∨ ∃ q r, One q ∧ p = q.andThen r := by
  cases p with
  | done => exact .inl rfl
  | deed d s r => exact .inr ⟨.deed d s .done, r, .deed d s, rfl⟩
  | times n b r => exact .inr ⟨.times n b .done, r, .times n b, rfl⟩
  | toEnd b r => exact .inr ⟨.toEnd b .done, r, .toEnd b, rfl⟩
  | when f v b r => exact .inr ⟨.when f v b .done, r, .when f v b, rfl⟩
theorem prog_ind {P : Prog → Prop} (h0 : P .done) (h1 : ∀ q r, One q → P r → P (q.andThen r)) : ∀ p, P p
  | .done => h0
  | .deed d s r => h1 (.deed d s .done) r (.deed d s) (prog_ind h0 h1 r)
  | .times n b r => h1 (.times n b .done) r (.times n b) (prog_ind h0 h1 r)
  | .toEnd b r => h1 (.toEnd b .done) r (.toEnd b) (prog_ind h0 h1 r)
  | .when f v b r => h1 (.when f v b .done) r (.when f v b) (prog_ind h0 h1 r)
theorem heads_one (p : Prog) : ∀ q ∈ heads p, One q := by
  induction p using prog_ind with
  | h0 => intro q h; cases h
  | h1 q r hq ih =>
    intro z hz
    rw [heads_step hq] at hz
    rcases List.mem_cons.mp hz with rfl | hz
    · exact hq
    · exact ih z hz
theorem flat_one : ∀ (p : Prog), ∀ q ∈ flat p, One q
  | .done, q, h => by cases h
  | .deed d s r, q, h => by
    rcases List.mem_cons.mp h with rfl | h
    · exact .deed d s
    · exact flat_one r q h
  | .times n b r, q, h => by
    rcases List.mem_cons.mp h with rfl | h
    · exact .times n b
    · rcases List.mem_append.mp h with h | h
      · exact flat_one b q h
      · exact flat_one r q h
  | .toEnd b r, q, h => by
    rcases List.mem_cons.mp h with rfl | h
    · exact .toEnd b
    · rcases List.mem_append.mp h with h | h
      · exact flat_one b q h
      · exact flat_one r q h
  | .when f v b r, q, h => by
    rcases List.mem_cons.mp h with rfl | h
    · exact .when f v b
    · rcases List.mem_append.mp h with h | h
      · exact flat_one b q h
      · exact flat_one r q h
theorem depth_heads (p : Prog) : (p.depth = 0 ∨ ∃ q ∈ heads p, q.depth = p.depth) ∧ ∀ q ∈ heads p, q.depth ≤ p.depth := by
  induction p using prog_ind with
  | h0 => exact ⟨.inl rfl, fun q h => by cases h⟩
  | h1 q r hq ih =>
    rw [heads_step hq, depth_cons hq]
    obtain ⟨h1, h2⟩ := ih
    have m1 : q.depth ≤ Nat.max q.depth r.depth := Nat.le_max_left ..
    have m2 : r.depth ≤ Nat.max q.depth r.depth := Nat.le_max_right ..
    refine ⟨?_, fun z hz => ?_⟩
    · by_cases c : r.depth ≤ q.depth
      · exact .inr ⟨q, List.mem_cons_self .., (Nat.max_eq_left c).symm⟩
      · have e : Nat.max q.depth r.depth = r.depth := Nat.max_eq_right (by omega)
        rw [e]
        rcases h1 with h1 | ⟨z, hz, e⟩
        · omega
        · exact .inr ⟨z, List.mem_cons_of_mem _ hz, e⟩
    · rcases List.mem_cons.mp hz with rfl | hz
      · exact m1
      · exact Nat.le_trans (h2 z hz) m2
/-- the greatest of 0 and the depths -/
theorem depth_max {p : Prog} {m : Int} (h1 : m ∈ (0 : Int) :: (heads p).map fun q => (q.depth : Int)) (h2 : ∀ y ∈ (0 : Int) :: (heads p).map fun q => (q.depth : Int), y ≤ m) : m = (p.depth : Int) := by
  obtain ⟨a, b⟩ := depth_heads p
  have lo : (p.depth : Int) ≤ m := by
    rcases a with a | ⟨q, hq, e⟩
    · rw [a]
      exact h2 0 (List.mem_cons_self ..)
    · rw [← e]
      exact h2 _ (List.mem_cons_of_mem _ (List.mem_map.mpr ⟨q, hq, rfl⟩))
  have hi : m ≤ (p.depth : Int) := by
    rcases List.mem_cons.mp h1 with rfl | h
    · exact Int.natCast_nonneg _
    · obtain ⟨q, hq, rfl⟩ := List.mem_map.mp h
      exact Int.ofNat_le.mpr (b q hq)
  omega

/-! ### fields -/
def canon (g : Nat → Bool) : List Nat := (List.range 3).filter g
theorem canon_of (a b c : Bool) (g : Nat → Bool) (h0 : g 0 = a) (h1 : g 1 = b) (h2 : g 2 = c) : canon g = (if a = true then [0] else []) ++ ((if b = true then [1] else []) ++ (if c = true then [2] else [])) := by
  show List.filter g [0, 1, 2] = _
  rw [List.filter_cons, List.filter_cons, List.filter_cons, List.filter_nil, h0, h1, h2]
  cases a <;> cases b <;> cases c <;> rfl
theorem canon_put (n : Nat) (hn : n < 3) (g : Nat → Bool) : putNum n (canon g) = canon (fun m => m == n || g m) := by
  rw [canon_of (g 0) (g 1) (g 2) g rfl rfl rfl, canon_of (0 == n || g 0) (1 == n || g 1) (2 == n || g 2) (fun m => m == n || g m) rfl rfl rfl]
  generalize g 0 = a
  generalize g 1 = b
  generalize g 2 = c
  have e : n = 0 ∨ n = 1 ∨ n = 2 := by omega
  rcases e with rfl | rfl | rfl <;> cases a <;> cases b <;> cases c <;> decide
theorem canon_ext {g k : Nat → Bool} (h : ∀ n, n < 3 → g n = k n) : canon g = canon k := by
  rw [canon_of (g 0) (g 1) (g 2) g rfl rfl rfl, canon_of (k 0) (k 1) (k 2) k rfl rfl rfl, h 0 (by decide), h 1 (by decide), h 2 (by decide)]
theorem canon_union (g k : Nat → Bool) : union (canon g) (canon k) = canon (fun n => g n || k n) := by
  rw [canon_of (g 0) (g 1) (g 2) g rfl rfl rfl, canon_of (k 0) (k 1) (k 2) k rfl rfl rfl, canon_of (g 0 || k 0) (g 1 || k 1) (g 2 || k 2) (fun n => g n || k n) rfl rfl rfl]
  generalize g 0 = a
  generalize g 1 = b
  generalize g 2 = c
  generalize k 0 = x
  generalize k 1 = y
  generalize k 2 = z
  cases a <;> cases b <;> cases c <;> cases x <;> cases y <;> cases z <;> decide
theorem canon_none : canon (fun _ => false) = [] := rfl
def wOf : Prog → List Nat
  | .deed d _ _ => writesOf d
  | _ => []
def rOf : Prog → List Nat
  | .deed d _ _ => readsOf d
  | .when f _ _ _ => [f]
  | _ => []
def hasW (p : Prog) (f : Nat) : Bool := (flat p).any fun q => (wOf q).contains f
def hasRd (p : Prog) (f : Nat) : Bool := (flat p).any fun q => (rOf q).contains f
theorem canon_list {l : List Nat} (hl : l = [] ∨ ∃ f, f < 3 ∧ l = [f]) : l = canon (fun n => l.contains n) := by
  rcases hl with rfl | ⟨f, hf, rfl⟩
  · rfl
  · have e : f = 0 ∨ f = 1 ∨ f = 2 := by omega
    rcases e with rfl | rfl | rfl <;> decide
theorem writesOf_one {d : Deed} (h : okDeed d = true) : writesOf d = [] ∨ ∃ f, f < 3 ∧ writesOf d = [f] := by
  cases d with
  | write f v => exact .inr ⟨f, by have := okField_iff.mp (Bool.and_eq_true_iff.mp h).1; omega, rfl⟩
  | add f v => exact .inr ⟨f, by have := okField_iff.mp (Bool.and_eq_true_iff.mp h).1; omega, rfl⟩
  | paste f => exact .inr ⟨f, by have := okField_iff.mp (show okField f = true from h); omega, rfl⟩
  | _ => exact .inl rfl
theorem readsOf_one {d : Deed} (h : okDeed d = true) : readsOf d = [] ∨ ∃ f, f < 3 ∧ readsOf d = [f] := by
  cases d with
  | find f v => exact .inr ⟨f, by have := okField_iff.mp (Bool.and_eq_true_iff.mp h).1; omega, rfl⟩
  | add f v => exact .inr ⟨f, by have := okField_iff.mp (Bool.and_eq_true_iff.mp h).1; omega, rfl⟩
  | copy f => exact .inr ⟨f, by have := okField_iff.mp (show okField f = true from h); omega, rfl⟩
  | _ => exact .inl rfl
/-- okPieces opened -/
theorem ok_deed {d : Deed} {s : Int} {r : Prog} (h : okPieces (.deed d s r) = true) : okDeed d = true ∧ okValue s = true ∧ (hasNumber d || s == 0) = true ∧ okPieces r = true := by
  have h' : (okDeed d && (okValue s && ((hasNumber d || s == 0) && okPieces r))) = true := h
  simp only [Bool.and_eq_true] at h'
  exact ⟨h'.1, h'.2.1, h'.2.2.1, h'.2.2.2⟩
theorem ok_times {n : Nat} {b r : Prog} (h : okPieces (.times n b r) = true) : 1 ≤ n ∧ n ≤ 9 ∧ okPieces b = true ∧ okPieces r = true := by
  have h' : (decide (1 ≤ n) && (decide (n ≤ TIMES) && (okPieces b && okPieces r))) = true := h
  simp only [Bool.and_eq_true, decide_eq_true_eq] at h'
  exact ⟨h'.1, h'.2.1, h'.2.2.1, h'.2.2.2⟩
theorem ok_toEnd {b r : Prog} (h : okPieces (.toEnd b r) = true) : okPieces b = true ∧ okPieces r = true := Bool.and_eq_true_iff.mp h
theorem ok_when {f : Nat} {v : Int} {b r : Prog} (h : okPieces (.when f v b r) = true) : f ≤ 2 ∧ (-999 ≤ v ∧ v ≤ 999) ∧ okPieces b = true ∧ okPieces r = true := by
  have h' : (okField f && (okValue v && (okPieces b && okPieces r))) = true := h
  simp only [Bool.and_eq_true] at h'
  exact ⟨okField_iff.mp h'.1, okValue_iff.mp h'.2.1, h'.2.2.1, h'.2.2.2⟩
theorem writes_canon : ∀ p : Prog, okPieces p = true → writes p = canon (hasW p)
  | .done, _ => rfl
  | .deed d s r, h => by
    obtain ⟨h1, _, _, h2⟩ := ok_deed h
    show union (writesOf d) (writes r) = _
    rw [writes_canon r h2]
    conv => lhs; arg 1; rw [canon_list (writesOf_one h1)]
    rw [canon_union]
    exact canon_ext fun n _ => rfl
  | .times n b r, h => by
    obtain ⟨_, _, h1, h2⟩ := ok_times h
    show union (writes b) (writes r) = _
    rw [writes_canon b h1, writes_canon r h2, canon_union]
    exact canon_ext fun n _ => by
      show (hasW b n || hasW r n) = (([] : List Nat).contains n || (flat b ++ flat r).any _)
      rw [List.any_append]
      rfl
  | .toEnd b r, h => by
    obtain ⟨h1, h2⟩ := ok_toEnd h
    show union (writes b) (writes r) = _
    rw [writes_canon b h1, writes_canon r h2, canon_union]
    exact canon_ext fun n _ => by
      show (hasW b n || hasW r n) = (([] : List Nat).contains n || (flat b ++ flat r).any _)
      rw [List.any_append]
      rfl
  | .when f v b r, h => by
    obtain ⟨_, _, h1, h2⟩ := ok_when h
    show union (writes b) (writes r) = _
    rw [writes_canon b h1, writes_canon r h2, canon_union]
    exact canon_ext fun n _ => by
      show (hasW b n || hasW r n) = (([] : List Nat).contains n || (flat b ++ flat r).any _)
      rw [List.any_append]
      rfl
theorem reads_canon : ∀ p : Prog, okPieces p = true → reads p = canon (hasRd p)
  | .done, _ => rfl
  | .deed d s r, h => by
    obtain ⟨h1, _, _, h2⟩ := ok_deed h
    show union (readsOf d) (reads r) = _
    rw [reads_canon r h2]
    conv => lhs; arg 1; rw [canon_list (readsOf_one h1)]
    rw [canon_union]
    exact canon_ext fun n _ => rfl
  | .times n b r, h => by
    obtain ⟨_, _, h1, h2⟩ := ok_times h
    show union (reads b) (reads r) = _
    rw [reads_canon b h1, reads_canon r h2, canon_union]
    exact canon_ext fun n _ => by
      show (hasRd b n || hasRd r n) = (([] : List Nat).contains n || (flat b ++ flat r).any _)
      rw [List.any_append]
      rfl
  | .toEnd b r, h => by
    obtain ⟨h1, h2⟩ := ok_toEnd h
    show union (reads b) (reads r) = _
    rw [reads_canon b h1, reads_canon r h2, canon_union]
    exact canon_ext fun n _ => by
      show (hasRd b n || hasRd r n) = (([] : List Nat).contains n || (flat b ++ flat r).any _)
      rw [List.any_append]
      rfl
  | .when f v b r, h => by
    obtain ⟨hf, _, h1, h2⟩ := ok_when h
    show putNum f (union (reads b) (reads r)) = _
    rw [reads_canon b h1, reads_canon r h2, canon_union, canon_put f (by omega)]
    exact canon_ext fun n _ => by
      show (n == f || (hasRd b n || hasRd r n)) = ([f].contains n || (flat b ++ flat r).any _)
      rw [List.any_append]
      show _ = ([f].contains n || (hasRd b n || hasRd r n))
      have e : ([f].contains n) = (n == f) := by simp [Bool.beq_eq_decide_eq]
      rw [e]
def chOf : Prog → Bool
  | .deed d _ _ => changesRows d
  | _ => false
theorem reshapes_flat : ∀ p : Prog, reshapes p = (flat p).any chOf
  | .done => rfl
  | .deed d s r => by show (changesRows d || reshapes r) = (changesRows d || (flat r).any chOf); rw [reshapes_flat r]
  | .times n b r => by show (reshapes b || reshapes r) = (false || (flat b ++ flat r).any chOf); rw [List.any_append, reshapes_flat b, reshapes_flat r]; rfl
  | .toEnd b r => by show (reshapes b || reshapes r) = (false || (flat b ++ flat r).any chOf); rw [List.any_append, reshapes_flat b, reshapes_flat r]; rfl
  | .when f v b r => by show (reshapes b || reshapes r) = (false || (flat b ++ flat r).any chOf); rw [List.any_append, reshapes_flat b, reshapes_flat r]; rfl

/-! ### nearer -/
def sumO : List (Option Int) → Option Int
  | [] => some 0
  | a :: l => addMore a (sumO l)
theorem addMore_zero (a : Option Int) : addMore a (some 0) = a := by
  cases a with
  | none => rfl
  | some x => show some (x + 0) = some x; rw [Int.add_zero]
theorem more_heads : ∀ p : Prog, more p = sumO ((heads p).map more)
  | .done => rfl
  | .deed d s r => by show addMore (moreOf d) (more r) = addMore (addMore (moreOf d) (some 0)) (sumO ((heads r).map more)); rw [addMore_zero, more_heads r]
  | .times n b r => by show addMore _ (more r) = addMore (addMore _ (some 0)) (sumO ((heads r).map more)); rw [addMore_zero, more_heads r]
  | .toEnd b r => by show addMore _ (more r) = addMore (addMore _ (some 0)) (sumO ((heads r).map more)); rw [addMore_zero, more_heads r]
  | .when f v b r => by show addMore _ (more r) = addMore (addMore _ (some 0)) (sumO ((heads r).map more)); rw [addMore_zero, more_heads r]
theorem more_deed (d : Deed) (s : Int) : more (.deed d s .done) = moreOf d := addMore_zero _
theorem more_times (n : Nat) (b : Prog) : more (.times n b .done) = (more b).map fun x => (n : Int) * x := addMore_zero _
theorem more_toEnd (b : Prog) : more (.toEnd b .done) = some 0 := rfl
theorem more_when (f : Nat) (v : Int) (b : Prog) : more (.when f v b .done) = (more b).map fun x => if x < 0 then 0 else x := addMore_zero _
theorem sumO_none : ∀ {l : List (Option Int)}, none ∈ l → sumO l = none
  | a :: l, h => by
    rcases List.mem_cons.mp h with rfl | h
    · rfl
    · show addMore a (sumO l) = none
      rw [sumO_none h]
      cases a <;> rfl
theorem sumO_some : ∀ {l : List (Option Int)} {ns : List Int}, l = ns.map some → sumO l = some ns.sum
  | _, [], h => by subst h; rfl
  | _, n :: ns, h => by
    subst h
    show addMore (some n) (sumO (ns.map some)) = _
    rw [sumO_some rfl]
    rfl
theorem opt_split : ∀ l : List (Option Int), none ∈ l ∨ ∃ ns : List Int, l = ns.map some
  | [] => .inr ⟨[], rfl⟩
  | none :: l => .inl (List.mem_cons_self ..)
  | some n :: l => by
    rcases opt_split l with h | ⟨ns, h⟩
    · exact .inl (List.mem_cons_of_mem _ h)
    · exact .inr ⟨n :: ns, by rw [h]; rfl⟩
theorem nearer_eq (b : Prog) : nearer b = match more b with | none => false | some x => decide (x ≤ -1) := by
  unfold nearer
  cases more b <;> rfl

/-! ### places -/
def endless : Prog → Bool
  | .toEnd b _ => !nearer b
  | _ => false
def against (fs : List Nat) (rows : Bool) : Prog → Bool
  | .deed d _ _ => !((writesOf d).all fs.contains && (rows || !changesRows d))
  | _ => false
theorem findIdx_app {g : Prog → Bool} (a b : List Prog) (n : Nat) : ((a ++ b).findIdx? g).map (· + n) = match (a.findIdx? g).map (· + n) with
    | some k => some k
    | none => (b.findIdx? g).map (· + (n + a.length)) := by
  rw [List.findIdx?_append]
  cases a.findIdx? g with
  | some k => rfl
  | none =>
    simp only [Option.map_none, Option.none_or, Option.map_map]
    cases b.findIdx? g with
    | none => rfl
    | some k => simp [Nat.add_comm, Nat.add_left_comm]
theorem findIdx_cons' {g : Prog → Bool} (q : Prog) (l : List Prog) (n : Nat) : ((q :: l).findIdx? g).map (· + n) = if g q = true then some n else (l.findIdx? g).map (· + (n + 1)) := by
  rw [List.findIdx?_cons]
  split
  · simp
  · cases l.findIdx? g with
    | none => rfl
    | some k => simp [Nat.add_comm, Nat.add_left_comm]
theorem loose_flat : ∀ (p : Prog) (n : Nat), loose n p = ((flat p).findIdx? endless).map (· + n)
  | .done, n => rfl
  | .deed d s r, n => by
    show loose (n + 1) r = ((Prog.deed d s .done :: flat r).findIdx? endless).map (· + n)
    rw [findIdx_cons', if_neg (by show ¬ (false = true); decide), loose_flat r]
  | .times k b r, n => by
    show (match loose (n + 1) b with | some k => some k | none => loose (n + 1 + b.size) r) = ((Prog.times k b .done :: (flat b ++ flat r)).findIdx? endless).map (· + n)
    rw [findIdx_cons', if_neg (by show ¬ (false = true); decide), findIdx_app, loose_flat b, loose_flat r, flat_length]
  | .toEnd b r, n => by
    show (if nearer b = true then (match loose (n + 1) b with | some k => some k | none => loose (n + 1 + b.size) r) else some n) = ((Prog.toEnd b .done :: (flat b ++ flat r)).findIdx? endless).map (· + n)
    rw [findIdx_cons', findIdx_app, loose_flat b, loose_flat r, flat_length]
    show _ = if (!nearer b) = true then _ else _
    cases nearer b <;> rfl
  | .when f v b r, n => by
    show (match loose (n + 1) b with | some k => some k | none => loose (n + 1 + b.size) r) = ((Prog.when f v b .done :: (flat b ++ flat r)).findIdx? endless).map (· + n)
    rw [findIdx_cons', if_neg (by show ¬ (false = true); decide), findIdx_app, loose_flat b, loose_flat r, flat_length]
theorem outside_flat (fs : List Nat) (rows : Bool) : ∀ (p : Prog) (n : Nat), outside fs rows n p = ((flat p).findIdx? (against fs rows)).map (· + n)
  | .done, n => rfl
  | .deed d s r, n => by
    show (if ((writesOf d).all fs.contains && (rows || !changesRows d)) = true then outside fs rows (n + 1) r else some n) = ((Prog.deed d s .done :: flat r).findIdx? (against fs rows)).map (· + n)
    rw [findIdx_cons', outside_flat fs rows r]
    show _ = if (!((writesOf d).all fs.contains && (rows || !changesRows d))) = true then _ else _
    cases ((writesOf d).all fs.contains && (rows || !changesRows d)) <;> rfl
  | .times k b r, n => by
    show (match outside fs rows (n + 1) b with | some k => some k | none => outside fs rows (n + 1 + b.size) r) = ((Prog.times k b .done :: (flat b ++ flat r)).findIdx? (against fs rows)).map (· + n)
    rw [findIdx_cons', if_neg (by show ¬ (false = true); decide), findIdx_app, outside_flat fs rows b, outside_flat fs rows r, flat_length]
  | .toEnd b r, n => by
    show (match outside fs rows (n + 1) b with | some k => some k | none => outside fs rows (n + 1 + b.size) r) = ((Prog.toEnd b .done :: (flat b ++ flat r)).findIdx? (against fs rows)).map (· + n)
    rw [findIdx_cons', if_neg (by show ¬ (false = true); decide), findIdx_app, outside_flat fs rows b, outside_flat fs rows r, flat_length]
  | .when f v b r, n => by
    show (match outside fs rows (n + 1) b with | some k => some k | none => outside fs rows (n + 1 + b.size) r) = ((Prog.when f v b .done :: (flat b ++ flat r)).findIdx? (against fs rows)).map (· + n)
    rw [findIdx_cons', if_neg (by show ¬ (false = true); decide), findIdx_app, outside_flat fs rows b, outside_flat fs rows r, flat_length]
theorem loose_zero (p : Prog) : loose 0 p = (flat p).findIdx? endless := by
  rw [loose_flat]
  cases (flat p).findIdx? endless <;> rfl
theorem outside_zero (fs : List Nat) (rows : Bool) (p : Prog) : outside fs rows 0 p = (flat p).findIdx? (against fs rows) := by
  rw [outside_flat]
  cases (flat p).findIdx? (against fs rows) <;> rfl
theorem surely_flat : ∀ p : Prog, surely p = !(flat p).any endless
  | .done => rfl
  | .deed d s r => by show surely r = !(false || (flat r).any endless); rw [surely_flat r]; rfl
  | .times n b r => by show (surely b && surely r) = !(false || (flat b ++ flat r).any endless); rw [List.any_append, surely_flat b, surely_flat r]; simp
  | .toEnd b r => by
    show (nearer b && (surely b && surely r)) = !((!nearer b) || (flat b ++ flat r).any endless)
    rw [List.any_append, surely_flat b, surely_flat r]
    simp
  | .when f v b r => by show (surely b && surely r) = !(false || (flat b ++ flat r).any endless); rw [List.any_append, surely_flat b, surely_flat r]; simp
theorem findIdx_isSome {g : Prog → Bool} (l : List Prog) : (l.findIdx? g).isNone = !l.any g := by
  rw [List.findIdx?_isNone]
  induction l with
  | nil => rfl
  | cons a l ih =>
    rw [List.all_cons, List.any_cons, ih]
    cases g a <;> rfl
/-- the first place -/
theorem findIdx_at {g : Prog → Bool} {l : List Prog} {k : Nat} {q : Prog} (h : ∀ j q, j < k → l[j]? = some q → g q = false) (hq : l[k]? = some q) (hg : g q = true) : l.findIdx? g = some k := by
  obtain ⟨hk, e⟩ := List.getElem?_eq_some_iff.mp hq
  rw [List.findIdx?_eq_some_iff_getElem]
  refine ⟨hk, by rw [e]; exact hg, fun j hj => ?_⟩
  rw [h j l[j] hj (List.getElem?_eq_getElem _)]
  decide
theorem findIdx_no {g : Prog → Bool} {l : List Prog} (h : ∀ j q, j < l.length → l[j]? = some q → g q = false) : l.findIdx? g = none := by
  rw [List.findIdx?_eq_none_iff]
  intro q hq
  obtain ⟨j, hj, e⟩ := List.getElem_of_mem hq
  exact h j q hj (by rw [List.getElem?_eq_getElem hj, e])

/-! ### one program behind another -/
theorem andThen_ind (q : Prog) (f : Prog → Nat) : True := trivial
theorem size_then : ∀ p q : Prog, (p.andThen q).size = p.size + q.size
  | .done, q => by show q.size = 0 + q.size; omega
  | .deed d s r, q => by show (r.andThen q).size + 1 = r.size + 1 + q.size; rw [size_then r q]; omega
  | .times n b r, q => by show b.size + (r.andThen q).size + 1 = b.size + r.size + 1 + q.size; rw [size_then r q]; omega
  | .toEnd b r, q => by show b.size + (r.andThen q).size + 1 = b.size + r.size + 1 + q.size; rw [size_then r q]; omega
  | .when f v b r, q => by show b.size + (r.andThen q).size + 1 = b.size + r.size + 1 + q.size; rw [size_then r q]; omega
theorem ok_then : ∀ p q : Prog, okPieces (p.andThen q) = (okPieces p && okPieces q)
  | .done, q => rfl
  | .deed d s r, q => by
    show (okDeed d && (okValue s && ((hasNumber d || s == 0) && okPieces (r.andThen q)))) = ((okDeed d && (okValue s && ((hasNumber d || s == 0) && okPieces r))) && okPieces q)
    rw [ok_then r q]
    simp only [Bool.and_assoc]
  | .times n b r, q => by
    show (decide (1 ≤ n) && (decide (n ≤ TIMES) && (okPieces b && okPieces (r.andThen q)))) = ((decide (1 ≤ n) && (decide (n ≤ TIMES) && (okPieces b && okPieces r))) && okPieces q)
    rw [ok_then r q]
    simp only [Bool.and_assoc]
  | .toEnd b r, q => by
    show (okPieces b && okPieces (r.andThen q)) = ((okPieces b && okPieces r) && okPieces q)
    rw [ok_then r q]
    simp only [Bool.and_assoc]
  | .when f v b r, q => by
    show (okField f && (okValue v && (okPieces b && okPieces (r.andThen q)))) = ((okField f && (okValue v && (okPieces b && okPieces r))) && okPieces q)
    rw [ok_then r q]
    simp only [Bool.and_assoc]
theorem depth_then : ∀ p q : Prog, (p.andThen q).depth = Nat.max p.depth q.depth
  | .done, q => (Nat.max_eq_right (Nat.zero_le _)).symm
  | .deed d s r, q => depth_then r q
  | .times n b r, q => by show Nat.max (b.depth + 1) (r.andThen q).depth = Nat.max (Nat.max (b.depth + 1) r.depth) q.depth; rw [depth_then r q]; exact (Nat.max_assoc ..).symm
  | .toEnd b r, q => by show Nat.max (b.depth + 1) (r.andThen q).depth = Nat.max (Nat.max (b.depth + 1) r.depth) q.depth; rw [depth_then r q]; exact (Nat.max_assoc ..).symm
  | .when f v b r, q => by show Nat.max (b.depth + 1) (r.andThen q).depth = Nat.max (Nat.max (b.depth + 1) r.depth) q.depth; rw [depth_then r q]; exact (Nat.max_assoc ..).symm
theorem okProg_iff {p : Prog} : okProg p = true ↔ okPieces p = true ∧ p.size ≤ 16 ∧ p.depth ≤ 3 := by
  unfold okProg PIECES DEPTH
  rw [Bool.and_eq_true, Bool.and_eq_true, decide_eq_true_eq, decide_eq_true_eq]
theorem okProg_then {p q : Prog} (hp : okProg p = true) (hq : okProg q = true) : okProg (p.andThen q) = decide ((p.andThen q).size ≤ 16) := by
  obtain ⟨a1, a2, a3⟩ := okProg_iff.mp hp
  obtain ⟨b1, b2, b3⟩ := okProg_iff.mp hq
  have e : okPieces (p.andThen q) = true := by rw [ok_then, a1, b1]; rfl
  have d : (p.andThen q).depth ≤ 3 := by rw [depth_then]; exact Nat.max_le.mpr ⟨a3, b3⟩
  by_cases c : (p.andThen q).size ≤ 16
  · rw [decide_eq_true c]
    exact okProg_iff.mpr ⟨e, c, d⟩
  · rw [decide_eq_false c]
    cases h : okProg (p.andThen q) with
    | false => rfl
    | true => exact absurd (okProg_iff.mp h).2.1 c
theorem accepted_eq (p : Prog) : accepted p = ((loose 0 p).isNone && decide (most p ≤ 60)) := by
  unfold accepted DEEDS
  rw [loose_zero, findIdx_isSome, surely_flat]
end Pe
set_option linter.all false
/-! Plain facts for the walks: numbers told. -/
namespace Pe
open VamacBase Vamacf
def kindN : Prog → Int
  | .deed _ _ _ => 0
  | .times _ _ _ => 1
  | .toEnd _ _ => 2
  | .when _ _ _ _ => 3
  | .done => 4
def numsN : Prog → List Int
  | .times n _ _ => [(n : Int)]
  | .when f v _ _ => [(f : Int), v]
  | _ => []
theorem hasN_sort (d : Deed) : hasN (dSort d) = hasNumber d := by cases d <;> rfl
theorem flatPieces_then {q r : Prog} (h : One q) : flatPieces (q.andThen r) = flatPieces q ++ flatPieces r := by
  cases h with
  | deed d s => show 0 :: (flatDeed d ++ (_ ++ flatPieces r)) = 0 :: (flatDeed d ++ (_ ++ [])) ++ flatPieces r; simp
  | times n b => show 1 :: _ :: _ :: (flatPieces b ++ flatPieces r) = 1 :: _ :: _ :: (flatPieces b ++ []) ++ flatPieces r; simp
  | toEnd b => show 2 :: _ :: (flatPieces b ++ flatPieces r) = 2 :: _ :: (flatPieces b ++ []) ++ flatPieces r; simp
  | when f v b => show 3 :: _ :: _ :: _ :: (flatPieces b ++ flatPieces r) = 3 :: _ :: _ :: _ :: (flatPieces b ++ []) ++ flatPieces r; simp
theorem flatDeed_len (d : Deed) : (flatDeed d).length ≤ 3 := by cases d <;> simp [flatDeed]
theorem flatPieces_len : ∀ p : Prog, (flatPieces p).length ≤ 5 * p.size
  | .done => Nat.le_refl _
  | .deed d s r => by
    have h1 := flatDeed_len d
    have h2 := flatPieces_len r
    have h3 : (if hasNumber d = true then [s] else []).length ≤ 1 := by split <;> simp
    show (0 :: (flatDeed d ++ ((if hasNumber d = true then [s] else []) ++ flatPieces r))).length ≤ 5 * (r.size + 1)
    rw [List.length_cons, List.length_append, List.length_append]
    omega
  | .times n b r => by
    have h1 := flatPieces_len b
    have h2 := flatPieces_len r
    show (1 :: _ :: _ :: (flatPieces b ++ flatPieces r)).length ≤ 5 * (b.size + r.size + 1)
    simp only [List.length_cons, List.length_append]
    omega
  | .toEnd b r => by
    have h1 := flatPieces_len b
    have h2 := flatPieces_len r
    show (2 :: _ :: (flatPieces b ++ flatPieces r)).length ≤ 5 * (b.size + r.size + 1)
    simp only [List.length_cons, List.length_append]
    omega
  | .when f v b r => by
    have h1 := flatPieces_len b
    have h2 := flatPieces_len r
    show (3 :: _ :: _ :: _ :: (flatPieces b ++ flatPieces r)).length ≤ 5 * (b.size + r.size + 1)
    simp only [List.length_cons, List.length_append]
    omega
theorem flatProg_len (p : Prog) : (flatProg p).length ≤ 5 * p.size + 1 := by
  show (flatPieces p).length + 1 ≤ _
  have := flatPieces_len p
  omega
theorem sum_cast : ∀ l : List Nat, (l.map (fun n : Nat => (n : Int))).sum = ((l.sum : Nat) : Int)
  | [] => rfl
  | a :: l => by rw [List.map_cons, List.sum_cons, List.sum_cons, sum_cast l]; omega
theorem sum_sizes (p : Prog) : ((heads p).map fun q => (q.size : Int)).sum = (p.size : Int) := by
  rw [← size_heads p, ← sum_cast, List.map_map]
  rfl
end Pe
namespace Pe
open VamacBase
/-! ### a piece's numbers -/
def numsR (k : Int) (x : List Int) : Option (List Int × List Int) :=
  if k = 1 then (takeR 1 9 x).map fun u => ([u.1], u.2) else if k = 3 then (takeR 0 2 x).bind fun f => (takeR (-999) 999 f.2).map fun v => ([f.1, v.1], v.2) else some ([], x)
def nodeOf (k : Int) (ns : List Int) (b : Prog) : Prog :=
  if k = 1 then .times (ns.headD 0).toNat b .done else if k = 2 then .toEnd b .done else .when (ns.headD 0).toNat (ns.getD 1 0) b .done
theorem piece1_nums (inner : List Int → Option (Prog × List Int)) (x : List Int) : piece1 inner x = (takeR 0 3 x).bind fun u => if u.1 = 0 then rdDeed u.2 else (numsR u.1 u.2).bind fun n => (inner n.2).map fun b => (nodeOf u.1 n.1 b.1, b.2) := by
  unfold piece1
  cases e : takeR 0 3 x with
  | none => rfl
  | some u =>
    simp only [Option.bind_some]
    have q := takeR_some e
    by_cases h0 : u.1 = 0
    · rw [if_pos h0, if_pos h0]
    · rw [if_neg h0, if_neg h0]
      unfold numsR nodeOf
      by_cases h1 : u.1 = 1
      · rw [if_pos h1, if_pos h1]
        cases takeR 1 9 u.2 with
        | none => rfl
        | some n =>
          simp only [Option.bind_some, Option.map_some]
          cases inner n.2 with
          | none => rfl
          | some b =>
            simp only [Option.map_some]
            rw [if_pos h1]
            rfl
      · rw [if_neg h1, if_neg h1]
        by_cases h2 : u.1 = 2
        · rw [if_pos h2, if_neg (by omega)]
          simp only [Option.bind_some]
          cases inner u.2 with
          | none => rfl
          | some b =>
            simp only [Option.map_some]
            rw [if_neg h1, if_pos h2]
        · rw [if_neg h2, if_pos (by omega)]
          cases takeR 0 2 u.2 with
          | none => rfl
          | some f =>
            simp only [Option.bind_some]
            cases takeR (-999) 999 f.2 with
            | none => rfl
            | some v =>
              simp only [Option.bind_some, Option.map_some]
              cases inner v.2 with
              | none => rfl
              | some b =>
                simp only [Option.map_some]
                rw [if_neg h1, if_neg h2]
                rfl
theorem piece1_other {inner : List Int → Option (Prog × List Int)} {x : List Int} {k : Int} {y : List Int} (h : takeR 0 3 x = some (k, y)) (hk : k ≠ 0) : piece1 inner x = (numsR k y).bind fun n => (inner n.2).map fun b => (nodeOf k n.1 b.1, b.2) := by
  rw [piece1_nums, h]
  simp only [Option.bind_some]
  rw [if_neg hk]
theorem piece1_deed {inner : List Int → Option (Prog × List Int)} {x : List Int} {y : List Int} (h : takeR 0 3 x = some (0, y)) : piece1 inner x = rdDeed y := by
  rw [piece1_nums, h]
  simp only [Option.bind_some, if_true]
structure NodeOk (k : Int) (ns : List Int) (b q : Prog) : Prop where
  one : One q
  kind : kindN q = k
  nums : numsN q = ns
  inn : inner q = b
  nd : isDeed q = false
theorem node_ok {k : Int} {ns : List Int} {y z : List Int} (b : Prog) (h : numsR k y = some (ns, z)) (hk : k = 1 ∨ k = 2 ∨ k = 3) : NodeOk k ns b (nodeOf k ns b) := by
  rcases hk with rfl | rfl | rfl
  · obtain ⟨u, e, q⟩ := map_some (show (takeR 1 9 y).map _ = some (ns, z) from h)
    cases q
    have t := takeR_some e
    exact ⟨.times _ _, rfl, by show [((u.1.toNat : Nat) : Int)] = [u.1]; rw [Int.toNat_of_nonneg (by omega)], rfl, rfl⟩
  · have q : some (([] : List Int), y) = some (ns, z) := h
    cases q
    exact ⟨.toEnd _, rfl, rfl, rfl, rfl⟩
  · obtain ⟨f, e, q⟩ := bind_some (show (takeR 0 2 y).bind _ = some (ns, z) from h)
    obtain ⟨v, e2, q2⟩ := map_some q
    cases q2
    have t := takeR_some e
    exact ⟨.when _ _ _, rfl, by show [((f.1.toNat : Nat) : Int), v.1] = [f.1, v.1]; rw [Int.toNat_of_nonneg (by omega)], rfl, rfl⟩
theorem then_done : ∀ p : Prog, p.andThen .done = p
  | .done => rfl
  | .deed d s r => by show Prog.deed d s (r.andThen .done) = _; rw [then_done r]
  | .times n b r => by show Prog.times n b (r.andThen .done) = _; rw [then_done r]
  | .toEnd b r => by show Prog.toEnd b (r.andThen .done) = _; rw [then_done r]
  | .when f v b r => by show Prog.when f v b (r.andThen .done) = _; rw [then_done r]
theorem then_assoc : ∀ p q r : Prog, (p.andThen q).andThen r = p.andThen (q.andThen r)
  | .done, q, r => rfl
  | .deed d s t, q, r => by show Prog.deed d s ((t.andThen q).andThen r) = _; rw [then_assoc t q r]; rfl
  | .times n b t, q, r => by show Prog.times n b ((t.andThen q).andThen r) = _; rw [then_assoc t q r]; rfl
  | .toEnd b t, q, r => by show Prog.toEnd b ((t.andThen q).andThen r) = _; rw [then_assoc t q r]; rfl
  | .when f v b t, q, r => by show Prog.when f v b ((t.andThen q).andThen r) = _; rw [then_assoc t q r]; rfl
end Pe
namespace Pe
open VamacBase
/-! ### what is read takes a number each -/
theorem size_rowN (m : Nat) (ih : ∀ x p y, rowR m x = some (p, y) → p.size + y.length ≤ x.length) : ∀ n x p y, rowN (rowR m) n x = some (p, y) → p.size + y.length ≤ x.length
  | 0, x, p, y, h => by
    cases h
    show 0 + _ ≤ _
    omega
  | n + 1, x, p, y, h => by
    obtain ⟨⟨q, z⟩, e, h2⟩ := bind_some h
    obtain ⟨⟨r, z2⟩, e2, h3⟩ := map_some h2
    cases h3
    have R := size_rowN m ih n _ _ _ e2
    rw [size_then]
    have Q : q.size + z.length ≤ x.length := by
      rw [piece1_nums] at e
      obtain ⟨⟨k, z3⟩, e3, e4⟩ := bind_some e
      have l3 := takeR_len e3
      simp only at l3 e4
      split at e4
      · obtain ⟨_, l, d, s, rfl⟩ := rdDeed_ok e4
        show (0 + 1) + _ ≤ _
        omega
      · rename_i k0
        obtain ⟨⟨ns, z4⟩, e5, e6⟩ := bind_some e4
        obtain ⟨⟨b, z5⟩, e7, e8⟩ := map_some e6
        cases e8
        have hb := ih _ _ _ e7
        have t3 := takeR_some e3
        simp only at t3 k0 hb e5
        have N := node_ok b e5 (by omega)
        have s1 := size_one N.one
        rw [N.inn] at s1
        have ln : z4.length ≤ z3.length := by
          unfold numsR at e5
          split at e5
          · obtain ⟨u, q1, q2⟩ := map_some e5
            cases q2
            have := takeR_len q1
            omega
          · split at e5
            · obtain ⟨u, q1, q2⟩ := bind_some e5
              obtain ⟨v, q3, q4⟩ := map_some q2
              cases q4
              have := takeR_len q1
              have := takeR_len q3
              omega
            · cases e5
              exact Nat.le_refl _
        rw [s1]
        show 1 + b.size + z5.length ≤ _
        omega
    simp only at R Q ⊢
    omega
theorem size_rowR : ∀ m x p y, rowR m x = some (p, y) → p.size + y.length ≤ x.length
  | 0, x, p, y, h => by cases h
  | m + 1, x, p, y, h => by
    obtain ⟨⟨k, z3⟩, e3, e4⟩ := bind_some h
    have l3 := takeR_len e3
    have R := size_rowN m (size_rowR m) _ _ _ _ e4
    simp only at l3 R
    omega
end Pe
set_option linter.all false
/-! Tables: plain facts. -/
namespace Pe
open VamacBase
theorem isEnd_eq {t : Table} (h : TabOk t) : isEnd t = decide (t.at_ = t.rows.length) := by
  unfold isEnd
  have := h.cur
  by_cases c : t.at_ = t.rows.length
  · rw [decide_eq_true c, decide_eq_true (by omega)]
  · rw [decide_eq_false c, decide_eq_false (by omega)]
theorem isEnd_lt {t : Table} (h : isEnd t = false) : t.at_ < t.rows.length := by
  have := of_decide_eq_false h
  omega
def hit (t : Table) (f : Nat) (v : Int) (i : Nat) : Bool := (t.rows[i]?).any fun r => r[f]? == some v
def fr (t : Table) (f : Nat) (v : Int) : Option Nat := (List.range t.rows.length).find? fun i => decide (t.at_ < i) && hit t f v i
theorem fr_at {t : Table} {f : Nat} {v : Int} {k : Nat} (h1 : t.at_ < k) (h2 : k < t.rows.length) (h3 : hit t f v k = true) (h4 : ∀ j, t.at_ < j → j < k → hit t f v j = false) : fr t f v = some k := by
  unfold fr
  rw [List.find?_range_eq_some]
  refine ⟨by rw [decide_eq_true h1, h3]; rfl, List.mem_range.mpr h2, fun j hj => ?_⟩
  by_cases c : t.at_ < j
  · rw [h4 j c hj, Bool.and_false]
    rfl
  · rw [decide_eq_false c]
    rfl
theorem fr_none {t : Table} {f : Nat} {v : Int} (h : ∀ j, t.at_ < j → j < t.rows.length → hit t f v j = false) : fr t f v = none := by
  unfold fr
  rw [List.find?_eq_none]
  intro j hj
  by_cases c : t.at_ < j
  · rw [h j c (List.mem_range.mp hj), Bool.and_false]
    decide
  · rw [decide_eq_false c, Bool.false_and]
    decide
theorem fr_some {t : Table} {f : Nat} {v : Int} {k : Nat} (h : fr t f v = some k) : t.at_ < k ∧ k < t.rows.length := by
  unfold fr at h
  rw [List.find?_range_eq_some] at h
  obtain ⟨h1, h2, _⟩ := h
  rw [Bool.and_eq_true, decide_eq_true_eq] at h1
  exact ⟨h1.1, List.mem_range.mp h2⟩
/-- what a deed done answers, and the table then -/
def resT (t : Table) : Got Table → Int × Table
  | .error f => (faultNumber f, t)
  | .ok u => (0, u)
theorem three_get {r : List Int} (h : r.length = 3) {f : Nat} (hf : f ≤ 2) : ∃ z, r[f]? = some z := ⟨r[f], List.getElem?_eq_getElem (by omega)⟩
theorem TabOk.setRows {t : Table} (h : TabOk t) {f : Nat} {v : Int} : TabOk (setHere t f v) := by
  unfold setHere
  cases e : t.rows[t.at_]? with
  | none => exact ⟨h.many, h.three, h.cur⟩
  | some r =>
    refine ⟨by show (t.rows.set _ _).length ≤ 8; rw [List.length_set]; exact h.many, fun x hx => ?_, by show t.at_ ≤ (t.rows.set _ _).length; rw [List.length_set]; exact h.cur⟩
    rcases List.mem_or_eq_of_mem_set hx with hx | rfl
    · exact h.three x hx
    · rw [List.length_set]
      exact h.three r (List.mem_of_getElem? e)
theorem written_ok {t u : Table} {f : Nat} {v : Int} (h : TabOk t) (e : written t f v = .ok u) : TabOk u := by
  unfold written at e
  split at e
  · cases e
  · split at e
    · cases e
      exact h.setRows
    · cases e
theorem doneBy_ok {t u : Table} {d : Deed} (h : TabOk t) (e : doneBy t d = .ok u) : TabOk u := by
  cases d with
  | down =>
    have e : (if isEnd t = true then (.error .norow : Got Table) else .ok { t with at_ := t.at_ + 1 }) = .ok u := e
    split at e
    · cases e
    · rename_i c
      cases e
      have := isEnd_lt (Bool.eq_false_iff.mpr c)
      exact ⟨h.many, h.three, by show t.at_ + 1 ≤ t.rows.length; omega⟩
  | up =>
    have e : (if t.at_ = 0 then (.error .first : Got Table) else .ok { t with at_ := t.at_ - 1 }) = .ok u := e
    split at e
    · cases e
    · cases e
      have := h.cur
      exact ⟨h.many, h.three, by show t.at_ - 1 ≤ t.rows.length; omega⟩
  | top =>
    cases e
    exact ⟨h.many, h.three, Nat.zero_le _⟩
  | write f v => exact written_ok h e
  | add f v => exact written_ok h e
  | paste f => exact written_ok h e
  | copy f =>
    have e : (match here t f with | none => (.error .norow : Got Table) | some v => .ok { t with clip := v }) = .ok u := e
    split at e
    · cases e
    · cases e
      exact ⟨h.many, h.three, h.cur⟩
  | delete =>
    have e : (if isEnd t = true then (.error .norow : Got Table) else .ok { t with rows := t.rows.eraseIdx t.at_ }) = .ok u := e
    split at e
    · cases e
    · rename_i c
      cases e
      have := isEnd_lt (Bool.eq_false_iff.mpr c)
      have l := List.length_eraseIdx_of_lt this
      have hm := h.many
      refine ⟨by show (t.rows.eraseIdx t.at_).length ≤ 8; omega, fun x hx => h.three x (List.mem_of_mem_eraseIdx hx), by show t.at_ ≤ (t.rows.eraseIdx t.at_).length; omega⟩
  | double =>
    have e : (if isEnd t = true then (.error .norow : Got Table) else if ROWS ≤ t.rows.length then .error .full else .ok { t with rows := t.rows.take (t.at_ + 1) ++ t.rows.drop t.at_ }) = .ok u := e
    split at e
    · cases e
    · split at e
      · cases e
      · rename_i c c2
        cases e
        have := isEnd_lt (Bool.eq_false_iff.mpr c)
        unfold ROWS at c2
        refine ⟨?_, fun x hx => ?_, ?_⟩
        · show (t.rows.take (t.at_ + 1) ++ t.rows.drop t.at_).length ≤ 8
          rw [List.length_append, List.length_take, List.length_drop]
          omega
        · rcases List.mem_append.mp hx with hx | hx
          · exact h.three x (List.mem_of_mem_take hx)
          · exact h.three x (List.mem_of_mem_drop hx)
        · show t.at_ ≤ (t.rows.take (t.at_ + 1) ++ t.rows.drop t.at_).length
          rw [List.length_append, List.length_take, List.length_drop]
          omega
  | find f v =>
    have e : (match fr t f v with | none => (.error .missing : Got Table) | some i => .ok { t with at_ := i }) = .ok u := e
    split at e
    · cases e
    · rename_i i hi
      cases e
      have := fr_some hi
      exact ⟨h.many, h.three, by show i ≤ t.rows.length; omega⟩
theorem double_rows {α : Type} {l : List α} {i : Nat} {x : α} (h : l[i]? = some x) : l.take (i + 1) ++ l.drop i = l.take i ++ [x] ++ l.drop i := by
  rw [List.take_add_one, h]
  rfl
theorem sort_down {d : Deed} (h : dSort d = 0) : d = .down := by cases d <;> first | rfl | (simp [dSort] at h)
theorem sort_up {d : Deed} (h : dSort d = 1) : d = .up := by cases d <;> first | rfl | (simp [dSort] at h)
theorem sort_top {d : Deed} (h : dSort d = 2) : d = .top := by cases d <;> first | rfl | (simp [dSort] at h)
theorem sort_write {d : Deed} (h : dSort d = 3) : ∃ f z, d = .write f z := by cases d <;> first | exact ⟨_, _, rfl⟩ | (simp [dSort] at h)
theorem sort_add {d : Deed} (h : dSort d = 4) : ∃ f z, d = .add f z := by cases d <;> first | exact ⟨_, _, rfl⟩ | (simp [dSort] at h)
theorem sort_copy {d : Deed} (h : dSort d = 5) : ∃ f, d = .copy f := by cases d <;> first | exact ⟨_, rfl⟩ | (simp [dSort] at h)
theorem sort_paste {d : Deed} (h : dSort d = 6) : ∃ f, d = .paste f := by cases d <;> first | exact ⟨_, rfl⟩ | (simp [dSort] at h)
theorem sort_delete {d : Deed} (h : dSort d = 7) : d = .delete := by cases d <;> first | rfl | (simp [dSort] at h)
theorem sort_double {d : Deed} (h : dSort d = 8) : d = .double := by cases d <;> first | rfl | (simp [dSort] at h)
theorem sort_find {d : Deed} (h : dSort d = 9) : ∃ f z, d = .find f z := by cases d <;> first | exact ⟨_, _, rfl⟩ | (simp [dSort] at h)
end Pe
set_option linter.all false
/-! Runs: plain facts. -/
namespace Pe
open VamacBase
theorem run_then {q r : Prog} (h : One q) (i : Nat) (x : VamacBase.Run) : runFrom (q.andThen r) i x = runFrom r i (runFrom q i x) := by cases h <;> rfl
theorem bad_deed {x : VamacBase.Run} (h : x.bad.isSome = true) (d : Deed) : doDeed x d = x := by unfold doDeed; rw [if_pos h]
theorem bad_rounds {f : Nat → VamacBase.Run → VamacBase.Run} (hf : ∀ i x, x.bad.isSome = true → f i x = x) : ∀ n i x, x.bad.isSome = true → rounds f n i x = x
  | 0, i, x, _ => rfl
  | n + 1, i, x, h => by
    show rounds f n (i + 1) (f i x) = x
    rw [hf i x h]
    exact bad_rounds hf n (i + 1) x h
theorem bad_toEnd {f : Nat → VamacBase.Run → VamacBase.Run} {n i : Nat} {x : VamacBase.Run} (h : x.bad.isSome = true) : toEndRounds f n i x = x := by
  cases n <;> unfold toEndRounds <;> rw [if_pos (by rw [h]; rfl)]
theorem end_toEnd {f : Nat → VamacBase.Run → VamacBase.Run} {n i : Nat} {x : VamacBase.Run} (h : isEnd x.table = true) : toEndRounds f n i x = x := by
  cases n <;> unfold toEndRounds <;> rw [if_pos (by rw [h, Bool.or_true])]
theorem go_toEnd {f : Nat → VamacBase.Run → VamacBase.Run} {n i : Nat} {x : VamacBase.Run} (h : x.bad = none) (h2 : isEnd x.table = false) : toEndRounds f (n + 1) i x = toEndRounds f n (i + 1) (f i x) := by
  conv => lhs; unfold toEndRounds
  rw [if_neg (by rw [h, h2]; decide)]
theorem last_toEnd {f : Nat → VamacBase.Run → VamacBase.Run} {i : Nat} {x : VamacBase.Run} (h : x.bad = none) (h2 : isEnd x.table = false) : toEndRounds f 0 i x = { x with bad := some .long } := by
  unfold toEndRounds
  rw [if_neg (by rw [h, h2]; decide)]
theorem run_bad : ∀ (p : Prog) (i : Nat) (x : VamacBase.Run), x.bad.isSome = true → runFrom p i x = x
  | .done, i, x, h => rfl
  | .deed d s r, i, x, h => by
    show runFrom r i (doDeed x _) = x
    rw [bad_deed h, run_bad r i x h]
  | .times n b r, i, x, h => by
    show runFrom r i (rounds (runFrom b) n 0 x) = x
    rw [bad_rounds (fun i x h => run_bad b i x h) n 0 x h, run_bad r i x h]
  | .toEnd b r, i, x, h => by
    show runFrom r i (toEndRounds (runFrom b) DEEDS 0 x) = x
    rw [bad_toEnd h, run_bad r i x h]
  | .when f v b r, i, x, h => by
    show runFrom r i (if x.bad.isNone && here x.table f == some v then runFrom b i x else x) = x
    have e : x.bad.isNone = false := by
      cases hb : x.bad with
      | none => rw [hb] at h; cases h
      | some _ => rfl
    rw [e, Bool.false_and, if_neg Bool.false_ne_true, run_bad r i x h]
theorem rounds_snoc (f : Nat → VamacBase.Run → VamacBase.Run) : ∀ (n i : Nat) (x : VamacBase.Run), rounds f (n + 1) i x = f (i + n) (rounds f n i x)
  | 0, i, x => rfl
  | n + 1, i, x => by
    show rounds f (n + 1) (i + 1) (f i x) = f (i + (n + 1)) (rounds f n (i + 1) (f i x))
    rw [rounds_snoc f n (i + 1) (f i x)]
    congr 1
    omega
theorem over_eq (b : Option Bad) : (!decide (badNumber b = 0)) = b.isSome := by
  cases b with
  | none => rfl
  | some b =>
    cases b with
    | long => rfl
    | fault f => cases f <;> rfl
theorem doDeed_long {x : VamacBase.Run} {d : Deed} (h : x.bad = none) (l : 60 ≤ x.trace.length) : doDeed x d = { x with bad := some .long } := by
  unfold doDeed DEEDS
  rw [if_neg (by rw [h]; decide), if_pos l]
theorem doDeed_does {x : VamacBase.Run} {d : Deed} (h : x.bad = none) (l : ¬ 60 ≤ x.trace.length) : doDeed x d = match doneBy x.table d with
  | .error f => { x with bad := some (.fault f) }
  | .ok t => ⟨t, x.trace ++ [d], none⟩ := by
  unfold doDeed DEEDS
  rw [if_neg (by rw [h]; decide), if_neg l]
  rfl
theorem okDeed_field {d : Deed} (h : okDeed d = true) : dField d ≤ 2 := by
  cases d with
  | write f v => exact okField_iff.mp (Bool.and_eq_true_iff.mp h).1
  | add f v => exact okField_iff.mp (Bool.and_eq_true_iff.mp h).1
  | find f v => exact okField_iff.mp (Bool.and_eq_true_iff.mp h).1
  | copy f => exact okField_iff.mp (show okField f = true from h)
  | paste f => exact okField_iff.mp (show okField f = true from h)
  | _ => exact Nat.zero_le _
end Pe
namespace Pe
open VamacBase
/-- what a run needs of a program -/
def RP : Prog → Bool
  | .done => true
  | .deed d _ r => decide (dField d ≤ 2) && RP r
  | .times n b r => decide (n ≤ 9) && (RP b && RP r)
  | .toEnd b r => RP b && RP r
  | .when f _ b r => decide (f ≤ 2) && (RP b && RP r)
theorem rp_then : ∀ p q : Prog, RP (p.andThen q) = (RP p && RP q)
  | .done, q => rfl
  | .deed d s r, q => by show (_ && RP (r.andThen q)) = ((_ && RP r) && RP q); rw [rp_then r q, Bool.and_assoc]
  | .times n b r, q => by show (_ && (RP b && RP (r.andThen q))) = ((_ && (RP b && RP r)) && RP q); rw [rp_then r q]; simp only [Bool.and_assoc]
  | .toEnd b r, q => by show (RP b && RP (r.andThen q)) = ((RP b && RP r) && RP q); rw [rp_then r q, Bool.and_assoc]
  | .when f v b r, q => by show (_ && (RP b && RP (r.andThen q))) = ((_ && (RP b && RP r)) && RP q); rw [rp_then r q]; simp only [Bool.and_assoc]
theorem rp_deed {d : Deed} {s : Int} {r : Prog} (h : RP (.deed d s r) = true) : dField d ≤ 2 := of_decide_eq_true (Bool.and_eq_true_iff.mp h).1
theorem rp_times {n : Nat} {b r : Prog} (h : RP (.times n b r) = true) : n ≤ 9 ∧ RP b = true :=
  ⟨of_decide_eq_true (Bool.and_eq_true_iff.mp h).1, (Bool.and_eq_true_iff.mp (Bool.and_eq_true_iff.mp h).2).1⟩
theorem rp_toEnd {b r : Prog} (h : RP (.toEnd b r) = true) : RP b = true := (Bool.and_eq_true_iff.mp h).1
theorem rp_when {f : Nat} {v : Int} {b r : Prog} (h : RP (.when f v b r) = true) : f ≤ 2 ∧ RP b = true :=
  ⟨of_decide_eq_true (Bool.and_eq_true_iff.mp h).1, (Bool.and_eq_true_iff.mp (Bool.and_eq_true_iff.mp h).2).1⟩
theorem rp_of_ok : ∀ p : Prog, okPieces p = true → RP p = true
  | .done, _ => rfl
  | .deed d s r, h => by
    obtain ⟨h1, _, _, h2⟩ := ok_deed h
    show (decide _ && RP r) = true
    rw [decide_eq_true (okDeed_field h1), rp_of_ok r h2]
    rfl
  | .times n b r, h => by
    obtain ⟨_, h9, h1, h2⟩ := ok_times h
    show (decide _ && (RP b && RP r)) = true
    rw [decide_eq_true h9, rp_of_ok b h1, rp_of_ok r h2]
    rfl
  | .toEnd b r, h => by
    obtain ⟨h1, h2⟩ := ok_toEnd h
    show (RP b && RP r) = true
    rw [rp_of_ok b h1, rp_of_ok r h2]
    rfl
  | .when f v b r, h => by
    obtain ⟨h9, _, h1, h2⟩ := ok_when h
    show (decide _ && (RP b && RP r)) = true
    rw [decide_eq_true h9, rp_of_ok b h1, rp_of_ok r h2]
    rfl
theorem rp_plain : ∀ ds : List Deed, (∀ d ∈ ds, dField d ≤ 2) → RP (plain ds) = true
  | [], _ => rfl
  | d :: ds, h => by
    show (decide _ && RP (plain ds)) = true
    rw [decide_eq_true (h d (List.mem_cons_self ..)), rp_plain ds fun x hx => h x (List.mem_cons_of_mem _ hx)]
    rfl
end Pe
set_option Elab.async false
set_option linter.all false
set_option maxRecDepth 100000
set_option maxHeartbeats 2000000
/-! A list comprehension whose element calls a def that may raise: the rule that the layer lacks. -/
namespace Pe
open PySem PySem.Spec PyProof.Rows L2

/-- an exception in the air of a block, come out of a call there -/
def FX (X : Cx) (E : XK) (u : Value) (s' : Shared) : Prop :=
  XE X (fun cls d _ H => E cls d H) u s' ∧ ∃ (a : Addr) (B : Heap) (l : List Env) (Z : Obj → Prop), u = .ref a ∧ HandSPX.FlyingZ B l a Z s'.heap
/-- a block whose element may raise as E tells -/
abbrev blkX (X : Cx) (s : Shared) (H : Hp) (scope : Scope) (cenv : Env) (fp : List Addr) (E : XK) : Cx := (X.blk s H scope cenv fp).wish (FX (X.blk s H scope cenv fp) E)
theorem passB {X : Cx} {s0 : Shared} {H0 : Hp} {scope : Scope} {cenv : Env} {fp : List Addr} {E : XK} : Passes (L2.CX X.prog X.w) (blkX X s0 H0 scope cenv fp E) E := fun pins σ H s e s' I c => by
  refine ⟨XE.of_call I.unwish (fun _ _ _ h => h) c, ?_⟩
  obtain ⟨a, B, _, cls, d, e1, fl, _⟩ := c
  exact ⟨a, B, _, _, e1, fl⟩
/-- of the three ways to be in the air it is the second one -/
theorem FX.fly {X : Cx} {E : XK} {u : Value} {s' : Shared} (x : FX X E u s') : ∃ (a : Addr) (B : Heap) (sI : Shared) (pins : List (Addr × Obj)) (σ : L2.St) (H : Hp) (cls : Value) (d : Option Addr),
    u = .ref a ∧ Inv X pins σ H sI ∧ (∀ b o, sI.heap.get? b = some o → b ∉ frs X.stack → B.get? b = some o) ∧ sI.heap.UpToSlots s'.heap ∧
      HandSPX.FlyingZ B X.stack a (Zc cls d) s'.heap ∧ H a = none ∧ s'.os = sI.os ∧ AllBare s'.gens ∧ E cls d H := by
  obtain ⟨⟨a, B, sI, pins, σ, H, cls, d, rfl, I, nb, up, sky, na, os, ag, w⟩, a', B', l', Z', e', fl'⟩ := x
  cases e'
  obtain ⟨_, _, _, oe', vs', T', oT', ts', he', _, hd', h1', _, _, hT', hdT', h3'⟩ := fl'
  rcases sky with ⟨_, _, _, oe, vs, he, hz, hd, h1⟩ | fl | hh
  · exfalso
    rw [he'] at he
    cases he
    rw [hd'] at hd
    cases hd
    rw [h1'] at h1
    cases h1
  · exact ⟨a, B, sI, pins, σ, H, cls, d, rfl, I, nb, up, fl, na, os, ag, w⟩
  · exfalso
    obtain ⟨_, _, _, oe, vs, T, oT, ts, he, _, hd, h1, _, _, hT, hdT, h3⟩ := hh
    rw [he'] at he
    cases he
    rw [hd'] at hd
    cases hd
    rw [h1'] at h1
    cases h1
    rw [hT'] at hT
    cases hT
    rw [hdT'] at hdT
    cases hdT
    rw [h3'] at h3
    cases h3

/-- the block's names C are let go; the exception goes on in the def's own frame -/
theorem fails_of {X : Cx} {E : XK} {pins0 : List (Addr × Obj)} {σ0 : L2.St} {H3 : Hp} {s3 s' : Shared} {scope : Scope} {cenv : Env} {fp : List Addr} {u : Value}
    (hs : X.stack = X.env :: X.outer) (hf : X.env.frame = some X.env.locals) (tk : Takes X (fun cls d _ H => E cls d H))
    (I3 : Inv X pins0 σ0 H3 s3) (hfp : ∀ b ∈ fp, FpOk X pins0 H3 b) (hC : cenv.locals = s3.heap.objs.size) (hcf : cenv.frame = X.env.frame) (x : FX (X.blk s3 H3 scope cenv fp) E u s') :
    notedBy (model X.prog X.w) X.A cenv (fun e s'' => CompFails (model X.prog X.w) X.A X.xe cenv e s'') u s' := by
  obtain ⟨a, B, sI, pins, σ, H, cls, d, rfl, I, nb, up, fl, na, os, ag, w⟩ := x.fly
  have fl : HandSPX.FlyingZ B (X.env :: X.outer) a (Zc cls d) s'.heap := by
    have z : HandSPX.FlyingZ B X.stack a (Zc cls d) s'.heap := fl
    rw [hs] at z
    exact z
  have hfr : X.A.frames = some (X.env :: X.outer) := by rw [I3.ok.frames, hs]
  show wpAny _ X.A (noteFrame (.ref a) cenv) _ _ s'
  rw [noteFrame_env _ hcf]
  refine HandSPX.looks_onZ Zc.steady hfr hf fl fun h1 held up1 => ?_
  obtain ⟨m, hn, _⟩ := I.loc
  have hn : sI.heap.Ns cenv.locals m := hn
  have kC : ∀ {h h' : Heap} {m : Str → Option Value}, h.Ns cenv.locals m → h.UpToSlots h' → h'.Ns cenv.locals m := fun {h h' m} n k => n.upToSlots k
  have n1 : h1.Ns cenv.locals m := kC (kC hn up) up1
  refine ⟨m, n1, fun h2 m2 n2 sb => ?_⟩
  obtain ⟨st1, b0, ff1, oe, vs, T, oT, ts, he, hz, hd, hv1, hnT, hTe, hT, hdT, h3⟩ := held
  have notC : ∀ {b : Addr} {o : Obj} {vs : Array Value}, h1.get? b = some o → o.data = .fields vs → b ≠ cenv.locals := fun {b o vs} e d z => by
    obtain ⟨o2, es, ep, e2, d2, _⟩ := n1
    rw [z, e2] at e
    cases e
    rw [d2] at d
    cases d
  have heC := notC he hd
  have hTC := notC hT hdT
  have he2 : h2.get? a = some oe := (sb.2 a heC).trans he
  have hT2 : h2.get? T = some oT := (sb.2 T hTC).trans hT
  -- the ground without C
  have gB : ∀ b o, (PySem.W.hideAll B [cenv.locals]).get? b = some o → b ≠ cenv.locals ∧ B.get? b = some o := fun b o e => by
    refine ⟨fun z => ?_, PySem.W.of_hideAll _ e⟩
    rw [z, PySem.W.hideAll_none [cenv.locals] (List.mem_cons_self ..)] at e
    cases e
  have gn : ∀ b, B.get? b = none → (PySem.W.hideAll B [cenv.locals]).get? b = none := fun b e => by
    cases q : (PySem.W.hideAll B [cenv.locals]).get? b with
    | none => rfl
    | some o =>
      rw [(gB b o q).2] at e
      cases e
  have ff2 : h2.FunFrames (PySem.W.hideAll B [cenv.locals]) (X.env :: X.outer) := funFrames_none (Heap.FunFrames.sameBut sb n2 ff1) fun L hL => gn L (ff1.mem hL).1
  have held2 : HandSPX.HeldZ (PySem.W.hideAll B [cenv.locals]) (X.env :: X.outer) a (Zc cls d) X.env.locals h2 :=
    ⟨fun b o e => (sb.2 b (gB b o e).1).trans (st1 b o (gB b o e).2), gn a b0, ff2, oe, vs, T, oT, ts, he2, hz, hd, hv1, gn T hnT, hTe, hT2, hdT, h3⟩
  unfold PySem.passOn
  refine wpAny_bind (wpAny_field he2 hd hv1 ?_)
  rw [if_neg (show ¬ ((Value.ref T == Value.none) = true) from by simp)]
  rw [hcf, hf]
  refine wpAny_bind (HandSPX.setFlight_onZ held2 fun h4 held4 up4 => wpAny_throw (tk _ _ ?_))
  -- the state without the exception, without C
  have sI_of : ∀ b o, (PySem.W.hideAll sI.heap [cenv.locals]).get? b = some o → b ≠ cenv.locals ∧ sI.heap.get? b = some o := fun b o e => by
    refine ⟨fun z => ?_, PySem.W.of_hideAll _ e⟩
    rw [z, PySem.W.hideAll_none [cenv.locals] (List.mem_cons_self ..)] at e
    cases e
  have sI_to : ∀ b o, b ≠ cenv.locals → sI.heap.get? b = some o → (PySem.W.hideAll sI.heap [cenv.locals]).get? b = some o := fun b o n e => PySem.W.hideAll_get _ e fun z => n (by simpa using z)
  have oldC : ∀ b o, s3.heap.get? b = some o → b ≠ cenv.locals := fun b o e z => by
    rw [z, hC] at e
    exact absurd (Heap.lt_size e) (Nat.lt_irrefl _)
  have HC : H cenv.locals = none := I.free
  have base : Un (frs X.stack) fp H3 H s3.heap sI.heap := I.base
  have base2 : Un (frs X.stack) fp H3 H s3.heap (PySem.W.hideAll sI.heap [cenv.locals]) := ⟨fun b o e n hb hx => sI_to b o (oldC b o e) (base.keep b o e n hb hx),
    fun b o e n hb hx => by
      obtain ⟨sl, q⟩ := base.slot b o e n hb hx
      exact ⟨sl, sI_to b _ (oldC b o e) q⟩, base.free, fun b o e hx => by
      obtain ⟨o', q⟩ := base.there b o e hx
      exact ⟨o', sI_to b o' (oldC b o e) q⟩, base.tups, base.frzs, base.tbls⟩
  have hok : HOk X.prog X.w H sI.heap := I.hok
  have hok2 : HOk X.prog X.w H (PySem.W.hideAll sI.heap [cenv.locals]) := fun b o e => (hok b o e).stay (fun c v hc q => sI_to c v (fun z => by
    rcases hc with hc | hc
    · rw [← hc, z, HC] at e
      cases e
    · rw [z, HC] at hc
      cases hc) q) (fun _ q => q) fun _ _ q => q
  have hos : sI.os = s3.os := I.os
  have J : Inv X pins0 σ0 H { sI with heap := PySem.W.hideAll sI.heap [cenv.locals] } := I3.call' (ch := fp) hos base2 hok2 I.bare fun b hb => ⟨(hfp b hb).2.2.2.1, (hfp b hb).2.1, (hfp b hb).2.2.2.2.1, (hfp b hb).2.2.2.2.2⟩
  have up2 : (PySem.W.hideAll sI.heap [cenv.locals]).UpToSlots h4 := fun b o e hnf => by
    obtain ⟨nC, e1⟩ := sI_of b o e
    obtain ⟨sl1, e2⟩ := up b o e1 hnf
    obtain ⟨sl2, e3⟩ := up1 b _ e2 hnf
    have e4 := (sb.2 b nC).trans e3
    obtain ⟨sl3, e5⟩ := up4 b _ e4 hnf
    exact ⟨sl3, e5⟩
  refine ⟨a, PySem.W.hideAll B [cenv.locals], { sI with heap := PySem.W.hideAll sI.heap [cenv.locals] }, pins0, σ0, H, cls, d, rfl, J, fun b o e hb => ?_, up2, .inr (.inr (by rw [hs]; exact held4)), na, os, ag, w⟩
  obtain ⟨nC, e1⟩ := sI_of b o e
  exact PySem.W.hideAll_get _ (nb b o e1 hb) fun z => nC (by simpa using z)

section
variable {X : Cx}
/-- the loop of the block; Rd: what is wanted at its end -/
theorem lcX_core {pins : List (Addr × Obj)} {s : Shared} {σ : L2.St} {H : Hp} {Q : VK} {elt tg iter : Expr} {scope : Scope} {own : List (Str × Nat)} {pos pos' : Pos} {wi : TI} {g : TG} {te : TE} {E : XK} {use : Option (Value → Sem Unit)} {Qf : Value → Shared → Prop}
    (hs : X.stack = X.env :: X.outer) (hf : X.env.frame = some X.env.locals) (tk : Takes X (fun cls d _ H => E cls d H))
    (hc : X.calm = true) (hN : X.N.Nodup) (I : Inv X pins σ H s) (hi : PI X tg iter wi) (ok : BlkOk X.N X.env.scope scope own)
    (hg : ∀ (s : Shared) (H : Hp) (C : Addr) (cl : List (Str × Addr)) (fp : List Addr), PG (X.blk s H scope (compEnvC scope cl C X.env) fp) tg g)
    (he : ∀ (s : Shared) (H : Hp) (C : Addr) (cl : List (Str × Addr)) (fp : List Addr), PE (blkX X s H scope (compEnvC scope cl C X.env) fp E) elt te) (hfs : ∀ x, foldedSetIterable iter X.env x = pure x)
    (h : tLc wi g tYes te (own.map (·.2)) σ H Q)
    (hRR : ∀ D cenv s' m H', Inv X pins σ H' s' → Q (.ref D) H' → s'.heap.Ns cenv.locals m → FpOk X pins H' cenv.locals → compEnds (model X.prog X.w) X.A X.xe use Qf (.ref D) cenv (.ok .next) s') :
    wpAny (model X.prog X.w) X.A (comprehension (.ListComp elt [⟨tg, iter, [], 0⟩] scope pos) scope X.env pos' (newList []) false (eval iter X.env) use) Qf X.xe s := by
  have hfree : ∀ y ∈ scope.names, y.2 = .free → ∃ c, X.env.cells.lookup y.1 = some c := fun y hy e => (ok.free y hy e).elim (fun k => I.ok.has _ (.inl k)) fun k => I.ok.has _ (.inr k)
  refine comprehension_at (use := use) rfl hfs (closure_ok hfree) ok.kind (fun y hy e => by rw [ok.uniq y hy, e]) (thn (hi.run pins s σ H _ I h) fun xv s1 hx => thn hx fun itv s2 h2 => ?_)
  obtain ⟨it, fp, tn, J, H2, rfl, I2, T, st2, f2, q⟩ := h2
  refine wpAny_newObj_type (newEnv_comp ?_) (by show 0 ≤ sizeLine; decide)
  obtain ⟨D, hD⟩ : ∃ D, s2.heap.objs.size = D := ⟨_, rfl⟩
  rw [hD]
  have hDn : H2 D = none := I2.hok.fresh (Nat.le_of_eq hD)
  obtain ⟨W, ⟨m0, w0⟩, turn⟩ := q D hDn
  obtain ⟨s3, hs3⟩ : ∃ s3 : Shared, s3 = { s2 with heap := s2.heap.push { cls := .type "list", data := .seq ([] : List Value).toArray } } := ⟨_, rfl⟩
  rw [← hs3]
  have h3 : s3.heap = s2.heap.push { cls := .type "list", data := .seq ([] : List Value).toArray } := by rw [hs3]
  have I3 : Inv X pins σ (upd H2 D (.lst [])) s3 := by
    rw [hs3]
    refine I2.laid (t' := s2.toks) (fun b o e => Heap.get?_push_of_some _ e) (Nat.le_of_eq hD) ⟨Nat.zero_le _, [], 0, .nil, ?_⟩
    rw [← hD]
    exact Heap.get?_push_size _ rfl
  have sz : ∀ b ∈ fp, b < s2.heap.objs.size := fun b hb => let ⟨o, e, _⟩ := T.obj _ _ st2 b hb; Heap.lt_size e
  have f3 : ∀ b ∈ fp, FpOk X pins (upd H2 D (.lst [])) b ∧ b < s3.heap.objs.size := fun b hb => by
    have hlt := sz b hb
    refine ⟨⟨?_, (f2 b hb).2⟩, by rw [h3, Heap.size_push]; exact Nat.lt_succ_of_lt hlt⟩
    rw [upd_ne (by rw [← hD]; exact Nat.ne_of_lt hlt)]
    exact (f2 b hb).1
  have st3 : tn 0 s3.heap := T.keep _ _ _ st2 fun b _ o e => by rw [h3]; exact Heap.get?_push_of_some _ e
  have I4 := block_start I3 ok hN f3
  have pg := hg s3 (upd H2 D (.lst [])) s3.heap.objs.size (cellsFrom (s3.heap.objs.size + 1) scope.names (cloFrom X.env.cells scope.names [])) fp
  have pe := he s3 (upd H2 D (.lst [])) s3.heap.objs.size (cellsFrom (s3.heap.objs.size + 1) scope.names (cloFrom X.env.cells scope.names [])) fp
  obtain ⟨ce, hce⟩ : ∃ ce, ce = compEnvC scope (cellsFrom (s3.heap.objs.size + 1) scope.names (cloFrom X.env.cells scope.names [])) s3.heap.objs.size X.env := ⟨_, rfl⟩
  show codeAny _ _ (.compStart (.ListComp elt [⟨tg, iter, [], 0⟩] scope pos) 0 (.ref it) (.ref D) (compEnvC scope (cellsFrom (s3.heap.objs.size + 1) scope.names (cloFrom X.env.cells scope.names [])) s3.heap.objs.size X.env)) (compEnds (model X.prog X.w) X.A X.xe use Qf (.ref D) (compEnvC scope (cellsFrom (s3.heap.objs.size + 1) scope.names (cloFrom X.env.cells scope.names [])) s3.heap.objs.size X.env)) { s3 with heap := pushCells (s3.heap.push { cls := .type "dict", data := .dict #[] }) scope.names }
  rw [← hce] at I4 pg pe ⊢
  have cL : ce.locals = s3.heap.objs.size := by rw [hce]; rfl
  have cF : ce.frame = X.env.frame := by rw [hce]; rfl
  have nfp : ∀ b ∈ fp, (upd H2 D (.lst [])) b = none := fun b hb => (f3 b hb).1.1
  obtain ⟨H3, hH3⟩ : ∃ H3, H3 = upd H2 D (.lst []) := ⟨_, rfl⟩
  rw [← hH3] at I3 I4 pg pe w0 nfp f3
  obtain ⟨s4, hs4⟩ : ∃ s4 : Shared, s4 = { s3 with heap := pushCells (s3.heap.push { cls := .type "dict", data := .dict #[] }) scope.names } := ⟨_, rfl⟩
  rw [← hs4] at I4 ⊢
  have st4 : tn 0 s4.heap := T.keep _ _ _ st3 fun b _ o e => by rw [hs4]; exact pushCells_keeps _ _ _ _ (Heap.get?_push_of_some _ e)
  have stat : ∀ {σ' : L2.St} {H' : Hp} {s' : Shared}, Inv (X.blk s3 H3 scope ce fp) [] σ' H' s' → (∀ b ∈ fp, H' b = none) → ∀ b ∈ fp, FpOk (X.blk s3 H3 scope ce fp) [] H' b := fun {σ' H' s'} I' hn b hb =>
    ⟨hn b hb, (I'.ok.exf b hb).1, I'.ok.exfs b hb, .inl hb, fun x c e => (I'.ok.exf b hb).2 x c e, fun p hp => absurd (show p ∈ ([] : List (Addr × Obj)) ++ [] from hp) (by simp)⟩
  have quiet : ∀ {α : Type} {t : Sem α} {Q Q' : α → Shared → Prop} {E' : Value → Shared → Prop} {s : Shared}, wpAny (model X.prog X.w) X.A t Q (fun _ _ => False) s → (∀ a s, Q a s → Q' a s) → wpAny (model X.prog X.w) X.A t Q' E' s := fun h1 h2 => wpAny_mono h1 h2 fun _ _ z => z.elim
  have loop : codeAny (model X.prog X.w) X.A (.compLoop (.ListComp elt [⟨tg, iter, [], 0⟩] scope pos) 0 (.ref it) (.ref D) ce) (compEnds (model X.prog X.w) X.A X.xe use Qf (.ref D) ce) s4 := by
    refine compLoop_any (fun n s' => ∃ i H', Inv (X.blk s3 H3 scope ce fp) [] (wipe σ (own.map (·.2))) H' s' ∧ tn i s'.heap ∧ (∀ b ∈ fp, H' b = none) ∧ W i n H') ?_ m0 ⟨0, H3, I4, st4, nfp, w0⟩
    rintro n s5 ⟨i, H5, I5, st5, n5, w5⟩
    rcases turn i n H5 w5 with ⟨stop, qq⟩ | ⟨go, Nx, hNx, step⟩
    · refine quiet (T.done (X.blk s3 H3 scope ce fp) rfl rfl rfl hc i [] s5 _ H5 (fun _ _ => False) I5 (stat I5 n5) st5 stop) fun r s6 ⟨hr, I6⟩ => ?_
      subst hr
      have I7 : Inv X pins σ H5 s6 := I3.call' (ch := fp) I6.os I6.base I6.hok I6.bare fun b hb => ⟨(f3 b hb).1.2.2.2.1, (f3 b hb).1.2.1, (f3 b hb).1.2.2.2.2.1, (f3 b hb).1.2.2.2.2.2⟩
      have nC : H5 ce.locals = none := I6.free
      obtain ⟨m, hn, _⟩ := I6.loc
      exact hRR D ce s6 m H5 I7 qq hn (I3.fpOk (by rw [cL]; exact Nat.le_refl _) nC)
    · refine quiet (T.item (X.blk s3 H3 scope ce fp) rfl rfl rfl hc i [] s5 _ H5 (fun _ _ => False) I5 (stat I5 n5) st5 go) fun r s6 ⟨u, hr, h6⟩ => ?_
      subst hr
      refine quiet h6 fun _ s7 ⟨x, H7, I7, r7, y7, st7, n7⟩ => ?_
      have I7' := I7.pinned (stat I7 n7) (T.obj _ _ st7)
      refine quiet (pg.run _ s7 _ H7 x u _ I7' r7 (step x H7 y7)) fun _ s8 ⟨σ8, H8, I8, hw8, q8⟩ => ?_
      refine wpAny_tests_nil ?_
      rw [if_pos rfl]
      have q8 : te σ8 H8 fun y H4 => ∃ acc, H4 D = some (.lst acc) ∧ acc.length < sizeLine ∧ Nx (upd H4 D (.lst (acc ++ [y]))) := by
        have z : if true = true then (te σ8 H8 fun y H4 => ∃ acc, H4 D = some (.lst acc) ∧ acc.length < sizeLine ∧ Nx (upd H4 D (.lst (acc ++ [y])))) else Nx H8 := q8
        rwa [if_pos rfl] at z
      have fin : ∀ {s' : Shared} {H' : Hp}, Inv (X.blk s3 H3 scope ce fp) ([] ++ pinsAt fp s7.heap) σ8 H' s' → Nx H' → ∃ m, m < n ∧ ∃ i H', Inv (X.blk s3 H3 scope ce fp) [] (wipe σ (own.map (·.2))) H' s' ∧ tn i s'.heap ∧ (∀ b ∈ fp, H' b = none) ∧ W i m H' := fun {s' H'} I' nx => by
        obtain ⟨m', hm, w'⟩ := hNx H' nx
        have pin' : ∀ b ∈ fp, ∀ o, s7.heap.get? b = some o → s'.heap.get? b = some o ∧ H' b = none := fun b hb o e =>
          let z := I'.pin (b, o) (List.mem_append_right _ (List.mem_append_right _ (mem_pinsAt hb e)))
          ⟨z.1, z.2.1⟩
        have hl : (wipe σ (own.map (·.2))).length = σ8.length := by rw [← hw8, wipe_length]
        refine ⟨m', hm, i + 1, H', (I'.unpinned (pins := [])).weak hl (fun j v e => ?_), T.keep _ _ _ st7 fun b hb o e => (pin' b hb o e).1, fun b hb => ?_, w'⟩
        · rw [← hw8] at e
          exact (wipe_some e).1
        · obtain ⟨o, e, _⟩ := T.obj _ _ st7 b hb
          exact (pin' b hb o e).2
      refine wpAny_mono (pe.run _ s8 σ8 H8 _ (I8.wish _) q8) (fun z s10 ⟨yv, H10, I10, r10, acc, hD10, hz10, nx⟩ => ?_) fun e s10 x => fails_of hs hf tk I3 (fun b hb => (f3 b hb).1) cL cF x
      exact app_ok (X := X.blk s3 H3 scope ce fp) I10.unwish hD10 hz10 r10 fun s11 I11 => fin I11 nx
  exact codeAny_compStart_list loop (T.self X.A 0 _ _ _ st4 loop)
/-- as a value -/
theorem pe_lcX {elt tg iter : Expr} {scope : Scope} {own : List (Str × Nat)} {pos : Pos} {wi : TI} {g : TG} {te : TE} {E : XK} (tk : Takes X (fun cls d _ H => E cls d H)) (hs : X.stack = X.env :: X.outer) (hf : X.env.frame = some X.env.locals)
    (hc : X.calm = true) (hN : X.N.Nodup) (hi : PI X tg iter wi) (ok : BlkOk X.N X.env.scope scope own)
    (hg : ∀ (s : Shared) (H : Hp) (C : Addr) (cl : List (Str × Addr)) (fp : List Addr), PG (X.blk s H scope (compEnvC scope cl C X.env) fp) tg g)
    (he : ∀ (s : Shared) (H : Hp) (C : Addr) (cl : List (Str × Addr)) (fp : List Addr), PE (blkX X s H scope (compEnvC scope cl C X.env) fp E) elt te) (hfs : ∀ x, foldedSetIterable iter X.env x = pure x := by intro _; rfl) :
    PE X (.ListComp elt [⟨tg, iter, [], 0⟩] scope pos) (tLc wi g tYes te (own.map (·.2))) := by
  refine ⟨fun pins s σ H Q I h => ?_⟩
  rw [eval_ListComp]
  refine lcX_core hs hf tk hc hN I hi ok hg he hfs h fun D cenv s' m H' I' q hn f => ⟨m, hn, fun h'' sb => ?_⟩
  obtain ⟨f0, f1, f2, f3, f4, f5⟩ := f
  exact ⟨.ref D, H', I'.turned (t' := s'.toks) (fun b o hb e => (sb.2 b hb).trans e) f0 f1 f3 f4 f5, rfl, q⟩
/-- name = [..] on one line, the name a local -/
theorem ps_setLcX {i : Nat} {y : Str} {py : Pos} {elt tg iter : Expr} {scope : Scope} {own : List (Str × Nat)} {pos spos : Pos} {wi : TI} {g : TG} {te : TE} {E : XK} (tk : Takes X (fun cls d _ H => E cls d H)) (hs : X.stack = X.env :: X.outer) (hf : X.env.frame = some X.env.locals)
    (hc : X.calm = true) (hN : X.N.Nodup) (hy : X.N[i]? = some y) (hyl : X.env.scope.names.lookup y = some .local)
    (hsw : swapsWith (.ListComp elt [⟨tg, iter, [], 0⟩] scope pos) (some (.Name y py)) spos.line X.env = pure true) (hi : PI X tg iter wi) (ok : BlkOk X.N X.env.scope scope own)
    (hg : ∀ (s : Shared) (H : Hp) (C : Addr) (cl : List (Str × Addr)) (fp : List Addr), PG (X.blk s H scope (compEnvC scope cl C X.env) fp) tg g)
    (he : ∀ (s : Shared) (H : Hp) (C : Addr) (cl : List (Str × Addr)) (fp : List Addr), PE (blkX X s H scope (compEnvC scope cl C X.env) fp E) elt te) (hfs : ∀ x, foldedSetIterable iter X.env x = pure x := by intro _; rfl) :
    PS X (.Assign [.Name y py] (.ListComp elt [⟨tg, iter, [], 0⟩] scope pos) spos) (tAsg (tLc wi g tYes te (own.map (·.2))) (gName i)) := by
  refine ⟨fun pins s σ H D I h => ?_⟩
  rw [exec_Assign_Name_used _ _ _ _ hsw]
  refine wpAny_bind (wpAny_standAt (wpAny_bind ?_))
  show wpAny _ X.A (do let _ ← comprehension (.ListComp elt [⟨tg, iter, [], 0⟩] scope pos) scope X.env (firstIterPos [⟨tg, iter, [], 0⟩] pos) (newList []) false (eval iter X.env) (some (assign (.Name y py) X.env))) _ _ s
  have h : tLc wi g tYes te (own.map (·.2)) σ H (fun x H1 => gName i x σ H1 D.nx) := h
  refine wpAny_bind (thn (lcX_core (Qf := fun _ s' => SP X pins D .next s') hs hf tk hc hN I hi ok hg he hfs h fun L cenv s' m H' I' q hn f => ?_) fun _ s' hq => wpAny_pure (wpAny_pure hq))
  show wpAny _ _ (assign (.Name y py) X.env (.ref L)) _ _ _
  refine wpAny_assign_Name (store_ok2 (v := V.ref L) I' hN hy (.inl hyl) rfl (fun s2 I2 ⟨a, sb, ha⟩ => ?_) (.inr hyl))
  obtain ⟨f0, f1, f2, f3, f4, f5⟩ := f
  have haC : cenv.locals ≠ a := by
    rcases ha with z | z
    · rw [z]; exact f1
    · exact fun e => f4 y a z e.symm
  refine ⟨m, hn.sameBut sb haC, fun h3 sb3 => ?_⟩
  exact ⟨_, H', I2.turned (t' := s2.toks) (fun b o hb e => (sb3.2 b hb).trans e) f0 f1 f3 f4 f5, q⟩
end
end Pe
set_option Elab.async false
set_option linter.all false
set_option maxRecDepth 100000
set_option maxHeartbeats 2000000
/-! Rules beside the layer's: an own error called without arguments; in of a written tuple of pairs; a try of two clauses, the second with a name; a method's call whose error is wished for at the slots. -/
namespace Pe
open PySem PySem.Spec PyProof.Rows L2
section
variable {X : Cx}
/-- X(), an own error class without __init__ -/
theorem pmk_own0 {C : Addr} {bmB : List Value} {B newId initId : String} {x : Str} {p pos : Pos} (F : ExcBaseFacts B newId initId bmB) (q : PySem.W.excIn X.K C bmB newId = true) (gC : X.mg x = some (.ref C)) (kC : PySem.W.keepIn X.K (.ref C) = true) (r : Raises X (.ref C)) (hg : Gl X x)
    (hdb : (x == ("__debug__" : Str)) = false := by decide) : PMk X (.Call (.Name x p) [] [] pos) (fun _ H Q => Q (.ref C) none H) := by
  intro pins s σ H Q I h
  refine wpAny_Call_Name_kw (ld_glob I hg gC ?_ hdb)
  refine PySem.W.callWith_K0 I.kIn kC ?_
  obtain ⟨bm, N, nm, qn, bs, hdct, sn, sub, ab, col, dd, k0, k1, k2, k3, k5, mN, hC, hN, hni, T⟩ := exc_obj I.kIn q
  refine wpAny_call_exc_subT F T hC hN hni (fun h' e hm => ?_) (Nat.zero_le _)
  exact mk_of I hm r h (I.hok.gone hm.new)
/-- x in t, t a tuple of data -/
def rInTD (K : PySem.W.Frag) : R2 := fun x y H Q => ∃ d ds, Dp K H x d ∧ Dp K H y (.tuple ds) ∧ SeqAt.shaped d = true ∧ SeqAt.shaped (.tuple ds) = true ∧ Q (.bl (ds.any fun z => PyData.eqv z d)) H
theorem op_inTD (hu : X.A.units + 65 < cLine) : OpR X (compareOp .In) (rInTD X.K) := by
  intro pins s σ H x y v u Q I rx ry ⟨d, ds, hd, he, sd, se, q⟩
  obtain ⟨as, r1⟩ := Dp.reads I d x v hd rx
  obtain ⟨bs, r2⟩ := Dp.reads I (.tuple ds) y u he ry
  exact SeqAt.in_tuple_reads r2 r1 (SeqAt.canLay_of_shaped se) (SeqAt.canLay_of_shaped sd) (room_in_shaped sd hu) ⟨.bl _, H, I, rfl, q⟩

/-- o.m(e, ..) within a try: what it raises is wished for at the slots as they stand -/
def tMethS (C : Addr) (m : Str) (sp : Sp) (E : L2.St → XK) (ta : TE) (t : TA) : TE := fun σ H Q => ta σ H fun x H1 => ∃ a dx fs, x = .ref a ∧ H1 a = some (.ins C dx fs) ∧ fs.lookup m = none ∧ t σ H1 fun vs H2 => sp (x :: vs) H2 Q (E σ)
theorem pe_methS {CX : CXT} {k : Nat} {f C : Addr} {fd : FuncData} {ps : List Str} {sp : Sp} {E : L2.St → XK} {m : Str} {pos apos : Pos} {e o : Expr} {es : List Expr} {ta : TE} {t : TA} {pl : Sem Bool} (he : PE X o ta) (c : Cls X.K C) (hm : Meth X.K C m f)
    (F : FnOk X.prog X.w X.K X.mg X.base CX k f fd ps sp) (hr : Room k X.A) (hb : Binds X.K fd ps []) (hx : ∀ σ, PassesAt CX X σ (E σ)) (ha : PA X (e :: es) t)
    (hst : starEach (e :: es) X.env = (false, eval e X.env) :: starEach es X.env := by rfl) (hpl : (backTo pos (starEach es X.env)).any (·.1) = false := by rfl)
    (ht : eval (.Call (.Attribute o m apos) (e :: es) [] pos) X.env = (do
      let ov ← eval o X.env
      standAt apos.atName
      let (f, first) ← holding [ov] (getMethod ov m pl)
      callWith pos f first (backTo pos (starEach (e :: es) X.env)) (backToKw pos (keywordEach [] X.env))) := by rfl) :
    PE X (.Call (.Attribute o m apos) (e :: es) [] pos) (tMethS C m sp E ta t) := by
  refine ⟨fun pins s σ H Q I h => ?_⟩
  refine PySem.W.methodCall_KW (pl := pl) (thn (he.run pins s σ H _ I h) fun u s1 ⟨x, H1, I1, rx, a, dx, fs, ex, ea, l, q⟩ => ?_) ht
  subst ex
  obtain rfl : u = Value.ref a := rx
  refine getmeth_ok I1 ea c hm l ?_
  refine PySem.W.callWith_K (first := [.ref a]) (h₀ := X.base) I.ok.mod.kin hm.kp (thn (ha.run pos pins s1 σ H1 _ I1 q) fun us s2 ⟨vs, H2, I2, r, q2⟩ => ⟨I2.kIn, ?_⟩) hst hpl
  exact run_fnS (us := .ref a :: us) (vs := .ref a :: vs) F hr hb (hx σ) I2 (.cons rfl r) q2

/-! ### try: .. except X1: .. except X2 as n: .., every error of the body is one of the two -/
def wTwo (K : PySem.W.Frag) (c1 c2 : Value) (i : Nat) (t1 t2 : Addr → Value → Option Addr → TS) (D : Ends) : WX := fun cls d σ H =>
  ∃ b, PySem.W.exmOne K cls c1 = some b ∧ (b = true → ∀ a, H a = none → t1 a cls d D σ H) ∧ (b = false → PySem.W.exmOne K cls c2 = some true ∧
    ∀ a, H a = none → t2 a cls d { nx := fun σ' H' => D.nx (σ'.set i none) H', rt := D.rt, bk := fun σ' H' => D.bk (σ'.set i none) H', ct := fun σ' H' => D.ct (σ'.set i none) H' } (σ.set i (some (.ref a))) H)
theorem ps_try2 {x1 x2 n : Str} {c1 c2 : Value} {i : Nat} {body st1 st2 : List Stmt} {b1 b2 : Stmt} {np1 np2 pos pos1 pos2 : Pos} {tb : WX → TS} {t1 t2 : Addr → Value → Option Addr → TS}
    (hs : X.stack = X.env :: X.outer) (hf : X.env.frame = some X.env.locals) (hN : X.N.Nodup) (hi : X.N[i]? = some n) (hln : X.env.kindOf n = some .local) (hc1 : Names X x1 c1) (hc2 : Names X x2 c2)
    (hb : ∀ (W : WX) (pn : List (Addr × Obj)) (xe : Value → Shared → Prop), Takes (X.tr pn xe) W → PassesOwn (model X.prog X.w) X.A X.env xe → PSs (X.tr pn xe) body (tb W))
    (h1 : ∀ (a : Addr) (oe : Obj) (cls : Value) (d : Option Addr) (pn : List (Addr × Obj)), Zc cls d oe → (∃ vs, oe.data = .fields vs) → PSs (X.suite a ((a, oe) :: pn)) (b1 :: st1) (t1 a cls d))
    (h2 : ∀ (a : Addr) (oe : Obj) (cls : Value) (d : Option Addr) (pn : List (Addr × Obj)), Zc cls d oe → (∃ vs, oe.data = .fields vs) → PSs (X.suite a ((a, oe) :: pn)) (b2 :: st2) (t2 a cls d)) :
    PS X (.Try body [.ExceptHandler (some (.Name x1 np1)) none (b1 :: st1) pos1, .ExceptHandler (some (.Name x2 np2)) (some n) (b2 :: st2) pos2] [] [] pos) (fun D σ H => tb (wTwo X.K c1 c2 i t1 t2 D) D σ H) := by
  refine ⟨fun pins s σ H D I h => ?_⟩
  have ok := I.ok
  have hfr : X.A.frames = some (X.env :: X.outer) := by rw [ok.frames, hs]
  refine wpAny_Try_except ?_
  refine wpAny_mono ((hb (wTwo X.K c1 c2 i t1 t2 D) (X.pn ++ pins) _ (fun u s' xx => ?_) PassesOwn.looking).run [] s σ H D (I.toTry _) h) (fun f s1 hsp => ?_) (fun e s1 he => he)
  · obtain ⟨a, B, sI, pins', σ', H', cls, d, rfl, J', nb, up, sky, na, os, ag, b, hq1, hyes, hno⟩ := xx
    have J : Inv X pins σ' H' sI := J'.ofTry ok
    have sky' : Sky B (X.env :: X.outer) a (Zc cls d) X.env.locals s'.heap := by rw [← hs]; exact sky
    show wpAny (model X.prog X.w) X.A (noteFrame (.ref a) X.env) _ _ _
    refine Sky.land Zc.steady hfr hf sky' fun h3 fl3 up3 => ?_
    have J3 : Inv X pins σ' H' { s' with heap := h3 } := J.landed nb fl3.1 (up.trans up3) os ag
    obtain ⟨oe3, vs3, he3, hz3, hd3⟩ := fl3.there
    have nfr : a ∉ frs (X.env :: X.outer) := fun hm => by
      obtain ⟨_, o', e', hnf⟩ := fl3.2.2.1.mem hm
      rw [he3] at e'
      cases e'
      exact hnf _ hd3
    have nL : a ≠ X.env.locals := fun z => nfr (List.mem_filterMap.mpr ⟨X.env, List.mem_cons_self, by rw [hf, z]⟩)
    have nF : a ∉ X.fs := fun hm => let ⟨e, he, q⟩ := List.mem_filterMap.mp hm; nfr (List.mem_filterMap.mpr ⟨e, List.mem_cons_of_mem _ he, q⟩)
    have S3 := J3.suite he3 hd3 na nL nF
    have LT : PySem.W.Looks (model X.prog X.w) h3 (typeOf (.ref a)) cls := fun A Q E s k q => wpAny_typeOf_ref (k _ _ he3) (by rw [hz3.1]; exact q)
    have test : ∀ {x : Str} {c : Value} {np : Pos}, Names X x c → ∀ {Q : Value → Shared → Prop} {E : Value → Shared → Prop}, Q c { s' with heap := h3 } → wpAny (model X.prog X.w) (X.A.mark (some (.ref a))) (eval (.Name x np) X.env) Q E { s' with heap := h3 } := fun {x c np} hc {Q E} q => by
      obtain ⟨hg, hdbg, hm | ⟨hm, hv, hnn⟩⟩ := hc
      · exact ld_glob (X := X.suite a ((a, oe3) :: (X.pn ++ pins))) S3 hg hm q hdbg
      · exact ld_blt (X := X.suite a ((a, oe3) :: (X.pn ++ pins))) S3 hg hm hv q hnn hdbg
    refine wpAny_handleBy_cons (codeAny_handlers_test ?_) (by intro q; cases q)
    refine test hc1 ((PySem.W.exm_one (M := model X.prog X.w) J3.kIn LT hq1).here ?_)
    cases b with
    | true =>
      refine codeAny_handlers_suite ?_
      refine HandSPX.lands_againZ fl3 fun h4 fl4 up4 => ?_
      have J4 : Inv X pins σ' H' { s' with heap := h4 } := J.landed nb fl4.1 ((up.trans up3).trans up4) os ag
      obtain ⟨oe4, vs4, he4, hz4, hd4⟩ := fl4.there
      have S4 := J4.suite he4 hd4 na nL nF
      refine wpAny_mono ((h1 a oe4 cls d (X.pn ++ pins) hz4 ⟨_, hd4⟩).run [] _ _ H' _ S4 (hyes rfl a na)) (fun f s6 hsp => ?_) (fun _ _ z => z.elim)
      cases f with
      | ret u =>
        obtain ⟨v6, σ6, H6, S6, r6, q6⟩ := hsp
        exact ⟨_, _, _, S6.unsuite ok, r6, q6⟩
      | next => obtain ⟨σ6, H6, S6, q6⟩ := hsp; exact ⟨_, _, S6.unsuite ok, q6⟩
      | brk => obtain ⟨σ6, H6, S6, q6⟩ := hsp; exact ⟨_, _, S6.unsuite ok, q6⟩
      | cont => obtain ⟨σ6, H6, S6, q6⟩ := hsp; exact ⟨_, _, S6.unsuite ok, q6⟩
    | false =>
      obtain ⟨hq2, h2y⟩ := hno rfl
      show wpAny _ X.A (handleBy (.ref a) X.env [.ExceptHandler (some (.Name x2 np2)) (some n) (b2 :: st2) pos2]) _ _ _
      refine wpAny_handleBy_cons (codeAny_handlers_test ?_) (by intro q; cases q)
      refine test hc2 ((PySem.W.exm_one (M := model X.prog X.w) J3.kIn LT hq2).here ?_)
      refine codeAny_handlers_suite_as ?_
      refine HandSPX.lands_againZ fl3 fun h4 fl4 up4 => ?_
      have J4 : Inv X pins σ' H' { s' with heap := h4 } := J.landed nb fl4.1 ((up.trans up3).trans up4) os ag
      obtain ⟨oe4, vs4, he4, hz4, hd4⟩ := fl4.there
      have S4 := J4.suite he4 hd4 na nL nF
      refine store_ok (X := X.suite a ((a, oe4) :: (X.pn ++ pins))) (v := .ref a) S4 hN hi (.inl hln) rfl (fun s5 S5 => ?_) (.inr hln)
      refine wpAny_mono ((h2 a oe4 cls d (X.pn ++ pins) hz4 ⟨_, hd4⟩).run [] s5 _ H' _ S5 (h2y a na)) (fun f s6 hsp => ?_) (fun _ _ z => z.elim)
      have end_ : ∀ {σ6 : L2.St} {H6 : Hp} {Q : Shared → Prop}, Inv (X.suite a ((a, oe4) :: (X.pn ++ pins))) [] σ6 H6 s6 → (∀ s7, Inv X pins (σ6.set i none) H6 s7 → Q s7) →
          wpAny (model X.prog X.w) X.A (do bindName X.env n .none; unbindBehindTheSuite X.env n pos2) (fun _ s7 => Q s7) X.xe s6 := fun {σ6 H6 Q} S6 hq => gone_ok (S6.unsuite ok) hN hi hln hq
      cases f with
      | ret u =>
        obtain ⟨v6, σ6, H6, S6, r6, q6⟩ := hsp
        exact end_ S6 fun s7 J7 => ⟨_, _, _, J7, r6, q6⟩
      | next => obtain ⟨σ6, H6, S6, q6⟩ := hsp; exact end_ S6 fun s7 J7 => ⟨_, _, J7, q6⟩
      | brk => obtain ⟨σ6, H6, S6, q6⟩ := hsp; exact end_ S6 fun s7 J7 => ⟨_, _, J7, q6⟩
      | cont => obtain ⟨σ6, H6, S6, q6⟩ := hsp; exact end_ S6 fun s7 J7 => ⟨_, _, J7, q6⟩
  · cases f with
    | ret u => obtain ⟨v, σ', H', J', r, q⟩ := hsp; exact ⟨v, σ', H', J'.ofTry ok, r, q⟩
    | next => obtain ⟨σ', H', J', q⟩ := hsp; exact wpAny_execs_nil ⟨σ', H', J'.ofTry ok, q⟩
    | brk => obtain ⟨σ', H', J', q⟩ := hsp; exact ⟨σ', H', J'.ofTry ok, q⟩
    | cont => obtain ⟨σ', H', J', q⟩ := hsp; exact ⟨σ', H', J'.ofTry ok, q⟩
end
/-- an if whose test is known -/
theorem if_true_of {c : Bool} {A B : Prop} (hc : c = true) (h : A) : if c = true then A else B := by
  rw [if_pos hc]
  exact h
theorem if_false_of {c : Bool} {A B : Prop} (hc : c = false) (h : B) : if c = true then A else B := by
  rw [hc, if_neg Bool.false_ne_true]
  exact h
/-- an error of the class at S is what «except S» names -/
theorem exm_self {K : PySem.W.Frag} {S : Addr} (h1 : PySem.W.subIn K (.ref S) (.type "BaseException") = some true) (h2 : PySem.W.isClsIn K S = true) (h3 : PySem.W.typeIn K (.ref S) = some (.type "type")) (h4 : PySem.W.subIn K (.ref S) (.ref S) = some true) :
    PySem.W.exmOne K (.ref S) (.ref S) = some true := by
  have e1 : (PySem.W.subIn K (.ref S) (.type "BaseException") == some true) = true := by rw [h1] <;> rfl
  have e2 : ((PySem.W.clsIn K S).isSome && PySem.W.typeIn K (.ref S) == some (.type "type")) = true := by
    have h2' : (PySem.W.clsIn K S).isSome = true := h2
    rw [h2', h3] <;> rfl
  show (if (PySem.W.subIn K (.ref S) (.type "BaseException") == some true) = true then (if ((PySem.W.clsIn K S).isSome && PySem.W.typeIn K (.ref S) == some (.type "type")) = true then PySem.W.subIn K (.ref S) (.ref S) else none) else none) = some true
  rw [if_pos e1, if_pos e2]
  exact h4
/-- an error of the class at S against «except C» -/
theorem exm_other {K : PySem.W.Frag} {S C : Addr} {b : Bool} (h1 : PySem.W.subIn K (.ref C) (.type "BaseException") = some true) (h2 : PySem.W.isClsIn K C = true) (h3 : PySem.W.typeIn K (.ref C) = some (.type "type")) (h4 : PySem.W.subIn K (.ref S) (.ref C) = some b) :
    PySem.W.exmOne K (.ref S) (.ref C) = some b := by
  have e1 : (PySem.W.subIn K (.ref C) (.type "BaseException") == some true) = true := by rw [h1] <;> rfl
  have e2 : ((PySem.W.clsIn K C).isSome && PySem.W.typeIn K (.ref C) == some (.type "type")) = true := by
    have h2' : (PySem.W.clsIn K C).isSome = true := h2
    rw [h2', h3] <;> rfl
  show (if (PySem.W.subIn K (.ref C) (.type "BaseException") == some true) = true then (if ((PySem.W.clsIn K C).isSome && PySem.W.typeIn K (.ref C) == some (.type "type")) = true then PySem.W.subIn K (.ref S) (.ref C) else none) else none) = some b
  rw [if_pos e1, if_pos e2]
  exact h4
end Pe
set_option Elab.async false
set_option linter.all false
set_option maxRecDepth 100000
set_option maxHeartbeats 2000000
/-! The own error with a field, Refused (the block of the guide's skeleton 42, turned to this class). -/
namespace PySem
namespace RefX
open PySem.W PySem.Calls PyProof.Rows PySem.HandSPX
/-! ### the text of __init__ -/
def iA (p1 p2 : Pos) : Arguments := { posonlyargs := [], args := [{ arg := "self", annotation := none, pos := p1 }, { arg := "refusal", annotation := none, pos := p2 }], vararg := none, kwonlyargs := [], kw_defaults := [], kwarg := none, defaults := [] }
def iB (q1 q2 q3 q4 : Pos) : List Stmt := [.Assign [.Attribute (.Name "self" q1) "refusal" q2] (.Name "refusal" q3) q4]
def iS : Scope := { kind := .function, names := [(PySem.Str.ofString "self", .local), (PySem.Str.ofString "refusal", .local)], isGenerator := false, isCoroutine := false, more := [] }
/-- what the written part says of Ref, at C, and of its __init__, at fI -/
structure RefTxt (K : Frag) (mg : Str → Option Value) (C fI : Addr) : Prop where
  gC : mg "Refused" = some (.ref C)
  cls : ∃ nm q N bs bm sn sub ab col dd k0 k1 k2 k3 k5, K.lookup C = some (excClassObj nm q C N bs bm true sn sub ab col dd k0 k1 k2 k3 k5 "ValueError.__new__") ∧ refsVE bm = true
  sa : findIn K (.ref C) "__setattr__" = some (some (.builtin "object.__setattr__"))
  ga : findIn K (.ref C) "__getattribute__" = some (some (.builtin "BaseException.__getattribute__"))
  gg : findIn K (.ref C) "__getattr__" = some none
  noN : findIn K (.ref C) "refusal" = some none
  iC : findIn K (.ref C) "__init__" = some (some (.ref fI))
  tC : typeIn K (.ref fI) = some (.type "function")
  kC : keepIn K (.ref C) = true
  exC : subIn K (.ref C) (.type "BaseException") = some true
  tyC : typeIn K (.ref C) = some (.type "type")
  hdC : hasDictIn K C = true
  te : exmOne K (.ref C) (.ref C) = some true
  fn : ∃ (oc : Value) (od : Option Addr) (doc pm : Value) (an : Option Addr) (cdv ct : Value) (osl : Array (Option Value)) (p1 p2 q1 q2 q3 q4 : Pos),
    K.lookup fI = some ⟨oc, od, .func (fnOf "__init__" "Refused.__init__" (iA p1 p2) (iB q1 q2 q3 q4) iS .none .none doc pm an cdv ct), osl⟩ ∧ codeIn K cdv "Refused.__init__" = true
theorem one_size (v : Value) : [v].length ≤ sizeLine := by
  rw [sizeLine_eq]
  exact (by decide : 1 ≤ 16777216)
theorem kept_but {K : Frag} {h h' : Heap} {x : Addr} (X : K.In h) (hx : K.lookup x = none) (k : ∀ b o, b ≠ x → h.get? b = some o → h'.get? b = some o) : K.In h' := fun a o e =>
  k a o (fun z => by rw [z, hx] at e; cases e) (X a o e)
theorem ldC {M : Model} {s : Shared} {name : Str} {scope : Scope} {L a : Addr} {cd : Value} {m : Str → Option Value} {x : Str} {pos : Pos} {v : Value} {Q : Value → Shared → Prop} {A : Around} {E : Value → Shared → Prop} (hn : s.heap.Ns L m) (hv : m x = some v) (h : Q v s)
    (hk : scope.kind = .function := by rfl) (hl : (envOfC name scope L a cd).kindOf x = some .local := by rfl) (hd : (x == ("__debug__" : Str)) = false := by decide) :
    wpAny M A (eval (.Name x pos) (envOfC name scope L a cd)) Q E s := wpAny_Name (wpAny_loadName_local hk hl hn hv h) hd
/-- what __init__ leaves of a fresh exception at x -/
structure InitEnd (h h' : Heap) (x C dx t1 : Addr) (v : Value) : Prop where
  keep : ∀ b o, b ≠ x → h.get? b = some o → h'.get? b = some o
  obj : h'.get? x = some { cls := .ref C, dict := some dx, data := .fields #[.ref t1, .none, .none, .none, .bool false, .none] }
  dbig : h.objs.size ≤ dx
  dne : dx ≠ x
  ns : h'.Ns1 dx (fun y => if y = "refusal" then some v else none)
/-- a made Ref -/
structure OwnMade (h h' : Heap) (e C d : Addr) (v : Value) : Prop where
  keep : ∀ b o, h.get? b = some o → h'.get? b = some o
  new : h.objs.size ≤ e
  obj : ∃ oe vs, h'.get? e = some oe ∧ oe.cls = .ref C ∧ oe.dict = some d ∧ oe.data = .fields vs ∧ vs[1]? = some .none
  dbig : h.objs.size ≤ d
  dne : d ≠ e
  ns : h'.Ns1 d (fun y => if y = "refusal" then some v else none)
section
variable {prog : Program} {w : World} {A : Around} {E : Value → Shared → Prop} {R : Result → Shared → Prop} {s : Shared} {K : Frag} {mg : Str → Option Value} {C fI : Addr}
theorem low_init (T : RefTxt K mg C fI) {x t0 : Addr} {v : Value} (X : K.In s.heap) (hlim : s.heap.NoLimit) (hx : s.heap.get? x = some (excO C t0)) (hnx : K.lookup x = none) (hroom : A.depth < recursionLimit)
    (hq : ∀ h' tk dx, InitEnd s.heap h' x C dx t0 v → R (.ok (.ret .none)) { s with heap := h', toks := tk }) :
    codeAny (model prog w) A (.call (.ref fI) ⟨[.ref x, v], []⟩) R s := by
  obtain ⟨oc, od, doc, pm, an, cdv, ct, osl, p1, p2, q1, q2, q3, q4, ho, hcd⟩ := T.fn
  obtain ⟨nm, q, N, bs, bm, sn, sub, ab, col, dd, k0, k1, k2, k3, k5, hC, hbm⟩ := T.cls
  have hcl : clsIn K C = some { name := nm, bases := bs, mro := .ref C :: bm, ns := N, qualname := q, hasDict := true, slotNames := sn, subclasses := sub, abstract := ab, collection := col, hasDel := false } := by unfold clsIn; rw [hC] <;> rfl
  refine Att.call_fn (binds := [("self", .ref x), ("refusal", v)]) X hlim ho hcd hroom (BindsTo.of_eq (by first | rfl | with_unfolding_all rfl)) (by first | rfl | decide | with_unfolding_all rfl) (fun s₁ IC => ?_) rfl rfl rfl
  obtain ⟨h₁, tk₁, rfl⟩ := IC.toInCall.same
  have k : ∀ b o, s.heap.get? b = some o → h₁.get? b = some o := IC.toInCall.keep
  have hn := IC.toInCall.ns
  have hxL : s.heap.objs.size ≠ x := Nat.ne_of_gt (Heap.lt_size hx)
  have X₁ : K.In h₁ := X.keeps k
  have hx₁ := k _ _ hx
  -- self.by = by
  show wpAny _ _ (execs _ _) _ _ _
  refine wpAny_execs_cons (plainObj_wpAny_Assign_Attribute ?_)
  refine ldC (v := v) hn (by first | rfl | with_unfolding_all rfl | kernel_rfl) (ldC (v := .ref x) hn (by first | rfl | with_unfolding_all rfl | kernel_rfl) ?_)
  refine set_plain X₁ (ox := excO C t0) (od := none) ⟨hx₁, rfl, rfl, trivial⟩ T.sa ?_
  refine exc_osa X₁ hx₁ hcl (show refsVE (.ref C :: bm) = true from hbm) rfl T.noN (fun h₃ tk₃ dx k₃ dn dne hx₃ hn₃ => ?_)
  show wpAny _ _ (execs _ _) _ _ _
  have z : s.heap.objs.size < h₁.objs.size := hn.lt
  exact wpAny_execs_nil (hq h₃ tk₃ dx ⟨fun b o hb e => k₃ b o hb (k b o e), hx₃, Nat.le_of_lt (Nat.lt_of_lt_of_le z dn), dne, hn₃⟩)
theorem low_made (T : RefTxt K mg C fI) {v : Value} (X : K.In s.heap) (hlim : s.heap.NoLimit) (hroom : A.depth + 1 < recursionLimit)
    (hq : ∀ h' tk e d, OwnMade s.heap h' e C d v → R (.ok (.ret (.ref e))) { s with heap := h', toks := tk }) :
    codeAny (model prog w) A (.call (.ref C) ⟨[v], []⟩) R s := by
  obtain ⟨nm, q, N, bs, bm, sn, sub, ab, col, dd, k0, k1, k2, k3, k5, hC, hbm⟩ := T.cls
  obtain ⟨hp, g, dr, tk, os⟩ := s
  have k : ∀ b o, hp.get? b = some o → ((hp.push (kdv_tup [v])).push (excO C hp.objs.size)).get? b = some o := fun b o e => Heap.get?_push_of_some _ (Heap.get?_push_of_some _ e)
  have hget : ((hp.push (kdv_tup [v])).push (excO C hp.objs.size)).get? (hp.objs.size + 1) = some (excO C hp.objs.size) := by heap_get
  have hnx : K.lookup (hp.objs.size + 1) = none := by
    cases e : K.lookup (hp.objs.size + 1) with
    | none => rfl
    | some o =>
      have z : hp.get? (hp.objs.size + 1) = some o := X _ _ e
      exact absurd (Nat.lt_of_succ_lt (Heap.lt_size z)) (Nat.lt_irrefl _)
  refine call_own F.excBase_ValueError (fun X => refsVE_contains X bm hbm) (X _ _ hC) (looks_findIn X T.iC) (fun self => bind_fn X self T.tC) (one_size v) ?_
  refine low_init (s := ⟨(hp.push (kdv_tup [v])).push (excO C hp.objs.size), g, dr, tk, os⟩) T (X.keeps k) (hlim.keeps k) hget hnx ?_ fun h' tk' dx ⟨k', hx, dn, dne, hns⟩ => ?_
  · show A.depth + 1 < recursionLimit
    exact hroom
  · have old : ∀ b o, hp.get? b = some o → h'.get? b = some o := fun b o e => k' b o (Nat.ne_of_lt (Nat.lt_succ_of_lt (Heap.lt_size e))) (k b o e)
    have z : hp.objs.size + 1 + 1 ≤ dx := by
      first
        | (simpa only [Heap.size_push] using dn)
        | exact dn
        | (have q := dn; rw [Heap.size_push, Heap.size_push] at q; exact q)
    exact ⟨rfl, hq h' tk' (hp.objs.size + 1) dx ⟨old, Nat.le_succ _, ⟨_, _, hx, rfl, rfl, rfl, rfl⟩, Nat.le_trans (Nat.le_trans (Nat.le_succ _) (Nat.le_succ _)) z, dne, hns⟩⟩
end
end RefX
end PySem
namespace L2
open PySem PySem.Spec PyProof.Rows
theorem relO_low {v : V} {v' : Value} (r : RelV v v') (f : Str) : RelO (List.lookup f [(("refusal" : Str), v)]) (if f = "refusal" then some v' else none) := by
  by_cases hw : f = "refusal"
  · subst hw
    rw [if_pos rfl]
    have q : List.lookup ("refusal" : Str) [(("refusal" : Str), v)] = some v := by simp [List.lookup]
    rw [q]
    exact r
  · rw [if_neg hw]
    have qw : (f == ("refusal" : Str)) = false := by simpa using hw
    have q2 : List.lookup f [(("refusal" : Str), v)] = none := by simp [List.lookup, qw]
    rw [q2]
    trivial
section
variable {X : Cx} {C fI : Addr}
/-- Ref(e) -/
def tMkRef (C : Addr) (ta : TA) : St → Hp → XK → Prop := fun σ H Q => ta σ H fun vs H1 => ∃ v, vs = [v] ∧ ∀ d, H1 d = none → Q (.ref C) (some d) (upd H1 d (.xd [(("refusal" : Str), v)]))
theorem pmk_low {a : Expr} {ta : TA} {p pos : Pos} {k : Nat} (T : PySem.RefX.RefTxt X.K X.mg C fI) (hr : Room k X.A) (ha : PA X [a] ta) (hg : Gl X "Refused" := by rfl)
    (he : starEach (a :: []) X.env = (false, eval a X.env) :: starEach [] X.env := by rfl) (hpl : (backTo pos (starEach [] X.env)).any (·.1) = false := by rfl) :
    PMk X (.Call (.Name "Refused" p) [a] [] pos) (tMkRef C ta) := by
  intro pins s σ H Q I h
  refine wpAny_Call_Name_kw (ld_glob I hg T.gC ?_)
  refine PySem.W.callWith_K (h₀ := X.base) I.ok.mod.kin T.kC (thn (ha.run pos pins s σ H _ I h) fun us s1 hh => ?_) he hpl
  obtain ⟨vs, H1, I1, r1, v, ev, q1⟩ := hh
  subst ev
  refine ⟨I1.kIn, ?_⟩
  cases r1 with
  | cons rv rn =>
    rename_i v' us'
    cases rn
    show wpAny _ _ (call (.ref C) [v']) _ _ _
    have hlim := I1.nolimit
    obtain ⟨hp, g, dr, tk, os⟩ := s1
    refine wpAny_call (PySem.RefX.low_made T I1.kIn hlim (by have := hr.dp; omega) fun h' tk' e d M => ?_)
    show MkP X pins σ Q (.ref e) ⟨h', g, dr, tk', os⟩
    obtain ⟨oe, fv, hoe, hc, hd, hdat, h1⟩ := M.obj
    have hns := M.ns
    obtain ⟨G', g1, g2⟩ := restrict h' fun b => decide (b ≠ e)
    have gk : ∀ b, b ≠ e → G'.get? b = h'.get? b := fun b hb => g1 b (decide_eq_true hb)
    have ge : G'.get? e = none := g2 e (by simp)
    have old : ∀ b o, hp.get? b = some o → G'.get? b = some o := fun b o q => (gk b (Nat.ne_of_lt (Nat.lt_of_lt_of_le (Heap.lt_size q) M.new))).trans (M.keep b o q)
    have ob : ObjOk X.prog X.w (upd H1 d (.xd [(("refusal" : Str), v)])) G' d (.xd [(("refusal" : Str), v)]) :=
      ⟨_, hns.at (fun o q => (gk d M.dne).trans q), fun f => relO_low rv f⟩
    have J : Inv X pins σ (upd H1 d (.xd [(("refusal" : Str), v)])) ⟨G', g, dr, tk', os⟩ := I1.laid (t' := tk') old M.dbig ob
    refine ⟨e, oe, fv, ⟨G', g, dr, tk', os⟩, _, .ref C, some d, rfl, J, fun b o q => ?_, ge, hoe, ⟨hc, hd⟩, hdat, h1, ?_, rfl, I1.bare, raises_own T.exC T.tyC, q1 d (I1.hok.fresh M.dbig)⟩
    · by_cases hb : b = e
      · have q' : G'.get? b = some o := q
        rw [hb, ge] at q'; cases q'
      · exact (gk b hb).symm.trans q
    · rw [upd_ne (Ne.symm M.dne)]
      exact I1.hok.fresh M.new
/-- raise Ref(e) -/
def tRaiseRef (C : Addr) (W : WX) (ta : TA) : TS := fun _ σ H => tMkRef C ta σ H fun cls d H' => W cls d σ H'
theorem ps_raiseRef {a : Expr} {ta : TA} {W : WX} {p pos pos2 : Pos} {k : Nat} (hc : X.calm = true) (T : PySem.RefX.RefTxt X.K X.mg C fI) (hr : Room k X.A) (tk : Takes X W) (ha : PA X [a] ta) (hg : Gl X "Refused" := by rfl)
    (he : starEach (a :: []) X.env = (false, eval a X.env) :: starEach [] X.env := by rfl) (hpl : (backTo pos (starEach [] X.env)).any (·.1) = false := by rfl) :
    PS X (.Raise (some (.Call (.Name "Refused" p) [a] [] pos)) none pos2) (tRaiseRef C W ta) := ps_raise hc tk (pmk_low T hr ha hg he hpl)
/-- low.by, low the exception that the suite holds (at a; its class cls, its dict d) -/
def tByRef (C : Addr) (a : Addr) (cls : Value) (d : Option Addr) (te : TE) : TE := fun σ H Q => te σ H fun x H1 => x = .ref a ∧ cls = .ref C ∧ ∃ (dd : Addr) (v : V), d = some dd ∧ H1 dd = some (.xd [(("refusal" : Str), v)]) ∧ Q v H1
theorem pe_byRef {a : Addr} {oe : Obj} {cls : Value} {d : Option Addr} {pn : List (Addr × Obj)} {e : Expr} {te : TE} {pos : Pos} (T : PySem.RefX.RefTxt X.K X.mg C fI) (hz : Zc cls d oe) (hf : ∃ vs, oe.data = .fields vs) (he : PE (X.suite a ((a, oe) :: pn)) e te)
    (hb : attributeBase e "refusal" X.env (eval e X.env) = eval e X.env := by rfl) :
    PE (X.suite a ((a, oe) :: pn)) (.Attribute e "refusal" pos) (tByRef C a cls d te) := by
  refine ⟨fun pins s σ H Q I h => ?_⟩
  refine attr_of hb (thn (he.run pins s σ H _ I h) fun u s1 hh => ?_)
  obtain ⟨x, H1, I1, rx, ex, ec, dd, v, ed, ea, q⟩ := hh
  subst ex
  obtain rfl : u = Value.ref a := rx
  subst ec
  subst ed
  obtain ⟨ha, _⟩ := I1.pin (a, oe) (List.mem_append_left _ List.mem_cons_self)
  obtain ⟨vs, hd⟩ := hf
  have hx : ObjOk X.prog X.w H1 s1.heap dd (.xd [(("refusal" : Str), v)]) := I1.hok dd _ ea
  obtain ⟨mA, hns, hr⟩ := hx
  obtain ⟨od, ho, hl⟩ := lookIn_ns hns
  have l : List.lookup ("refusal" : Str) [(("refusal" : Str), v)] = some v := by simp [List.lookup]
  obtain ⟨u, hu, ru⟩ := RelO.some_of (v := v) (o := mA "refusal") (by rw [← l]; exact hr "refusal")
  have J : PySem.W.InstAt s1.heap a oe C (some od) := ⟨ha, hz.1, by unfold PySem.W.notCls; rw [hd] <;> rfl, by rw [hz.2]; exact ho⟩
  exact HandSPX.exc_get I1.kIn J T.ga T.gg T.exC (PySem.W.findObj_own T.hdC T.noN rfl (by rw [hl, hu])) (handed_of ru) ⟨v, H1, I1.tok _, ru, q⟩
end
end L2
set_option Elab.async false
set_option linter.all false
set_option maxRecDepth 100000
set_option maxHeartbeats 2000000
/-! The text by places, the scopes, and what the top has written (printed by gen.py). -/
namespace Pe
open PySem PySem.Spec PyProof.Rows L2
def top (i : Nat) : Stmt := PySem.Challenge.pw_programends_s01_answers.main.body.getD i (.Pass ⟨0, 0, 0, 0⟩)
abbrev s_need_range : Stmt := (top 23)
abbrev s_Deed_init : Stmt := (inClass (top 24) 0)
abbrev s_Deed_as_numbers : Stmt := (inClass (top 24) 1)
abbrev s_Piece_init : Stmt := (inClass (top 25) 0)
abbrev s_Piece_many : Stmt := (inClass (top 25) 1)
abbrev s_Piece_deep : Stmt := (inClass (top 25) 2)
abbrev s_Piece_as_numbers : Stmt := (inClass (top 25) 3)
abbrev s_many_pieces : Stmt := (top 26)
abbrev s_deepest : Stmt := (top 27)
abbrev s_row_as_numbers : Stmt := (top 28)
abbrev s_in_order : Stmt := (top 29)
abbrev s_Reader_init : Stmt := (inClass (top 30) 0)
abbrev s_Reader_take : Stmt := (inClass (top 30) 1)
abbrev s_Reader_must_end : Stmt := (inClass (top 30) 2)
abbrev s_Reader_next_deed : Stmt := (inClass (top 30) 3)
abbrev s_Reader_piece : Stmt := (inClass (top 30) 4)
abbrev s_Reader_pieces : Stmt := (inClass (top 30) 5)
abbrev s_read_program : Stmt := (top 31)
abbrev s_as_program : Stmt := (top 32)
abbrev s_read_deeds : Stmt := (top 39)
abbrev s_fewer : Stmt := (top 40)
abbrev s_cleaned_once : Stmt := (top 41)
abbrev s_cleaned : Stmt := (top 42)
abbrev s_told : Stmt := (top 43)
abbrev s_deeds_of : Stmt := (top 50)
abbrev s_written : Stmt := (top 51)
abbrev s_looked_at : Stmt := (top 52)
abbrev s_may_change_rows : Stmt := (top 53)
abbrev s_Clipboard_init : Stmt := (inClass (top 54) 0)
abbrev s_Clipboard_go_through : Stmt := (inClass (top 54) 1)
abbrev s_may_read_old : Stmt := (top 55)
abbrev s_rest_of_deed : Stmt := (top 56)
abbrev s_rest_of : Stmt := (top 57)
abbrev s_rest_of_row : Stmt := (top 58)
abbrev s_comes_nearer : Stmt := (top 59)
abbrev s_first_not_nearer : Stmt := (top 60)
abbrev s_most_deeds : Stmt := (top 61)
abbrev s_is_accepted : Stmt := (top 62)
abbrev s_first_against : Stmt := (top 63)
abbrev s_Table_init : Stmt := (inClass (top 72) 0)
abbrev s_Table_copied : Stmt := (inClass (top 72) 1)
abbrev s_Table_as_numbers : Stmt := (inClass (top 72) 2)
abbrev s_Table_is_behind : Stmt := (inClass (top 72) 3)
abbrev s_Table_here : Stmt := (inClass (top 72) 4)
abbrev s_Table_found_row : Stmt := (inClass (top 72) 5)
abbrev s_Table_put : Stmt := (inClass (top 72) 6)
abbrev s_Table_move : Stmt := (inClass (top 72) 7)
abbrev s_Table_double : Stmt := (inClass (top 72) 8)
abbrev s_Table_do : Stmt := (inClass (top 72) 9)
abbrev s_read_table : Stmt := (top 73)
abbrev s_Run_init : Stmt := (inClass (top 78) 0)
abbrev s_Run_is_over : Stmt := (inClass (top 78) 1)
abbrev s_Run_do_deed : Stmt := (inClass (top 78) 2)
abbrev s_Run_do_to_end : Stmt := (inClass (top 78) 3)
abbrev s_Run_holds : Stmt := (inClass (top 78) 4)
abbrev s_Run_do_piece : Stmt := (inClass (top 78) 5)
abbrev s_Run_do_row : Stmt := (inClass (top 78) 6)
abbrev s_run_of : Stmt := (top 79)
abbrev s_Refused_init : Stmt := (inClass (top 86) 0)
abbrev s_ask : Stmt := (top 87)
abbrev s_counted : Stmt := (top 88)
abbrev s_fields_of : Stmt := (top 89)
abbrev s_Desk_init : Stmt := (inClass (top 90) 0)
abbrev s_Desk_load : Stmt := (inClass (top 90) 1)
abbrev s_Desk_touches : Stmt := (inClass (top 90) 2)
abbrev s_Desk_ends : Stmt := (inClass (top 90) 3)
abbrev s_Desk_allowed : Stmt := (inClass (top 90) 4)
abbrev s_Desk_run : Stmt := (inClass (top 90) 5)
abbrev s_Desk_changed : Stmt := (inClass (top 90) 6)
abbrev s_Desk_join : Stmt := (inClass (top 90) 7)
abbrev s_Desk_clean : Stmt := (inClass (top 90) 8)
abbrev s_Desk_same : Stmt := (inClass (top 90) 9)
abbrev s_Desk_answer : Stmt := (inClass (top 90) 10)
abbrev s_answered : Stmt := (top 91)
abbrev s_answers : Stmt := (top 92)
abbrev N_need_range : List Str := ["number", "least", "most"]
abbrev P_need_range : List Str := ["number", "least", "most"]
theorem sc_need_range : FnScope N_need_range P_need_range (defScope s_need_range) := ⟨rfl, rfl, rfl, by decide +kernel, rfl, by decide +kernel, by decide +kernel⟩
abbrev N_Deed_init : List Str := ["self", "sort_of", "field", "number", "step"]
abbrev P_Deed_init : List Str := ["self", "sort_of", "field", "number", "step"]
theorem sc_Deed_init : FnScope N_Deed_init P_Deed_init (defScope s_Deed_init) := ⟨rfl, rfl, rfl, by decide +kernel, rfl, by decide +kernel, by decide +kernel⟩
abbrev N_Deed_as_numbers : List Str := ["self", "found"]
abbrev P_Deed_as_numbers : List Str := ["self"]
theorem sc_Deed_as_numbers : FnScope N_Deed_as_numbers P_Deed_as_numbers (defScope s_Deed_as_numbers) := ⟨rfl, rfl, rfl, by decide +kernel, rfl, by decide +kernel, by decide +kernel⟩
abbrev N_Piece_init : List Str := ["self", "kind", "numbers", "deed", "inner"]
abbrev P_Piece_init : List Str := ["self", "kind", "numbers", "deed", "inner"]
theorem sc_Piece_init : FnScope N_Piece_init P_Piece_init (defScope s_Piece_init) := ⟨rfl, rfl, rfl, by decide +kernel, rfl, by decide +kernel, by decide +kernel⟩
abbrev N_Piece_many : List Str := ["self"]
abbrev P_Piece_many : List Str := ["self"]
theorem sc_Piece_many : FnScope N_Piece_many P_Piece_many (defScope s_Piece_many) := ⟨rfl, rfl, rfl, by decide +kernel, rfl, by decide +kernel, by decide +kernel⟩
abbrev N_Piece_deep : List Str := ["self"]
abbrev P_Piece_deep : List Str := ["self"]
theorem sc_Piece_deep : FnScope N_Piece_deep P_Piece_deep (defScope s_Piece_deep) := ⟨rfl, rfl, rfl, by decide +kernel, rfl, by decide +kernel, by decide +kernel⟩
abbrev N_Piece_as_numbers : List Str := ["self", "found"]
abbrev P_Piece_as_numbers : List Str := ["self"]
theorem sc_Piece_as_numbers : FnScope N_Piece_as_numbers P_Piece_as_numbers (defScope s_Piece_as_numbers) := ⟨rfl, rfl, rfl, by decide +kernel, rfl, by decide +kernel, by decide +kernel⟩
abbrev N_many_pieces : List Str := ["row", "piece"]
abbrev P_many_pieces : List Str := ["row"]
theorem sc_many_pieces : FnScope N_many_pieces P_many_pieces (defScope s_many_pieces) := ⟨rfl, rfl, rfl, by decide +kernel, rfl, by decide +kernel, by decide +kernel⟩
abbrev N_deepest : List Str := ["row", "piece"]
abbrev P_deepest : List Str := ["row"]
theorem sc_deepest : FnScope N_deepest P_deepest (defScope s_deepest) := ⟨rfl, rfl, rfl, by decide +kernel, rfl, by decide +kernel, by decide +kernel⟩
abbrev N_row_as_numbers : List Str := ["row", "found", "piece"]
abbrev P_row_as_numbers : List Str := ["row"]
theorem sc_row_as_numbers : FnScope N_row_as_numbers P_row_as_numbers (defScope s_row_as_numbers) := ⟨rfl, rfl, rfl, by decide +kernel, rfl, by decide +kernel, by decide +kernel⟩
abbrev N_in_order : List Str := ["row", "found", "piece"]
abbrev P_in_order : List Str := ["row"]
theorem sc_in_order : FnScope N_in_order P_in_order (defScope s_in_order) := ⟨rfl, rfl, rfl, by decide +kernel, rfl, by decide +kernel, by decide +kernel⟩
abbrev N_Reader_init : List Str := ["self", "numbers"]
abbrev P_Reader_init : List Str := ["self", "numbers"]
theorem sc_Reader_init : FnScope N_Reader_init P_Reader_init (defScope s_Reader_init) := ⟨rfl, rfl, rfl, by decide +kernel, rfl, by decide +kernel, by decide +kernel⟩
abbrev N_Reader_take : List Str := ["self", "least", "most", "found"]
abbrev P_Reader_take : List Str := ["self", "least", "most"]
theorem sc_Reader_take : FnScope N_Reader_take P_Reader_take (defScope s_Reader_take) := ⟨rfl, rfl, rfl, by decide +kernel, rfl, by decide +kernel, by decide +kernel⟩
abbrev N_Reader_must_end : List Str := ["self"]
abbrev P_Reader_must_end : List Str := ["self"]
theorem sc_Reader_must_end : FnScope N_Reader_must_end P_Reader_must_end (defScope s_Reader_must_end) := ⟨rfl, rfl, rfl, by decide +kernel, rfl, by decide +kernel, by decide +kernel⟩
abbrev N_Reader_next_deed : List Str := ["self", "with_step", "sort_of", "field", "number", "step"]
abbrev P_Reader_next_deed : List Str := ["self", "with_step"]
theorem sc_Reader_next_deed : FnScope N_Reader_next_deed P_Reader_next_deed (defScope s_Reader_next_deed) := ⟨rfl, rfl, rfl, by decide +kernel, rfl, by decide +kernel, by decide +kernel⟩
abbrev N_Reader_piece : List Str := ["self", "deep", "kind", "numbers"]
abbrev P_Reader_piece : List Str := ["self", "deep"]
theorem sc_Reader_piece : FnScope N_Reader_piece P_Reader_piece (defScope s_Reader_piece) := ⟨rfl, rfl, rfl, by decide +kernel, rfl, by decide +kernel, by decide +kernel⟩
abbrev N_Reader_pieces : List Str := ["self", "deep", "many", "k"]
abbrev P_Reader_pieces : List Str := ["self", "deep"]
theorem sc_Reader_pieces : FnScope N_Reader_pieces P_Reader_pieces (defScope s_Reader_pieces) := ⟨rfl, rfl, rfl, by decide +kernel, rfl, by decide +kernel, by decide +kernel⟩
abbrev N_read_program : List Str := ["numbers", "reader", "found"]
abbrev P_read_program : List Str := ["numbers"]
theorem sc_read_program : FnScope N_read_program P_read_program (defScope s_read_program) := ⟨rfl, rfl, rfl, by decide +kernel, rfl, by decide +kernel, by decide +kernel⟩
abbrev N_as_program : List Str := ["deeds", "deed"]
abbrev P_as_program : List Str := ["deeds"]
theorem sc_as_program : FnScope N_as_program P_as_program (defScope s_as_program) := ⟨rfl, rfl, rfl, by decide +kernel, rfl, by decide +kernel, by decide +kernel⟩
abbrev N_read_deeds : List Str := ["numbers", "reader", "many", "found", "k"]
abbrev P_read_deeds : List Str := ["numbers"]
theorem sc_read_deeds : FnScope N_read_deeds P_read_deeds (defScope s_read_deeds) := ⟨rfl, rfl, rfl, by decide +kernel, rfl, by decide +kernel, by decide +kernel⟩
abbrev N_fewer : List Str := ["one", "other", "pair", "number"]
abbrev P_fewer : List Str := ["one", "other"]
theorem sc_fewer : FnScope N_fewer P_fewer (defScope s_fewer) := ⟨rfl, rfl, rfl, by decide +kernel, rfl, by decide +kernel, by decide +kernel⟩
abbrev N_cleaned_once : List Str := ["deeds", "k", "row"]
abbrev P_cleaned_once : List Str := ["deeds"]
theorem sc_cleaned_once : FnScope N_cleaned_once P_cleaned_once (defScope s_cleaned_once) := ⟨rfl, rfl, rfl, by decide +kernel, rfl, by decide +kernel, by decide +kernel⟩
abbrev N_cleaned : List Str := ["deeds", "there"]
abbrev P_cleaned : List Str := ["deeds"]
theorem sc_cleaned : FnScope N_cleaned P_cleaned (defScope s_cleaned) := ⟨rfl, rfl, rfl, by decide +kernel, rfl, by decide +kernel, by decide +kernel⟩
abbrev N_told : List Str := ["deeds", "found", "deed"]
abbrev P_told : List Str := ["deeds"]
theorem sc_told : FnScope N_told P_told (defScope s_told) := ⟨rfl, rfl, rfl, by decide +kernel, rfl, by decide +kernel, by decide +kernel⟩
abbrev N_deeds_of : List Str := ["program", "piece"]
abbrev P_deeds_of : List Str := ["program"]
theorem sc_deeds_of : FnScope N_deeds_of P_deeds_of (defScope s_deeds_of) := ⟨rfl, rfl, rfl, by decide +kernel, rfl, by decide +kernel, by decide +kernel⟩
abbrev N_written : List Str := ["program", "fields", "deed", "field"]
abbrev P_written : List Str := ["program"]
theorem sc_written : FnScope N_written P_written (defScope s_written) := ⟨rfl, rfl, rfl, by decide +kernel, rfl, by decide +kernel, by decide +kernel⟩
abbrev N_looked_at : List Str := ["program", "fields", "deed", "field", "piece"]
abbrev P_looked_at : List Str := ["program"]
theorem sc_looked_at : FnScope N_looked_at P_looked_at (defScope s_looked_at) := ⟨rfl, rfl, rfl, by decide +kernel, rfl, by decide +kernel, by decide +kernel⟩
abbrev N_may_change_rows : List Str := ["program", "deed"]
abbrev P_may_change_rows : List Str := ["program"]
theorem sc_may_change_rows : FnScope N_may_change_rows P_may_change_rows (defScope s_may_change_rows) := ⟨rfl, rfl, rfl, by decide +kernel, rfl, by decide +kernel, by decide +kernel⟩
abbrev N_Clipboard_init : List Str := ["self"]
abbrev P_Clipboard_init : List Str := ["self"]
theorem sc_Clipboard_init : FnScope N_Clipboard_init P_Clipboard_init (defScope s_Clipboard_init) := ⟨rfl, rfl, rfl, by decide +kernel, rfl, by decide +kernel, by decide +kernel⟩
abbrev N_Clipboard_go_through : List Str := ["self", "row", "sure", "piece", "inner"]
abbrev P_Clipboard_go_through : List Str := ["self", "row", "sure"]
theorem sc_Clipboard_go_through : FnScope N_Clipboard_go_through P_Clipboard_go_through (defScope s_Clipboard_go_through) := ⟨rfl, rfl, rfl, by decide +kernel, rfl, by decide +kernel, by decide +kernel⟩
abbrev N_may_read_old : List Str := ["program", "found"]
abbrev P_may_read_old : List Str := ["program"]
theorem sc_may_read_old : FnScope N_may_read_old P_may_read_old (defScope s_may_read_old) := ⟨rfl, rfl, rfl, by decide +kernel, rfl, by decide +kernel, by decide +kernel⟩
abbrev N_rest_of_deed : List Str := ["deed"]
abbrev P_rest_of_deed : List Str := ["deed"]
theorem sc_rest_of_deed : FnScope N_rest_of_deed P_rest_of_deed (defScope s_rest_of_deed) := ⟨rfl, rfl, rfl, by decide +kernel, rfl, by decide +kernel, by decide +kernel⟩
abbrev N_rest_of : List Str := ["piece", "inner"]
abbrev P_rest_of : List Str := ["piece"]
theorem sc_rest_of : FnScope N_rest_of P_rest_of (defScope s_rest_of) := ⟨rfl, rfl, rfl, by decide +kernel, rfl, by decide +kernel, by decide +kernel⟩
abbrev N_rest_of_row : List Str := ["row", "found", "piece"]
abbrev P_rest_of_row : List Str := ["row"]
theorem sc_rest_of_row : FnScope N_rest_of_row P_rest_of_row (defScope s_rest_of_row) := ⟨rfl, rfl, rfl, by decide +kernel, rfl, by decide +kernel, by decide +kernel⟩
abbrev N_comes_nearer : List Str := ["piece", "rest"]
abbrev P_comes_nearer : List Str := ["piece"]
theorem sc_comes_nearer : FnScope N_comes_nearer P_comes_nearer (defScope s_comes_nearer) := ⟨rfl, rfl, rfl, by decide +kernel, rfl, by decide +kernel, by decide +kernel⟩
abbrev N_first_not_nearer : List Str := ["program", "k", "piece"]
abbrev P_first_not_nearer : List Str := ["program"]
theorem sc_first_not_nearer : FnScope N_first_not_nearer P_first_not_nearer (defScope s_first_not_nearer) := ⟨rfl, rfl, rfl, by decide +kernel, rfl, by decide +kernel, by decide +kernel⟩
abbrev N_most_deeds : List Str := ["row", "total", "piece"]
abbrev P_most_deeds : List Str := ["row"]
theorem sc_most_deeds : FnScope N_most_deeds P_most_deeds (defScope s_most_deeds) := ⟨rfl, rfl, rfl, by decide +kernel, rfl, by decide +kernel, by decide +kernel⟩
abbrev N_is_accepted : List Str := ["program"]
abbrev P_is_accepted : List Str := ["program"]
theorem sc_is_accepted : FnScope N_is_accepted P_is_accepted (defScope s_is_accepted) := ⟨rfl, rfl, rfl, by decide +kernel, rfl, by decide +kernel, by decide +kernel⟩
abbrev N_first_against : List Str := ["program", "may_change", "fields", "k", "piece"]
abbrev P_first_against : List Str := ["program", "may_change", "fields"]
theorem sc_first_against : FnScope N_first_against P_first_against (defScope s_first_against) := ⟨rfl, rfl, rfl, by decide +kernel, rfl, by decide +kernel, by decide +kernel⟩
abbrev N_Table_init : List Str := ["self", "rows", "cursor", "clipboard"]
abbrev P_Table_init : List Str := ["self", "rows", "cursor", "clipboard"]
theorem sc_Table_init : FnScope N_Table_init P_Table_init (defScope s_Table_init) := ⟨rfl, rfl, rfl, by decide +kernel, rfl, by decide +kernel, by decide +kernel⟩
abbrev N_Table_copied : List Str := ["self", "row"]
abbrev P_Table_copied : List Str := ["self"]
theorem sc_Table_copied : FnScope N_Table_copied P_Table_copied (defScope s_Table_copied) := ⟨rfl, rfl, rfl, by decide +kernel, rfl, by decide +kernel, by decide +kernel⟩
abbrev N_Table_as_numbers : List Str := ["self", "found", "row"]
abbrev P_Table_as_numbers : List Str := ["self"]
theorem sc_Table_as_numbers : FnScope N_Table_as_numbers P_Table_as_numbers (defScope s_Table_as_numbers) := ⟨rfl, rfl, rfl, by decide +kernel, rfl, by decide +kernel, by decide +kernel⟩
abbrev N_Table_is_behind : List Str := ["self"]
abbrev P_Table_is_behind : List Str := ["self"]
theorem sc_Table_is_behind : FnScope N_Table_is_behind P_Table_is_behind (defScope s_Table_is_behind) := ⟨rfl, rfl, rfl, by decide +kernel, rfl, by decide +kernel, by decide +kernel⟩
abbrev N_Table_here : List Str := ["self"]
abbrev P_Table_here : List Str := ["self"]
theorem sc_Table_here : FnScope N_Table_here P_Table_here (defScope s_Table_here) := ⟨rfl, rfl, rfl, by decide +kernel, rfl, by decide +kernel, by decide +kernel⟩
abbrev N_Table_found_row : List Str := ["self", "field", "number", "k"]
abbrev P_Table_found_row : List Str := ["self", "field", "number"]
theorem sc_Table_found_row : FnScope N_Table_found_row P_Table_found_row (defScope s_Table_found_row) := ⟨rfl, rfl, rfl, by decide +kernel, rfl, by decide +kernel, by decide +kernel⟩
abbrev N_Table_put : List Str := ["self", "field", "number", "row"]
abbrev P_Table_put : List Str := ["self", "field", "number"]
theorem sc_Table_put : FnScope N_Table_put P_Table_put (defScope s_Table_put) := ⟨rfl, rfl, rfl, by decide +kernel, rfl, by decide +kernel, by decide +kernel⟩
abbrev N_Table_move : List Str := ["self", "deed", "number", "k"]
abbrev P_Table_move : List Str := ["self", "deed", "number"]
theorem sc_Table_move : FnScope N_Table_move P_Table_move (defScope s_Table_move) := ⟨rfl, rfl, rfl, by decide +kernel, rfl, by decide +kernel, by decide +kernel⟩
abbrev N_Table_double : List Str := ["self"]
abbrev P_Table_double : List Str := ["self"]
theorem sc_Table_double : FnScope N_Table_double P_Table_double (defScope s_Table_double) := ⟨rfl, rfl, rfl, by decide +kernel, rfl, by decide +kernel, by decide +kernel⟩
abbrev N_Table_do : List Str := ["self", "deed", "number"]
abbrev P_Table_do : List Str := ["self", "deed", "number"]
theorem sc_Table_do : FnScope N_Table_do P_Table_do (defScope s_Table_do) := ⟨rfl, rfl, rfl, by decide +kernel, rfl, by decide +kernel, by decide +kernel⟩
abbrev N_read_table : List Str := ["numbers", "reader", "many", "rows", "k", "cursor", "clipboard", "field"]
abbrev P_read_table : List Str := ["numbers"]
theorem sc_read_table : FnScope N_read_table P_read_table (defScope s_read_table) := ⟨rfl, rfl, rfl, by decide +kernel, rfl, by decide +kernel, by decide +kernel⟩
abbrev N_Run_init : List Str := ["self", "table"]
abbrev P_Run_init : List Str := ["self", "table"]
theorem sc_Run_init : FnScope N_Run_init P_Run_init (defScope s_Run_init) := ⟨rfl, rfl, rfl, by decide +kernel, rfl, by decide +kernel, by decide +kernel⟩
abbrev N_Run_is_over : List Str := ["self"]
abbrev P_Run_is_over : List Str := ["self"]
theorem sc_Run_is_over : FnScope N_Run_is_over P_Run_is_over (defScope s_Run_is_over) := ⟨rfl, rfl, rfl, by decide +kernel, rfl, by decide +kernel, by decide +kernel⟩
abbrev N_Run_do_deed : List Str := ["self", "deed", "number"]
abbrev P_Run_do_deed : List Str := ["self", "deed", "number"]
theorem sc_Run_do_deed : FnScope N_Run_do_deed P_Run_do_deed (defScope s_Run_do_deed) := ⟨rfl, rfl, rfl, by decide +kernel, rfl, by decide +kernel, by decide +kernel⟩
abbrev N_Run_do_to_end : List Str := ["self", "row", "rounds"]
abbrev P_Run_do_to_end : List Str := ["self", "row"]
theorem sc_Run_do_to_end : FnScope N_Run_do_to_end P_Run_do_to_end (defScope s_Run_do_to_end) := ⟨rfl, rfl, rfl, by decide +kernel, rfl, by decide +kernel, by decide +kernel⟩
abbrev N_Run_holds : List Str := ["self", "numbers"]
abbrev P_Run_holds : List Str := ["self", "numbers"]
theorem sc_Run_holds : FnScope N_Run_holds P_Run_holds (defScope s_Run_holds) := ⟨rfl, rfl, rfl, by decide +kernel, rfl, by decide +kernel, by decide +kernel⟩
abbrev N_Run_do_piece : List Str := ["self", "piece", "number", "k"]
abbrev P_Run_do_piece : List Str := ["self", "piece", "number"]
theorem sc_Run_do_piece : FnScope N_Run_do_piece P_Run_do_piece (defScope s_Run_do_piece) := ⟨rfl, rfl, rfl, by decide +kernel, rfl, by decide +kernel, by decide +kernel⟩
abbrev N_Run_do_row : List Str := ["self", "row", "number", "piece"]
abbrev P_Run_do_row : List Str := ["self", "row", "number"]
theorem sc_Run_do_row : FnScope N_Run_do_row P_Run_do_row (defScope s_Run_do_row) := ⟨rfl, rfl, rfl, by decide +kernel, rfl, by decide +kernel, by decide +kernel⟩
abbrev N_run_of : List Str := ["program", "table", "found"]
abbrev P_run_of : List Str := ["program", "table"]
theorem sc_run_of : FnScope N_run_of P_run_of (defScope s_run_of) := ⟨rfl, rfl, rfl, by decide +kernel, rfl, by decide +kernel, by decide +kernel⟩
abbrev N_Refused_init : List Str := ["self", "refusal"]
abbrev P_Refused_init : List Str := ["self", "refusal"]
theorem sc_Refused_init : FnScope N_Refused_init P_Refused_init (defScope s_Refused_init) := ⟨rfl, rfl, rfl, by decide +kernel, rfl, by decide +kernel, by decide +kernel⟩
abbrev N_ask : List Str := ["good", "refusal"]
abbrev P_ask : List Str := ["good", "refusal"]
theorem sc_ask : FnScope N_ask P_ask (defScope s_ask) := ⟨rfl, rfl, rfl, by decide +kernel, rfl, by decide +kernel, by decide +kernel⟩
abbrev N_counted : List Str := ["row"]
abbrev P_counted : List Str := ["row"]
theorem sc_counted : FnScope N_counted P_counted (defScope s_counted) := ⟨rfl, rfl, rfl, by decide +kernel, rfl, by decide +kernel, by decide +kernel⟩
abbrev N_fields_of : List Str := ["numbers", "reader", "many", "found", "k"]
abbrev P_fields_of : List Str := ["numbers"]
theorem sc_fields_of : FnScope N_fields_of P_fields_of (defScope s_fields_of) := ⟨rfl, rfl, rfl, by decide +kernel, rfl, by decide +kernel, by decide +kernel⟩
abbrev N_Desk_init : List Str := ["self"]
abbrev P_Desk_init : List Str := ["self"]
theorem sc_Desk_init : FnScope N_Desk_init P_Desk_init (defScope s_Desk_init) := ⟨rfl, rfl, rfl, by decide +kernel, rfl, by decide +kernel, by decide +kernel⟩
abbrev N_Desk_load : List Str := ["self", "numbers"]
abbrev P_Desk_load : List Str := ["self", "numbers"]
theorem sc_Desk_load : FnScope N_Desk_load P_Desk_load (defScope s_Desk_load) := ⟨rfl, rfl, rfl, by decide +kernel, rfl, by decide +kernel, by decide +kernel⟩
abbrev N_Desk_touches : List Str := ["self", "row"]
abbrev P_Desk_touches : List Str := ["self"]
theorem sc_Desk_touches : FnScope N_Desk_touches P_Desk_touches (defScope s_Desk_touches) := ⟨rfl, rfl, rfl, by decide +kernel, rfl, by decide +kernel, by decide +kernel⟩
abbrev N_Desk_ends : List Str := ["self", "first"]
abbrev P_Desk_ends : List Str := ["self"]
theorem sc_Desk_ends : FnScope N_Desk_ends P_Desk_ends (defScope s_Desk_ends) := ⟨rfl, rfl, rfl, by decide +kernel, rfl, by decide +kernel, by decide +kernel⟩
abbrev N_Desk_allowed : List Str := ["self", "rows", "numbers", "first"]
abbrev P_Desk_allowed : List Str := ["self", "rows", "numbers"]
theorem sc_Desk_allowed : FnScope N_Desk_allowed P_Desk_allowed (defScope s_Desk_allowed) := ⟨rfl, rfl, rfl, by decide +kernel, rfl, by decide +kernel, by decide +kernel⟩
abbrev N_Desk_run : List Str := ["self", "numbers", "found"]
abbrev P_Desk_run : List Str := ["self", "numbers"]
theorem sc_Desk_run : FnScope N_Desk_run P_Desk_run (defScope s_Desk_run) := ⟨rfl, rfl, rfl, by decide +kernel, rfl, by decide +kernel, by decide +kernel⟩
abbrev N_Desk_changed : List Str := ["self", "numbers", "table", "there", "found", "k", "row", "place", "field"]
abbrev P_Desk_changed : List Str := ["self", "numbers"]
theorem sc_Desk_changed : FnScope N_Desk_changed P_Desk_changed (defScope s_Desk_changed) := ⟨rfl, rfl, rfl, by decide +kernel, rfl, by decide +kernel, by decide +kernel⟩
abbrev N_Desk_join : List Str := ["self", "numbers", "found"]
abbrev P_Desk_join : List Str := ["self", "numbers"]
theorem sc_Desk_join : FnScope N_Desk_join P_Desk_join (defScope s_Desk_join) := ⟨rfl, rfl, rfl, by decide +kernel, rfl, by decide +kernel, by decide +kernel⟩
abbrev N_Desk_clean : List Str := ["self", "numbers", "deeds", "found"]
abbrev P_Desk_clean : List Str := ["self", "numbers"]
theorem sc_Desk_clean : FnScope N_Desk_clean P_Desk_clean (defScope s_Desk_clean) := ⟨rfl, rfl, rfl, by decide +kernel, rfl, by decide +kernel, by decide +kernel⟩
abbrev N_Desk_same : List Str := ["self", "numbers", "others", "deeds", "table", "one", "other"]
abbrev P_Desk_same : List Str := ["self", "numbers", "others"]
theorem sc_Desk_same : FnScope N_Desk_same P_Desk_same (defScope s_Desk_same) := ⟨rfl, rfl, rfl, by decide +kernel, rfl, by decide +kernel, by decide +kernel⟩
abbrev N_Desk_answer : List Str := ["self", "call", "rows", "lists"]
abbrev P_Desk_answer : List Str := ["self", "call", "rows", "lists"]
theorem sc_Desk_answer : FnScope N_Desk_answer P_Desk_answer (defScope s_Desk_answer) := ⟨rfl, rfl, rfl, by decide +kernel, rfl, by decide +kernel, by decide +kernel⟩
abbrev N_answered : List Str := ["desk", "call", "rows", "lists", "error"]
abbrev P_answered : List Str := ["desk", "call", "rows", "lists"]
theorem sc_answered : FnScope N_answered P_answered (defScope s_answered) := ⟨rfl, rfl, rfl, by decide +kernel, rfl, by decide +kernel, by decide +kernel⟩
abbrev N_answers : List Str := ["calls", "desk", "found", "at", "call", "behind", "rows", "lists", "turn", "there"]
abbrev P_answers : List Str := ["calls"]
theorem sc_answers : FnScope N_answers P_answers (defScope s_answers) := ⟨rfl, rfl, rfl, by decide +kernel, rfl, by decide +kernel, by decide +kernel⟩
/-- what the top has written -/
structure Txt (K : PySem.W.Frag) (mg : Str → Option Value) where
  c_Deed : Addr
  cl_Deed : Cls K c_Deed
  g_Deed : mg "Deed" = some (.ref c_Deed)
  n_Deed_sort_of : NoAttr K c_Deed "sort_of"
  n_Deed_field : NoAttr K c_Deed "field"
  n_Deed_number : NoAttr K c_Deed "number"
  n_Deed_step : NoAttr K c_Deed "step"
  c_Piece : Addr
  cl_Piece : Cls K c_Piece
  g_Piece : mg "Piece" = some (.ref c_Piece)
  n_Piece_kind : NoAttr K c_Piece "kind"
  n_Piece_numbers : NoAttr K c_Piece "numbers"
  n_Piece_deed : NoAttr K c_Piece "deed"
  n_Piece_inner : NoAttr K c_Piece "inner"
  c_Reader : Addr
  cl_Reader : Cls K c_Reader
  g_Reader : mg "Reader" = some (.ref c_Reader)
  n_Reader_row_told : NoAttr K c_Reader "row_told"
  n_Reader_at : NoAttr K c_Reader "at"
  c_Clipboard : Addr
  cl_Clipboard : Cls K c_Clipboard
  g_Clipboard : mg "Clipboard" = some (.ref c_Clipboard)
  n_Clipboard_is_old : NoAttr K c_Clipboard "is_old"
  c_Table : Addr
  cl_Table : Cls K c_Table
  g_Table : mg "Table" = some (.ref c_Table)
  n_Table_rows : NoAttr K c_Table "rows"
  n_Table_cursor : NoAttr K c_Table "cursor"
  n_Table_clipboard : NoAttr K c_Table "clipboard"
  c_Run : Addr
  cl_Run : Cls K c_Run
  g_Run : mg "Run" = some (.ref c_Run)
  n_Run_table : NoAttr K c_Run "table"
  n_Run_done : NoAttr K c_Run "done"
  n_Run_word : NoAttr K c_Run "word"
  c_Desk : Addr
  cl_Desk : Cls K c_Desk
  g_Desk : mg "Desk" = some (.ref c_Desk)
  n_Desk_program : NoAttr K c_Desk "program"
  c_NoProgram : Addr
  g_NoProgram : mg "NoProgram" = some (.ref c_NoProgram)
  x_NoProgram : PySem.W.excIn K c_NoProgram [.type "ValueError", .type "Exception", .type "BaseException", .type "object"] "ValueError.__new__" = true
  kp_NoProgram : PySem.W.keepIn K (.ref c_NoProgram) = true
  sb_NoProgram : PySem.W.subIn K (.ref c_NoProgram) (.type "BaseException") = some true
  ty_NoProgram : PySem.W.typeIn K (.ref c_NoProgram) = some (.type "type")
  te_NoProgram : PySem.W.exmOne K (.ref c_NoProgram) (.ref c_NoProgram) = some true
  c_Refused : Addr
  f_Refused_init : Addr
  ref : PySem.RefX.RefTxt K mg c_Refused f_Refused_init
  tn_Refused : PySem.W.exmOne K (.ref c_Refused) (.ref c_NoProgram) = some false
  f_need_range : Addr
  d_need_range : FuncData
  F_need_range : Fun K "need_range" "need_range" s_need_range f_need_range d_need_range
  g_need_range : mg "need_range" = some (.ref f_need_range)
  f_Deed_init : Addr
  d_Deed_init : FuncData
  F_Deed_init : Fun K "__init__" "Deed.__init__" s_Deed_init f_Deed_init d_Deed_init
  mk_Deed : Mk K c_Deed f_Deed_init
  f_Deed_as_numbers : Addr
  d_Deed_as_numbers : FuncData
  F_Deed_as_numbers : Fun K "as_numbers" "Deed.as_numbers" s_Deed_as_numbers f_Deed_as_numbers d_Deed_as_numbers
  m_Deed_as_numbers : Meth K c_Deed "as_numbers" f_Deed_as_numbers
  f_Piece_init : Addr
  d_Piece_init : FuncData
  F_Piece_init : Fun K "__init__" "Piece.__init__" s_Piece_init f_Piece_init d_Piece_init
  mk_Piece : Mk K c_Piece f_Piece_init
  f_Piece_many : Addr
  d_Piece_many : FuncData
  F_Piece_many : Fun K "many" "Piece.many" s_Piece_many f_Piece_many d_Piece_many
  m_Piece_many : Meth K c_Piece "many" f_Piece_many
  f_Piece_deep : Addr
  d_Piece_deep : FuncData
  F_Piece_deep : Fun K "deep" "Piece.deep" s_Piece_deep f_Piece_deep d_Piece_deep
  m_Piece_deep : Meth K c_Piece "deep" f_Piece_deep
  f_Piece_as_numbers : Addr
  d_Piece_as_numbers : FuncData
  F_Piece_as_numbers : Fun K "as_numbers" "Piece.as_numbers" s_Piece_as_numbers f_Piece_as_numbers d_Piece_as_numbers
  m_Piece_as_numbers : Meth K c_Piece "as_numbers" f_Piece_as_numbers
  f_many_pieces : Addr
  d_many_pieces : FuncData
  F_many_pieces : Fun K "many_pieces" "many_pieces" s_many_pieces f_many_pieces d_many_pieces
  g_many_pieces : mg "many_pieces" = some (.ref f_many_pieces)
  f_deepest : Addr
  d_deepest : FuncData
  F_deepest : Fun K "deepest" "deepest" s_deepest f_deepest d_deepest
  g_deepest : mg "deepest" = some (.ref f_deepest)
  f_row_as_numbers : Addr
  d_row_as_numbers : FuncData
  F_row_as_numbers : Fun K "row_as_numbers" "row_as_numbers" s_row_as_numbers f_row_as_numbers d_row_as_numbers
  g_row_as_numbers : mg "row_as_numbers" = some (.ref f_row_as_numbers)
  f_in_order : Addr
  d_in_order : FuncData
  F_in_order : Fun K "in_order" "in_order" s_in_order f_in_order d_in_order
  g_in_order : mg "in_order" = some (.ref f_in_order)
  f_Reader_init : Addr
  d_Reader_init : FuncData
  F_Reader_init : Fun K "__init__" "Reader.__init__" s_Reader_init f_Reader_init d_Reader_init
  mk_Reader : Mk K c_Reader f_Reader_init
  f_Reader_take : Addr
  d_Reader_take : FuncData
  F_Reader_take : Fun K "take" "Reader.take" s_Reader_take f_Reader_take d_Reader_take
  m_Reader_take : Meth K c_Reader "take" f_Reader_take
  f_Reader_must_end : Addr
  d_Reader_must_end : FuncData
  F_Reader_must_end : Fun K "must_end" "Reader.must_end" s_Reader_must_end f_Reader_must_end d_Reader_must_end
  m_Reader_must_end : Meth K c_Reader "must_end" f_Reader_must_end
  f_Reader_next_deed : Addr
  d_Reader_next_deed : FuncData
  F_Reader_next_deed : Fun K "next_deed" "Reader.next_deed" s_Reader_next_deed f_Reader_next_deed d_Reader_next_deed
  m_Reader_next_deed : Meth K c_Reader "next_deed" f_Reader_next_deed
  f_Reader_piece : Addr
  d_Reader_piece : FuncData
  F_Reader_piece : Fun K "piece" "Reader.piece" s_Reader_piece f_Reader_piece d_Reader_piece
  m_Reader_piece : Meth K c_Reader "piece" f_Reader_piece
  f_Reader_pieces : Addr
  d_Reader_pieces : FuncData
  F_Reader_pieces : Fun K "pieces" "Reader.pieces" s_Reader_pieces f_Reader_pieces d_Reader_pieces
  m_Reader_pieces : Meth K c_Reader "pieces" f_Reader_pieces
  f_read_program : Addr
  d_read_program : FuncData
  F_read_program : Fun K "read_program" "read_program" s_read_program f_read_program d_read_program
  g_read_program : mg "read_program" = some (.ref f_read_program)
  f_as_program : Addr
  d_as_program : FuncData
  F_as_program : Fun K "as_program" "as_program" s_as_program f_as_program d_as_program
  g_as_program : mg "as_program" = some (.ref f_as_program)
  f_read_deeds : Addr
  d_read_deeds : FuncData
  F_read_deeds : Fun K "read_deeds" "read_deeds" s_read_deeds f_read_deeds d_read_deeds
  g_read_deeds : mg "read_deeds" = some (.ref f_read_deeds)
  f_fewer : Addr
  d_fewer : FuncData
  F_fewer : Fun K "fewer" "fewer" s_fewer f_fewer d_fewer
  g_fewer : mg "fewer" = some (.ref f_fewer)
  f_cleaned_once : Addr
  d_cleaned_once : FuncData
  F_cleaned_once : Fun K "cleaned_once" "cleaned_once" s_cleaned_once f_cleaned_once d_cleaned_once
  g_cleaned_once : mg "cleaned_once" = some (.ref f_cleaned_once)
  f_cleaned : Addr
  d_cleaned : FuncData
  F_cleaned : Fun K "cleaned" "cleaned" s_cleaned f_cleaned d_cleaned
  g_cleaned : mg "cleaned" = some (.ref f_cleaned)
  f_told : Addr
  d_told : FuncData
  F_told : Fun K "told" "told" s_told f_told d_told
  g_told : mg "told" = some (.ref f_told)
  f_deeds_of : Addr
  d_deeds_of : FuncData
  F_deeds_of : Fun K "deeds_of" "deeds_of" s_deeds_of f_deeds_of d_deeds_of
  g_deeds_of : mg "deeds_of" = some (.ref f_deeds_of)
  f_written : Addr
  d_written : FuncData
  F_written : Fun K "written" "written" s_written f_written d_written
  g_written : mg "written" = some (.ref f_written)
  f_looked_at : Addr
  d_looked_at : FuncData
  F_looked_at : Fun K "looked_at" "looked_at" s_looked_at f_looked_at d_looked_at
  g_looked_at : mg "looked_at" = some (.ref f_looked_at)
  f_may_change_rows : Addr
  d_may_change_rows : FuncData
  F_may_change_rows : Fun K "may_change_rows" "may_change_rows" s_may_change_rows f_may_change_rows d_may_change_rows
  g_may_change_rows : mg "may_change_rows" = some (.ref f_may_change_rows)
  f_Clipboard_init : Addr
  d_Clipboard_init : FuncData
  F_Clipboard_init : Fun K "__init__" "Clipboard.__init__" s_Clipboard_init f_Clipboard_init d_Clipboard_init
  mk_Clipboard : Mk K c_Clipboard f_Clipboard_init
  f_Clipboard_go_through : Addr
  d_Clipboard_go_through : FuncData
  F_Clipboard_go_through : Fun K "go_through" "Clipboard.go_through" s_Clipboard_go_through f_Clipboard_go_through d_Clipboard_go_through
  m_Clipboard_go_through : Meth K c_Clipboard "go_through" f_Clipboard_go_through
  f_may_read_old : Addr
  d_may_read_old : FuncData
  F_may_read_old : Fun K "may_read_old" "may_read_old" s_may_read_old f_may_read_old d_may_read_old
  g_may_read_old : mg "may_read_old" = some (.ref f_may_read_old)
  f_rest_of_deed : Addr
  d_rest_of_deed : FuncData
  F_rest_of_deed : Fun K "rest_of_deed" "rest_of_deed" s_rest_of_deed f_rest_of_deed d_rest_of_deed
  g_rest_of_deed : mg "rest_of_deed" = some (.ref f_rest_of_deed)
  f_rest_of : Addr
  d_rest_of : FuncData
  F_rest_of : Fun K "rest_of" "rest_of" s_rest_of f_rest_of d_rest_of
  g_rest_of : mg "rest_of" = some (.ref f_rest_of)
  f_rest_of_row : Addr
  d_rest_of_row : FuncData
  F_rest_of_row : Fun K "rest_of_row" "rest_of_row" s_rest_of_row f_rest_of_row d_rest_of_row
  g_rest_of_row : mg "rest_of_row" = some (.ref f_rest_of_row)
  f_comes_nearer : Addr
  d_comes_nearer : FuncData
  F_comes_nearer : Fun K "comes_nearer" "comes_nearer" s_comes_nearer f_comes_nearer d_comes_nearer
  g_comes_nearer : mg "comes_nearer" = some (.ref f_comes_nearer)
  f_first_not_nearer : Addr
  d_first_not_nearer : FuncData
  F_first_not_nearer : Fun K "first_not_nearer" "first_not_nearer" s_first_not_nearer f_first_not_nearer d_first_not_nearer
  g_first_not_nearer : mg "first_not_nearer" = some (.ref f_first_not_nearer)
  f_most_deeds : Addr
  d_most_deeds : FuncData
  F_most_deeds : Fun K "most_deeds" "most_deeds" s_most_deeds f_most_deeds d_most_deeds
  g_most_deeds : mg "most_deeds" = some (.ref f_most_deeds)
  f_is_accepted : Addr
  d_is_accepted : FuncData
  F_is_accepted : Fun K "is_accepted" "is_accepted" s_is_accepted f_is_accepted d_is_accepted
  g_is_accepted : mg "is_accepted" = some (.ref f_is_accepted)
  f_first_against : Addr
  d_first_against : FuncData
  F_first_against : Fun K "first_against" "first_against" s_first_against f_first_against d_first_against
  g_first_against : mg "first_against" = some (.ref f_first_against)
  f_Table_init : Addr
  d_Table_init : FuncData
  F_Table_init : Fun K "__init__" "Table.__init__" s_Table_init f_Table_init d_Table_init
  mk_Table : Mk K c_Table f_Table_init
  f_Table_copied : Addr
  d_Table_copied : FuncData
  F_Table_copied : Fun K "copied" "Table.copied" s_Table_copied f_Table_copied d_Table_copied
  m_Table_copied : Meth K c_Table "copied" f_Table_copied
  f_Table_as_numbers : Addr
  d_Table_as_numbers : FuncData
  F_Table_as_numbers : Fun K "as_numbers" "Table.as_numbers" s_Table_as_numbers f_Table_as_numbers d_Table_as_numbers
  m_Table_as_numbers : Meth K c_Table "as_numbers" f_Table_as_numbers
  f_Table_is_behind : Addr
  d_Table_is_behind : FuncData
  F_Table_is_behind : Fun K "is_behind" "Table.is_behind" s_Table_is_behind f_Table_is_behind d_Table_is_behind
  m_Table_is_behind : Meth K c_Table "is_behind" f_Table_is_behind
  f_Table_here : Addr
  d_Table_here : FuncData
  F_Table_here : Fun K "here" "Table.here" s_Table_here f_Table_here d_Table_here
  m_Table_here : Meth K c_Table "here" f_Table_here
  f_Table_found_row : Addr
  d_Table_found_row : FuncData
  F_Table_found_row : Fun K "found_row" "Table.found_row" s_Table_found_row f_Table_found_row d_Table_found_row
  m_Table_found_row : Meth K c_Table "found_row" f_Table_found_row
  f_Table_put : Addr
  d_Table_put : FuncData
  F_Table_put : Fun K "put" "Table.put" s_Table_put f_Table_put d_Table_put
  m_Table_put : Meth K c_Table "put" f_Table_put
  f_Table_move : Addr
  d_Table_move : FuncData
  F_Table_move : Fun K "move" "Table.move" s_Table_move f_Table_move d_Table_move
  m_Table_move : Meth K c_Table "move" f_Table_move
  f_Table_double : Addr
  d_Table_double : FuncData
  F_Table_double : Fun K "double" "Table.double" s_Table_double f_Table_double d_Table_double
  m_Table_double : Meth K c_Table "double" f_Table_double
  f_Table_do : Addr
  d_Table_do : FuncData
  F_Table_do : Fun K "do" "Table.do" s_Table_do f_Table_do d_Table_do
  m_Table_do : Meth K c_Table "do" f_Table_do
  f_read_table : Addr
  d_read_table : FuncData
  F_read_table : Fun K "read_table" "read_table" s_read_table f_read_table d_read_table
  g_read_table : mg "read_table" = some (.ref f_read_table)
  f_Run_init : Addr
  d_Run_init : FuncData
  F_Run_init : Fun K "__init__" "Run.__init__" s_Run_init f_Run_init d_Run_init
  mk_Run : Mk K c_Run f_Run_init
  f_Run_is_over : Addr
  d_Run_is_over : FuncData
  F_Run_is_over : Fun K "is_over" "Run.is_over" s_Run_is_over f_Run_is_over d_Run_is_over
  m_Run_is_over : Meth K c_Run "is_over" f_Run_is_over
  f_Run_do_deed : Addr
  d_Run_do_deed : FuncData
  F_Run_do_deed : Fun K "do_deed" "Run.do_deed" s_Run_do_deed f_Run_do_deed d_Run_do_deed
  m_Run_do_deed : Meth K c_Run "do_deed" f_Run_do_deed
  f_Run_do_to_end : Addr
  d_Run_do_to_end : FuncData
  F_Run_do_to_end : Fun K "do_to_end" "Run.do_to_end" s_Run_do_to_end f_Run_do_to_end d_Run_do_to_end
  m_Run_do_to_end : Meth K c_Run "do_to_end" f_Run_do_to_end
  f_Run_holds : Addr
  d_Run_holds : FuncData
  F_Run_holds : Fun K "holds" "Run.holds" s_Run_holds f_Run_holds d_Run_holds
  m_Run_holds : Meth K c_Run "holds" f_Run_holds
  f_Run_do_piece : Addr
  d_Run_do_piece : FuncData
  F_Run_do_piece : Fun K "do_piece" "Run.do_piece" s_Run_do_piece f_Run_do_piece d_Run_do_piece
  m_Run_do_piece : Meth K c_Run "do_piece" f_Run_do_piece
  f_Run_do_row : Addr
  d_Run_do_row : FuncData
  F_Run_do_row : Fun K "do_row" "Run.do_row" s_Run_do_row f_Run_do_row d_Run_do_row
  m_Run_do_row : Meth K c_Run "do_row" f_Run_do_row
  f_run_of : Addr
  d_run_of : FuncData
  F_run_of : Fun K "run_of" "run_of" s_run_of f_run_of d_run_of
  g_run_of : mg "run_of" = some (.ref f_run_of)
  f_ask : Addr
  d_ask : FuncData
  F_ask : Fun K "ask" "ask" s_ask f_ask d_ask
  g_ask : mg "ask" = some (.ref f_ask)
  f_counted : Addr
  d_counted : FuncData
  F_counted : Fun K "counted" "counted" s_counted f_counted d_counted
  g_counted : mg "counted" = some (.ref f_counted)
  f_fields_of : Addr
  d_fields_of : FuncData
  F_fields_of : Fun K "fields_of" "fields_of" s_fields_of f_fields_of d_fields_of
  g_fields_of : mg "fields_of" = some (.ref f_fields_of)
  f_Desk_init : Addr
  d_Desk_init : FuncData
  F_Desk_init : Fun K "__init__" "Desk.__init__" s_Desk_init f_Desk_init d_Desk_init
  mk_Desk : Mk K c_Desk f_Desk_init
  f_Desk_load : Addr
  d_Desk_load : FuncData
  F_Desk_load : Fun K "load" "Desk.load" s_Desk_load f_Desk_load d_Desk_load
  m_Desk_load : Meth K c_Desk "load" f_Desk_load
  f_Desk_touches : Addr
  d_Desk_touches : FuncData
  F_Desk_touches : Fun K "touches" "Desk.touches" s_Desk_touches f_Desk_touches d_Desk_touches
  m_Desk_touches : Meth K c_Desk "touches" f_Desk_touches
  f_Desk_ends : Addr
  d_Desk_ends : FuncData
  F_Desk_ends : Fun K "ends" "Desk.ends" s_Desk_ends f_Desk_ends d_Desk_ends
  m_Desk_ends : Meth K c_Desk "ends" f_Desk_ends
  f_Desk_allowed : Addr
  d_Desk_allowed : FuncData
  F_Desk_allowed : Fun K "allowed" "Desk.allowed" s_Desk_allowed f_Desk_allowed d_Desk_allowed
  m_Desk_allowed : Meth K c_Desk "allowed" f_Desk_allowed
  f_Desk_run : Addr
  d_Desk_run : FuncData
  F_Desk_run : Fun K "run" "Desk.run" s_Desk_run f_Desk_run d_Desk_run
  m_Desk_run : Meth K c_Desk "run" f_Desk_run
  f_Desk_changed : Addr
  d_Desk_changed : FuncData
  F_Desk_changed : Fun K "changed" "Desk.changed" s_Desk_changed f_Desk_changed d_Desk_changed
  m_Desk_changed : Meth K c_Desk "changed" f_Desk_changed
  f_Desk_join : Addr
  d_Desk_join : FuncData
  F_Desk_join : Fun K "join" "Desk.join" s_Desk_join f_Desk_join d_Desk_join
  m_Desk_join : Meth K c_Desk "join" f_Desk_join
  f_Desk_clean : Addr
  d_Desk_clean : FuncData
  F_Desk_clean : Fun K "clean" "Desk.clean" s_Desk_clean f_Desk_clean d_Desk_clean
  m_Desk_clean : Meth K c_Desk "clean" f_Desk_clean
  f_Desk_same : Addr
  d_Desk_same : FuncData
  F_Desk_same : Fun K "same" "Desk.same" s_Desk_same f_Desk_same d_Desk_same
  m_Desk_same : Meth K c_Desk "same" f_Desk_same
  f_Desk_answer : Addr
  d_Desk_answer : FuncData
  F_Desk_answer : Fun K "answer" "Desk.answer" s_Desk_answer f_Desk_answer d_Desk_answer
  m_Desk_answer : Meth K c_Desk "answer" f_Desk_answer
  f_answered : Addr
  d_answered : FuncData
  F_answered : Fun K "answered" "answered" s_answered f_answered d_answered
  g_answered : mg "answered" = some (.ref f_answered)
  f_answers : Addr
  d_answers : FuncData
  F_answers : Fun K "answers" "answers" s_answers f_answers d_answers
  g_answers : mg "answers" = some (.ref f_answers)
  tk_DOWN : Tok
  k_DOWN : mg "DOWN" = some (.int (0) tk_DOWN)
  tk_UP : Tok
  k_UP : mg "UP" = some (.int (1) tk_UP)
  tk_TOP : Tok
  k_TOP : mg "TOP" = some (.int (2) tk_TOP)
  tk_WRITE : Tok
  k_WRITE : mg "WRITE" = some (.int (3) tk_WRITE)
  tk_ADD : Tok
  k_ADD : mg "ADD" = some (.int (4) tk_ADD)
  tk_COPY : Tok
  k_COPY : mg "COPY" = some (.int (5) tk_COPY)
  tk_PASTE : Tok
  k_PASTE : mg "PASTE" = some (.int (6) tk_PASTE)
  tk_DELETE : Tok
  k_DELETE : mg "DELETE" = some (.int (7) tk_DELETE)
  tk_DOUBLE : Tok
  k_DOUBLE : mg "DOUBLE" = some (.int (8) tk_DOUBLE)
  tk_FIND : Tok
  k_FIND : mg "FIND" = some (.int (9) tk_FIND)
  tk_A_DEED : Tok
  k_A_DEED : mg "A_DEED" = some (.int (0) tk_A_DEED)
  tk_ROUNDS : Tok
  k_ROUNDS : mg "ROUNDS" = some (.int (1) tk_ROUNDS)
  tk_TO_END : Tok
  k_TO_END : mg "TO_END" = some (.int (2) tk_TO_END)
  tk_PART : Tok
  k_PART : mg "PART" = some (.int (3) tk_PART)
  tk_FIELDS : Tok
  k_FIELDS : mg "FIELDS" = some (.int (3) tk_FIELDS)
  tk_GREATEST : Tok
  k_GREATEST : mg "GREATEST" = some (.int (999) tk_GREATEST)
  tk_MOST_ROUNDS_pieces : Tok
  k_MOST_ROUNDS_pieces : mg "MOST_ROUNDS_pieces" = some (.int (9) tk_MOST_ROUNDS_pieces)
  tk_MOST_PIECES : Tok
  k_MOST_PIECES : mg "MOST_PIECES" = some (.int (16) tk_MOST_PIECES)
  tk_DEEPEST : Tok
  k_DEEPEST : mg "DEEPEST" = some (.int (3) tk_DEEPEST)
  tk_MOST_DEEDS_cleaning : Tok
  k_MOST_DEEDS_cleaning : mg "MOST_DEEDS_cleaning" = some (.int (20) tk_MOST_DEEDS_cleaning)
  tk_ROWS_TO_END : Tok
  k_ROWS_TO_END : mg "ROWS_TO_END" = some (.int (8) tk_ROWS_TO_END)
  tk_MOST_DEEDS_judging : Tok
  k_MOST_DEEDS_judging : mg "MOST_DEEDS_judging" = some (.int (60) tk_MOST_DEEDS_judging)
  tk_MOST_ROWS : Tok
  k_MOST_ROWS : mg "MOST_ROWS" = some (.int (8) tk_MOST_ROWS)
  tk_WELL : Tok
  k_WELL : mg "WELL" = some (.int (0) tk_WELL)
  tk_NO_ROW : Tok
  k_NO_ROW : mg "NO_ROW" = some (.int (1) tk_NO_ROW)
  tk_AT_TOP : Tok
  k_AT_TOP : mg "AT_TOP" = some (.int (2) tk_AT_TOP)
  tk_BEYOND : Tok
  k_BEYOND : mg "BEYOND" = some (.int (3) tk_BEYOND)
  tk_FULL : Tok
  k_FULL : mg "FULL" = some (.int (4) tk_FULL)
  tk_NOT_FOUND : Tok
  k_NOT_FOUND : mg "NOT_FOUND" = some (.int (5) tk_NOT_FOUND)
  tk_TOO_LONG : Tok
  k_TOO_LONG : mg "TOO_LONG" = some (.int (6) tk_TOO_LONG)
  tk_MOST_ROUNDS_running : Tok
  k_MOST_ROUNDS_running : mg "MOST_ROUNDS_running" = some (.int (60) tk_MOST_ROUNDS_running)
  tk_MOST_DEEDS_running : Tok
  k_MOST_DEEDS_running : mg "MOST_DEEDS_running" = some (.int (60) tk_MOST_DEEDS_running)
  tk_WRONG : Tok
  k_WRONG : mg "WRONG" = some (.int (-1) tk_WRONG)
  tk_OTHER_ROWS : Tok
  k_OTHER_ROWS : mg "OTHER_ROWS" = some (.int (-4) tk_OTHER_ROWS)
  tk_TOO_MANY : Tok
  k_TOO_MANY : mg "TOO_MANY" = some (.int (-6) tk_TOO_MANY)
  tk_ROWS_CALL : Tok
  k_ROWS_CALL : mg "ROWS_CALL" = some (.int (4) tk_ROWS_CALL)
  a_WITH_NUMBER : Addr
  k_WITH_NUMBER : mg "WITH_NUMBER" = some (.ref a_WITH_NUMBER)
  t_WITH_NUMBER : ∀ H : Hp, SqT K H a_WITH_NUMBER [.int 3, .int 4, .int 9]
  a_WITH_FIELD : Addr
  k_WITH_FIELD : mg "WITH_FIELD" = some (.ref a_WITH_FIELD)
  t_WITH_FIELD : ∀ H : Hp, SqT K H a_WITH_FIELD [.int 3, .int 4, .int 5, .int 6, .int 9]
  a_UNDONE : Addr
  k_UNDONE : mg "UNDONE" = some (.ref a_UNDONE)
  t_UNDONE : ∀ H : Hp, Dp K H (.ref a_UNDONE) (.tuple [.tuple [.int 0, .int 1], .tuple [.int 1, .int 0], .tuple [.int 8, .int 7]])
  a_LOST : Addr
  k_LOST : mg "LOST" = some (.ref a_LOST)
  t_LOST : ∀ H : Hp, Dp K H (.ref a_LOST) (.tuple [.tuple [.int 0, .int 2], .tuple [.int 1, .int 2], .tuple [.int 9, .int 2], .tuple [.int 2, .int 2], .tuple [.int 5, .int 5]])
  a_LOST_IN_FIELD : Addr
  k_LOST_IN_FIELD : mg "LOST_IN_FIELD" = some (.ref a_LOST_IN_FIELD)
  t_LOST_IN_FIELD : ∀ H : Hp, Dp K H (.ref a_LOST_IN_FIELD) (.tuple [.tuple [.int 3, .int 3], .tuple [.int 4, .int 3], .tuple [.int 6, .int 3], .tuple [.int 3, .int 6], .tuple [.int 4, .int 6], .tuple [.int 6, .int 6]])
  a_TOGETHER : Addr
  k_TOGETHER : mg "TOGETHER" = some (.ref a_TOGETHER)
  t_TOGETHER : ∀ H : Hp, Dp K H (.ref a_TOGETHER) (.tuple [.tuple [.int 4, .int 4], .tuple [.int 3, .int 4]])
  a_WRITING : Addr
  k_WRITING : mg "WRITING" = some (.ref a_WRITING)
  t_WRITING : ∀ H : Hp, SqT K H a_WRITING [.int 3, .int 4, .int 6]
  a_READING : Addr
  k_READING : mg "READING" = some (.ref a_READING)
  t_READING : ∀ H : Hp, SqT K H a_READING [.int 4, .int 5, .int 9]
  a_CHANGING : Addr
  k_CHANGING : mg "CHANGING" = some (.ref a_CHANGING)
  t_CHANGING : ∀ H : Hp, SqT K H a_CHANGING [.int 7, .int 8]
  a_MANY_LISTS : Addr
  k_MANY_LISTS : mg "MANY_LISTS" = some (.ref a_MANY_LISTS)
  t_MANY_LISTS : ∀ H : Hp, SqT K H a_MANY_LISTS [.int 1, .int 0, .int 0, .int 0, .int 1, .int 1, .int 1, .int 1, .int 1, .int 2]
  b_len : mg "len" = none
  b_range : mg "range" = none
  b_sum : mg "sum" = none
  b_max : mg "max" = none
  b_int : mg "int" = none
  b_list : mg "list" = none
  b_enumerate : mg "enumerate" = none
section
variable {K : PySem.W.Frag} {mg : Str → Option Value}
theorem b_need_range (T : Txt K mg) : Binds K T.d_need_range P_need_range [] := T.F_need_range.binds (ps := P_need_range) fun _ _ _ _ _ _ us hl => match us, hl with | [_, _, _], _ => rfl
theorem b_Deed_init (T : Txt K mg) : Binds K T.d_Deed_init P_Deed_init [] := T.F_Deed_init.binds (ps := P_Deed_init) fun _ _ _ _ _ _ us hl => match us, hl with | [_, _, _, _, _], _ => rfl
theorem b_Deed_as_numbers (T : Txt K mg) : Binds K T.d_Deed_as_numbers P_Deed_as_numbers [] := T.F_Deed_as_numbers.binds (ps := P_Deed_as_numbers) fun _ _ _ _ _ _ us hl => match us, hl with | [_], _ => rfl
theorem b_Piece_init (T : Txt K mg) : Binds K T.d_Piece_init P_Piece_init [] := T.F_Piece_init.binds (ps := P_Piece_init) fun _ _ _ _ _ _ us hl => match us, hl with | [_, _, _, _, _], _ => rfl
theorem b_Piece_many (T : Txt K mg) : Binds K T.d_Piece_many P_Piece_many [] := T.F_Piece_many.binds (ps := P_Piece_many) fun _ _ _ _ _ _ us hl => match us, hl with | [_], _ => rfl
theorem b_Piece_deep (T : Txt K mg) : Binds K T.d_Piece_deep P_Piece_deep [] := T.F_Piece_deep.binds (ps := P_Piece_deep) fun _ _ _ _ _ _ us hl => match us, hl with | [_], _ => rfl
theorem b_Piece_as_numbers (T : Txt K mg) : Binds K T.d_Piece_as_numbers P_Piece_as_numbers [] := T.F_Piece_as_numbers.binds (ps := P_Piece_as_numbers) fun _ _ _ _ _ _ us hl => match us, hl with | [_], _ => rfl
theorem b_many_pieces (T : Txt K mg) : Binds K T.d_many_pieces P_many_pieces [] := T.F_many_pieces.binds (ps := P_many_pieces) fun _ _ _ _ _ _ us hl => match us, hl with | [_], _ => rfl
theorem b_deepest (T : Txt K mg) : Binds K T.d_deepest P_deepest [] := T.F_deepest.binds (ps := P_deepest) fun _ _ _ _ _ _ us hl => match us, hl with | [_], _ => rfl
theorem b_row_as_numbers (T : Txt K mg) : Binds K T.d_row_as_numbers P_row_as_numbers [] := T.F_row_as_numbers.binds (ps := P_row_as_numbers) fun _ _ _ _ _ _ us hl => match us, hl with | [_], _ => rfl
theorem b_in_order (T : Txt K mg) : Binds K T.d_in_order P_in_order [] := T.F_in_order.binds (ps := P_in_order) fun _ _ _ _ _ _ us hl => match us, hl with | [_], _ => rfl
theorem b_Reader_init (T : Txt K mg) : Binds K T.d_Reader_init P_Reader_init [] := T.F_Reader_init.binds (ps := P_Reader_init) fun _ _ _ _ _ _ us hl => match us, hl with | [_, _], _ => rfl
theorem b_Reader_take (T : Txt K mg) : Binds K T.d_Reader_take P_Reader_take [] := T.F_Reader_take.binds (ps := P_Reader_take) fun _ _ _ _ _ _ us hl => match us, hl with | [_, _, _], _ => rfl
theorem b_Reader_must_end (T : Txt K mg) : Binds K T.d_Reader_must_end P_Reader_must_end [] := T.F_Reader_must_end.binds (ps := P_Reader_must_end) fun _ _ _ _ _ _ us hl => match us, hl with | [_], _ => rfl
theorem b_Reader_next_deed (T : Txt K mg) : Binds K T.d_Reader_next_deed P_Reader_next_deed [] := T.F_Reader_next_deed.binds (ps := P_Reader_next_deed) fun _ _ _ _ _ _ us hl => match us, hl with | [_, _], _ => rfl
theorem b_Reader_piece (T : Txt K mg) : Binds K T.d_Reader_piece P_Reader_piece [] := T.F_Reader_piece.binds (ps := P_Reader_piece) fun _ _ _ _ _ _ us hl => match us, hl with | [_, _], _ => rfl
theorem b_Reader_pieces (T : Txt K mg) : Binds K T.d_Reader_pieces P_Reader_pieces [] := T.F_Reader_pieces.binds (ps := P_Reader_pieces) fun _ _ _ _ _ _ us hl => match us, hl with | [_, _], _ => rfl
theorem b_read_program (T : Txt K mg) : Binds K T.d_read_program P_read_program [] := T.F_read_program.binds (ps := P_read_program) fun _ _ _ _ _ _ us hl => match us, hl with | [_], _ => rfl
theorem b_as_program (T : Txt K mg) : Binds K T.d_as_program P_as_program [] := T.F_as_program.binds (ps := P_as_program) fun _ _ _ _ _ _ us hl => match us, hl with | [_], _ => rfl
theorem b_read_deeds (T : Txt K mg) : Binds K T.d_read_deeds P_read_deeds [] := T.F_read_deeds.binds (ps := P_read_deeds) fun _ _ _ _ _ _ us hl => match us, hl with | [_], _ => rfl
theorem b_fewer (T : Txt K mg) : Binds K T.d_fewer P_fewer [] := T.F_fewer.binds (ps := P_fewer) fun _ _ _ _ _ _ us hl => match us, hl with | [_, _], _ => rfl
theorem b_cleaned_once (T : Txt K mg) : Binds K T.d_cleaned_once P_cleaned_once [] := T.F_cleaned_once.binds (ps := P_cleaned_once) fun _ _ _ _ _ _ us hl => match us, hl with | [_], _ => rfl
theorem b_cleaned (T : Txt K mg) : Binds K T.d_cleaned P_cleaned [] := T.F_cleaned.binds (ps := P_cleaned) fun _ _ _ _ _ _ us hl => match us, hl with | [_], _ => rfl
theorem b_told (T : Txt K mg) : Binds K T.d_told P_told [] := T.F_told.binds (ps := P_told) fun _ _ _ _ _ _ us hl => match us, hl with | [_], _ => rfl
theorem b_deeds_of (T : Txt K mg) : Binds K T.d_deeds_of P_deeds_of [] := T.F_deeds_of.binds (ps := P_deeds_of) fun _ _ _ _ _ _ us hl => match us, hl with | [_], _ => rfl
theorem b_written (T : Txt K mg) : Binds K T.d_written P_written [] := T.F_written.binds (ps := P_written) fun _ _ _ _ _ _ us hl => match us, hl with | [_], _ => rfl
theorem b_looked_at (T : Txt K mg) : Binds K T.d_looked_at P_looked_at [] := T.F_looked_at.binds (ps := P_looked_at) fun _ _ _ _ _ _ us hl => match us, hl with | [_], _ => rfl
theorem b_may_change_rows (T : Txt K mg) : Binds K T.d_may_change_rows P_may_change_rows [] := T.F_may_change_rows.binds (ps := P_may_change_rows) fun _ _ _ _ _ _ us hl => match us, hl with | [_], _ => rfl
theorem b_Clipboard_init (T : Txt K mg) : Binds K T.d_Clipboard_init P_Clipboard_init [] := T.F_Clipboard_init.binds (ps := P_Clipboard_init) fun _ _ _ _ _ _ us hl => match us, hl with | [_], _ => rfl
theorem b_Clipboard_go_through (T : Txt K mg) : Binds K T.d_Clipboard_go_through P_Clipboard_go_through [] := T.F_Clipboard_go_through.binds (ps := P_Clipboard_go_through) fun _ _ _ _ _ _ us hl => match us, hl with | [_, _, _], _ => rfl
theorem b_may_read_old (T : Txt K mg) : Binds K T.d_may_read_old P_may_read_old [] := T.F_may_read_old.binds (ps := P_may_read_old) fun _ _ _ _ _ _ us hl => match us, hl with | [_], _ => rfl
theorem b_rest_of_deed (T : Txt K mg) : Binds K T.d_rest_of_deed P_rest_of_deed [] := T.F_rest_of_deed.binds (ps := P_rest_of_deed) fun _ _ _ _ _ _ us hl => match us, hl with | [_], _ => rfl
theorem b_rest_of (T : Txt K mg) : Binds K T.d_rest_of P_rest_of [] := T.F_rest_of.binds (ps := P_rest_of) fun _ _ _ _ _ _ us hl => match us, hl with | [_], _ => rfl
theorem b_rest_of_row (T : Txt K mg) : Binds K T.d_rest_of_row P_rest_of_row [] := T.F_rest_of_row.binds (ps := P_rest_of_row) fun _ _ _ _ _ _ us hl => match us, hl with | [_], _ => rfl
theorem b_comes_nearer (T : Txt K mg) : Binds K T.d_comes_nearer P_comes_nearer [] := T.F_comes_nearer.binds (ps := P_comes_nearer) fun _ _ _ _ _ _ us hl => match us, hl with | [_], _ => rfl
theorem b_first_not_nearer (T : Txt K mg) : Binds K T.d_first_not_nearer P_first_not_nearer [] := T.F_first_not_nearer.binds (ps := P_first_not_nearer) fun _ _ _ _ _ _ us hl => match us, hl with | [_], _ => rfl
theorem b_most_deeds (T : Txt K mg) : Binds K T.d_most_deeds P_most_deeds [] := T.F_most_deeds.binds (ps := P_most_deeds) fun _ _ _ _ _ _ us hl => match us, hl with | [_], _ => rfl
theorem b_is_accepted (T : Txt K mg) : Binds K T.d_is_accepted P_is_accepted [] := T.F_is_accepted.binds (ps := P_is_accepted) fun _ _ _ _ _ _ us hl => match us, hl with | [_], _ => rfl
theorem b_first_against (T : Txt K mg) : Binds K T.d_first_against P_first_against [] := T.F_first_against.binds (ps := P_first_against) fun _ _ _ _ _ _ us hl => match us, hl with | [_, _, _], _ => rfl
theorem b_Table_init (T : Txt K mg) : Binds K T.d_Table_init P_Table_init [] := T.F_Table_init.binds (ps := P_Table_init) fun _ _ _ _ _ _ us hl => match us, hl with | [_, _, _, _], _ => rfl
theorem b_Table_copied (T : Txt K mg) : Binds K T.d_Table_copied P_Table_copied [] := T.F_Table_copied.binds (ps := P_Table_copied) fun _ _ _ _ _ _ us hl => match us, hl with | [_], _ => rfl
theorem b_Table_as_numbers (T : Txt K mg) : Binds K T.d_Table_as_numbers P_Table_as_numbers [] := T.F_Table_as_numbers.binds (ps := P_Table_as_numbers) fun _ _ _ _ _ _ us hl => match us, hl with | [_], _ => rfl
theorem b_Table_is_behind (T : Txt K mg) : Binds K T.d_Table_is_behind P_Table_is_behind [] := T.F_Table_is_behind.binds (ps := P_Table_is_behind) fun _ _ _ _ _ _ us hl => match us, hl with | [_], _ => rfl
theorem b_Table_here (T : Txt K mg) : Binds K T.d_Table_here P_Table_here [] := T.F_Table_here.binds (ps := P_Table_here) fun _ _ _ _ _ _ us hl => match us, hl with | [_], _ => rfl
theorem b_Table_found_row (T : Txt K mg) : Binds K T.d_Table_found_row P_Table_found_row [] := T.F_Table_found_row.binds (ps := P_Table_found_row) fun _ _ _ _ _ _ us hl => match us, hl with | [_, _, _], _ => rfl
theorem b_Table_put (T : Txt K mg) : Binds K T.d_Table_put P_Table_put [] := T.F_Table_put.binds (ps := P_Table_put) fun _ _ _ _ _ _ us hl => match us, hl with | [_, _, _], _ => rfl
theorem b_Table_move (T : Txt K mg) : Binds K T.d_Table_move P_Table_move [] := T.F_Table_move.binds (ps := P_Table_move) fun _ _ _ _ _ _ us hl => match us, hl with | [_, _, _], _ => rfl
theorem b_Table_double (T : Txt K mg) : Binds K T.d_Table_double P_Table_double [] := T.F_Table_double.binds (ps := P_Table_double) fun _ _ _ _ _ _ us hl => match us, hl with | [_], _ => rfl
theorem b_Table_do (T : Txt K mg) : Binds K T.d_Table_do P_Table_do [] := T.F_Table_do.binds (ps := P_Table_do) fun _ _ _ _ _ _ us hl => match us, hl with | [_, _, _], _ => rfl
theorem b_read_table (T : Txt K mg) : Binds K T.d_read_table P_read_table [] := T.F_read_table.binds (ps := P_read_table) fun _ _ _ _ _ _ us hl => match us, hl with | [_], _ => rfl
theorem b_Run_init (T : Txt K mg) : Binds K T.d_Run_init P_Run_init [] := T.F_Run_init.binds (ps := P_Run_init) fun _ _ _ _ _ _ us hl => match us, hl with | [_, _], _ => rfl
theorem b_Run_is_over (T : Txt K mg) : Binds K T.d_Run_is_over P_Run_is_over [] := T.F_Run_is_over.binds (ps := P_Run_is_over) fun _ _ _ _ _ _ us hl => match us, hl with | [_], _ => rfl
theorem b_Run_do_deed (T : Txt K mg) : Binds K T.d_Run_do_deed P_Run_do_deed [] := T.F_Run_do_deed.binds (ps := P_Run_do_deed) fun _ _ _ _ _ _ us hl => match us, hl with | [_, _, _], _ => rfl
theorem b_Run_do_to_end (T : Txt K mg) : Binds K T.d_Run_do_to_end P_Run_do_to_end [] := T.F_Run_do_to_end.binds (ps := P_Run_do_to_end) fun _ _ _ _ _ _ us hl => match us, hl with | [_, _], _ => rfl
theorem b_Run_holds (T : Txt K mg) : Binds K T.d_Run_holds P_Run_holds [] := T.F_Run_holds.binds (ps := P_Run_holds) fun _ _ _ _ _ _ us hl => match us, hl with | [_, _], _ => rfl
theorem b_Run_do_piece (T : Txt K mg) : Binds K T.d_Run_do_piece P_Run_do_piece [] := T.F_Run_do_piece.binds (ps := P_Run_do_piece) fun _ _ _ _ _ _ us hl => match us, hl with | [_, _, _], _ => rfl
theorem b_Run_do_row (T : Txt K mg) : Binds K T.d_Run_do_row P_Run_do_row [] := T.F_Run_do_row.binds (ps := P_Run_do_row) fun _ _ _ _ _ _ us hl => match us, hl with | [_, _, _], _ => rfl
theorem b_run_of (T : Txt K mg) : Binds K T.d_run_of P_run_of [] := T.F_run_of.binds (ps := P_run_of) fun _ _ _ _ _ _ us hl => match us, hl with | [_, _], _ => rfl
theorem b_ask (T : Txt K mg) : Binds K T.d_ask P_ask [] := T.F_ask.binds (ps := P_ask) fun _ _ _ _ _ _ us hl => match us, hl with | [_, _], _ => rfl
theorem b_counted (T : Txt K mg) : Binds K T.d_counted P_counted [] := T.F_counted.binds (ps := P_counted) fun _ _ _ _ _ _ us hl => match us, hl with | [_], _ => rfl
theorem b_fields_of (T : Txt K mg) : Binds K T.d_fields_of P_fields_of [] := T.F_fields_of.binds (ps := P_fields_of) fun _ _ _ _ _ _ us hl => match us, hl with | [_], _ => rfl
theorem b_Desk_init (T : Txt K mg) : Binds K T.d_Desk_init P_Desk_init [] := T.F_Desk_init.binds (ps := P_Desk_init) fun _ _ _ _ _ _ us hl => match us, hl with | [_], _ => rfl
theorem b_Desk_load (T : Txt K mg) : Binds K T.d_Desk_load P_Desk_load [] := T.F_Desk_load.binds (ps := P_Desk_load) fun _ _ _ _ _ _ us hl => match us, hl with | [_, _], _ => rfl
theorem b_Desk_touches (T : Txt K mg) : Binds K T.d_Desk_touches P_Desk_touches [] := T.F_Desk_touches.binds (ps := P_Desk_touches) fun _ _ _ _ _ _ us hl => match us, hl with | [_], _ => rfl
theorem b_Desk_ends (T : Txt K mg) : Binds K T.d_Desk_ends P_Desk_ends [] := T.F_Desk_ends.binds (ps := P_Desk_ends) fun _ _ _ _ _ _ us hl => match us, hl with | [_], _ => rfl
theorem b_Desk_allowed (T : Txt K mg) : Binds K T.d_Desk_allowed P_Desk_allowed [] := T.F_Desk_allowed.binds (ps := P_Desk_allowed) fun _ _ _ _ _ _ us hl => match us, hl with | [_, _, _], _ => rfl
theorem b_Desk_run (T : Txt K mg) : Binds K T.d_Desk_run P_Desk_run [] := T.F_Desk_run.binds (ps := P_Desk_run) fun _ _ _ _ _ _ us hl => match us, hl with | [_, _], _ => rfl
theorem b_Desk_changed (T : Txt K mg) : Binds K T.d_Desk_changed P_Desk_changed [] := T.F_Desk_changed.binds (ps := P_Desk_changed) fun _ _ _ _ _ _ us hl => match us, hl with | [_, _], _ => rfl
theorem b_Desk_join (T : Txt K mg) : Binds K T.d_Desk_join P_Desk_join [] := T.F_Desk_join.binds (ps := P_Desk_join) fun _ _ _ _ _ _ us hl => match us, hl with | [_, _], _ => rfl
theorem b_Desk_clean (T : Txt K mg) : Binds K T.d_Desk_clean P_Desk_clean [] := T.F_Desk_clean.binds (ps := P_Desk_clean) fun _ _ _ _ _ _ us hl => match us, hl with | [_, _], _ => rfl
theorem b_Desk_same (T : Txt K mg) : Binds K T.d_Desk_same P_Desk_same [] := T.F_Desk_same.binds (ps := P_Desk_same) fun _ _ _ _ _ _ us hl => match us, hl with | [_, _, _], _ => rfl
theorem b_Desk_answer (T : Txt K mg) : Binds K T.d_Desk_answer P_Desk_answer [] := T.F_Desk_answer.binds (ps := P_Desk_answer) fun _ _ _ _ _ _ us hl => match us, hl with | [_, _, _, _], _ => rfl
theorem b_answered (T : Txt K mg) : Binds K T.d_answered P_answered [] := T.F_answered.binds (ps := P_answered) fun _ _ _ _ _ _ us hl => match us, hl with | [_, _, _, _], _ => rfl
theorem b_answers (T : Txt K mg) : Binds K T.d_answers P_answers [] := T.F_answers.binds (ps := P_answers) fun _ _ _ _ _ _ us hl => match us, hl with | [_], _ => rfl
end
end Pe
set_option Elab.async false
set_option linter.all false
set_option maxRecDepth 100000
set_option maxHeartbeats 2000000
/-! The record of facts out of what k_is finds (printed by genend.py). -/
namespace Pe
open PySem PySem.Spec PyProof.Rows L2
theorem tup_of {K : PySem.W.Frag} {H : Hp} {a : Addr} {od : Option Addr} {its : Array Value} {n : Nat} {sl : Array (Option Value)} {xs : List V} (l : K.lookup a = some ⟨.type "tuple", od, .seq its n, sl⟩) (hz : its.size ≤ sizeLine) (r : Vals xs its.toList) : SqT K H a xs :=
  .inr ⟨_, its, n, l, rfl, rfl, hz, r⟩

theorem all_txt {K : PySem.W.Frag} {h : Heap} {mg : Str → Option Value} (X : K.In h) (G : h.Ns mainGlobals mg)
    {c_Deed : Addr}
    {c_Piece : Addr}
    {c_Reader : Addr}
    {c_Clipboard : Addr}
    {c_Table : Addr}
    {c_Run : Addr}
    {c_Desk : Addr}
    {c_NoProgram : Addr}
    {c_Refused f_Refused_init : Addr} {nmR qR : Str} {NR : Addr} {bsR : List Value} {snR : List Str} {subR : List Value} {abR : Bool} {colR : Option Bool} {ddR : Option Addr} {r0 r1 r2 r3 r5 : Option Value} {odR anR : Option Addr} {slR : Array (Option Value)} {ocR dcR pmR cdR ctR : Value}
    {f_need_range : Addr} {od_need_range an_need_range : Option Addr} {sl_need_range : Array (Option Value)} {oc_need_range kv_need_range dc_need_range pm_need_range cd_need_range ct_need_range : Value}
    {f_Deed_init : Addr} {od_Deed_init an_Deed_init : Option Addr} {sl_Deed_init : Array (Option Value)} {oc_Deed_init kv_Deed_init dc_Deed_init pm_Deed_init cd_Deed_init ct_Deed_init : Value}
    {f_Deed_as_numbers : Addr} {od_Deed_as_numbers an_Deed_as_numbers : Option Addr} {sl_Deed_as_numbers : Array (Option Value)} {oc_Deed_as_numbers kv_Deed_as_numbers dc_Deed_as_numbers pm_Deed_as_numbers cd_Deed_as_numbers ct_Deed_as_numbers : Value}
    {f_Piece_init : Addr} {od_Piece_init an_Piece_init : Option Addr} {sl_Piece_init : Array (Option Value)} {oc_Piece_init kv_Piece_init dc_Piece_init pm_Piece_init cd_Piece_init ct_Piece_init : Value}
    {f_Piece_many : Addr} {od_Piece_many an_Piece_many : Option Addr} {sl_Piece_many : Array (Option Value)} {oc_Piece_many kv_Piece_many dc_Piece_many pm_Piece_many cd_Piece_many ct_Piece_many : Value}
    {f_Piece_deep : Addr} {od_Piece_deep an_Piece_deep : Option Addr} {sl_Piece_deep : Array (Option Value)} {oc_Piece_deep kv_Piece_deep dc_Piece_deep pm_Piece_deep cd_Piece_deep ct_Piece_deep : Value}
    {f_Piece_as_numbers : Addr} {od_Piece_as_numbers an_Piece_as_numbers : Option Addr} {sl_Piece_as_numbers : Array (Option Value)} {oc_Piece_as_numbers kv_Piece_as_numbers dc_Piece_as_numbers pm_Piece_as_numbers cd_Piece_as_numbers ct_Piece_as_numbers : Value}
    {f_many_pieces : Addr} {od_many_pieces an_many_pieces : Option Addr} {sl_many_pieces : Array (Option Value)} {oc_many_pieces kv_many_pieces dc_many_pieces pm_many_pieces cd_many_pieces ct_many_pieces : Value}
    {f_deepest : Addr} {od_deepest an_deepest : Option Addr} {sl_deepest : Array (Option Value)} {oc_deepest kv_deepest dc_deepest pm_deepest cd_deepest ct_deepest : Value}
    {f_row_as_numbers : Addr} {od_row_as_numbers an_row_as_numbers : Option Addr} {sl_row_as_numbers : Array (Option Value)} {oc_row_as_numbers kv_row_as_numbers dc_row_as_numbers pm_row_as_numbers cd_row_as_numbers ct_row_as_numbers : Value}
    {f_in_order : Addr} {od_in_order an_in_order : Option Addr} {sl_in_order : Array (Option Value)} {oc_in_order kv_in_order dc_in_order pm_in_order cd_in_order ct_in_order : Value}
    {f_Reader_init : Addr} {od_Reader_init an_Reader_init : Option Addr} {sl_Reader_init : Array (Option Value)} {oc_Reader_init kv_Reader_init dc_Reader_init pm_Reader_init cd_Reader_init ct_Reader_init : Value}
    {f_Reader_take : Addr} {od_Reader_take an_Reader_take : Option Addr} {sl_Reader_take : Array (Option Value)} {oc_Reader_take kv_Reader_take dc_Reader_take pm_Reader_take cd_Reader_take ct_Reader_take : Value}
    {f_Reader_must_end : Addr} {od_Reader_must_end an_Reader_must_end : Option Addr} {sl_Reader_must_end : Array (Option Value)} {oc_Reader_must_end kv_Reader_must_end dc_Reader_must_end pm_Reader_must_end cd_Reader_must_end ct_Reader_must_end : Value}
    {f_Reader_next_deed : Addr} {od_Reader_next_deed an_Reader_next_deed : Option Addr} {sl_Reader_next_deed : Array (Option Value)} {oc_Reader_next_deed kv_Reader_next_deed dc_Reader_next_deed pm_Reader_next_deed cd_Reader_next_deed ct_Reader_next_deed : Value}
    {f_Reader_piece : Addr} {od_Reader_piece an_Reader_piece : Option Addr} {sl_Reader_piece : Array (Option Value)} {oc_Reader_piece kv_Reader_piece dc_Reader_piece pm_Reader_piece cd_Reader_piece ct_Reader_piece : Value}
    {f_Reader_pieces : Addr} {od_Reader_pieces an_Reader_pieces : Option Addr} {sl_Reader_pieces : Array (Option Value)} {oc_Reader_pieces kv_Reader_pieces dc_Reader_pieces pm_Reader_pieces cd_Reader_pieces ct_Reader_pieces : Value}
    {f_read_program : Addr} {od_read_program an_read_program : Option Addr} {sl_read_program : Array (Option Value)} {oc_read_program kv_read_program dc_read_program pm_read_program cd_read_program ct_read_program : Value}
    {f_as_program : Addr} {od_as_program an_as_program : Option Addr} {sl_as_program : Array (Option Value)} {oc_as_program kv_as_program dc_as_program pm_as_program cd_as_program ct_as_program : Value}
    {f_read_deeds : Addr} {od_read_deeds an_read_deeds : Option Addr} {sl_read_deeds : Array (Option Value)} {oc_read_deeds kv_read_deeds dc_read_deeds pm_read_deeds cd_read_deeds ct_read_deeds : Value}
    {f_fewer : Addr} {od_fewer an_fewer : Option Addr} {sl_fewer : Array (Option Value)} {oc_fewer kv_fewer dc_fewer pm_fewer cd_fewer ct_fewer : Value}
    {f_cleaned_once : Addr} {od_cleaned_once an_cleaned_once : Option Addr} {sl_cleaned_once : Array (Option Value)} {oc_cleaned_once kv_cleaned_once dc_cleaned_once pm_cleaned_once cd_cleaned_once ct_cleaned_once : Value}
    {f_cleaned : Addr} {od_cleaned an_cleaned : Option Addr} {sl_cleaned : Array (Option Value)} {oc_cleaned kv_cleaned dc_cleaned pm_cleaned cd_cleaned ct_cleaned : Value}
    {f_told : Addr} {od_told an_told : Option Addr} {sl_told : Array (Option Value)} {oc_told kv_told dc_told pm_told cd_told ct_told : Value}
    {f_deeds_of : Addr} {od_deeds_of an_deeds_of : Option Addr} {sl_deeds_of : Array (Option Value)} {oc_deeds_of kv_deeds_of dc_deeds_of pm_deeds_of cd_deeds_of ct_deeds_of : Value}
    {f_written : Addr} {od_written an_written : Option Addr} {sl_written : Array (Option Value)} {oc_written kv_written dc_written pm_written cd_written ct_written : Value}
    {f_looked_at : Addr} {od_looked_at an_looked_at : Option Addr} {sl_looked_at : Array (Option Value)} {oc_looked_at kv_looked_at dc_looked_at pm_looked_at cd_looked_at ct_looked_at : Value}
    {f_may_change_rows : Addr} {od_may_change_rows an_may_change_rows : Option Addr} {sl_may_change_rows : Array (Option Value)} {oc_may_change_rows kv_may_change_rows dc_may_change_rows pm_may_change_rows cd_may_change_rows ct_may_change_rows : Value}
    {f_Clipboard_init : Addr} {od_Clipboard_init an_Clipboard_init : Option Addr} {sl_Clipboard_init : Array (Option Value)} {oc_Clipboard_init kv_Clipboard_init dc_Clipboard_init pm_Clipboard_init cd_Clipboard_init ct_Clipboard_init : Value}
    {f_Clipboard_go_through : Addr} {od_Clipboard_go_through an_Clipboard_go_through : Option Addr} {sl_Clipboard_go_through : Array (Option Value)} {oc_Clipboard_go_through kv_Clipboard_go_through dc_Clipboard_go_through pm_Clipboard_go_through cd_Clipboard_go_through ct_Clipboard_go_through : Value}
    {f_may_read_old : Addr} {od_may_read_old an_may_read_old : Option Addr} {sl_may_read_old : Array (Option Value)} {oc_may_read_old kv_may_read_old dc_may_read_old pm_may_read_old cd_may_read_old ct_may_read_old : Value}
    {f_rest_of_deed : Addr} {od_rest_of_deed an_rest_of_deed : Option Addr} {sl_rest_of_deed : Array (Option Value)} {oc_rest_of_deed kv_rest_of_deed dc_rest_of_deed pm_rest_of_deed cd_rest_of_deed ct_rest_of_deed : Value}
    {f_rest_of : Addr} {od_rest_of an_rest_of : Option Addr} {sl_rest_of : Array (Option Value)} {oc_rest_of kv_rest_of dc_rest_of pm_rest_of cd_rest_of ct_rest_of : Value}
    {f_rest_of_row : Addr} {od_rest_of_row an_rest_of_row : Option Addr} {sl_rest_of_row : Array (Option Value)} {oc_rest_of_row kv_rest_of_row dc_rest_of_row pm_rest_of_row cd_rest_of_row ct_rest_of_row : Value}
    {f_comes_nearer : Addr} {od_comes_nearer an_comes_nearer : Option Addr} {sl_comes_nearer : Array (Option Value)} {oc_comes_nearer kv_comes_nearer dc_comes_nearer pm_comes_nearer cd_comes_nearer ct_comes_nearer : Value}
    {f_first_not_nearer : Addr} {od_first_not_nearer an_first_not_nearer : Option Addr} {sl_first_not_nearer : Array (Option Value)} {oc_first_not_nearer kv_first_not_nearer dc_first_not_nearer pm_first_not_nearer cd_first_not_nearer ct_first_not_nearer : Value}
    {f_most_deeds : Addr} {od_most_deeds an_most_deeds : Option Addr} {sl_most_deeds : Array (Option Value)} {oc_most_deeds kv_most_deeds dc_most_deeds pm_most_deeds cd_most_deeds ct_most_deeds : Value}
    {f_is_accepted : Addr} {od_is_accepted an_is_accepted : Option Addr} {sl_is_accepted : Array (Option Value)} {oc_is_accepted kv_is_accepted dc_is_accepted pm_is_accepted cd_is_accepted ct_is_accepted : Value}
    {f_first_against : Addr} {od_first_against an_first_against : Option Addr} {sl_first_against : Array (Option Value)} {oc_first_against kv_first_against dc_first_against pm_first_against cd_first_against ct_first_against : Value}
    {f_Table_init : Addr} {od_Table_init an_Table_init : Option Addr} {sl_Table_init : Array (Option Value)} {oc_Table_init kv_Table_init dc_Table_init pm_Table_init cd_Table_init ct_Table_init : Value}
    {f_Table_copied : Addr} {od_Table_copied an_Table_copied : Option Addr} {sl_Table_copied : Array (Option Value)} {oc_Table_copied kv_Table_copied dc_Table_copied pm_Table_copied cd_Table_copied ct_Table_copied : Value}
    {f_Table_as_numbers : Addr} {od_Table_as_numbers an_Table_as_numbers : Option Addr} {sl_Table_as_numbers : Array (Option Value)} {oc_Table_as_numbers kv_Table_as_numbers dc_Table_as_numbers pm_Table_as_numbers cd_Table_as_numbers ct_Table_as_numbers : Value}
    {f_Table_is_behind : Addr} {od_Table_is_behind an_Table_is_behind : Option Addr} {sl_Table_is_behind : Array (Option Value)} {oc_Table_is_behind kv_Table_is_behind dc_Table_is_behind pm_Table_is_behind cd_Table_is_behind ct_Table_is_behind : Value}
    {f_Table_here : Addr} {od_Table_here an_Table_here : Option Addr} {sl_Table_here : Array (Option Value)} {oc_Table_here kv_Table_here dc_Table_here pm_Table_here cd_Table_here ct_Table_here : Value}
    {f_Table_found_row : Addr} {od_Table_found_row an_Table_found_row : Option Addr} {sl_Table_found_row : Array (Option Value)} {oc_Table_found_row kv_Table_found_row dc_Table_found_row pm_Table_found_row cd_Table_found_row ct_Table_found_row : Value}
    {f_Table_put : Addr} {od_Table_put an_Table_put : Option Addr} {sl_Table_put : Array (Option Value)} {oc_Table_put kv_Table_put dc_Table_put pm_Table_put cd_Table_put ct_Table_put : Value}
    {f_Table_move : Addr} {od_Table_move an_Table_move : Option Addr} {sl_Table_move : Array (Option Value)} {oc_Table_move kv_Table_move dc_Table_move pm_Table_move cd_Table_move ct_Table_move : Value}
    {f_Table_double : Addr} {od_Table_double an_Table_double : Option Addr} {sl_Table_double : Array (Option Value)} {oc_Table_double kv_Table_double dc_Table_double pm_Table_double cd_Table_double ct_Table_double : Value}
    {f_Table_do : Addr} {od_Table_do an_Table_do : Option Addr} {sl_Table_do : Array (Option Value)} {oc_Table_do kv_Table_do dc_Table_do pm_Table_do cd_Table_do ct_Table_do : Value}
    {f_read_table : Addr} {od_read_table an_read_table : Option Addr} {sl_read_table : Array (Option Value)} {oc_read_table kv_read_table dc_read_table pm_read_table cd_read_table ct_read_table : Value}
    {f_Run_init : Addr} {od_Run_init an_Run_init : Option Addr} {sl_Run_init : Array (Option Value)} {oc_Run_init kv_Run_init dc_Run_init pm_Run_init cd_Run_init ct_Run_init : Value}
    {f_Run_is_over : Addr} {od_Run_is_over an_Run_is_over : Option Addr} {sl_Run_is_over : Array (Option Value)} {oc_Run_is_over kv_Run_is_over dc_Run_is_over pm_Run_is_over cd_Run_is_over ct_Run_is_over : Value}
    {f_Run_do_deed : Addr} {od_Run_do_deed an_Run_do_deed : Option Addr} {sl_Run_do_deed : Array (Option Value)} {oc_Run_do_deed kv_Run_do_deed dc_Run_do_deed pm_Run_do_deed cd_Run_do_deed ct_Run_do_deed : Value}
    {f_Run_do_to_end : Addr} {od_Run_do_to_end an_Run_do_to_end : Option Addr} {sl_Run_do_to_end : Array (Option Value)} {oc_Run_do_to_end kv_Run_do_to_end dc_Run_do_to_end pm_Run_do_to_end cd_Run_do_to_end ct_Run_do_to_end : Value}
    {f_Run_holds : Addr} {od_Run_holds an_Run_holds : Option Addr} {sl_Run_holds : Array (Option Value)} {oc_Run_holds kv_Run_holds dc_Run_holds pm_Run_holds cd_Run_holds ct_Run_holds : Value}
    {f_Run_do_piece : Addr} {od_Run_do_piece an_Run_do_piece : Option Addr} {sl_Run_do_piece : Array (Option Value)} {oc_Run_do_piece kv_Run_do_piece dc_Run_do_piece pm_Run_do_piece cd_Run_do_piece ct_Run_do_piece : Value}
    {f_Run_do_row : Addr} {od_Run_do_row an_Run_do_row : Option Addr} {sl_Run_do_row : Array (Option Value)} {oc_Run_do_row kv_Run_do_row dc_Run_do_row pm_Run_do_row cd_Run_do_row ct_Run_do_row : Value}
    {f_run_of : Addr} {od_run_of an_run_of : Option Addr} {sl_run_of : Array (Option Value)} {oc_run_of kv_run_of dc_run_of pm_run_of cd_run_of ct_run_of : Value}
    {f_ask : Addr} {od_ask an_ask : Option Addr} {sl_ask : Array (Option Value)} {oc_ask kv_ask dc_ask pm_ask cd_ask ct_ask : Value}
    {f_counted : Addr} {od_counted an_counted : Option Addr} {sl_counted : Array (Option Value)} {oc_counted kv_counted dc_counted pm_counted cd_counted ct_counted : Value}
    {f_fields_of : Addr} {od_fields_of an_fields_of : Option Addr} {sl_fields_of : Array (Option Value)} {oc_fields_of kv_fields_of dc_fields_of pm_fields_of cd_fields_of ct_fields_of : Value}
    {f_Desk_init : Addr} {od_Desk_init an_Desk_init : Option Addr} {sl_Desk_init : Array (Option Value)} {oc_Desk_init kv_Desk_init dc_Desk_init pm_Desk_init cd_Desk_init ct_Desk_init : Value}
    {f_Desk_load : Addr} {od_Desk_load an_Desk_load : Option Addr} {sl_Desk_load : Array (Option Value)} {oc_Desk_load kv_Desk_load dc_Desk_load pm_Desk_load cd_Desk_load ct_Desk_load : Value}
    {f_Desk_touches : Addr} {od_Desk_touches an_Desk_touches : Option Addr} {sl_Desk_touches : Array (Option Value)} {oc_Desk_touches kv_Desk_touches dc_Desk_touches pm_Desk_touches cd_Desk_touches ct_Desk_touches : Value}
    {f_Desk_ends : Addr} {od_Desk_ends an_Desk_ends : Option Addr} {sl_Desk_ends : Array (Option Value)} {oc_Desk_ends kv_Desk_ends dc_Desk_ends pm_Desk_ends cd_Desk_ends ct_Desk_ends : Value}
    {f_Desk_allowed : Addr} {od_Desk_allowed an_Desk_allowed : Option Addr} {sl_Desk_allowed : Array (Option Value)} {oc_Desk_allowed kv_Desk_allowed dc_Desk_allowed pm_Desk_allowed cd_Desk_allowed ct_Desk_allowed : Value}
    {f_Desk_run : Addr} {od_Desk_run an_Desk_run : Option Addr} {sl_Desk_run : Array (Option Value)} {oc_Desk_run kv_Desk_run dc_Desk_run pm_Desk_run cd_Desk_run ct_Desk_run : Value}
    {f_Desk_changed : Addr} {od_Desk_changed an_Desk_changed : Option Addr} {sl_Desk_changed : Array (Option Value)} {oc_Desk_changed kv_Desk_changed dc_Desk_changed pm_Desk_changed cd_Desk_changed ct_Desk_changed : Value}
    {f_Desk_join : Addr} {od_Desk_join an_Desk_join : Option Addr} {sl_Desk_join : Array (Option Value)} {oc_Desk_join kv_Desk_join dc_Desk_join pm_Desk_join cd_Desk_join ct_Desk_join : Value}
    {f_Desk_clean : Addr} {od_Desk_clean an_Desk_clean : Option Addr} {sl_Desk_clean : Array (Option Value)} {oc_Desk_clean kv_Desk_clean dc_Desk_clean pm_Desk_clean cd_Desk_clean ct_Desk_clean : Value}
    {f_Desk_same : Addr} {od_Desk_same an_Desk_same : Option Addr} {sl_Desk_same : Array (Option Value)} {oc_Desk_same kv_Desk_same dc_Desk_same pm_Desk_same cd_Desk_same ct_Desk_same : Value}
    {f_Desk_answer : Addr} {od_Desk_answer an_Desk_answer : Option Addr} {sl_Desk_answer : Array (Option Value)} {oc_Desk_answer kv_Desk_answer dc_Desk_answer pm_Desk_answer cd_Desk_answer ct_Desk_answer : Value}
    {f_answered : Addr} {od_answered an_answered : Option Addr} {sl_answered : Array (Option Value)} {oc_answered kv_answered dc_answered pm_answered cd_answered ct_answered : Value}
    {f_answers : Addr} {od_answers an_answers : Option Addr} {sl_answers : Array (Option Value)} {oc_answers kv_answers dc_answers pm_answers cd_answers ct_answers : Value}
    {tk_DOWN : Tok}
    {tk_UP : Tok}
    {tk_TOP : Tok}
    {tk_WRITE : Tok}
    {tk_ADD : Tok}
    {tk_COPY : Tok}
    {tk_PASTE : Tok}
    {tk_DELETE : Tok}
    {tk_DOUBLE : Tok}
    {tk_FIND : Tok}
    {tk_A_DEED : Tok}
    {tk_ROUNDS : Tok}
    {tk_TO_END : Tok}
    {tk_PART : Tok}
    {tk_FIELDS : Tok}
    {tk_GREATEST : Tok}
    {tk_MOST_ROUNDS_pieces : Tok}
    {tk_MOST_PIECES : Tok}
    {tk_DEEPEST : Tok}
    {tk_MOST_DEEDS_cleaning : Tok}
    {tk_ROWS_TO_END : Tok}
    {tk_MOST_DEEDS_judging : Tok}
    {tk_MOST_ROWS : Tok}
    {tk_WELL : Tok}
    {tk_NO_ROW : Tok}
    {tk_AT_TOP : Tok}
    {tk_BEYOND : Tok}
    {tk_FULL : Tok}
    {tk_NOT_FOUND : Tok}
    {tk_TOO_LONG : Tok}
    {tk_MOST_ROUNDS_running : Tok}
    {tk_MOST_DEEDS_running : Tok}
    {tk_WRONG : Tok}
    {tk_OTHER_ROWS : Tok}
    {tk_TOO_MANY : Tok}
    {tk_ROWS_CALL : Tok}
    {a_WITH_NUMBER : Addr} {od_WITH_NUMBER : Option Addr} {n_WITH_NUMBER : Nat} {sl_WITH_NUMBER : Array (Option Value)}
    {t_WITH_NUMBER0 t_WITH_NUMBER1 t_WITH_NUMBER2 : Tok}
    {a_WITH_FIELD : Addr} {od_WITH_FIELD : Option Addr} {n_WITH_FIELD : Nat} {sl_WITH_FIELD : Array (Option Value)}
    {t_WITH_FIELD0 t_WITH_FIELD1 t_WITH_FIELD2 t_WITH_FIELD3 t_WITH_FIELD4 : Tok}
    {a_UNDONE : Addr} {od_UNDONE : Option Addr} {n_UNDONE : Nat} {sl_UNDONE : Array (Option Value)}
    {b_UNDONE0 : Addr} {od_UNDONE0 : Option Addr} {n_UNDONE0 : Nat} {sl_UNDONE0 : Array (Option Value)} {u_UNDONE0 w_UNDONE0 : Tok}
    {b_UNDONE1 : Addr} {od_UNDONE1 : Option Addr} {n_UNDONE1 : Nat} {sl_UNDONE1 : Array (Option Value)} {u_UNDONE1 w_UNDONE1 : Tok}
    {b_UNDONE2 : Addr} {od_UNDONE2 : Option Addr} {n_UNDONE2 : Nat} {sl_UNDONE2 : Array (Option Value)} {u_UNDONE2 w_UNDONE2 : Tok}
    {a_LOST : Addr} {od_LOST : Option Addr} {n_LOST : Nat} {sl_LOST : Array (Option Value)}
    {b_LOST0 : Addr} {od_LOST0 : Option Addr} {n_LOST0 : Nat} {sl_LOST0 : Array (Option Value)} {u_LOST0 w_LOST0 : Tok}
    {b_LOST1 : Addr} {od_LOST1 : Option Addr} {n_LOST1 : Nat} {sl_LOST1 : Array (Option Value)} {u_LOST1 w_LOST1 : Tok}
    {b_LOST2 : Addr} {od_LOST2 : Option Addr} {n_LOST2 : Nat} {sl_LOST2 : Array (Option Value)} {u_LOST2 w_LOST2 : Tok}
    {b_LOST3 : Addr} {od_LOST3 : Option Addr} {n_LOST3 : Nat} {sl_LOST3 : Array (Option Value)} {u_LOST3 w_LOST3 : Tok}
    {b_LOST4 : Addr} {od_LOST4 : Option Addr} {n_LOST4 : Nat} {sl_LOST4 : Array (Option Value)} {u_LOST4 w_LOST4 : Tok}
    {a_LOST_IN_FIELD : Addr} {od_LOST_IN_FIELD : Option Addr} {n_LOST_IN_FIELD : Nat} {sl_LOST_IN_FIELD : Array (Option Value)}
    {b_LOST_IN_FIELD0 : Addr} {od_LOST_IN_FIELD0 : Option Addr} {n_LOST_IN_FIELD0 : Nat} {sl_LOST_IN_FIELD0 : Array (Option Value)} {u_LOST_IN_FIELD0 w_LOST_IN_FIELD0 : Tok}
    {b_LOST_IN_FIELD1 : Addr} {od_LOST_IN_FIELD1 : Option Addr} {n_LOST_IN_FIELD1 : Nat} {sl_LOST_IN_FIELD1 : Array (Option Value)} {u_LOST_IN_FIELD1 w_LOST_IN_FIELD1 : Tok}
    {b_LOST_IN_FIELD2 : Addr} {od_LOST_IN_FIELD2 : Option Addr} {n_LOST_IN_FIELD2 : Nat} {sl_LOST_IN_FIELD2 : Array (Option Value)} {u_LOST_IN_FIELD2 w_LOST_IN_FIELD2 : Tok}
    {b_LOST_IN_FIELD3 : Addr} {od_LOST_IN_FIELD3 : Option Addr} {n_LOST_IN_FIELD3 : Nat} {sl_LOST_IN_FIELD3 : Array (Option Value)} {u_LOST_IN_FIELD3 w_LOST_IN_FIELD3 : Tok}
    {b_LOST_IN_FIELD4 : Addr} {od_LOST_IN_FIELD4 : Option Addr} {n_LOST_IN_FIELD4 : Nat} {sl_LOST_IN_FIELD4 : Array (Option Value)} {u_LOST_IN_FIELD4 w_LOST_IN_FIELD4 : Tok}
    {b_LOST_IN_FIELD5 : Addr} {od_LOST_IN_FIELD5 : Option Addr} {n_LOST_IN_FIELD5 : Nat} {sl_LOST_IN_FIELD5 : Array (Option Value)} {u_LOST_IN_FIELD5 w_LOST_IN_FIELD5 : Tok}
    {a_TOGETHER : Addr} {od_TOGETHER : Option Addr} {n_TOGETHER : Nat} {sl_TOGETHER : Array (Option Value)}
    {b_TOGETHER0 : Addr} {od_TOGETHER0 : Option Addr} {n_TOGETHER0 : Nat} {sl_TOGETHER0 : Array (Option Value)} {u_TOGETHER0 w_TOGETHER0 : Tok}
    {b_TOGETHER1 : Addr} {od_TOGETHER1 : Option Addr} {n_TOGETHER1 : Nat} {sl_TOGETHER1 : Array (Option Value)} {u_TOGETHER1 w_TOGETHER1 : Tok}
    {a_WRITING : Addr} {od_WRITING : Option Addr} {n_WRITING : Nat} {sl_WRITING : Array (Option Value)}
    {t_WRITING0 t_WRITING1 t_WRITING2 : Tok}
    {a_READING : Addr} {od_READING : Option Addr} {n_READING : Nat} {sl_READING : Array (Option Value)}
    {t_READING0 t_READING1 t_READING2 : Tok}
    {a_CHANGING : Addr} {od_CHANGING : Option Addr} {n_CHANGING : Nat} {sl_CHANGING : Array (Option Value)}
    {t_CHANGING0 t_CHANGING1 : Tok}
    {a_MANY_LISTS : Addr} {od_MANY_LISTS : Option Addr} {n_MANY_LISTS : Nat} {sl_MANY_LISTS : Array (Option Value)}
    {t_MANY_LISTS0 t_MANY_LISTS1 t_MANY_LISTS2 t_MANY_LISTS3 t_MANY_LISTS4 t_MANY_LISTS5 t_MANY_LISTS6 t_MANY_LISTS7 t_MANY_LISTS8 t_MANY_LISTS9 : Tok}
    (a_Deed : PySem.W.nsIn K mainGlobals "Deed" = some (some (.ref c_Deed)))
    (pg_Deed : PySem.W.plainGet K c_Deed Str.empty = true)
    (hd_Deed : PySem.W.hasDictIn K c_Deed = true)
    (po_Deed : PySem.W.plainOver K c_Deed = true)
    (sa_Deed : PySem.W.findIn K (.ref c_Deed) "__setattr__" = some (some (.builtin "object.__setattr__")))
    (mk_Deed : PySem.W.makesIn K c_Deed = true)
    (kc_Deed : PySem.W.keepIn K (.ref c_Deed) = true)
    (n_Deed_sort_of : PySem.W.findIn K (.ref c_Deed) "sort_of" = some none)
    (n_Deed_field : PySem.W.findIn K (.ref c_Deed) "field" = some none)
    (n_Deed_number : PySem.W.findIn K (.ref c_Deed) "number" = some none)
    (n_Deed_step : PySem.W.findIn K (.ref c_Deed) "step" = some none)
    (a_Piece : PySem.W.nsIn K mainGlobals "Piece" = some (some (.ref c_Piece)))
    (pg_Piece : PySem.W.plainGet K c_Piece Str.empty = true)
    (hd_Piece : PySem.W.hasDictIn K c_Piece = true)
    (po_Piece : PySem.W.plainOver K c_Piece = true)
    (sa_Piece : PySem.W.findIn K (.ref c_Piece) "__setattr__" = some (some (.builtin "object.__setattr__")))
    (mk_Piece : PySem.W.makesIn K c_Piece = true)
    (kc_Piece : PySem.W.keepIn K (.ref c_Piece) = true)
    (n_Piece_kind : PySem.W.findIn K (.ref c_Piece) "kind" = some none)
    (n_Piece_numbers : PySem.W.findIn K (.ref c_Piece) "numbers" = some none)
    (n_Piece_deed : PySem.W.findIn K (.ref c_Piece) "deed" = some none)
    (n_Piece_inner : PySem.W.findIn K (.ref c_Piece) "inner" = some none)
    (a_Reader : PySem.W.nsIn K mainGlobals "Reader" = some (some (.ref c_Reader)))
    (pg_Reader : PySem.W.plainGet K c_Reader Str.empty = true)
    (hd_Reader : PySem.W.hasDictIn K c_Reader = true)
    (po_Reader : PySem.W.plainOver K c_Reader = true)
    (sa_Reader : PySem.W.findIn K (.ref c_Reader) "__setattr__" = some (some (.builtin "object.__setattr__")))
    (mk_Reader : PySem.W.makesIn K c_Reader = true)
    (kc_Reader : PySem.W.keepIn K (.ref c_Reader) = true)
    (n_Reader_row_told : PySem.W.findIn K (.ref c_Reader) "row_told" = some none)
    (n_Reader_at : PySem.W.findIn K (.ref c_Reader) "at" = some none)
    (a_Clipboard : PySem.W.nsIn K mainGlobals "Clipboard" = some (some (.ref c_Clipboard)))
    (pg_Clipboard : PySem.W.plainGet K c_Clipboard Str.empty = true)
    (hd_Clipboard : PySem.W.hasDictIn K c_Clipboard = true)
    (po_Clipboard : PySem.W.plainOver K c_Clipboard = true)
    (sa_Clipboard : PySem.W.findIn K (.ref c_Clipboard) "__setattr__" = some (some (.builtin "object.__setattr__")))
    (mk_Clipboard : PySem.W.makesIn K c_Clipboard = true)
    (kc_Clipboard : PySem.W.keepIn K (.ref c_Clipboard) = true)
    (n_Clipboard_is_old : PySem.W.findIn K (.ref c_Clipboard) "is_old" = some none)
    (a_Table : PySem.W.nsIn K mainGlobals "Table" = some (some (.ref c_Table)))
    (pg_Table : PySem.W.plainGet K c_Table Str.empty = true)
    (hd_Table : PySem.W.hasDictIn K c_Table = true)
    (po_Table : PySem.W.plainOver K c_Table = true)
    (sa_Table : PySem.W.findIn K (.ref c_Table) "__setattr__" = some (some (.builtin "object.__setattr__")))
    (mk_Table : PySem.W.makesIn K c_Table = true)
    (kc_Table : PySem.W.keepIn K (.ref c_Table) = true)
    (n_Table_rows : PySem.W.findIn K (.ref c_Table) "rows" = some none)
    (n_Table_cursor : PySem.W.findIn K (.ref c_Table) "cursor" = some none)
    (n_Table_clipboard : PySem.W.findIn K (.ref c_Table) "clipboard" = some none)
    (a_Run : PySem.W.nsIn K mainGlobals "Run" = some (some (.ref c_Run)))
    (pg_Run : PySem.W.plainGet K c_Run Str.empty = true)
    (hd_Run : PySem.W.hasDictIn K c_Run = true)
    (po_Run : PySem.W.plainOver K c_Run = true)
    (sa_Run : PySem.W.findIn K (.ref c_Run) "__setattr__" = some (some (.builtin "object.__setattr__")))
    (mk_Run : PySem.W.makesIn K c_Run = true)
    (kc_Run : PySem.W.keepIn K (.ref c_Run) = true)
    (n_Run_table : PySem.W.findIn K (.ref c_Run) "table" = some none)
    (n_Run_done : PySem.W.findIn K (.ref c_Run) "done" = some none)
    (n_Run_word : PySem.W.findIn K (.ref c_Run) "word" = some none)
    (a_Desk : PySem.W.nsIn K mainGlobals "Desk" = some (some (.ref c_Desk)))
    (pg_Desk : PySem.W.plainGet K c_Desk Str.empty = true)
    (hd_Desk : PySem.W.hasDictIn K c_Desk = true)
    (po_Desk : PySem.W.plainOver K c_Desk = true)
    (sa_Desk : PySem.W.findIn K (.ref c_Desk) "__setattr__" = some (some (.builtin "object.__setattr__")))
    (mk_Desk : PySem.W.makesIn K c_Desk = true)
    (kc_Desk : PySem.W.keepIn K (.ref c_Desk) = true)
    (n_Desk_program : PySem.W.findIn K (.ref c_Desk) "program" = some none)
    (a_NoProgram : PySem.W.nsIn K mainGlobals "NoProgram" = some (some (.ref c_NoProgram)))
    (x_NoProgram : PySem.W.excIn K c_NoProgram [.type "ValueError", .type "Exception", .type "BaseException", .type "object"] "ValueError.__new__" = true)
    (kp_NoProgram : PySem.W.keepIn K (.ref c_NoProgram) = true)
    (sb_NoProgram : PySem.W.subIn K (.ref c_NoProgram) (.type "BaseException") = some true)
    (ty_NoProgram : PySem.W.typeIn K (.ref c_NoProgram) = some (.type "type"))
    (ic_NoProgram : PySem.W.isClsIn K c_NoProgram = true)
    (ss_NoProgram : PySem.W.subIn K (.ref c_NoProgram) (.ref c_NoProgram) = some true)
    (a_R : PySem.W.nsIn K mainGlobals "Refused" = some (some (.ref c_Refused)))
    (xl_R : K.lookup c_Refused = some (excClassObj nmR qR c_Refused NR bsR [.type "ValueError", .type "Exception", .type "BaseException", .type "object"] true snR subR abR colR ddR r0 r1 r2 r3 r5 "ValueError.__new__"))
    (sa_R : PySem.W.findIn K (.ref c_Refused) "__setattr__" = some (some (.builtin "object.__setattr__")))
    (ga_R : PySem.W.findIn K (.ref c_Refused) "__getattribute__" = some (some (.builtin "BaseException.__getattribute__")))
    (gg_R : PySem.W.findIn K (.ref c_Refused) "__getattr__" = some none)
    (nb_R : PySem.W.findIn K (.ref c_Refused) "refusal" = some none)
    (i_R : PySem.W.findIn K (.ref c_Refused) "__init__" = some (some (.ref f_Refused_init)))
    (t_R : PySem.W.typeIn K (.ref f_Refused_init) = some (.type "function"))
    (l_R : K.lookup f_Refused_init = some ⟨ocR, odR, .func (PySem.W.fnOf "__init__" "Refused.__init__" (PySem.RefX.iA ⟨426, 17, 426, 21⟩ ⟨426, 23, 426, 30⟩) (PySem.RefX.iB ⟨427, 8, 427, 12⟩ ⟨427, 8, 427, 20⟩ ⟨427, 23, 427, 30⟩ ⟨427, 8, 427, 30⟩) PySem.RefX.iS .none .none dcR pmR anR cdR ctR), slR⟩)
    (cd_R : PySem.W.codeIn K cdR "Refused.__init__" = true)
    (kc_R : PySem.W.keepIn K (.ref c_Refused) = true)
    (e_R : PySem.W.subIn K (.ref c_Refused) (.type "BaseException") = some true)
    (ty_R : PySem.W.typeIn K (.ref c_Refused) = some (.type "type"))
    (h_R : PySem.W.hasDictIn K c_Refused = true)
    (ic_R : PySem.W.isClsIn K c_Refused = true)
    (ss_R : PySem.W.subIn K (.ref c_Refused) (.ref c_Refused) = some true)
    (sn_R : PySem.W.subIn K (.ref c_Refused) (.ref c_NoProgram) = some false)
    (a_need_range : PySem.W.nsIn K mainGlobals "need_range" = some (some (.ref f_need_range)))
    (l_need_range : K.lookup f_need_range = some ⟨oc_need_range, od_need_range, .func (PySem.W.fnOf "need_range" "need_range" (defArgs s_need_range) (defBody s_need_range) (defScope s_need_range) .none kv_need_range dc_need_range pm_need_range an_need_range cd_need_range ct_need_range), sl_need_range⟩)
    (q_need_range : PySem.W.codeIn K cd_need_range "need_range" = true)
    (p_need_range : PySem.W.keepIn K (.ref f_need_range) = true)
    (a_Deed_init : PySem.W.findIn K (.ref c_Deed) "__init__" = some (some (.ref f_Deed_init)))
    (i_Deed_init : PySem.W.isFn K (.ref f_Deed_init) = true)
    (l_Deed_init : K.lookup f_Deed_init = some ⟨oc_Deed_init, od_Deed_init, .func (PySem.W.fnOf "__init__" "Deed.__init__" (defArgs s_Deed_init) (defBody s_Deed_init) (defScope s_Deed_init) .none kv_Deed_init dc_Deed_init pm_Deed_init an_Deed_init cd_Deed_init ct_Deed_init), sl_Deed_init⟩)
    (q_Deed_init : PySem.W.codeIn K cd_Deed_init "Deed.__init__" = true)
    (p_Deed_init : PySem.W.keepIn K (.ref f_Deed_init) = true)
    (a_Deed_as_numbers : PySem.W.findIn K (.ref c_Deed) "as_numbers" = some (some (.ref f_Deed_as_numbers)))
    (i_Deed_as_numbers : PySem.W.isFn K (.ref f_Deed_as_numbers) = true)
    (l_Deed_as_numbers : K.lookup f_Deed_as_numbers = some ⟨oc_Deed_as_numbers, od_Deed_as_numbers, .func (PySem.W.fnOf "as_numbers" "Deed.as_numbers" (defArgs s_Deed_as_numbers) (defBody s_Deed_as_numbers) (defScope s_Deed_as_numbers) .none kv_Deed_as_numbers dc_Deed_as_numbers pm_Deed_as_numbers an_Deed_as_numbers cd_Deed_as_numbers ct_Deed_as_numbers), sl_Deed_as_numbers⟩)
    (q_Deed_as_numbers : PySem.W.codeIn K cd_Deed_as_numbers "Deed.as_numbers" = true)
    (p_Deed_as_numbers : PySem.W.keepIn K (.ref f_Deed_as_numbers) = true)
    (a_Piece_init : PySem.W.findIn K (.ref c_Piece) "__init__" = some (some (.ref f_Piece_init)))
    (i_Piece_init : PySem.W.isFn K (.ref f_Piece_init) = true)
    (l_Piece_init : K.lookup f_Piece_init = some ⟨oc_Piece_init, od_Piece_init, .func (PySem.W.fnOf "__init__" "Piece.__init__" (defArgs s_Piece_init) (defBody s_Piece_init) (defScope s_Piece_init) .none kv_Piece_init dc_Piece_init pm_Piece_init an_Piece_init cd_Piece_init ct_Piece_init), sl_Piece_init⟩)
    (q_Piece_init : PySem.W.codeIn K cd_Piece_init "Piece.__init__" = true)
    (p_Piece_init : PySem.W.keepIn K (.ref f_Piece_init) = true)
    (a_Piece_many : PySem.W.findIn K (.ref c_Piece) "many" = some (some (.ref f_Piece_many)))
    (i_Piece_many : PySem.W.isFn K (.ref f_Piece_many) = true)
    (l_Piece_many : K.lookup f_Piece_many = some ⟨oc_Piece_many, od_Piece_many, .func (PySem.W.fnOf "many" "Piece.many" (defArgs s_Piece_many) (defBody s_Piece_many) (defScope s_Piece_many) .none kv_Piece_many dc_Piece_many pm_Piece_many an_Piece_many cd_Piece_many ct_Piece_many), sl_Piece_many⟩)
    (q_Piece_many : PySem.W.codeIn K cd_Piece_many "Piece.many" = true)
    (p_Piece_many : PySem.W.keepIn K (.ref f_Piece_many) = true)
    (a_Piece_deep : PySem.W.findIn K (.ref c_Piece) "deep" = some (some (.ref f_Piece_deep)))
    (i_Piece_deep : PySem.W.isFn K (.ref f_Piece_deep) = true)
    (l_Piece_deep : K.lookup f_Piece_deep = some ⟨oc_Piece_deep, od_Piece_deep, .func (PySem.W.fnOf "deep" "Piece.deep" (defArgs s_Piece_deep) (defBody s_Piece_deep) (defScope s_Piece_deep) .none kv_Piece_deep dc_Piece_deep pm_Piece_deep an_Piece_deep cd_Piece_deep ct_Piece_deep), sl_Piece_deep⟩)
    (q_Piece_deep : PySem.W.codeIn K cd_Piece_deep "Piece.deep" = true)
    (p_Piece_deep : PySem.W.keepIn K (.ref f_Piece_deep) = true)
    (a_Piece_as_numbers : PySem.W.findIn K (.ref c_Piece) "as_numbers" = some (some (.ref f_Piece_as_numbers)))
    (i_Piece_as_numbers : PySem.W.isFn K (.ref f_Piece_as_numbers) = true)
    (l_Piece_as_numbers : K.lookup f_Piece_as_numbers = some ⟨oc_Piece_as_numbers, od_Piece_as_numbers, .func (PySem.W.fnOf "as_numbers" "Piece.as_numbers" (defArgs s_Piece_as_numbers) (defBody s_Piece_as_numbers) (defScope s_Piece_as_numbers) .none kv_Piece_as_numbers dc_Piece_as_numbers pm_Piece_as_numbers an_Piece_as_numbers cd_Piece_as_numbers ct_Piece_as_numbers), sl_Piece_as_numbers⟩)
    (q_Piece_as_numbers : PySem.W.codeIn K cd_Piece_as_numbers "Piece.as_numbers" = true)
    (p_Piece_as_numbers : PySem.W.keepIn K (.ref f_Piece_as_numbers) = true)
    (a_many_pieces : PySem.W.nsIn K mainGlobals "many_pieces" = some (some (.ref f_many_pieces)))
    (l_many_pieces : K.lookup f_many_pieces = some ⟨oc_many_pieces, od_many_pieces, .func (PySem.W.fnOf "many_pieces" "many_pieces" (defArgs s_many_pieces) (defBody s_many_pieces) (defScope s_many_pieces) .none kv_many_pieces dc_many_pieces pm_many_pieces an_many_pieces cd_many_pieces ct_many_pieces), sl_many_pieces⟩)
    (q_many_pieces : PySem.W.codeIn K cd_many_pieces "many_pieces" = true)
    (p_many_pieces : PySem.W.keepIn K (.ref f_many_pieces) = true)
    (a_deepest : PySem.W.nsIn K mainGlobals "deepest" = some (some (.ref f_deepest)))
    (l_deepest : K.lookup f_deepest = some ⟨oc_deepest, od_deepest, .func (PySem.W.fnOf "deepest" "deepest" (defArgs s_deepest) (defBody s_deepest) (defScope s_deepest) .none kv_deepest dc_deepest pm_deepest an_deepest cd_deepest ct_deepest), sl_deepest⟩)
    (q_deepest : PySem.W.codeIn K cd_deepest "deepest" = true)
    (p_deepest : PySem.W.keepIn K (.ref f_deepest) = true)
    (a_row_as_numbers : PySem.W.nsIn K mainGlobals "row_as_numbers" = some (some (.ref f_row_as_numbers)))
    (l_row_as_numbers : K.lookup f_row_as_numbers = some ⟨oc_row_as_numbers, od_row_as_numbers, .func (PySem.W.fnOf "row_as_numbers" "row_as_numbers" (defArgs s_row_as_numbers) (defBody s_row_as_numbers) (defScope s_row_as_numbers) .none kv_row_as_numbers dc_row_as_numbers pm_row_as_numbers an_row_as_numbers cd_row_as_numbers ct_row_as_numbers), sl_row_as_numbers⟩)
    (q_row_as_numbers : PySem.W.codeIn K cd_row_as_numbers "row_as_numbers" = true)
    (p_row_as_numbers : PySem.W.keepIn K (.ref f_row_as_numbers) = true)
    (a_in_order : PySem.W.nsIn K mainGlobals "in_order" = some (some (.ref f_in_order)))
    (l_in_order : K.lookup f_in_order = some ⟨oc_in_order, od_in_order, .func (PySem.W.fnOf "in_order" "in_order" (defArgs s_in_order) (defBody s_in_order) (defScope s_in_order) .none kv_in_order dc_in_order pm_in_order an_in_order cd_in_order ct_in_order), sl_in_order⟩)
    (q_in_order : PySem.W.codeIn K cd_in_order "in_order" = true)
    (p_in_order : PySem.W.keepIn K (.ref f_in_order) = true)
    (a_Reader_init : PySem.W.findIn K (.ref c_Reader) "__init__" = some (some (.ref f_Reader_init)))
    (i_Reader_init : PySem.W.isFn K (.ref f_Reader_init) = true)
    (l_Reader_init : K.lookup f_Reader_init = some ⟨oc_Reader_init, od_Reader_init, .func (PySem.W.fnOf "__init__" "Reader.__init__" (defArgs s_Reader_init) (defBody s_Reader_init) (defScope s_Reader_init) .none kv_Reader_init dc_Reader_init pm_Reader_init an_Reader_init cd_Reader_init ct_Reader_init), sl_Reader_init⟩)
    (q_Reader_init : PySem.W.codeIn K cd_Reader_init "Reader.__init__" = true)
    (p_Reader_init : PySem.W.keepIn K (.ref f_Reader_init) = true)
    (a_Reader_take : PySem.W.findIn K (.ref c_Reader) "take" = some (some (.ref f_Reader_take)))
    (i_Reader_take : PySem.W.isFn K (.ref f_Reader_take) = true)
    (l_Reader_take : K.lookup f_Reader_take = some ⟨oc_Reader_take, od_Reader_take, .func (PySem.W.fnOf "take" "Reader.take" (defArgs s_Reader_take) (defBody s_Reader_take) (defScope s_Reader_take) .none kv_Reader_take dc_Reader_take pm_Reader_take an_Reader_take cd_Reader_take ct_Reader_take), sl_Reader_take⟩)
    (q_Reader_take : PySem.W.codeIn K cd_Reader_take "Reader.take" = true)
    (p_Reader_take : PySem.W.keepIn K (.ref f_Reader_take) = true)
    (a_Reader_must_end : PySem.W.findIn K (.ref c_Reader) "must_end" = some (some (.ref f_Reader_must_end)))
    (i_Reader_must_end : PySem.W.isFn K (.ref f_Reader_must_end) = true)
    (l_Reader_must_end : K.lookup f_Reader_must_end = some ⟨oc_Reader_must_end, od_Reader_must_end, .func (PySem.W.fnOf "must_end" "Reader.must_end" (defArgs s_Reader_must_end) (defBody s_Reader_must_end) (defScope s_Reader_must_end) .none kv_Reader_must_end dc_Reader_must_end pm_Reader_must_end an_Reader_must_end cd_Reader_must_end ct_Reader_must_end), sl_Reader_must_end⟩)
    (q_Reader_must_end : PySem.W.codeIn K cd_Reader_must_end "Reader.must_end" = true)
    (p_Reader_must_end : PySem.W.keepIn K (.ref f_Reader_must_end) = true)
    (a_Reader_next_deed : PySem.W.findIn K (.ref c_Reader) "next_deed" = some (some (.ref f_Reader_next_deed)))
    (i_Reader_next_deed : PySem.W.isFn K (.ref f_Reader_next_deed) = true)
    (l_Reader_next_deed : K.lookup f_Reader_next_deed = some ⟨oc_Reader_next_deed, od_Reader_next_deed, .func (PySem.W.fnOf "next_deed" "Reader.next_deed" (defArgs s_Reader_next_deed) (defBody s_Reader_next_deed) (defScope s_Reader_next_deed) .none kv_Reader_next_deed dc_Reader_next_deed pm_Reader_next_deed an_Reader_next_deed cd_Reader_next_deed ct_Reader_next_deed), sl_Reader_next_deed⟩)
    (q_Reader_next_deed : PySem.W.codeIn K cd_Reader_next_deed "Reader.next_deed" = true)
    (p_Reader_next_deed : PySem.W.keepIn K (.ref f_Reader_next_deed) = true)
    (a_Reader_piece : PySem.W.findIn K (.ref c_Reader) "piece" = some (some (.ref f_Reader_piece)))
    (i_Reader_piece : PySem.W.isFn K (.ref f_Reader_piece) = true)
    (l_Reader_piece : K.lookup f_Reader_piece = some ⟨oc_Reader_piece, od_Reader_piece, .func (PySem.W.fnOf "piece" "Reader.piece" (defArgs s_Reader_piece) (defBody s_Reader_piece) (defScope s_Reader_piece) .none kv_Reader_piece dc_Reader_piece pm_Reader_piece an_Reader_piece cd_Reader_piece ct_Reader_piece), sl_Reader_piece⟩)
    (q_Reader_piece : PySem.W.codeIn K cd_Reader_piece "Reader.piece" = true)
    (p_Reader_piece : PySem.W.keepIn K (.ref f_Reader_piece) = true)
    (a_Reader_pieces : PySem.W.findIn K (.ref c_Reader) "pieces" = some (some (.ref f_Reader_pieces)))
    (i_Reader_pieces : PySem.W.isFn K (.ref f_Reader_pieces) = true)
    (l_Reader_pieces : K.lookup f_Reader_pieces = some ⟨oc_Reader_pieces, od_Reader_pieces, .func (PySem.W.fnOf "pieces" "Reader.pieces" (defArgs s_Reader_pieces) (defBody s_Reader_pieces) (defScope s_Reader_pieces) .none kv_Reader_pieces dc_Reader_pieces pm_Reader_pieces an_Reader_pieces cd_Reader_pieces ct_Reader_pieces), sl_Reader_pieces⟩)
    (q_Reader_pieces : PySem.W.codeIn K cd_Reader_pieces "Reader.pieces" = true)
    (p_Reader_pieces : PySem.W.keepIn K (.ref f_Reader_pieces) = true)
    (a_read_program : PySem.W.nsIn K mainGlobals "read_program" = some (some (.ref f_read_program)))
    (l_read_program : K.lookup f_read_program = some ⟨oc_read_program, od_read_program, .func (PySem.W.fnOf "read_program" "read_program" (defArgs s_read_program) (defBody s_read_program) (defScope s_read_program) .none kv_read_program dc_read_program pm_read_program an_read_program cd_read_program ct_read_program), sl_read_program⟩)
    (q_read_program : PySem.W.codeIn K cd_read_program "read_program" = true)
    (p_read_program : PySem.W.keepIn K (.ref f_read_program) = true)
    (a_as_program : PySem.W.nsIn K mainGlobals "as_program" = some (some (.ref f_as_program)))
    (l_as_program : K.lookup f_as_program = some ⟨oc_as_program, od_as_program, .func (PySem.W.fnOf "as_program" "as_program" (defArgs s_as_program) (defBody s_as_program) (defScope s_as_program) .none kv_as_program dc_as_program pm_as_program an_as_program cd_as_program ct_as_program), sl_as_program⟩)
    (q_as_program : PySem.W.codeIn K cd_as_program "as_program" = true)
    (p_as_program : PySem.W.keepIn K (.ref f_as_program) = true)
    (a_read_deeds : PySem.W.nsIn K mainGlobals "read_deeds" = some (some (.ref f_read_deeds)))
    (l_read_deeds : K.lookup f_read_deeds = some ⟨oc_read_deeds, od_read_deeds, .func (PySem.W.fnOf "read_deeds" "read_deeds" (defArgs s_read_deeds) (defBody s_read_deeds) (defScope s_read_deeds) .none kv_read_deeds dc_read_deeds pm_read_deeds an_read_deeds cd_read_deeds ct_read_deeds), sl_read_deeds⟩)
    (q_read_deeds : PySem.W.codeIn K cd_read_deeds "read_deeds" = true)
    (p_read_deeds : PySem.W.keepIn K (.ref f_read_deeds) = true)
    (a_fewer : PySem.W.nsIn K mainGlobals "fewer" = some (some (.ref f_fewer)))
    (l_fewer : K.lookup f_fewer = some ⟨oc_fewer, od_fewer, .func (PySem.W.fnOf "fewer" "fewer" (defArgs s_fewer) (defBody s_fewer) (defScope s_fewer) .none kv_fewer dc_fewer pm_fewer an_fewer cd_fewer ct_fewer), sl_fewer⟩)
    (q_fewer : PySem.W.codeIn K cd_fewer "fewer" = true)
    (p_fewer : PySem.W.keepIn K (.ref f_fewer) = true)
    (a_cleaned_once : PySem.W.nsIn K mainGlobals "cleaned_once" = some (some (.ref f_cleaned_once)))
    (l_cleaned_once : K.lookup f_cleaned_once = some ⟨oc_cleaned_once, od_cleaned_once, .func (PySem.W.fnOf "cleaned_once" "cleaned_once" (defArgs s_cleaned_once) (defBody s_cleaned_once) (defScope s_cleaned_once) .none kv_cleaned_once dc_cleaned_once pm_cleaned_once an_cleaned_once cd_cleaned_once ct_cleaned_once), sl_cleaned_once⟩)
    (q_cleaned_once : PySem.W.codeIn K cd_cleaned_once "cleaned_once" = true)
    (p_cleaned_once : PySem.W.keepIn K (.ref f_cleaned_once) = true)
    (a_cleaned : PySem.W.nsIn K mainGlobals "cleaned" = some (some (.ref f_cleaned)))
    (l_cleaned : K.lookup f_cleaned = some ⟨oc_cleaned, od_cleaned, .func (PySem.W.fnOf "cleaned" "cleaned" (defArgs s_cleaned) (defBody s_cleaned) (defScope s_cleaned) .none kv_cleaned dc_cleaned pm_cleaned an_cleaned cd_cleaned ct_cleaned), sl_cleaned⟩)
    (q_cleaned : PySem.W.codeIn K cd_cleaned "cleaned" = true)
    (p_cleaned : PySem.W.keepIn K (.ref f_cleaned) = true)
    (a_told : PySem.W.nsIn K mainGlobals "told" = some (some (.ref f_told)))
    (l_told : K.lookup f_told = some ⟨oc_told, od_told, .func (PySem.W.fnOf "told" "told" (defArgs s_told) (defBody s_told) (defScope s_told) .none kv_told dc_told pm_told an_told cd_told ct_told), sl_told⟩)
    (q_told : PySem.W.codeIn K cd_told "told" = true)
    (p_told : PySem.W.keepIn K (.ref f_told) = true)
    (a_deeds_of : PySem.W.nsIn K mainGlobals "deeds_of" = some (some (.ref f_deeds_of)))
    (l_deeds_of : K.lookup f_deeds_of = some ⟨oc_deeds_of, od_deeds_of, .func (PySem.W.fnOf "deeds_of" "deeds_of" (defArgs s_deeds_of) (defBody s_deeds_of) (defScope s_deeds_of) .none kv_deeds_of dc_deeds_of pm_deeds_of an_deeds_of cd_deeds_of ct_deeds_of), sl_deeds_of⟩)
    (q_deeds_of : PySem.W.codeIn K cd_deeds_of "deeds_of" = true)
    (p_deeds_of : PySem.W.keepIn K (.ref f_deeds_of) = true)
    (a_written : PySem.W.nsIn K mainGlobals "written" = some (some (.ref f_written)))
    (l_written : K.lookup f_written = some ⟨oc_written, od_written, .func (PySem.W.fnOf "written" "written" (defArgs s_written) (defBody s_written) (defScope s_written) .none kv_written dc_written pm_written an_written cd_written ct_written), sl_written⟩)
    (q_written : PySem.W.codeIn K cd_written "written" = true)
    (p_written : PySem.W.keepIn K (.ref f_written) = true)
    (a_looked_at : PySem.W.nsIn K mainGlobals "looked_at" = some (some (.ref f_looked_at)))
    (l_looked_at : K.lookup f_looked_at = some ⟨oc_looked_at, od_looked_at, .func (PySem.W.fnOf "looked_at" "looked_at" (defArgs s_looked_at) (defBody s_looked_at) (defScope s_looked_at) .none kv_looked_at dc_looked_at pm_looked_at an_looked_at cd_looked_at ct_looked_at), sl_looked_at⟩)
    (q_looked_at : PySem.W.codeIn K cd_looked_at "looked_at" = true)
    (p_looked_at : PySem.W.keepIn K (.ref f_looked_at) = true)
    (a_may_change_rows : PySem.W.nsIn K mainGlobals "may_change_rows" = some (some (.ref f_may_change_rows)))
    (l_may_change_rows : K.lookup f_may_change_rows = some ⟨oc_may_change_rows, od_may_change_rows, .func (PySem.W.fnOf "may_change_rows" "may_change_rows" (defArgs s_may_change_rows) (defBody s_may_change_rows) (defScope s_may_change_rows) .none kv_may_change_rows dc_may_change_rows pm_may_change_rows an_may_change_rows cd_may_change_rows ct_may_change_rows), sl_may_change_rows⟩)
    (q_may_change_rows : PySem.W.codeIn K cd_may_change_rows "may_change_rows" = true)
    (p_may_change_rows : PySem.W.keepIn K (.ref f_may_change_rows) = true)
    (a_Clipboard_init : PySem.W.findIn K (.ref c_Clipboard) "__init__" = some (some (.ref f_Clipboard_init)))
    (i_Clipboard_init : PySem.W.isFn K (.ref f_Clipboard_init) = true)
    (l_Clipboard_init : K.lookup f_Clipboard_init = some ⟨oc_Clipboard_init, od_Clipboard_init, .func (PySem.W.fnOf "__init__" "Clipboard.__init__" (defArgs s_Clipboard_init) (defBody s_Clipboard_init) (defScope s_Clipboard_init) .none kv_Clipboard_init dc_Clipboard_init pm_Clipboard_init an_Clipboard_init cd_Clipboard_init ct_Clipboard_init), sl_Clipboard_init⟩)
    (q_Clipboard_init : PySem.W.codeIn K cd_Clipboard_init "Clipboard.__init__" = true)
    (p_Clipboard_init : PySem.W.keepIn K (.ref f_Clipboard_init) = true)
    (a_Clipboard_go_through : PySem.W.findIn K (.ref c_Clipboard) "go_through" = some (some (.ref f_Clipboard_go_through)))
    (i_Clipboard_go_through : PySem.W.isFn K (.ref f_Clipboard_go_through) = true)
    (l_Clipboard_go_through : K.lookup f_Clipboard_go_through = some ⟨oc_Clipboard_go_through, od_Clipboard_go_through, .func (PySem.W.fnOf "go_through" "Clipboard.go_through" (defArgs s_Clipboard_go_through) (defBody s_Clipboard_go_through) (defScope s_Clipboard_go_through) .none kv_Clipboard_go_through dc_Clipboard_go_through pm_Clipboard_go_through an_Clipboard_go_through cd_Clipboard_go_through ct_Clipboard_go_through), sl_Clipboard_go_through⟩)
    (q_Clipboard_go_through : PySem.W.codeIn K cd_Clipboard_go_through "Clipboard.go_through" = true)
    (p_Clipboard_go_through : PySem.W.keepIn K (.ref f_Clipboard_go_through) = true)
    (a_may_read_old : PySem.W.nsIn K mainGlobals "may_read_old" = some (some (.ref f_may_read_old)))
    (l_may_read_old : K.lookup f_may_read_old = some ⟨oc_may_read_old, od_may_read_old, .func (PySem.W.fnOf "may_read_old" "may_read_old" (defArgs s_may_read_old) (defBody s_may_read_old) (defScope s_may_read_old) .none kv_may_read_old dc_may_read_old pm_may_read_old an_may_read_old cd_may_read_old ct_may_read_old), sl_may_read_old⟩)
    (q_may_read_old : PySem.W.codeIn K cd_may_read_old "may_read_old" = true)
    (p_may_read_old : PySem.W.keepIn K (.ref f_may_read_old) = true)
    (a_rest_of_deed : PySem.W.nsIn K mainGlobals "rest_of_deed" = some (some (.ref f_rest_of_deed)))
    (l_rest_of_deed : K.lookup f_rest_of_deed = some ⟨oc_rest_of_deed, od_rest_of_deed, .func (PySem.W.fnOf "rest_of_deed" "rest_of_deed" (defArgs s_rest_of_deed) (defBody s_rest_of_deed) (defScope s_rest_of_deed) .none kv_rest_of_deed dc_rest_of_deed pm_rest_of_deed an_rest_of_deed cd_rest_of_deed ct_rest_of_deed), sl_rest_of_deed⟩)
    (q_rest_of_deed : PySem.W.codeIn K cd_rest_of_deed "rest_of_deed" = true)
    (p_rest_of_deed : PySem.W.keepIn K (.ref f_rest_of_deed) = true)
    (a_rest_of : PySem.W.nsIn K mainGlobals "rest_of" = some (some (.ref f_rest_of)))
    (l_rest_of : K.lookup f_rest_of = some ⟨oc_rest_of, od_rest_of, .func (PySem.W.fnOf "rest_of" "rest_of" (defArgs s_rest_of) (defBody s_rest_of) (defScope s_rest_of) .none kv_rest_of dc_rest_of pm_rest_of an_rest_of cd_rest_of ct_rest_of), sl_rest_of⟩)
    (q_rest_of : PySem.W.codeIn K cd_rest_of "rest_of" = true)
    (p_rest_of : PySem.W.keepIn K (.ref f_rest_of) = true)
    (a_rest_of_row : PySem.W.nsIn K mainGlobals "rest_of_row" = some (some (.ref f_rest_of_row)))
    (l_rest_of_row : K.lookup f_rest_of_row = some ⟨oc_rest_of_row, od_rest_of_row, .func (PySem.W.fnOf "rest_of_row" "rest_of_row" (defArgs s_rest_of_row) (defBody s_rest_of_row) (defScope s_rest_of_row) .none kv_rest_of_row dc_rest_of_row pm_rest_of_row an_rest_of_row cd_rest_of_row ct_rest_of_row), sl_rest_of_row⟩)
    (q_rest_of_row : PySem.W.codeIn K cd_rest_of_row "rest_of_row" = true)
    (p_rest_of_row : PySem.W.keepIn K (.ref f_rest_of_row) = true)
    (a_comes_nearer : PySem.W.nsIn K mainGlobals "comes_nearer" = some (some (.ref f_comes_nearer)))
    (l_comes_nearer : K.lookup f_comes_nearer = some ⟨oc_comes_nearer, od_comes_nearer, .func (PySem.W.fnOf "comes_nearer" "comes_nearer" (defArgs s_comes_nearer) (defBody s_comes_nearer) (defScope s_comes_nearer) .none kv_comes_nearer dc_comes_nearer pm_comes_nearer an_comes_nearer cd_comes_nearer ct_comes_nearer), sl_comes_nearer⟩)
    (q_comes_nearer : PySem.W.codeIn K cd_comes_nearer "comes_nearer" = true)
    (p_comes_nearer : PySem.W.keepIn K (.ref f_comes_nearer) = true)
    (a_first_not_nearer : PySem.W.nsIn K mainGlobals "first_not_nearer" = some (some (.ref f_first_not_nearer)))
    (l_first_not_nearer : K.lookup f_first_not_nearer = some ⟨oc_first_not_nearer, od_first_not_nearer, .func (PySem.W.fnOf "first_not_nearer" "first_not_nearer" (defArgs s_first_not_nearer) (defBody s_first_not_nearer) (defScope s_first_not_nearer) .none kv_first_not_nearer dc_first_not_nearer pm_first_not_nearer an_first_not_nearer cd_first_not_nearer ct_first_not_nearer), sl_first_not_nearer⟩)
    (q_first_not_nearer : PySem.W.codeIn K cd_first_not_nearer "first_not_nearer" = true)
    (p_first_not_nearer : PySem.W.keepIn K (.ref f_first_not_nearer) = true)
    (a_most_deeds : PySem.W.nsIn K mainGlobals "most_deeds" = some (some (.ref f_most_deeds)))
    (l_most_deeds : K.lookup f_most_deeds = some ⟨oc_most_deeds, od_most_deeds, .func (PySem.W.fnOf "most_deeds" "most_deeds" (defArgs s_most_deeds) (defBody s_most_deeds) (defScope s_most_deeds) .none kv_most_deeds dc_most_deeds pm_most_deeds an_most_deeds cd_most_deeds ct_most_deeds), sl_most_deeds⟩)
    (q_most_deeds : PySem.W.codeIn K cd_most_deeds "most_deeds" = true)
    (p_most_deeds : PySem.W.keepIn K (.ref f_most_deeds) = true)
    (a_is_accepted : PySem.W.nsIn K mainGlobals "is_accepted" = some (some (.ref f_is_accepted)))
    (l_is_accepted : K.lookup f_is_accepted = some ⟨oc_is_accepted, od_is_accepted, .func (PySem.W.fnOf "is_accepted" "is_accepted" (defArgs s_is_accepted) (defBody s_is_accepted) (defScope s_is_accepted) .none kv_is_accepted dc_is_accepted pm_is_accepted an_is_accepted cd_is_accepted ct_is_accepted), sl_is_accepted⟩)
    (q_is_accepted : PySem.W.codeIn K cd_is_accepted "is_accepted" = true)
    (p_is_accepted : PySem.W.keepIn K (.ref f_is_accepted) = true)
    (a_first_against : PySem.W.nsIn K mainGlobals "first_against" = some (some (.ref f_first_against)))
    (l_first_against : K.lookup f_first_against = some ⟨oc_first_against, od_first_against, .func (PySem.W.fnOf "first_against" "first_against" (defArgs s_first_against) (defBody s_first_against) (defScope s_first_against) .none kv_first_against dc_first_against pm_first_against an_first_against cd_first_against ct_first_against), sl_first_against⟩)
    (q_first_against : PySem.W.codeIn K cd_first_against "first_against" = true)
    (p_first_against : PySem.W.keepIn K (.ref f_first_against) = true)
    (a_Table_init : PySem.W.findIn K (.ref c_Table) "__init__" = some (some (.ref f_Table_init)))
    (i_Table_init : PySem.W.isFn K (.ref f_Table_init) = true)
    (l_Table_init : K.lookup f_Table_init = some ⟨oc_Table_init, od_Table_init, .func (PySem.W.fnOf "__init__" "Table.__init__" (defArgs s_Table_init) (defBody s_Table_init) (defScope s_Table_init) .none kv_Table_init dc_Table_init pm_Table_init an_Table_init cd_Table_init ct_Table_init), sl_Table_init⟩)
    (q_Table_init : PySem.W.codeIn K cd_Table_init "Table.__init__" = true)
    (p_Table_init : PySem.W.keepIn K (.ref f_Table_init) = true)
    (a_Table_copied : PySem.W.findIn K (.ref c_Table) "copied" = some (some (.ref f_Table_copied)))
    (i_Table_copied : PySem.W.isFn K (.ref f_Table_copied) = true)
    (l_Table_copied : K.lookup f_Table_copied = some ⟨oc_Table_copied, od_Table_copied, .func (PySem.W.fnOf "copied" "Table.copied" (defArgs s_Table_copied) (defBody s_Table_copied) (defScope s_Table_copied) .none kv_Table_copied dc_Table_copied pm_Table_copied an_Table_copied cd_Table_copied ct_Table_copied), sl_Table_copied⟩)
    (q_Table_copied : PySem.W.codeIn K cd_Table_copied "Table.copied" = true)
    (p_Table_copied : PySem.W.keepIn K (.ref f_Table_copied) = true)
    (a_Table_as_numbers : PySem.W.findIn K (.ref c_Table) "as_numbers" = some (some (.ref f_Table_as_numbers)))
    (i_Table_as_numbers : PySem.W.isFn K (.ref f_Table_as_numbers) = true)
    (l_Table_as_numbers : K.lookup f_Table_as_numbers = some ⟨oc_Table_as_numbers, od_Table_as_numbers, .func (PySem.W.fnOf "as_numbers" "Table.as_numbers" (defArgs s_Table_as_numbers) (defBody s_Table_as_numbers) (defScope s_Table_as_numbers) .none kv_Table_as_numbers dc_Table_as_numbers pm_Table_as_numbers an_Table_as_numbers cd_Table_as_numbers ct_Table_as_numbers), sl_Table_as_numbers⟩)
    (q_Table_as_numbers : PySem.W.codeIn K cd_Table_as_numbers "Table.as_numbers" = true)
    (p_Table_as_numbers : PySem.W.keepIn K (.ref f_Table_as_numbers) = true)
    (a_Table_is_behind : PySem.W.findIn K (.ref c_Table) "is_behind" = some (some (.ref f_Table_is_behind)))
    (i_Table_is_behind : PySem.W.isFn K (.ref f_Table_is_behind) = true)
    (l_Table_is_behind : K.lookup f_Table_is_behind = some ⟨oc_Table_is_behind, od_Table_is_behind, .func (PySem.W.fnOf "is_behind" "Table.is_behind" (defArgs s_Table_is_behind) (defBody s_Table_is_behind) (defScope s_Table_is_behind) .none kv_Table_is_behind dc_Table_is_behind pm_Table_is_behind an_Table_is_behind cd_Table_is_behind ct_Table_is_behind), sl_Table_is_behind⟩)
    (q_Table_is_behind : PySem.W.codeIn K cd_Table_is_behind "Table.is_behind" = true)
    (p_Table_is_behind : PySem.W.keepIn K (.ref f_Table_is_behind) = true)
    (a_Table_here : PySem.W.findIn K (.ref c_Table) "here" = some (some (.ref f_Table_here)))
    (i_Table_here : PySem.W.isFn K (.ref f_Table_here) = true)
    (l_Table_here : K.lookup f_Table_here = some ⟨oc_Table_here, od_Table_here, .func (PySem.W.fnOf "here" "Table.here" (defArgs s_Table_here) (defBody s_Table_here) (defScope s_Table_here) .none kv_Table_here dc_Table_here pm_Table_here an_Table_here cd_Table_here ct_Table_here), sl_Table_here⟩)
    (q_Table_here : PySem.W.codeIn K cd_Table_here "Table.here" = true)
    (p_Table_here : PySem.W.keepIn K (.ref f_Table_here) = true)
    (a_Table_found_row : PySem.W.findIn K (.ref c_Table) "found_row" = some (some (.ref f_Table_found_row)))
    (i_Table_found_row : PySem.W.isFn K (.ref f_Table_found_row) = true)
    (l_Table_found_row : K.lookup f_Table_found_row = some ⟨oc_Table_found_row, od_Table_found_row, .func (PySem.W.fnOf "found_row" "Table.found_row" (defArgs s_Table_found_row) (defBody s_Table_found_row) (defScope s_Table_found_row) .none kv_Table_found_row dc_Table_found_row pm_Table_found_row an_Table_found_row cd_Table_found_row ct_Table_found_row), sl_Table_found_row⟩)
    (q_Table_found_row : PySem.W.codeIn K cd_Table_found_row "Table.found_row" = true)
    (p_Table_found_row : PySem.W.keepIn K (.ref f_Table_found_row) = true)
    (a_Table_put : PySem.W.findIn K (.ref c_Table) "put" = some (some (.ref f_Table_put)))
    (i_Table_put : PySem.W.isFn K (.ref f_Table_put) = true)
    (l_Table_put : K.lookup f_Table_put = some ⟨oc_Table_put, od_Table_put, .func (PySem.W.fnOf "put" "Table.put" (defArgs s_Table_put) (defBody s_Table_put) (defScope s_Table_put) .none kv_Table_put dc_Table_put pm_Table_put an_Table_put cd_Table_put ct_Table_put), sl_Table_put⟩)
    (q_Table_put : PySem.W.codeIn K cd_Table_put "Table.put" = true)
    (p_Table_put : PySem.W.keepIn K (.ref f_Table_put) = true)
    (a_Table_move : PySem.W.findIn K (.ref c_Table) "move" = some (some (.ref f_Table_move)))
    (i_Table_move : PySem.W.isFn K (.ref f_Table_move) = true)
    (l_Table_move : K.lookup f_Table_move = some ⟨oc_Table_move, od_Table_move, .func (PySem.W.fnOf "move" "Table.move" (defArgs s_Table_move) (defBody s_Table_move) (defScope s_Table_move) .none kv_Table_move dc_Table_move pm_Table_move an_Table_move cd_Table_move ct_Table_move), sl_Table_move⟩)
    (q_Table_move : PySem.W.codeIn K cd_Table_move "Table.move" = true)
    (p_Table_move : PySem.W.keepIn K (.ref f_Table_move) = true)
    (a_Table_double : PySem.W.findIn K (.ref c_Table) "double" = some (some (.ref f_Table_double)))
    (i_Table_double : PySem.W.isFn K (.ref f_Table_double) = true)
    (l_Table_double : K.lookup f_Table_double = some ⟨oc_Table_double, od_Table_double, .func (PySem.W.fnOf "double" "Table.double" (defArgs s_Table_double) (defBody s_Table_double) (defScope s_Table_double) .none kv_Table_double dc_Table_double pm_Table_double an_Table_double cd_Table_double ct_Table_double), sl_Table_double⟩)
    (q_Table_double : PySem.W.codeIn K cd_Table_double "Table.double" = true)
    (p_Table_double : PySem.W.keepIn K (.ref f_Table_double) = true)
    (a_Table_do : PySem.W.findIn K (.ref c_Table) "do" = some (some (.ref f_Table_do)))
    (i_Table_do : PySem.W.isFn K (.ref f_Table_do) = true)
    (l_Table_do : K.lookup f_Table_do = some ⟨oc_Table_do, od_Table_do, .func (PySem.W.fnOf "do" "Table.do" (defArgs s_Table_do) (defBody s_Table_do) (defScope s_Table_do) .none kv_Table_do dc_Table_do pm_Table_do an_Table_do cd_Table_do ct_Table_do), sl_Table_do⟩)
    (q_Table_do : PySem.W.codeIn K cd_Table_do "Table.do" = true)
    (p_Table_do : PySem.W.keepIn K (.ref f_Table_do) = true)
    (a_read_table : PySem.W.nsIn K mainGlobals "read_table" = some (some (.ref f_read_table)))
    (l_read_table : K.lookup f_read_table = some ⟨oc_read_table, od_read_table, .func (PySem.W.fnOf "read_table" "read_table" (defArgs s_read_table) (defBody s_read_table) (defScope s_read_table) .none kv_read_table dc_read_table pm_read_table an_read_table cd_read_table ct_read_table), sl_read_table⟩)
    (q_read_table : PySem.W.codeIn K cd_read_table "read_table" = true)
    (p_read_table : PySem.W.keepIn K (.ref f_read_table) = true)
    (a_Run_init : PySem.W.findIn K (.ref c_Run) "__init__" = some (some (.ref f_Run_init)))
    (i_Run_init : PySem.W.isFn K (.ref f_Run_init) = true)
    (l_Run_init : K.lookup f_Run_init = some ⟨oc_Run_init, od_Run_init, .func (PySem.W.fnOf "__init__" "Run.__init__" (defArgs s_Run_init) (defBody s_Run_init) (defScope s_Run_init) .none kv_Run_init dc_Run_init pm_Run_init an_Run_init cd_Run_init ct_Run_init), sl_Run_init⟩)
    (q_Run_init : PySem.W.codeIn K cd_Run_init "Run.__init__" = true)
    (p_Run_init : PySem.W.keepIn K (.ref f_Run_init) = true)
    (a_Run_is_over : PySem.W.findIn K (.ref c_Run) "is_over" = some (some (.ref f_Run_is_over)))
    (i_Run_is_over : PySem.W.isFn K (.ref f_Run_is_over) = true)
    (l_Run_is_over : K.lookup f_Run_is_over = some ⟨oc_Run_is_over, od_Run_is_over, .func (PySem.W.fnOf "is_over" "Run.is_over" (defArgs s_Run_is_over) (defBody s_Run_is_over) (defScope s_Run_is_over) .none kv_Run_is_over dc_Run_is_over pm_Run_is_over an_Run_is_over cd_Run_is_over ct_Run_is_over), sl_Run_is_over⟩)
    (q_Run_is_over : PySem.W.codeIn K cd_Run_is_over "Run.is_over" = true)
    (p_Run_is_over : PySem.W.keepIn K (.ref f_Run_is_over) = true)
    (a_Run_do_deed : PySem.W.findIn K (.ref c_Run) "do_deed" = some (some (.ref f_Run_do_deed)))
    (i_Run_do_deed : PySem.W.isFn K (.ref f_Run_do_deed) = true)
    (l_Run_do_deed : K.lookup f_Run_do_deed = some ⟨oc_Run_do_deed, od_Run_do_deed, .func (PySem.W.fnOf "do_deed" "Run.do_deed" (defArgs s_Run_do_deed) (defBody s_Run_do_deed) (defScope s_Run_do_deed) .none kv_Run_do_deed dc_Run_do_deed pm_Run_do_deed an_Run_do_deed cd_Run_do_deed ct_Run_do_deed), sl_Run_do_deed⟩)
    (q_Run_do_deed : PySem.W.codeIn K cd_Run_do_deed "Run.do_deed" = true)
    (p_Run_do_deed : PySem.W.keepIn K (.ref f_Run_do_deed) = true)
    (a_Run_do_to_end : PySem.W.findIn K (.ref c_Run) "do_to_end" = some (some (.ref f_Run_do_to_end)))
    (i_Run_do_to_end : PySem.W.isFn K (.ref f_Run_do_to_end) = true)
    (l_Run_do_to_end : K.lookup f_Run_do_to_end = some ⟨oc_Run_do_to_end, od_Run_do_to_end, .func (PySem.W.fnOf "do_to_end" "Run.do_to_end" (defArgs s_Run_do_to_end) (defBody s_Run_do_to_end) (defScope s_Run_do_to_end) .none kv_Run_do_to_end dc_Run_do_to_end pm_Run_do_to_end an_Run_do_to_end cd_Run_do_to_end ct_Run_do_to_end), sl_Run_do_to_end⟩)
    (q_Run_do_to_end : PySem.W.codeIn K cd_Run_do_to_end "Run.do_to_end" = true)
    (p_Run_do_to_end : PySem.W.keepIn K (.ref f_Run_do_to_end) = true)
    (a_Run_holds : PySem.W.findIn K (.ref c_Run) "holds" = some (some (.ref f_Run_holds)))
    (i_Run_holds : PySem.W.isFn K (.ref f_Run_holds) = true)
    (l_Run_holds : K.lookup f_Run_holds = some ⟨oc_Run_holds, od_Run_holds, .func (PySem.W.fnOf "holds" "Run.holds" (defArgs s_Run_holds) (defBody s_Run_holds) (defScope s_Run_holds) .none kv_Run_holds dc_Run_holds pm_Run_holds an_Run_holds cd_Run_holds ct_Run_holds), sl_Run_holds⟩)
    (q_Run_holds : PySem.W.codeIn K cd_Run_holds "Run.holds" = true)
    (p_Run_holds : PySem.W.keepIn K (.ref f_Run_holds) = true)
    (a_Run_do_piece : PySem.W.findIn K (.ref c_Run) "do_piece" = some (some (.ref f_Run_do_piece)))
    (i_Run_do_piece : PySem.W.isFn K (.ref f_Run_do_piece) = true)
    (l_Run_do_piece : K.lookup f_Run_do_piece = some ⟨oc_Run_do_piece, od_Run_do_piece, .func (PySem.W.fnOf "do_piece" "Run.do_piece" (defArgs s_Run_do_piece) (defBody s_Run_do_piece) (defScope s_Run_do_piece) .none kv_Run_do_piece dc_Run_do_piece pm_Run_do_piece an_Run_do_piece cd_Run_do_piece ct_Run_do_piece), sl_Run_do_piece⟩)
    (q_Run_do_piece : PySem.W.codeIn K cd_Run_do_piece "Run.do_piece" = true)
    (p_Run_do_piece : PySem.W.keepIn K (.ref f_Run_do_piece) = true)
    (a_Run_do_row : PySem.W.findIn K (.ref c_Run) "do_row" = some (some (.ref f_Run_do_row)))
    (i_Run_do_row : PySem.W.isFn K (.ref f_Run_do_row) = true)
    (l_Run_do_row : K.lookup f_Run_do_row = some ⟨oc_Run_do_row, od_Run_do_row, .func (PySem.W.fnOf "do_row" "Run.do_row" (defArgs s_Run_do_row) (defBody s_Run_do_row) (defScope s_Run_do_row) .none kv_Run_do_row dc_Run_do_row pm_Run_do_row an_Run_do_row cd_Run_do_row ct_Run_do_row), sl_Run_do_row⟩)
    (q_Run_do_row : PySem.W.codeIn K cd_Run_do_row "Run.do_row" = true)
    (p_Run_do_row : PySem.W.keepIn K (.ref f_Run_do_row) = true)
    (a_run_of : PySem.W.nsIn K mainGlobals "run_of" = some (some (.ref f_run_of)))
    (l_run_of : K.lookup f_run_of = some ⟨oc_run_of, od_run_of, .func (PySem.W.fnOf "run_of" "run_of" (defArgs s_run_of) (defBody s_run_of) (defScope s_run_of) .none kv_run_of dc_run_of pm_run_of an_run_of cd_run_of ct_run_of), sl_run_of⟩)
    (q_run_of : PySem.W.codeIn K cd_run_of "run_of" = true)
    (p_run_of : PySem.W.keepIn K (.ref f_run_of) = true)
    (a_ask : PySem.W.nsIn K mainGlobals "ask" = some (some (.ref f_ask)))
    (l_ask : K.lookup f_ask = some ⟨oc_ask, od_ask, .func (PySem.W.fnOf "ask" "ask" (defArgs s_ask) (defBody s_ask) (defScope s_ask) .none kv_ask dc_ask pm_ask an_ask cd_ask ct_ask), sl_ask⟩)
    (q_ask : PySem.W.codeIn K cd_ask "ask" = true)
    (p_ask : PySem.W.keepIn K (.ref f_ask) = true)
    (a_counted : PySem.W.nsIn K mainGlobals "counted" = some (some (.ref f_counted)))
    (l_counted : K.lookup f_counted = some ⟨oc_counted, od_counted, .func (PySem.W.fnOf "counted" "counted" (defArgs s_counted) (defBody s_counted) (defScope s_counted) .none kv_counted dc_counted pm_counted an_counted cd_counted ct_counted), sl_counted⟩)
    (q_counted : PySem.W.codeIn K cd_counted "counted" = true)
    (p_counted : PySem.W.keepIn K (.ref f_counted) = true)
    (a_fields_of : PySem.W.nsIn K mainGlobals "fields_of" = some (some (.ref f_fields_of)))
    (l_fields_of : K.lookup f_fields_of = some ⟨oc_fields_of, od_fields_of, .func (PySem.W.fnOf "fields_of" "fields_of" (defArgs s_fields_of) (defBody s_fields_of) (defScope s_fields_of) .none kv_fields_of dc_fields_of pm_fields_of an_fields_of cd_fields_of ct_fields_of), sl_fields_of⟩)
    (q_fields_of : PySem.W.codeIn K cd_fields_of "fields_of" = true)
    (p_fields_of : PySem.W.keepIn K (.ref f_fields_of) = true)
    (a_Desk_init : PySem.W.findIn K (.ref c_Desk) "__init__" = some (some (.ref f_Desk_init)))
    (i_Desk_init : PySem.W.isFn K (.ref f_Desk_init) = true)
    (l_Desk_init : K.lookup f_Desk_init = some ⟨oc_Desk_init, od_Desk_init, .func (PySem.W.fnOf "__init__" "Desk.__init__" (defArgs s_Desk_init) (defBody s_Desk_init) (defScope s_Desk_init) .none kv_Desk_init dc_Desk_init pm_Desk_init an_Desk_init cd_Desk_init ct_Desk_init), sl_Desk_init⟩)
    (q_Desk_init : PySem.W.codeIn K cd_Desk_init "Desk.__init__" = true)
    (p_Desk_init : PySem.W.keepIn K (.ref f_Desk_init) = true)
    (a_Desk_load : PySem.W.findIn K (.ref c_Desk) "load" = some (some (.ref f_Desk_load)))
    (i_Desk_load : PySem.W.isFn K (.ref f_Desk_load) = true)
    (l_Desk_load : K.lookup f_Desk_load = some ⟨oc_Desk_load, od_Desk_load, .func (PySem.W.fnOf "load" "Desk.load" (defArgs s_Desk_load) (defBody s_Desk_load) (defScope s_Desk_load) .none kv_Desk_load dc_Desk_load pm_Desk_load an_Desk_load cd_Desk_load ct_Desk_load), sl_Desk_load⟩)
    (q_Desk_load : PySem.W.codeIn K cd_Desk_load "Desk.load" = true)
    (p_Desk_load : PySem.W.keepIn K (.ref f_Desk_load) = true)
    (a_Desk_touches : PySem.W.findIn K (.ref c_Desk) "touches" = some (some (.ref f_Desk_touches)))
    (i_Desk_touches : PySem.W.isFn K (.ref f_Desk_touches) = true)
    (l_Desk_touches : K.lookup f_Desk_touches = some ⟨oc_Desk_touches, od_Desk_touches, .func (PySem.W.fnOf "touches" "Desk.touches" (defArgs s_Desk_touches) (defBody s_Desk_touches) (defScope s_Desk_touches) .none kv_Desk_touches dc_Desk_touches pm_Desk_touches an_Desk_touches cd_Desk_touches ct_Desk_touches), sl_Desk_touches⟩)
    (q_Desk_touches : PySem.W.codeIn K cd_Desk_touches "Desk.touches" = true)
    (p_Desk_touches : PySem.W.keepIn K (.ref f_Desk_touches) = true)
    (a_Desk_ends : PySem.W.findIn K (.ref c_Desk) "ends" = some (some (.ref f_Desk_ends)))
    (i_Desk_ends : PySem.W.isFn K (.ref f_Desk_ends) = true)
    (l_Desk_ends : K.lookup f_Desk_ends = some ⟨oc_Desk_ends, od_Desk_ends, .func (PySem.W.fnOf "ends" "Desk.ends" (defArgs s_Desk_ends) (defBody s_Desk_ends) (defScope s_Desk_ends) .none kv_Desk_ends dc_Desk_ends pm_Desk_ends an_Desk_ends cd_Desk_ends ct_Desk_ends), sl_Desk_ends⟩)
    (q_Desk_ends : PySem.W.codeIn K cd_Desk_ends "Desk.ends" = true)
    (p_Desk_ends : PySem.W.keepIn K (.ref f_Desk_ends) = true)
    (a_Desk_allowed : PySem.W.findIn K (.ref c_Desk) "allowed" = some (some (.ref f_Desk_allowed)))
    (i_Desk_allowed : PySem.W.isFn K (.ref f_Desk_allowed) = true)
    (l_Desk_allowed : K.lookup f_Desk_allowed = some ⟨oc_Desk_allowed, od_Desk_allowed, .func (PySem.W.fnOf "allowed" "Desk.allowed" (defArgs s_Desk_allowed) (defBody s_Desk_allowed) (defScope s_Desk_allowed) .none kv_Desk_allowed dc_Desk_allowed pm_Desk_allowed an_Desk_allowed cd_Desk_allowed ct_Desk_allowed), sl_Desk_allowed⟩)
    (q_Desk_allowed : PySem.W.codeIn K cd_Desk_allowed "Desk.allowed" = true)
    (p_Desk_allowed : PySem.W.keepIn K (.ref f_Desk_allowed) = true)
    (a_Desk_run : PySem.W.findIn K (.ref c_Desk) "run" = some (some (.ref f_Desk_run)))
    (i_Desk_run : PySem.W.isFn K (.ref f_Desk_run) = true)
    (l_Desk_run : K.lookup f_Desk_run = some ⟨oc_Desk_run, od_Desk_run, .func (PySem.W.fnOf "run" "Desk.run" (defArgs s_Desk_run) (defBody s_Desk_run) (defScope s_Desk_run) .none kv_Desk_run dc_Desk_run pm_Desk_run an_Desk_run cd_Desk_run ct_Desk_run), sl_Desk_run⟩)
    (q_Desk_run : PySem.W.codeIn K cd_Desk_run "Desk.run" = true)
    (p_Desk_run : PySem.W.keepIn K (.ref f_Desk_run) = true)
    (a_Desk_changed : PySem.W.findIn K (.ref c_Desk) "changed" = some (some (.ref f_Desk_changed)))
    (i_Desk_changed : PySem.W.isFn K (.ref f_Desk_changed) = true)
    (l_Desk_changed : K.lookup f_Desk_changed = some ⟨oc_Desk_changed, od_Desk_changed, .func (PySem.W.fnOf "changed" "Desk.changed" (defArgs s_Desk_changed) (defBody s_Desk_changed) (defScope s_Desk_changed) .none kv_Desk_changed dc_Desk_changed pm_Desk_changed an_Desk_changed cd_Desk_changed ct_Desk_changed), sl_Desk_changed⟩)
    (q_Desk_changed : PySem.W.codeIn K cd_Desk_changed "Desk.changed" = true)
    (p_Desk_changed : PySem.W.keepIn K (.ref f_Desk_changed) = true)
    (a_Desk_join : PySem.W.findIn K (.ref c_Desk) "join" = some (some (.ref f_Desk_join)))
    (i_Desk_join : PySem.W.isFn K (.ref f_Desk_join) = true)
    (l_Desk_join : K.lookup f_Desk_join = some ⟨oc_Desk_join, od_Desk_join, .func (PySem.W.fnOf "join" "Desk.join" (defArgs s_Desk_join) (defBody s_Desk_join) (defScope s_Desk_join) .none kv_Desk_join dc_Desk_join pm_Desk_join an_Desk_join cd_Desk_join ct_Desk_join), sl_Desk_join⟩)
    (q_Desk_join : PySem.W.codeIn K cd_Desk_join "Desk.join" = true)
    (p_Desk_join : PySem.W.keepIn K (.ref f_Desk_join) = true)
    (a_Desk_clean : PySem.W.findIn K (.ref c_Desk) "clean" = some (some (.ref f_Desk_clean)))
    (i_Desk_clean : PySem.W.isFn K (.ref f_Desk_clean) = true)
    (l_Desk_clean : K.lookup f_Desk_clean = some ⟨oc_Desk_clean, od_Desk_clean, .func (PySem.W.fnOf "clean" "Desk.clean" (defArgs s_Desk_clean) (defBody s_Desk_clean) (defScope s_Desk_clean) .none kv_Desk_clean dc_Desk_clean pm_Desk_clean an_Desk_clean cd_Desk_clean ct_Desk_clean), sl_Desk_clean⟩)
    (q_Desk_clean : PySem.W.codeIn K cd_Desk_clean "Desk.clean" = true)
    (p_Desk_clean : PySem.W.keepIn K (.ref f_Desk_clean) = true)
    (a_Desk_same : PySem.W.findIn K (.ref c_Desk) "same" = some (some (.ref f_Desk_same)))
    (i_Desk_same : PySem.W.isFn K (.ref f_Desk_same) = true)
    (l_Desk_same : K.lookup f_Desk_same = some ⟨oc_Desk_same, od_Desk_same, .func (PySem.W.fnOf "same" "Desk.same" (defArgs s_Desk_same) (defBody s_Desk_same) (defScope s_Desk_same) .none kv_Desk_same dc_Desk_same pm_Desk_same an_Desk_same cd_Desk_same ct_Desk_same), sl_Desk_same⟩)
    (q_Desk_same : PySem.W.codeIn K cd_Desk_same "Desk.same" = true)
    (p_Desk_same : PySem.W.keepIn K (.ref f_Desk_same) = true)
    (a_Desk_answer : PySem.W.findIn K (.ref c_Desk) "answer" = some (some (.ref f_Desk_answer)))
    (i_Desk_answer : PySem.W.isFn K (.ref f_Desk_answer) = true)
    (l_Desk_answer : K.lookup f_Desk_answer = some ⟨oc_Desk_answer, od_Desk_answer, .func (PySem.W.fnOf "answer" "Desk.answer" (defArgs s_Desk_answer) (defBody s_Desk_answer) (defScope s_Desk_answer) .none kv_Desk_answer dc_Desk_answer pm_Desk_answer an_Desk_answer cd_Desk_answer ct_Desk_answer), sl_Desk_answer⟩)
    (q_Desk_answer : PySem.W.codeIn K cd_Desk_answer "Desk.answer" = true)
    (p_Desk_answer : PySem.W.keepIn K (.ref f_Desk_answer) = true)
    (a_answered : PySem.W.nsIn K mainGlobals "answered" = some (some (.ref f_answered)))
    (l_answered : K.lookup f_answered = some ⟨oc_answered, od_answered, .func (PySem.W.fnOf "answered" "answered" (defArgs s_answered) (defBody s_answered) (defScope s_answered) .none kv_answered dc_answered pm_answered an_answered cd_answered ct_answered), sl_answered⟩)
    (q_answered : PySem.W.codeIn K cd_answered "answered" = true)
    (p_answered : PySem.W.keepIn K (.ref f_answered) = true)
    (a_answers : PySem.W.nsIn K mainGlobals "answers" = some (some (.ref f_answers)))
    (l_answers : K.lookup f_answers = some ⟨oc_answers, od_answers, .func (PySem.W.fnOf "answers" "answers" (defArgs s_answers) (defBody s_answers) (defScope s_answers) .none kv_answers dc_answers pm_answers an_answers cd_answers ct_answers), sl_answers⟩)
    (q_answers : PySem.W.codeIn K cd_answers "answers" = true)
    (p_answers : PySem.W.keepIn K (.ref f_answers) = true)
    (k_DOWN : PySem.W.nsIn K mainGlobals "DOWN" = some (some (.int (0) tk_DOWN)))
    (k_UP : PySem.W.nsIn K mainGlobals "UP" = some (some (.int (1) tk_UP)))
    (k_TOP : PySem.W.nsIn K mainGlobals "TOP" = some (some (.int (2) tk_TOP)))
    (k_WRITE : PySem.W.nsIn K mainGlobals "WRITE" = some (some (.int (3) tk_WRITE)))
    (k_ADD : PySem.W.nsIn K mainGlobals "ADD" = some (some (.int (4) tk_ADD)))
    (k_COPY : PySem.W.nsIn K mainGlobals "COPY" = some (some (.int (5) tk_COPY)))
    (k_PASTE : PySem.W.nsIn K mainGlobals "PASTE" = some (some (.int (6) tk_PASTE)))
    (k_DELETE : PySem.W.nsIn K mainGlobals "DELETE" = some (some (.int (7) tk_DELETE)))
    (k_DOUBLE : PySem.W.nsIn K mainGlobals "DOUBLE" = some (some (.int (8) tk_DOUBLE)))
    (k_FIND : PySem.W.nsIn K mainGlobals "FIND" = some (some (.int (9) tk_FIND)))
    (k_A_DEED : PySem.W.nsIn K mainGlobals "A_DEED" = some (some (.int (0) tk_A_DEED)))
    (k_ROUNDS : PySem.W.nsIn K mainGlobals "ROUNDS" = some (some (.int (1) tk_ROUNDS)))
    (k_TO_END : PySem.W.nsIn K mainGlobals "TO_END" = some (some (.int (2) tk_TO_END)))
    (k_PART : PySem.W.nsIn K mainGlobals "PART" = some (some (.int (3) tk_PART)))
    (k_FIELDS : PySem.W.nsIn K mainGlobals "FIELDS" = some (some (.int (3) tk_FIELDS)))
    (k_GREATEST : PySem.W.nsIn K mainGlobals "GREATEST" = some (some (.int (999) tk_GREATEST)))
    (k_MOST_ROUNDS_pieces : PySem.W.nsIn K mainGlobals "MOST_ROUNDS_pieces" = some (some (.int (9) tk_MOST_ROUNDS_pieces)))
    (k_MOST_PIECES : PySem.W.nsIn K mainGlobals "MOST_PIECES" = some (some (.int (16) tk_MOST_PIECES)))
    (k_DEEPEST : PySem.W.nsIn K mainGlobals "DEEPEST" = some (some (.int (3) tk_DEEPEST)))
    (k_MOST_DEEDS_cleaning : PySem.W.nsIn K mainGlobals "MOST_DEEDS_cleaning" = some (some (.int (20) tk_MOST_DEEDS_cleaning)))
    (k_ROWS_TO_END : PySem.W.nsIn K mainGlobals "ROWS_TO_END" = some (some (.int (8) tk_ROWS_TO_END)))
    (k_MOST_DEEDS_judging : PySem.W.nsIn K mainGlobals "MOST_DEEDS_judging" = some (some (.int (60) tk_MOST_DEEDS_judging)))
    (k_MOST_ROWS : PySem.W.nsIn K mainGlobals "MOST_ROWS" = some (some (.int (8) tk_MOST_ROWS)))
    (k_WELL : PySem.W.nsIn K mainGlobals "WELL" = some (some (.int (0) tk_WELL)))
    (k_NO_ROW : PySem.W.nsIn K mainGlobals "NO_ROW" = some (some (.int (1) tk_NO_ROW)))
    (k_AT_TOP : PySem.W.nsIn K mainGlobals "AT_TOP" = some (some (.int (2) tk_AT_TOP)))
    (k_BEYOND : PySem.W.nsIn K mainGlobals "BEYOND" = some (some (.int (3) tk_BEYOND)))
    (k_FULL : PySem.W.nsIn K mainGlobals "FULL" = some (some (.int (4) tk_FULL)))
    (k_NOT_FOUND : PySem.W.nsIn K mainGlobals "NOT_FOUND" = some (some (.int (5) tk_NOT_FOUND)))
    (k_TOO_LONG : PySem.W.nsIn K mainGlobals "TOO_LONG" = some (some (.int (6) tk_TOO_LONG)))
    (k_MOST_ROUNDS_running : PySem.W.nsIn K mainGlobals "MOST_ROUNDS_running" = some (some (.int (60) tk_MOST_ROUNDS_running)))
    (k_MOST_DEEDS_running : PySem.W.nsIn K mainGlobals "MOST_DEEDS_running" = some (some (.int (60) tk_MOST_DEEDS_running)))
    (k_WRONG : PySem.W.nsIn K mainGlobals "WRONG" = some (some (.int (-1) tk_WRONG)))
    (k_OTHER_ROWS : PySem.W.nsIn K mainGlobals "OTHER_ROWS" = some (some (.int (-4) tk_OTHER_ROWS)))
    (k_TOO_MANY : PySem.W.nsIn K mainGlobals "TOO_MANY" = some (some (.int (-6) tk_TOO_MANY)))
    (k_ROWS_CALL : PySem.W.nsIn K mainGlobals "ROWS_CALL" = some (some (.int (4) tk_ROWS_CALL)))
    (k_WITH_NUMBER : PySem.W.nsIn K mainGlobals "WITH_NUMBER" = some (some (.ref a_WITH_NUMBER)))
    (l_WITH_NUMBER : K.lookup a_WITH_NUMBER = some ⟨.type "tuple", od_WITH_NUMBER, .seq #[.int 3 t_WITH_NUMBER0, .int 4 t_WITH_NUMBER1, .int 9 t_WITH_NUMBER2] n_WITH_NUMBER, sl_WITH_NUMBER⟩)
    (k_WITH_FIELD : PySem.W.nsIn K mainGlobals "WITH_FIELD" = some (some (.ref a_WITH_FIELD)))
    (l_WITH_FIELD : K.lookup a_WITH_FIELD = some ⟨.type "tuple", od_WITH_FIELD, .seq #[.int 3 t_WITH_FIELD0, .int 4 t_WITH_FIELD1, .int 5 t_WITH_FIELD2, .int 6 t_WITH_FIELD3, .int 9 t_WITH_FIELD4] n_WITH_FIELD, sl_WITH_FIELD⟩)
    (k_UNDONE : PySem.W.nsIn K mainGlobals "UNDONE" = some (some (.ref a_UNDONE)))
    (l_UNDONE : K.lookup a_UNDONE = some ⟨.type "tuple", od_UNDONE, .seq #[.ref b_UNDONE0, .ref b_UNDONE1, .ref b_UNDONE2] n_UNDONE, sl_UNDONE⟩)
    (l_UNDONE0 : K.lookup b_UNDONE0 = some ⟨.type "tuple", od_UNDONE0, .seq #[.int 0 u_UNDONE0, .int 1 w_UNDONE0] n_UNDONE0, sl_UNDONE0⟩)
    (l_UNDONE1 : K.lookup b_UNDONE1 = some ⟨.type "tuple", od_UNDONE1, .seq #[.int 1 u_UNDONE1, .int 0 w_UNDONE1] n_UNDONE1, sl_UNDONE1⟩)
    (l_UNDONE2 : K.lookup b_UNDONE2 = some ⟨.type "tuple", od_UNDONE2, .seq #[.int 8 u_UNDONE2, .int 7 w_UNDONE2] n_UNDONE2, sl_UNDONE2⟩)
    (k_LOST : PySem.W.nsIn K mainGlobals "LOST" = some (some (.ref a_LOST)))
    (l_LOST : K.lookup a_LOST = some ⟨.type "tuple", od_LOST, .seq #[.ref b_LOST0, .ref b_LOST1, .ref b_LOST2, .ref b_LOST3, .ref b_LOST4] n_LOST, sl_LOST⟩)
    (l_LOST0 : K.lookup b_LOST0 = some ⟨.type "tuple", od_LOST0, .seq #[.int 0 u_LOST0, .int 2 w_LOST0] n_LOST0, sl_LOST0⟩)
    (l_LOST1 : K.lookup b_LOST1 = some ⟨.type "tuple", od_LOST1, .seq #[.int 1 u_LOST1, .int 2 w_LOST1] n_LOST1, sl_LOST1⟩)
    (l_LOST2 : K.lookup b_LOST2 = some ⟨.type "tuple", od_LOST2, .seq #[.int 9 u_LOST2, .int 2 w_LOST2] n_LOST2, sl_LOST2⟩)
    (l_LOST3 : K.lookup b_LOST3 = some ⟨.type "tuple", od_LOST3, .seq #[.int 2 u_LOST3, .int 2 w_LOST3] n_LOST3, sl_LOST3⟩)
    (l_LOST4 : K.lookup b_LOST4 = some ⟨.type "tuple", od_LOST4, .seq #[.int 5 u_LOST4, .int 5 w_LOST4] n_LOST4, sl_LOST4⟩)
    (k_LOST_IN_FIELD : PySem.W.nsIn K mainGlobals "LOST_IN_FIELD" = some (some (.ref a_LOST_IN_FIELD)))
    (l_LOST_IN_FIELD : K.lookup a_LOST_IN_FIELD = some ⟨.type "tuple", od_LOST_IN_FIELD, .seq #[.ref b_LOST_IN_FIELD0, .ref b_LOST_IN_FIELD1, .ref b_LOST_IN_FIELD2, .ref b_LOST_IN_FIELD3, .ref b_LOST_IN_FIELD4, .ref b_LOST_IN_FIELD5] n_LOST_IN_FIELD, sl_LOST_IN_FIELD⟩)
    (l_LOST_IN_FIELD0 : K.lookup b_LOST_IN_FIELD0 = some ⟨.type "tuple", od_LOST_IN_FIELD0, .seq #[.int 3 u_LOST_IN_FIELD0, .int 3 w_LOST_IN_FIELD0] n_LOST_IN_FIELD0, sl_LOST_IN_FIELD0⟩)
    (l_LOST_IN_FIELD1 : K.lookup b_LOST_IN_FIELD1 = some ⟨.type "tuple", od_LOST_IN_FIELD1, .seq #[.int 4 u_LOST_IN_FIELD1, .int 3 w_LOST_IN_FIELD1] n_LOST_IN_FIELD1, sl_LOST_IN_FIELD1⟩)
    (l_LOST_IN_FIELD2 : K.lookup b_LOST_IN_FIELD2 = some ⟨.type "tuple", od_LOST_IN_FIELD2, .seq #[.int 6 u_LOST_IN_FIELD2, .int 3 w_LOST_IN_FIELD2] n_LOST_IN_FIELD2, sl_LOST_IN_FIELD2⟩)
    (l_LOST_IN_FIELD3 : K.lookup b_LOST_IN_FIELD3 = some ⟨.type "tuple", od_LOST_IN_FIELD3, .seq #[.int 3 u_LOST_IN_FIELD3, .int 6 w_LOST_IN_FIELD3] n_LOST_IN_FIELD3, sl_LOST_IN_FIELD3⟩)
    (l_LOST_IN_FIELD4 : K.lookup b_LOST_IN_FIELD4 = some ⟨.type "tuple", od_LOST_IN_FIELD4, .seq #[.int 4 u_LOST_IN_FIELD4, .int 6 w_LOST_IN_FIELD4] n_LOST_IN_FIELD4, sl_LOST_IN_FIELD4⟩)
    (l_LOST_IN_FIELD5 : K.lookup b_LOST_IN_FIELD5 = some ⟨.type "tuple", od_LOST_IN_FIELD5, .seq #[.int 6 u_LOST_IN_FIELD5, .int 6 w_LOST_IN_FIELD5] n_LOST_IN_FIELD5, sl_LOST_IN_FIELD5⟩)
    (k_TOGETHER : PySem.W.nsIn K mainGlobals "TOGETHER" = some (some (.ref a_TOGETHER)))
    (l_TOGETHER : K.lookup a_TOGETHER = some ⟨.type "tuple", od_TOGETHER, .seq #[.ref b_TOGETHER0, .ref b_TOGETHER1] n_TOGETHER, sl_TOGETHER⟩)
    (l_TOGETHER0 : K.lookup b_TOGETHER0 = some ⟨.type "tuple", od_TOGETHER0, .seq #[.int 4 u_TOGETHER0, .int 4 w_TOGETHER0] n_TOGETHER0, sl_TOGETHER0⟩)
    (l_TOGETHER1 : K.lookup b_TOGETHER1 = some ⟨.type "tuple", od_TOGETHER1, .seq #[.int 3 u_TOGETHER1, .int 4 w_TOGETHER1] n_TOGETHER1, sl_TOGETHER1⟩)
    (k_WRITING : PySem.W.nsIn K mainGlobals "WRITING" = some (some (.ref a_WRITING)))
    (l_WRITING : K.lookup a_WRITING = some ⟨.type "tuple", od_WRITING, .seq #[.int 3 t_WRITING0, .int 4 t_WRITING1, .int 6 t_WRITING2] n_WRITING, sl_WRITING⟩)
    (k_READING : PySem.W.nsIn K mainGlobals "READING" = some (some (.ref a_READING)))
    (l_READING : K.lookup a_READING = some ⟨.type "tuple", od_READING, .seq #[.int 4 t_READING0, .int 5 t_READING1, .int 9 t_READING2] n_READING, sl_READING⟩)
    (k_CHANGING : PySem.W.nsIn K mainGlobals "CHANGING" = some (some (.ref a_CHANGING)))
    (l_CHANGING : K.lookup a_CHANGING = some ⟨.type "tuple", od_CHANGING, .seq #[.int 7 t_CHANGING0, .int 8 t_CHANGING1] n_CHANGING, sl_CHANGING⟩)
    (k_MANY_LISTS : PySem.W.nsIn K mainGlobals "MANY_LISTS" = some (some (.ref a_MANY_LISTS)))
    (l_MANY_LISTS : K.lookup a_MANY_LISTS = some ⟨.type "tuple", od_MANY_LISTS, .seq #[.int 1 t_MANY_LISTS0, .int 0 t_MANY_LISTS1, .int 0 t_MANY_LISTS2, .int 0 t_MANY_LISTS3, .int 1 t_MANY_LISTS4, .int 1 t_MANY_LISTS5, .int 1 t_MANY_LISTS6, .int 1 t_MANY_LISTS7, .int 1 t_MANY_LISTS8, .int 2 t_MANY_LISTS9] n_MANY_LISTS, sl_MANY_LISTS⟩)
    (b_len : PySem.W.nsIn K mainGlobals "len" = some none)
    (b_range : PySem.W.nsIn K mainGlobals "range" = some none)
    (b_sum : PySem.W.nsIn K mainGlobals "sum" = some none)
    (b_max : PySem.W.nsIn K mainGlobals "max" = some none)
    (b_int : PySem.W.nsIn K mainGlobals "int" = some none)
    (b_list : PySem.W.nsIn K mainGlobals "list" = some none)
    (b_enumerate : PySem.W.nsIn K mainGlobals "enumerate" = some none)
    : ∃ T : Txt K mg, T.f_answers = f_answers :=
  ⟨{ c_Deed := c_Deed,
     cl_Deed := ⟨pg_Deed, hd_Deed, po_Deed, sa_Deed⟩,
     g_Deed := PySem.W.mg_of X G a_Deed,
     n_Deed_sort_of := n_Deed_sort_of,
     n_Deed_field := n_Deed_field,
     n_Deed_number := n_Deed_number,
     n_Deed_step := n_Deed_step,
     c_Piece := c_Piece,
     cl_Piece := ⟨pg_Piece, hd_Piece, po_Piece, sa_Piece⟩,
     g_Piece := PySem.W.mg_of X G a_Piece,
     n_Piece_kind := n_Piece_kind,
     n_Piece_numbers := n_Piece_numbers,
     n_Piece_deed := n_Piece_deed,
     n_Piece_inner := n_Piece_inner,
     c_Reader := c_Reader,
     cl_Reader := ⟨pg_Reader, hd_Reader, po_Reader, sa_Reader⟩,
     g_Reader := PySem.W.mg_of X G a_Reader,
     n_Reader_row_told := n_Reader_row_told,
     n_Reader_at := n_Reader_at,
     c_Clipboard := c_Clipboard,
     cl_Clipboard := ⟨pg_Clipboard, hd_Clipboard, po_Clipboard, sa_Clipboard⟩,
     g_Clipboard := PySem.W.mg_of X G a_Clipboard,
     n_Clipboard_is_old := n_Clipboard_is_old,
     c_Table := c_Table,
     cl_Table := ⟨pg_Table, hd_Table, po_Table, sa_Table⟩,
     g_Table := PySem.W.mg_of X G a_Table,
     n_Table_rows := n_Table_rows,
     n_Table_cursor := n_Table_cursor,
     n_Table_clipboard := n_Table_clipboard,
     c_Run := c_Run,
     cl_Run := ⟨pg_Run, hd_Run, po_Run, sa_Run⟩,
     g_Run := PySem.W.mg_of X G a_Run,
     n_Run_table := n_Run_table,
     n_Run_done := n_Run_done,
     n_Run_word := n_Run_word,
     c_Desk := c_Desk,
     cl_Desk := ⟨pg_Desk, hd_Desk, po_Desk, sa_Desk⟩,
     g_Desk := PySem.W.mg_of X G a_Desk,
     n_Desk_program := n_Desk_program,
     c_NoProgram := c_NoProgram,
     g_NoProgram := PySem.W.mg_of X G a_NoProgram,
     x_NoProgram := x_NoProgram,
     kp_NoProgram := kp_NoProgram,
     sb_NoProgram := sb_NoProgram,
     ty_NoProgram := ty_NoProgram,
     te_NoProgram := exm_self sb_NoProgram ic_NoProgram ty_NoProgram ss_NoProgram,
     c_Refused := c_Refused,
     f_Refused_init := f_Refused_init,
     ref := { gC := PySem.W.mg_of X G a_R, cls := ⟨nmR, qR, NR, bsR, _, snR, subR, abR, colR, ddR, r0, r1, r2, r3, r5, xl_R, by decide +kernel⟩, sa := sa_R, ga := ga_R, gg := gg_R, noN := nb_R, iC := i_R, tC := t_R, kC := kc_R, exC := e_R, tyC := ty_R, hdC := h_R, te := exm_self e_R ic_R ty_R ss_R, fn := ⟨_, _, _, _, _, _, _, _, _, _, _, _, _, _, l_R, cd_R⟩ },
     tn_Refused := exm_other sb_NoProgram ic_NoProgram ty_NoProgram sn_R,
     f_need_range := f_need_range,
     d_need_range := _,
     F_need_range := fun_mk (st := s_need_range) l_need_range q_need_range p_need_range,
     g_need_range := PySem.W.mg_of X G a_need_range,
     f_Deed_init := f_Deed_init,
     d_Deed_init := _,
     F_Deed_init := fun_mk (st := s_Deed_init) l_Deed_init q_Deed_init p_Deed_init,
     mk_Deed := ⟨mk_Deed, a_Deed_init, i_Deed_init, kc_Deed⟩,
     f_Deed_as_numbers := f_Deed_as_numbers,
     d_Deed_as_numbers := _,
     F_Deed_as_numbers := fun_mk (st := s_Deed_as_numbers) l_Deed_as_numbers q_Deed_as_numbers p_Deed_as_numbers,
     m_Deed_as_numbers := ⟨a_Deed_as_numbers, i_Deed_as_numbers, p_Deed_as_numbers⟩,
     f_Piece_init := f_Piece_init,
     d_Piece_init := _,
     F_Piece_init := fun_mk (st := s_Piece_init) l_Piece_init q_Piece_init p_Piece_init,
     mk_Piece := ⟨mk_Piece, a_Piece_init, i_Piece_init, kc_Piece⟩,
     f_Piece_many := f_Piece_many,
     d_Piece_many := _,
     F_Piece_many := fun_mk (st := s_Piece_many) l_Piece_many q_Piece_many p_Piece_many,
     m_Piece_many := ⟨a_Piece_many, i_Piece_many, p_Piece_many⟩,
     f_Piece_deep := f_Piece_deep,
     d_Piece_deep := _,
     F_Piece_deep := fun_mk (st := s_Piece_deep) l_Piece_deep q_Piece_deep p_Piece_deep,
     m_Piece_deep := ⟨a_Piece_deep, i_Piece_deep, p_Piece_deep⟩,
     f_Piece_as_numbers := f_Piece_as_numbers,
     d_Piece_as_numbers := _,
     F_Piece_as_numbers := fun_mk (st := s_Piece_as_numbers) l_Piece_as_numbers q_Piece_as_numbers p_Piece_as_numbers,
     m_Piece_as_numbers := ⟨a_Piece_as_numbers, i_Piece_as_numbers, p_Piece_as_numbers⟩,
     f_many_pieces := f_many_pieces,
     d_many_pieces := _,
     F_many_pieces := fun_mk (st := s_many_pieces) l_many_pieces q_many_pieces p_many_pieces,
     g_many_pieces := PySem.W.mg_of X G a_many_pieces,
     f_deepest := f_deepest,
     d_deepest := _,
     F_deepest := fun_mk (st := s_deepest) l_deepest q_deepest p_deepest,
     g_deepest := PySem.W.mg_of X G a_deepest,
     f_row_as_numbers := f_row_as_numbers,
     d_row_as_numbers := _,
     F_row_as_numbers := fun_mk (st := s_row_as_numbers) l_row_as_numbers q_row_as_numbers p_row_as_numbers,
     g_row_as_numbers := PySem.W.mg_of X G a_row_as_numbers,
     f_in_order := f_in_order,
     d_in_order := _,
     F_in_order := fun_mk (st := s_in_order) l_in_order q_in_order p_in_order,
     g_in_order := PySem.W.mg_of X G a_in_order,
     f_Reader_init := f_Reader_init,
     d_Reader_init := _,
     F_Reader_init := fun_mk (st := s_Reader_init) l_Reader_init q_Reader_init p_Reader_init,
     mk_Reader := ⟨mk_Reader, a_Reader_init, i_Reader_init, kc_Reader⟩,
     f_Reader_take := f_Reader_take,
     d_Reader_take := _,
     F_Reader_take := fun_mk (st := s_Reader_take) l_Reader_take q_Reader_take p_Reader_take,
     m_Reader_take := ⟨a_Reader_take, i_Reader_take, p_Reader_take⟩,
     f_Reader_must_end := f_Reader_must_end,
     d_Reader_must_end := _,
     F_Reader_must_end := fun_mk (st := s_Reader_must_end) l_Reader_must_end q_Reader_must_end p_Reader_must_end,
     m_Reader_must_end := ⟨a_Reader_must_end, i_Reader_must_end, p_Reader_must_end⟩,
     f_Reader_next_deed := f_Reader_next_deed,
     d_Reader_next_deed := _,
     F_Reader_next_deed := fun_mk (st := s_Reader_next_deed) l_Reader_next_deed q_Reader_next_deed p_Reader_next_deed,
     m_Reader_next_deed := ⟨a_Reader_next_deed, i_Reader_next_deed, p_Reader_next_deed⟩,
     f_Reader_piece := f_Reader_piece,
     d_Reader_piece := _,
     F_Reader_piece := fun_mk (st := s_Reader_piece) l_Reader_piece q_Reader_piece p_Reader_piece,
     m_Reader_piece := ⟨a_Reader_piece, i_Reader_piece, p_Reader_piece⟩,
     f_Reader_pieces := f_Reader_pieces,
     d_Reader_pieces := _,
     F_Reader_pieces := fun_mk (st := s_Reader_pieces) l_Reader_pieces q_Reader_pieces p_Reader_pieces,
     m_Reader_pieces := ⟨a_Reader_pieces, i_Reader_pieces, p_Reader_pieces⟩,
     f_read_program := f_read_program,
     d_read_program := _,
     F_read_program := fun_mk (st := s_read_program) l_read_program q_read_program p_read_program,
     g_read_program := PySem.W.mg_of X G a_read_program,
     f_as_program := f_as_program,
     d_as_program := _,
     F_as_program := fun_mk (st := s_as_program) l_as_program q_as_program p_as_program,
     g_as_program := PySem.W.mg_of X G a_as_program,
     f_read_deeds := f_read_deeds,
     d_read_deeds := _,
     F_read_deeds := fun_mk (st := s_read_deeds) l_read_deeds q_read_deeds p_read_deeds,
     g_read_deeds := PySem.W.mg_of X G a_read_deeds,
     f_fewer := f_fewer,
     d_fewer := _,
     F_fewer := fun_mk (st := s_fewer) l_fewer q_fewer p_fewer,
     g_fewer := PySem.W.mg_of X G a_fewer,
     f_cleaned_once := f_cleaned_once,
     d_cleaned_once := _,
     F_cleaned_once := fun_mk (st := s_cleaned_once) l_cleaned_once q_cleaned_once p_cleaned_once,
     g_cleaned_once := PySem.W.mg_of X G a_cleaned_once,
     f_cleaned := f_cleaned,
     d_cleaned := _,
     F_cleaned := fun_mk (st := s_cleaned) l_cleaned q_cleaned p_cleaned,
     g_cleaned := PySem.W.mg_of X G a_cleaned,
     f_told := f_told,
     d_told := _,
     F_told := fun_mk (st := s_told) l_told q_told p_told,
     g_told := PySem.W.mg_of X G a_told,
     f_deeds_of := f_deeds_of,
     d_deeds_of := _,
     F_deeds_of := fun_mk (st := s_deeds_of) l_deeds_of q_deeds_of p_deeds_of,
     g_deeds_of := PySem.W.mg_of X G a_deeds_of,
     f_written := f_written,
     d_written := _,
     F_written := fun_mk (st := s_written) l_written q_written p_written,
     g_written := PySem.W.mg_of X G a_written,
     f_looked_at := f_looked_at,
     d_looked_at := _,
     F_looked_at := fun_mk (st := s_looked_at) l_looked_at q_looked_at p_looked_at,
     g_looked_at := PySem.W.mg_of X G a_looked_at,
     f_may_change_rows := f_may_change_rows,
     d_may_change_rows := _,
     F_may_change_rows := fun_mk (st := s_may_change_rows) l_may_change_rows q_may_change_rows p_may_change_rows,
     g_may_change_rows := PySem.W.mg_of X G a_may_change_rows,
     f_Clipboard_init := f_Clipboard_init,
     d_Clipboard_init := _,
     F_Clipboard_init := fun_mk (st := s_Clipboard_init) l_Clipboard_init q_Clipboard_init p_Clipboard_init,
     mk_Clipboard := ⟨mk_Clipboard, a_Clipboard_init, i_Clipboard_init, kc_Clipboard⟩,
     f_Clipboard_go_through := f_Clipboard_go_through,
     d_Clipboard_go_through := _,
     F_Clipboard_go_through := fun_mk (st := s_Clipboard_go_through) l_Clipboard_go_through q_Clipboard_go_through p_Clipboard_go_through,
     m_Clipboard_go_through := ⟨a_Clipboard_go_through, i_Clipboard_go_through, p_Clipboard_go_through⟩,
     f_may_read_old := f_may_read_old,
     d_may_read_old := _,
     F_may_read_old := fun_mk (st := s_may_read_old) l_may_read_old q_may_read_old p_may_read_old,
     g_may_read_old := PySem.W.mg_of X G a_may_read_old,
     f_rest_of_deed := f_rest_of_deed,
     d_rest_of_deed := _,
     F_rest_of_deed := fun_mk (st := s_rest_of_deed) l_rest_of_deed q_rest_of_deed p_rest_of_deed,
     g_rest_of_deed := PySem.W.mg_of X G a_rest_of_deed,
     f_rest_of := f_rest_of,
     d_rest_of := _,
     F_rest_of := fun_mk (st := s_rest_of) l_rest_of q_rest_of p_rest_of,
     g_rest_of := PySem.W.mg_of X G a_rest_of,
     f_rest_of_row := f_rest_of_row,
     d_rest_of_row := _,
     F_rest_of_row := fun_mk (st := s_rest_of_row) l_rest_of_row q_rest_of_row p_rest_of_row,
     g_rest_of_row := PySem.W.mg_of X G a_rest_of_row,
     f_comes_nearer := f_comes_nearer,
     d_comes_nearer := _,
     F_comes_nearer := fun_mk (st := s_comes_nearer) l_comes_nearer q_comes_nearer p_comes_nearer,
     g_comes_nearer := PySem.W.mg_of X G a_comes_nearer,
     f_first_not_nearer := f_first_not_nearer,
     d_first_not_nearer := _,
     F_first_not_nearer := fun_mk (st := s_first_not_nearer) l_first_not_nearer q_first_not_nearer p_first_not_nearer,
     g_first_not_nearer := PySem.W.mg_of X G a_first_not_nearer,
     f_most_deeds := f_most_deeds,
     d_most_deeds := _,
     F_most_deeds := fun_mk (st := s_most_deeds) l_most_deeds q_most_deeds p_most_deeds,
     g_most_deeds := PySem.W.mg_of X G a_most_deeds,
     f_is_accepted := f_is_accepted,
     d_is_accepted := _,
     F_is_accepted := fun_mk (st := s_is_accepted) l_is_accepted q_is_accepted p_is_accepted,
     g_is_accepted := PySem.W.mg_of X G a_is_accepted,
     f_first_against := f_first_against,
     d_first_against := _,
     F_first_against := fun_mk (st := s_first_against) l_first_against q_first_against p_first_against,
     g_first_against := PySem.W.mg_of X G a_first_against,
     f_Table_init := f_Table_init,
     d_Table_init := _,
     F_Table_init := fun_mk (st := s_Table_init) l_Table_init q_Table_init p_Table_init,
     mk_Table := ⟨mk_Table, a_Table_init, i_Table_init, kc_Table⟩,
     f_Table_copied := f_Table_copied,
     d_Table_copied := _,
     F_Table_copied := fun_mk (st := s_Table_copied) l_Table_copied q_Table_copied p_Table_copied,
     m_Table_copied := ⟨a_Table_copied, i_Table_copied, p_Table_copied⟩,
     f_Table_as_numbers := f_Table_as_numbers,
     d_Table_as_numbers := _,
     F_Table_as_numbers := fun_mk (st := s_Table_as_numbers) l_Table_as_numbers q_Table_as_numbers p_Table_as_numbers,
     m_Table_as_numbers := ⟨a_Table_as_numbers, i_Table_as_numbers, p_Table_as_numbers⟩,
     f_Table_is_behind := f_Table_is_behind,
     d_Table_is_behind := _,
     F_Table_is_behind := fun_mk (st := s_Table_is_behind) l_Table_is_behind q_Table_is_behind p_Table_is_behind,
     m_Table_is_behind := ⟨a_Table_is_behind, i_Table_is_behind, p_Table_is_behind⟩,
     f_Table_here := f_Table_here,
     d_Table_here := _,
     F_Table_here := fun_mk (st := s_Table_here) l_Table_here q_Table_here p_Table_here,
     m_Table_here := ⟨a_Table_here, i_Table_here, p_Table_here⟩,
     f_Table_found_row := f_Table_found_row,
     d_Table_found_row := _,
     F_Table_found_row := fun_mk (st := s_Table_found_row) l_Table_found_row q_Table_found_row p_Table_found_row,
     m_Table_found_row := ⟨a_Table_found_row, i_Table_found_row, p_Table_found_row⟩,
     f_Table_put := f_Table_put,
     d_Table_put := _,
     F_Table_put := fun_mk (st := s_Table_put) l_Table_put q_Table_put p_Table_put,
     m_Table_put := ⟨a_Table_put, i_Table_put, p_Table_put⟩,
     f_Table_move := f_Table_move,
     d_Table_move := _,
     F_Table_move := fun_mk (st := s_Table_move) l_Table_move q_Table_move p_Table_move,
     m_Table_move := ⟨a_Table_move, i_Table_move, p_Table_move⟩,
     f_Table_double := f_Table_double,
     d_Table_double := _,
     F_Table_double := fun_mk (st := s_Table_double) l_Table_double q_Table_double p_Table_double,
     m_Table_double := ⟨a_Table_double, i_Table_double, p_Table_double⟩,
     f_Table_do := f_Table_do,
     d_Table_do := _,
     F_Table_do := fun_mk (st := s_Table_do) l_Table_do q_Table_do p_Table_do,
     m_Table_do := ⟨a_Table_do, i_Table_do, p_Table_do⟩,
     f_read_table := f_read_table,
     d_read_table := _,
     F_read_table := fun_mk (st := s_read_table) l_read_table q_read_table p_read_table,
     g_read_table := PySem.W.mg_of X G a_read_table,
     f_Run_init := f_Run_init,
     d_Run_init := _,
     F_Run_init := fun_mk (st := s_Run_init) l_Run_init q_Run_init p_Run_init,
     mk_Run := ⟨mk_Run, a_Run_init, i_Run_init, kc_Run⟩,
     f_Run_is_over := f_Run_is_over,
     d_Run_is_over := _,
     F_Run_is_over := fun_mk (st := s_Run_is_over) l_Run_is_over q_Run_is_over p_Run_is_over,
     m_Run_is_over := ⟨a_Run_is_over, i_Run_is_over, p_Run_is_over⟩,
     f_Run_do_deed := f_Run_do_deed,
     d_Run_do_deed := _,
     F_Run_do_deed := fun_mk (st := s_Run_do_deed) l_Run_do_deed q_Run_do_deed p_Run_do_deed,
     m_Run_do_deed := ⟨a_Run_do_deed, i_Run_do_deed, p_Run_do_deed⟩,
     f_Run_do_to_end := f_Run_do_to_end,
     d_Run_do_to_end := _,
     F_Run_do_to_end := fun_mk (st := s_Run_do_to_end) l_Run_do_to_end q_Run_do_to_end p_Run_do_to_end,
     m_Run_do_to_end := ⟨a_Run_do_to_end, i_Run_do_to_end, p_Run_do_to_end⟩,
     f_Run_holds := f_Run_holds,
     d_Run_holds := _,
     F_Run_holds := fun_mk (st := s_Run_holds) l_Run_holds q_Run_holds p_Run_holds,
     m_Run_holds := ⟨a_Run_holds, i_Run_holds, p_Run_holds⟩,
     f_Run_do_piece := f_Run_do_piece,
     d_Run_do_piece := _,
     F_Run_do_piece := fun_mk (st := s_Run_do_piece) l_Run_do_piece q_Run_do_piece p_Run_do_piece,
     m_Run_do_piece := ⟨a_Run_do_piece, i_Run_do_piece, p_Run_do_piece⟩,
     f_Run_do_row := f_Run_do_row,
     d_Run_do_row := _,
     F_Run_do_row := fun_mk (st := s_Run_do_row) l_Run_do_row q_Run_do_row p_Run_do_row,
     m_Run_do_row := ⟨a_Run_do_row, i_Run_do_row, p_Run_do_row⟩,
     f_run_of := f_run_of,
     d_run_of := _,
     F_run_of := fun_mk (st := s_run_of) l_run_of q_run_of p_run_of,
     g_run_of := PySem.W.mg_of X G a_run_of,
     f_ask := f_ask,
     d_ask := _,
     F_ask := fun_mk (st := s_ask) l_ask q_ask p_ask,
     g_ask := PySem.W.mg_of X G a_ask,
     f_counted := f_counted,
     d_counted := _,
     F_counted := fun_mk (st := s_counted) l_counted q_counted p_counted,
     g_counted := PySem.W.mg_of X G a_counted,
     f_fields_of := f_fields_of,
     d_fields_of := _,
     F_fields_of := fun_mk (st := s_fields_of) l_fields_of q_fields_of p_fields_of,
     g_fields_of := PySem.W.mg_of X G a_fields_of,
     f_Desk_init := f_Desk_init,
     d_Desk_init := _,
     F_Desk_init := fun_mk (st := s_Desk_init) l_Desk_init q_Desk_init p_Desk_init,
     mk_Desk := ⟨mk_Desk, a_Desk_init, i_Desk_init, kc_Desk⟩,
     f_Desk_load := f_Desk_load,
     d_Desk_load := _,
     F_Desk_load := fun_mk (st := s_Desk_load) l_Desk_load q_Desk_load p_Desk_load,
     m_Desk_load := ⟨a_Desk_load, i_Desk_load, p_Desk_load⟩,
     f_Desk_touches := f_Desk_touches,
     d_Desk_touches := _,
     F_Desk_touches := fun_mk (st := s_Desk_touches) l_Desk_touches q_Desk_touches p_Desk_touches,
     m_Desk_touches := ⟨a_Desk_touches, i_Desk_touches, p_Desk_touches⟩,
     f_Desk_ends := f_Desk_ends,
     d_Desk_ends := _,
     F_Desk_ends := fun_mk (st := s_Desk_ends) l_Desk_ends q_Desk_ends p_Desk_ends,
     m_Desk_ends := ⟨a_Desk_ends, i_Desk_ends, p_Desk_ends⟩,
     f_Desk_allowed := f_Desk_allowed,
     d_Desk_allowed := _,
     F_Desk_allowed := fun_mk (st := s_Desk_allowed) l_Desk_allowed q_Desk_allowed p_Desk_allowed,
     m_Desk_allowed := ⟨a_Desk_allowed, i_Desk_allowed, p_Desk_allowed⟩,
     f_Desk_run := f_Desk_run,
     d_Desk_run := _,
     F_Desk_run := fun_mk (st := s_Desk_run) l_Desk_run q_Desk_run p_Desk_run,
     m_Desk_run := ⟨a_Desk_run, i_Desk_run, p_Desk_run⟩,
     f_Desk_changed := f_Desk_changed,
     d_Desk_changed := _,
     F_Desk_changed := fun_mk (st := s_Desk_changed) l_Desk_changed q_Desk_changed p_Desk_changed,
     m_Desk_changed := ⟨a_Desk_changed, i_Desk_changed, p_Desk_changed⟩,
     f_Desk_join := f_Desk_join,
     d_Desk_join := _,
     F_Desk_join := fun_mk (st := s_Desk_join) l_Desk_join q_Desk_join p_Desk_join,
     m_Desk_join := ⟨a_Desk_join, i_Desk_join, p_Desk_join⟩,
     f_Desk_clean := f_Desk_clean,
     d_Desk_clean := _,
     F_Desk_clean := fun_mk (st := s_Desk_clean) l_Desk_clean q_Desk_clean p_Desk_clean,
     m_Desk_clean := ⟨a_Desk_clean, i_Desk_clean, p_Desk_clean⟩,
     f_Desk_same := f_Desk_same,
     d_Desk_same := _,
     F_Desk_same := fun_mk (st := s_Desk_same) l_Desk_same q_Desk_same p_Desk_same,
     m_Desk_same := ⟨a_Desk_same, i_Desk_same, p_Desk_same⟩,
     f_Desk_answer := f_Desk_answer,
     d_Desk_answer := _,
     F_Desk_answer := fun_mk (st := s_Desk_answer) l_Desk_answer q_Desk_answer p_Desk_answer,
     m_Desk_answer := ⟨a_Desk_answer, i_Desk_answer, p_Desk_answer⟩,
     f_answered := f_answered,
     d_answered := _,
     F_answered := fun_mk (st := s_answered) l_answered q_answered p_answered,
     g_answered := PySem.W.mg_of X G a_answered,
     f_answers := f_answers,
     d_answers := _,
     F_answers := fun_mk (st := s_answers) l_answers q_answers p_answers,
     g_answers := PySem.W.mg_of X G a_answers,
     tk_DOWN := tk_DOWN,
     k_DOWN := PySem.W.mg_of X G k_DOWN,
     tk_UP := tk_UP,
     k_UP := PySem.W.mg_of X G k_UP,
     tk_TOP := tk_TOP,
     k_TOP := PySem.W.mg_of X G k_TOP,
     tk_WRITE := tk_WRITE,
     k_WRITE := PySem.W.mg_of X G k_WRITE,
     tk_ADD := tk_ADD,
     k_ADD := PySem.W.mg_of X G k_ADD,
     tk_COPY := tk_COPY,
     k_COPY := PySem.W.mg_of X G k_COPY,
     tk_PASTE := tk_PASTE,
     k_PASTE := PySem.W.mg_of X G k_PASTE,
     tk_DELETE := tk_DELETE,
     k_DELETE := PySem.W.mg_of X G k_DELETE,
     tk_DOUBLE := tk_DOUBLE,
     k_DOUBLE := PySem.W.mg_of X G k_DOUBLE,
     tk_FIND := tk_FIND,
     k_FIND := PySem.W.mg_of X G k_FIND,
     tk_A_DEED := tk_A_DEED,
     k_A_DEED := PySem.W.mg_of X G k_A_DEED,
     tk_ROUNDS := tk_ROUNDS,
     k_ROUNDS := PySem.W.mg_of X G k_ROUNDS,
     tk_TO_END := tk_TO_END,
     k_TO_END := PySem.W.mg_of X G k_TO_END,
     tk_PART := tk_PART,
     k_PART := PySem.W.mg_of X G k_PART,
     tk_FIELDS := tk_FIELDS,
     k_FIELDS := PySem.W.mg_of X G k_FIELDS,
     tk_GREATEST := tk_GREATEST,
     k_GREATEST := PySem.W.mg_of X G k_GREATEST,
     tk_MOST_ROUNDS_pieces := tk_MOST_ROUNDS_pieces,
     k_MOST_ROUNDS_pieces := PySem.W.mg_of X G k_MOST_ROUNDS_pieces,
     tk_MOST_PIECES := tk_MOST_PIECES,
     k_MOST_PIECES := PySem.W.mg_of X G k_MOST_PIECES,
     tk_DEEPEST := tk_DEEPEST,
     k_DEEPEST := PySem.W.mg_of X G k_DEEPEST,
     tk_MOST_DEEDS_cleaning := tk_MOST_DEEDS_cleaning,
     k_MOST_DEEDS_cleaning := PySem.W.mg_of X G k_MOST_DEEDS_cleaning,
     tk_ROWS_TO_END := tk_ROWS_TO_END,
     k_ROWS_TO_END := PySem.W.mg_of X G k_ROWS_TO_END,
     tk_MOST_DEEDS_judging := tk_MOST_DEEDS_judging,
     k_MOST_DEEDS_judging := PySem.W.mg_of X G k_MOST_DEEDS_judging,
     tk_MOST_ROWS := tk_MOST_ROWS,
     k_MOST_ROWS := PySem.W.mg_of X G k_MOST_ROWS,
     tk_WELL := tk_WELL,
     k_WELL := PySem.W.mg_of X G k_WELL,
     tk_NO_ROW := tk_NO_ROW,
     k_NO_ROW := PySem.W.mg_of X G k_NO_ROW,
     tk_AT_TOP := tk_AT_TOP,
     k_AT_TOP := PySem.W.mg_of X G k_AT_TOP,
     tk_BEYOND := tk_BEYOND,
     k_BEYOND := PySem.W.mg_of X G k_BEYOND,
     tk_FULL := tk_FULL,
     k_FULL := PySem.W.mg_of X G k_FULL,
     tk_NOT_FOUND := tk_NOT_FOUND,
     k_NOT_FOUND := PySem.W.mg_of X G k_NOT_FOUND,
     tk_TOO_LONG := tk_TOO_LONG,
     k_TOO_LONG := PySem.W.mg_of X G k_TOO_LONG,
     tk_MOST_ROUNDS_running := tk_MOST_ROUNDS_running,
     k_MOST_ROUNDS_running := PySem.W.mg_of X G k_MOST_ROUNDS_running,
     tk_MOST_DEEDS_running := tk_MOST_DEEDS_running,
     k_MOST_DEEDS_running := PySem.W.mg_of X G k_MOST_DEEDS_running,
     tk_WRONG := tk_WRONG,
     k_WRONG := PySem.W.mg_of X G k_WRONG,
     tk_OTHER_ROWS := tk_OTHER_ROWS,
     k_OTHER_ROWS := PySem.W.mg_of X G k_OTHER_ROWS,
     tk_TOO_MANY := tk_TOO_MANY,
     k_TOO_MANY := PySem.W.mg_of X G k_TOO_MANY,
     tk_ROWS_CALL := tk_ROWS_CALL,
     k_ROWS_CALL := PySem.W.mg_of X G k_ROWS_CALL,
     a_WITH_NUMBER := a_WITH_NUMBER,
     k_WITH_NUMBER := PySem.W.mg_of X G k_WITH_NUMBER,
     t_WITH_NUMBER := fun _ => tup_of l_WITH_NUMBER (by show 3 ≤ sizeLine; decide) (Paired.cons ⟨_, rfl⟩ (Paired.cons ⟨_, rfl⟩ (Paired.cons ⟨_, rfl⟩ (Paired.nil)))),
     a_WITH_FIELD := a_WITH_FIELD,
     k_WITH_FIELD := PySem.W.mg_of X G k_WITH_FIELD,
     t_WITH_FIELD := fun _ => tup_of l_WITH_FIELD (by show 5 ≤ sizeLine; decide) (Paired.cons ⟨_, rfl⟩ (Paired.cons ⟨_, rfl⟩ (Paired.cons ⟨_, rfl⟩ (Paired.cons ⟨_, rfl⟩ (Paired.cons ⟨_, rfl⟩ (Paired.nil)))))),
     a_UNDONE := a_UNDONE,
     k_UNDONE := PySem.W.mg_of X G k_UNDONE,
     t_UNDONE := fun _ => Dp.tup (xs := [.ref b_UNDONE0, .ref b_UNDONE1, .ref b_UNDONE2]) (tup_of l_UNDONE (by show 3 ≤ sizeLine; decide) (Paired.cons rfl (Paired.cons rfl (Paired.cons rfl (Paired.nil))))) (DpAll.cons (Dp.tup (tup_of (xs := [.int 0, .int 1]) l_UNDONE0 (by show 2 ≤ sizeLine; decide) (Paired.cons ⟨_, rfl⟩ (Paired.cons ⟨_, rfl⟩ Paired.nil))) (DpAll.cons (Dp.int _) (DpAll.cons (Dp.int _) DpAll.nil))) (DpAll.cons (Dp.tup (tup_of (xs := [.int 1, .int 0]) l_UNDONE1 (by show 2 ≤ sizeLine; decide) (Paired.cons ⟨_, rfl⟩ (Paired.cons ⟨_, rfl⟩ Paired.nil))) (DpAll.cons (Dp.int _) (DpAll.cons (Dp.int _) DpAll.nil))) (DpAll.cons (Dp.tup (tup_of (xs := [.int 8, .int 7]) l_UNDONE2 (by show 2 ≤ sizeLine; decide) (Paired.cons ⟨_, rfl⟩ (Paired.cons ⟨_, rfl⟩ Paired.nil))) (DpAll.cons (Dp.int _) (DpAll.cons (Dp.int _) DpAll.nil))) DpAll.nil))),
     a_LOST := a_LOST,
     k_LOST := PySem.W.mg_of X G k_LOST,
     t_LOST := fun _ => Dp.tup (xs := [.ref b_LOST0, .ref b_LOST1, .ref b_LOST2, .ref b_LOST3, .ref b_LOST4]) (tup_of l_LOST (by show 5 ≤ sizeLine; decide) (Paired.cons rfl (Paired.cons rfl (Paired.cons rfl (Paired.cons rfl (Paired.cons rfl (Paired.nil))))))) (DpAll.cons (Dp.tup (tup_of (xs := [.int 0, .int 2]) l_LOST0 (by show 2 ≤ sizeLine; decide) (Paired.cons ⟨_, rfl⟩ (Paired.cons ⟨_, rfl⟩ Paired.nil))) (DpAll.cons (Dp.int _) (DpAll.cons (Dp.int _) DpAll.nil))) (DpAll.cons (Dp.tup (tup_of (xs := [.int 1, .int 2]) l_LOST1 (by show 2 ≤ sizeLine; decide) (Paired.cons ⟨_, rfl⟩ (Paired.cons ⟨_, rfl⟩ Paired.nil))) (DpAll.cons (Dp.int _) (DpAll.cons (Dp.int _) DpAll.nil))) (DpAll.cons (Dp.tup (tup_of (xs := [.int 9, .int 2]) l_LOST2 (by show 2 ≤ sizeLine; decide) (Paired.cons ⟨_, rfl⟩ (Paired.cons ⟨_, rfl⟩ Paired.nil))) (DpAll.cons (Dp.int _) (DpAll.cons (Dp.int _) DpAll.nil))) (DpAll.cons (Dp.tup (tup_of (xs := [.int 2, .int 2]) l_LOST3 (by show 2 ≤ sizeLine; decide) (Paired.cons ⟨_, rfl⟩ (Paired.cons ⟨_, rfl⟩ Paired.nil))) (DpAll.cons (Dp.int _) (DpAll.cons (Dp.int _) DpAll.nil))) (DpAll.cons (Dp.tup (tup_of (xs := [.int 5, .int 5]) l_LOST4 (by show 2 ≤ sizeLine; decide) (Paired.cons ⟨_, rfl⟩ (Paired.cons ⟨_, rfl⟩ Paired.nil))) (DpAll.cons (Dp.int _) (DpAll.cons (Dp.int _) DpAll.nil))) DpAll.nil))))),
     a_LOST_IN_FIELD := a_LOST_IN_FIELD,
     k_LOST_IN_FIELD := PySem.W.mg_of X G k_LOST_IN_FIELD,
     t_LOST_IN_FIELD := fun _ => Dp.tup (xs := [.ref b_LOST_IN_FIELD0, .ref b_LOST_IN_FIELD1, .ref b_LOST_IN_FIELD2, .ref b_LOST_IN_FIELD3, .ref b_LOST_IN_FIELD4, .ref b_LOST_IN_FIELD5]) (tup_of l_LOST_IN_FIELD (by show 6 ≤ sizeLine; decide) (Paired.cons rfl (Paired.cons rfl (Paired.cons rfl (Paired.cons rfl (Paired.cons rfl (Paired.cons rfl (Paired.nil)))))))) (DpAll.cons (Dp.tup (tup_of (xs := [.int 3, .int 3]) l_LOST_IN_FIELD0 (by show 2 ≤ sizeLine; decide) (Paired.cons ⟨_, rfl⟩ (Paired.cons ⟨_, rfl⟩ Paired.nil))) (DpAll.cons (Dp.int _) (DpAll.cons (Dp.int _) DpAll.nil))) (DpAll.cons (Dp.tup (tup_of (xs := [.int 4, .int 3]) l_LOST_IN_FIELD1 (by show 2 ≤ sizeLine; decide) (Paired.cons ⟨_, rfl⟩ (Paired.cons ⟨_, rfl⟩ Paired.nil))) (DpAll.cons (Dp.int _) (DpAll.cons (Dp.int _) DpAll.nil))) (DpAll.cons (Dp.tup (tup_of (xs := [.int 6, .int 3]) l_LOST_IN_FIELD2 (by show 2 ≤ sizeLine; decide) (Paired.cons ⟨_, rfl⟩ (Paired.cons ⟨_, rfl⟩ Paired.nil))) (DpAll.cons (Dp.int _) (DpAll.cons (Dp.int _) DpAll.nil))) (DpAll.cons (Dp.tup (tup_of (xs := [.int 3, .int 6]) l_LOST_IN_FIELD3 (by show 2 ≤ sizeLine; decide) (Paired.cons ⟨_, rfl⟩ (Paired.cons ⟨_, rfl⟩ Paired.nil))) (DpAll.cons (Dp.int _) (DpAll.cons (Dp.int _) DpAll.nil))) (DpAll.cons (Dp.tup (tup_of (xs := [.int 4, .int 6]) l_LOST_IN_FIELD4 (by show 2 ≤ sizeLine; decide) (Paired.cons ⟨_, rfl⟩ (Paired.cons ⟨_, rfl⟩ Paired.nil))) (DpAll.cons (Dp.int _) (DpAll.cons (Dp.int _) DpAll.nil))) (DpAll.cons (Dp.tup (tup_of (xs := [.int 6, .int 6]) l_LOST_IN_FIELD5 (by show 2 ≤ sizeLine; decide) (Paired.cons ⟨_, rfl⟩ (Paired.cons ⟨_, rfl⟩ Paired.nil))) (DpAll.cons (Dp.int _) (DpAll.cons (Dp.int _) DpAll.nil))) DpAll.nil)))))),
     a_TOGETHER := a_TOGETHER,
     k_TOGETHER := PySem.W.mg_of X G k_TOGETHER,
     t_TOGETHER := fun _ => Dp.tup (xs := [.ref b_TOGETHER0, .ref b_TOGETHER1]) (tup_of l_TOGETHER (by show 2 ≤ sizeLine; decide) (Paired.cons rfl (Paired.cons rfl (Paired.nil)))) (DpAll.cons (Dp.tup (tup_of (xs := [.int 4, .int 4]) l_TOGETHER0 (by show 2 ≤ sizeLine; decide) (Paired.cons ⟨_, rfl⟩ (Paired.cons ⟨_, rfl⟩ Paired.nil))) (DpAll.cons (Dp.int _) (DpAll.cons (Dp.int _) DpAll.nil))) (DpAll.cons (Dp.tup (tup_of (xs := [.int 3, .int 4]) l_TOGETHER1 (by show 2 ≤ sizeLine; decide) (Paired.cons ⟨_, rfl⟩ (Paired.cons ⟨_, rfl⟩ Paired.nil))) (DpAll.cons (Dp.int _) (DpAll.cons (Dp.int _) DpAll.nil))) DpAll.nil)),
     a_WRITING := a_WRITING,
     k_WRITING := PySem.W.mg_of X G k_WRITING,
     t_WRITING := fun _ => tup_of l_WRITING (by show 3 ≤ sizeLine; decide) (Paired.cons ⟨_, rfl⟩ (Paired.cons ⟨_, rfl⟩ (Paired.cons ⟨_, rfl⟩ (Paired.nil)))),
     a_READING := a_READING,
     k_READING := PySem.W.mg_of X G k_READING,
     t_READING := fun _ => tup_of l_READING (by show 3 ≤ sizeLine; decide) (Paired.cons ⟨_, rfl⟩ (Paired.cons ⟨_, rfl⟩ (Paired.cons ⟨_, rfl⟩ (Paired.nil)))),
     a_CHANGING := a_CHANGING,
     k_CHANGING := PySem.W.mg_of X G k_CHANGING,
     t_CHANGING := fun _ => tup_of l_CHANGING (by show 2 ≤ sizeLine; decide) (Paired.cons ⟨_, rfl⟩ (Paired.cons ⟨_, rfl⟩ (Paired.nil))),
     a_MANY_LISTS := a_MANY_LISTS,
     k_MANY_LISTS := PySem.W.mg_of X G k_MANY_LISTS,
     t_MANY_LISTS := fun _ => tup_of l_MANY_LISTS (by show 10 ≤ sizeLine; decide) (Paired.cons ⟨_, rfl⟩ (Paired.cons ⟨_, rfl⟩ (Paired.cons ⟨_, rfl⟩ (Paired.cons ⟨_, rfl⟩ (Paired.cons ⟨_, rfl⟩ (Paired.cons ⟨_, rfl⟩ (Paired.cons ⟨_, rfl⟩ (Paired.cons ⟨_, rfl⟩ (Paired.cons ⟨_, rfl⟩ (Paired.cons ⟨_, rfl⟩ (Paired.nil))))))))))),
     b_len := PySem.W.mg_none_of X G b_len,
     b_range := PySem.W.mg_none_of X G b_range,
     b_sum := PySem.W.mg_none_of X G b_sum,
     b_max := PySem.W.mg_none_of X G b_max,
     b_int := PySem.W.mg_none_of X G b_int,
     b_list := PySem.W.mg_none_of X G b_list,
     b_enumerate := PySem.W.mg_none_of X G b_enumerate }, rfl⟩
end Pe
set_option Elab.async false
set_option linter.all false
set_option maxRecDepth 100000
set_option maxHeartbeats 2000000
/-! The attributes of each class (printed by genfld.py). -/
namespace Pe
open PySem PySem.Spec PyProof.Rows L2
theorem lk_here {k : Str} {v : V} {r : List (Str × V)} : List.lookup k ((k, v) :: r) = some v := by
  have e : (k == k) = true := beq_self_eq_true k
  simp only [List.lookup, e]
theorem lk_past {k g : Str} {v : V} {r : List (Str × V)} (h : (k == g) = false) : List.lookup k ((g, v) :: r) = List.lookup k r := by
  simp only [List.lookup, h]
theorem put_here {f : Str} {v x : V} {r : List (Str × V)} : putF f v ((f, x) :: r) = (f, v) :: r := if_pos rfl
theorem put_past {f g : Str} {v x : V} {r : List (Str × V)} (h : ¬ g = f) : putF f v ((g, x) :: r) = (g, x) :: putF f v r := if_neg h
def f_Deed (x0 x1 x2 x3 : V) : List (Str × V) := [("sort_of", x0), ("field", x1), ("number", x2), ("step", x3)]
theorem l_Deed_sort_of (x0 x1 x2 x3 : V) : (f_Deed x0 x1 x2 x3).lookup ("sort_of" : Str) = some x0 := lk_here
theorem l_Deed_field (x0 x1 x2 x3 : V) : (f_Deed x0 x1 x2 x3).lookup ("field" : Str) = some x1 := ((lk_past (by decide +kernel)).trans lk_here)
theorem l_Deed_number (x0 x1 x2 x3 : V) : (f_Deed x0 x1 x2 x3).lookup ("number" : Str) = some x2 := ((lk_past (by decide +kernel)).trans ((lk_past (by decide +kernel)).trans lk_here))
theorem l_Deed_step (x0 x1 x2 x3 : V) : (f_Deed x0 x1 x2 x3).lookup ("step" : Str) = some x3 := ((lk_past (by decide +kernel)).trans ((lk_past (by decide +kernel)).trans ((lk_past (by decide +kernel)).trans lk_here)))
theorem no_Deed_as_numbers (x0 x1 x2 x3 : V) : (f_Deed x0 x1 x2 x3).lookup ("as_numbers" : Str) = none := ((lk_past (by decide +kernel)).trans ((lk_past (by decide +kernel)).trans ((lk_past (by decide +kernel)).trans ((lk_past (by decide +kernel)).trans rfl))))
theorem new_Deed (x0 x1 x2 x3 : V) : (putF "step" x3 (putF "number" x2 (putF "field" x1 (putF "sort_of" x0 [])))) = f_Deed x0 x1 x2 x3 := by
  have h0 : putF "sort_of" x0 ([] : List (Str × V)) = ([("sort_of", x0)] : List (Str × V)) := rfl
  have h1 : putF "field" x1 ([("sort_of", x0)] : List (Str × V)) = ([("sort_of", x0), ("field", x1)] : List (Str × V)) := ((put_past (by decide +kernel)).trans (congrArg _ rfl))
  have h2 : putF "number" x2 ([("sort_of", x0), ("field", x1)] : List (Str × V)) = ([("sort_of", x0), ("field", x1), ("number", x2)] : List (Str × V)) := ((put_past (by decide +kernel)).trans (congrArg _ ((put_past (by decide +kernel)).trans (congrArg _ rfl))))
  have h3 : putF "step" x3 ([("sort_of", x0), ("field", x1), ("number", x2)] : List (Str × V)) = ([("sort_of", x0), ("field", x1), ("number", x2), ("step", x3)] : List (Str × V)) := ((put_past (by decide +kernel)).trans (congrArg _ ((put_past (by decide +kernel)).trans (congrArg _ ((put_past (by decide +kernel)).trans (congrArg _ rfl))))))
  rw [h0, h1, h2, h3]
  rfl
theorem n_Deed_len (x0 x1 x2 x3 : V) : (f_Deed x0 x1 x2 x3).length = 4 := rfl
def f_Piece (x0 x1 x2 x3 : V) : List (Str × V) := [("kind", x0), ("numbers", x1), ("deed", x2), ("inner", x3)]
theorem l_Piece_kind (x0 x1 x2 x3 : V) : (f_Piece x0 x1 x2 x3).lookup ("kind" : Str) = some x0 := lk_here
theorem l_Piece_numbers (x0 x1 x2 x3 : V) : (f_Piece x0 x1 x2 x3).lookup ("numbers" : Str) = some x1 := ((lk_past (by decide +kernel)).trans lk_here)
theorem l_Piece_deed (x0 x1 x2 x3 : V) : (f_Piece x0 x1 x2 x3).lookup ("deed" : Str) = some x2 := ((lk_past (by decide +kernel)).trans ((lk_past (by decide +kernel)).trans lk_here))
theorem l_Piece_inner (x0 x1 x2 x3 : V) : (f_Piece x0 x1 x2 x3).lookup ("inner" : Str) = some x3 := ((lk_past (by decide +kernel)).trans ((lk_past (by decide +kernel)).trans ((lk_past (by decide +kernel)).trans lk_here)))
theorem no_Piece_many (x0 x1 x2 x3 : V) : (f_Piece x0 x1 x2 x3).lookup ("many" : Str) = none := ((lk_past (by decide +kernel)).trans ((lk_past (by decide +kernel)).trans ((lk_past (by decide +kernel)).trans ((lk_past (by decide +kernel)).trans rfl))))
theorem no_Piece_deep (x0 x1 x2 x3 : V) : (f_Piece x0 x1 x2 x3).lookup ("deep" : Str) = none := ((lk_past (by decide +kernel)).trans ((lk_past (by decide +kernel)).trans ((lk_past (by decide +kernel)).trans ((lk_past (by decide +kernel)).trans rfl))))
theorem no_Piece_as_numbers (x0 x1 x2 x3 : V) : (f_Piece x0 x1 x2 x3).lookup ("as_numbers" : Str) = none := ((lk_past (by decide +kernel)).trans ((lk_past (by decide +kernel)).trans ((lk_past (by decide +kernel)).trans ((lk_past (by decide +kernel)).trans rfl))))
theorem new_Piece (x0 x1 x2 x3 : V) : (putF "inner" x3 (putF "deed" x2 (putF "numbers" x1 (putF "kind" x0 [])))) = f_Piece x0 x1 x2 x3 := by
  have h0 : putF "kind" x0 ([] : List (Str × V)) = ([("kind", x0)] : List (Str × V)) := rfl
  have h1 : putF "numbers" x1 ([("kind", x0)] : List (Str × V)) = ([("kind", x0), ("numbers", x1)] : List (Str × V)) := ((put_past (by decide +kernel)).trans (congrArg _ rfl))
  have h2 : putF "deed" x2 ([("kind", x0), ("numbers", x1)] : List (Str × V)) = ([("kind", x0), ("numbers", x1), ("deed", x2)] : List (Str × V)) := ((put_past (by decide +kernel)).trans (congrArg _ ((put_past (by decide +kernel)).trans (congrArg _ rfl))))
  have h3 : putF "inner" x3 ([("kind", x0), ("numbers", x1), ("deed", x2)] : List (Str × V)) = ([("kind", x0), ("numbers", x1), ("deed", x2), ("inner", x3)] : List (Str × V)) := ((put_past (by decide +kernel)).trans (congrArg _ ((put_past (by decide +kernel)).trans (congrArg _ ((put_past (by decide +kernel)).trans (congrArg _ rfl))))))
  rw [h0, h1, h2, h3]
  rfl
theorem n_Piece_len (x0 x1 x2 x3 : V) : (f_Piece x0 x1 x2 x3).length = 4 := rfl
def f_Reader (x0 x1 : V) : List (Str × V) := [("row_told", x0), ("at", x1)]
theorem l_Reader_row_told (x0 x1 : V) : (f_Reader x0 x1).lookup ("row_told" : Str) = some x0 := lk_here
theorem l_Reader_at (x0 x1 : V) : (f_Reader x0 x1).lookup ("at" : Str) = some x1 := ((lk_past (by decide +kernel)).trans lk_here)
theorem no_Reader_take (x0 x1 : V) : (f_Reader x0 x1).lookup ("take" : Str) = none := ((lk_past (by decide +kernel)).trans ((lk_past (by decide +kernel)).trans rfl))
theorem no_Reader_must_end (x0 x1 : V) : (f_Reader x0 x1).lookup ("must_end" : Str) = none := ((lk_past (by decide +kernel)).trans ((lk_past (by decide +kernel)).trans rfl))
theorem no_Reader_next_deed (x0 x1 : V) : (f_Reader x0 x1).lookup ("next_deed" : Str) = none := ((lk_past (by decide +kernel)).trans ((lk_past (by decide +kernel)).trans rfl))
theorem no_Reader_piece (x0 x1 : V) : (f_Reader x0 x1).lookup ("piece" : Str) = none := ((lk_past (by decide +kernel)).trans ((lk_past (by decide +kernel)).trans rfl))
theorem no_Reader_pieces (x0 x1 : V) : (f_Reader x0 x1).lookup ("pieces" : Str) = none := ((lk_past (by decide +kernel)).trans ((lk_past (by decide +kernel)).trans rfl))
theorem new_Reader (x0 x1 : V) : (putF "at" x1 (putF "row_told" x0 [])) = f_Reader x0 x1 := by
  have h0 : putF "row_told" x0 ([] : List (Str × V)) = ([("row_told", x0)] : List (Str × V)) := rfl
  have h1 : putF "at" x1 ([("row_told", x0)] : List (Str × V)) = ([("row_told", x0), ("at", x1)] : List (Str × V)) := ((put_past (by decide +kernel)).trans (congrArg _ rfl))
  rw [h0, h1]
  rfl
theorem p_Reader_at (x0 x1 y : V) : putF "at" y (f_Reader x0 x1) = f_Reader x0 y := ((put_past (by decide +kernel)).trans (congrArg _ put_here))
theorem n_Reader_len (x0 x1 : V) : (f_Reader x0 x1).length = 2 := rfl
def f_Clipboard (x0 : V) : List (Str × V) := [("is_old", x0)]
theorem l_Clipboard_is_old (x0 : V) : (f_Clipboard x0).lookup ("is_old" : Str) = some x0 := lk_here
theorem no_Clipboard_go_through (x0 : V) : (f_Clipboard x0).lookup ("go_through" : Str) = none := ((lk_past (by decide +kernel)).trans rfl)
theorem new_Clipboard (x0 : V) : (putF "is_old" x0 []) = f_Clipboard x0 := by
  have h0 : putF "is_old" x0 ([] : List (Str × V)) = ([("is_old", x0)] : List (Str × V)) := rfl
  rw [h0]
  rfl
theorem p_Clipboard_is_old (x0 y : V) : putF "is_old" y (f_Clipboard x0) = f_Clipboard y := put_here
theorem n_Clipboard_len (x0 : V) : (f_Clipboard x0).length = 1 := rfl
def f_Table (x0 x1 x2 : V) : List (Str × V) := [("rows", x0), ("cursor", x1), ("clipboard", x2)]
theorem l_Table_rows (x0 x1 x2 : V) : (f_Table x0 x1 x2).lookup ("rows" : Str) = some x0 := lk_here
theorem l_Table_cursor (x0 x1 x2 : V) : (f_Table x0 x1 x2).lookup ("cursor" : Str) = some x1 := ((lk_past (by decide +kernel)).trans lk_here)
theorem l_Table_clipboard (x0 x1 x2 : V) : (f_Table x0 x1 x2).lookup ("clipboard" : Str) = some x2 := ((lk_past (by decide +kernel)).trans ((lk_past (by decide +kernel)).trans lk_here))
theorem no_Table_copied (x0 x1 x2 : V) : (f_Table x0 x1 x2).lookup ("copied" : Str) = none := ((lk_past (by decide +kernel)).trans ((lk_past (by decide +kernel)).trans ((lk_past (by decide +kernel)).trans rfl)))
theorem no_Table_as_numbers (x0 x1 x2 : V) : (f_Table x0 x1 x2).lookup ("as_numbers" : Str) = none := ((lk_past (by decide +kernel)).trans ((lk_past (by decide +kernel)).trans ((lk_past (by decide +kernel)).trans rfl)))
theorem no_Table_is_behind (x0 x1 x2 : V) : (f_Table x0 x1 x2).lookup ("is_behind" : Str) = none := ((lk_past (by decide +kernel)).trans ((lk_past (by decide +kernel)).trans ((lk_past (by decide +kernel)).trans rfl)))
theorem no_Table_here (x0 x1 x2 : V) : (f_Table x0 x1 x2).lookup ("here" : Str) = none := ((lk_past (by decide +kernel)).trans ((lk_past (by decide +kernel)).trans ((lk_past (by decide +kernel)).trans rfl)))
theorem no_Table_found_row (x0 x1 x2 : V) : (f_Table x0 x1 x2).lookup ("found_row" : Str) = none := ((lk_past (by decide +kernel)).trans ((lk_past (by decide +kernel)).trans ((lk_past (by decide +kernel)).trans rfl)))
theorem no_Table_put (x0 x1 x2 : V) : (f_Table x0 x1 x2).lookup ("put" : Str) = none := ((lk_past (by decide +kernel)).trans ((lk_past (by decide +kernel)).trans ((lk_past (by decide +kernel)).trans rfl)))
theorem no_Table_move (x0 x1 x2 : V) : (f_Table x0 x1 x2).lookup ("move" : Str) = none := ((lk_past (by decide +kernel)).trans ((lk_past (by decide +kernel)).trans ((lk_past (by decide +kernel)).trans rfl)))
theorem no_Table_double (x0 x1 x2 : V) : (f_Table x0 x1 x2).lookup ("double" : Str) = none := ((lk_past (by decide +kernel)).trans ((lk_past (by decide +kernel)).trans ((lk_past (by decide +kernel)).trans rfl)))
theorem no_Table_do (x0 x1 x2 : V) : (f_Table x0 x1 x2).lookup ("do" : Str) = none := ((lk_past (by decide +kernel)).trans ((lk_past (by decide +kernel)).trans ((lk_past (by decide +kernel)).trans rfl)))
theorem new_Table (x0 x1 x2 : V) : (putF "clipboard" x2 (putF "cursor" x1 (putF "rows" x0 []))) = f_Table x0 x1 x2 := by
  have h0 : putF "rows" x0 ([] : List (Str × V)) = ([("rows", x0)] : List (Str × V)) := rfl
  have h1 : putF "cursor" x1 ([("rows", x0)] : List (Str × V)) = ([("rows", x0), ("cursor", x1)] : List (Str × V)) := ((put_past (by decide +kernel)).trans (congrArg _ rfl))
  have h2 : putF "clipboard" x2 ([("rows", x0), ("cursor", x1)] : List (Str × V)) = ([("rows", x0), ("cursor", x1), ("clipboard", x2)] : List (Str × V)) := ((put_past (by decide +kernel)).trans (congrArg _ ((put_past (by decide +kernel)).trans (congrArg _ rfl))))
  rw [h0, h1, h2]
  rfl
theorem p_Table_cursor (x0 x1 x2 y : V) : putF "cursor" y (f_Table x0 x1 x2) = f_Table x0 y x2 := ((put_past (by decide +kernel)).trans (congrArg _ put_here))
theorem p_Table_clipboard (x0 x1 x2 y : V) : putF "clipboard" y (f_Table x0 x1 x2) = f_Table x0 x1 y := ((put_past (by decide +kernel)).trans (congrArg _ ((put_past (by decide +kernel)).trans (congrArg _ put_here))))
theorem n_Table_len (x0 x1 x2 : V) : (f_Table x0 x1 x2).length = 3 := rfl
def f_Run (x0 x1 x2 : V) : List (Str × V) := [("table", x0), ("done", x1), ("word", x2)]
theorem l_Run_table (x0 x1 x2 : V) : (f_Run x0 x1 x2).lookup ("table" : Str) = some x0 := lk_here
theorem l_Run_done (x0 x1 x2 : V) : (f_Run x0 x1 x2).lookup ("done" : Str) = some x1 := ((lk_past (by decide +kernel)).trans lk_here)
theorem l_Run_word (x0 x1 x2 : V) : (f_Run x0 x1 x2).lookup ("word" : Str) = some x2 := ((lk_past (by decide +kernel)).trans ((lk_past (by decide +kernel)).trans lk_here))
theorem no_Run_is_over (x0 x1 x2 : V) : (f_Run x0 x1 x2).lookup ("is_over" : Str) = none := ((lk_past (by decide +kernel)).trans ((lk_past (by decide +kernel)).trans ((lk_past (by decide +kernel)).trans rfl)))
theorem no_Run_do_deed (x0 x1 x2 : V) : (f_Run x0 x1 x2).lookup ("do_deed" : Str) = none := ((lk_past (by decide +kernel)).trans ((lk_past (by decide +kernel)).trans ((lk_past (by decide +kernel)).trans rfl)))
theorem no_Run_do_to_end (x0 x1 x2 : V) : (f_Run x0 x1 x2).lookup ("do_to_end" : Str) = none := ((lk_past (by decide +kernel)).trans ((lk_past (by decide +kernel)).trans ((lk_past (by decide +kernel)).trans rfl)))
theorem no_Run_holds (x0 x1 x2 : V) : (f_Run x0 x1 x2).lookup ("holds" : Str) = none := ((lk_past (by decide +kernel)).trans ((lk_past (by decide +kernel)).trans ((lk_past (by decide +kernel)).trans rfl)))
theorem no_Run_do_piece (x0 x1 x2 : V) : (f_Run x0 x1 x2).lookup ("do_piece" : Str) = none := ((lk_past (by decide +kernel)).trans ((lk_past (by decide +kernel)).trans ((lk_past (by decide +kernel)).trans rfl)))
theorem no_Run_do_row (x0 x1 x2 : V) : (f_Run x0 x1 x2).lookup ("do_row" : Str) = none := ((lk_past (by decide +kernel)).trans ((lk_past (by decide +kernel)).trans ((lk_past (by decide +kernel)).trans rfl)))
theorem new_Run (x0 x1 x2 : V) : (putF "word" x2 (putF "done" x1 (putF "table" x0 []))) = f_Run x0 x1 x2 := by
  have h0 : putF "table" x0 ([] : List (Str × V)) = ([("table", x0)] : List (Str × V)) := rfl
  have h1 : putF "done" x1 ([("table", x0)] : List (Str × V)) = ([("table", x0), ("done", x1)] : List (Str × V)) := ((put_past (by decide +kernel)).trans (congrArg _ rfl))
  have h2 : putF "word" x2 ([("table", x0), ("done", x1)] : List (Str × V)) = ([("table", x0), ("done", x1), ("word", x2)] : List (Str × V)) := ((put_past (by decide +kernel)).trans (congrArg _ ((put_past (by decide +kernel)).trans (congrArg _ rfl))))
  rw [h0, h1, h2]
  rfl
theorem p_Run_done (x0 x1 x2 y : V) : putF "done" y (f_Run x0 x1 x2) = f_Run x0 y x2 := ((put_past (by decide +kernel)).trans (congrArg _ put_here))
theorem p_Run_word (x0 x1 x2 y : V) : putF "word" y (f_Run x0 x1 x2) = f_Run x0 x1 y := ((put_past (by decide +kernel)).trans (congrArg _ ((put_past (by decide +kernel)).trans (congrArg _ put_here))))
theorem n_Run_len (x0 x1 x2 : V) : (f_Run x0 x1 x2).length = 3 := rfl
def f_Desk (x0 : V) : List (Str × V) := [("program", x0)]
theorem l_Desk_program (x0 : V) : (f_Desk x0).lookup ("program" : Str) = some x0 := lk_here
theorem no_Desk_load (x0 : V) : (f_Desk x0).lookup ("load" : Str) = none := ((lk_past (by decide +kernel)).trans rfl)
theorem no_Desk_touches (x0 : V) : (f_Desk x0).lookup ("touches" : Str) = none := ((lk_past (by decide +kernel)).trans rfl)
theorem no_Desk_ends (x0 : V) : (f_Desk x0).lookup ("ends" : Str) = none := ((lk_past (by decide +kernel)).trans rfl)
theorem no_Desk_allowed (x0 : V) : (f_Desk x0).lookup ("allowed" : Str) = none := ((lk_past (by decide +kernel)).trans rfl)
theorem no_Desk_run (x0 : V) : (f_Desk x0).lookup ("run" : Str) = none := ((lk_past (by decide +kernel)).trans rfl)
theorem no_Desk_changed (x0 : V) : (f_Desk x0).lookup ("changed" : Str) = none := ((lk_past (by decide +kernel)).trans rfl)
theorem no_Desk_join (x0 : V) : (f_Desk x0).lookup ("join" : Str) = none := ((lk_past (by decide +kernel)).trans rfl)
theorem no_Desk_clean (x0 : V) : (f_Desk x0).lookup ("clean" : Str) = none := ((lk_past (by decide +kernel)).trans rfl)
theorem no_Desk_same (x0 : V) : (f_Desk x0).lookup ("same" : Str) = none := ((lk_past (by decide +kernel)).trans rfl)
theorem no_Desk_answer (x0 : V) : (f_Desk x0).lookup ("answer" : Str) = none := ((lk_past (by decide +kernel)).trans rfl)
theorem new_Desk (x0 : V) : (putF "program" x0 []) = f_Desk x0 := by
  have h0 : putF "program" x0 ([] : List (Str × V)) = ([("program", x0)] : List (Str × V)) := rfl
  rw [h0]
  rfl
theorem p_Desk_program (x0 y : V) : putF "program" y (f_Desk x0) = f_Desk y := put_here
theorem n_Desk_len (x0 : V) : (f_Desk x0).length = 1 := rfl
end Pe
set_option Elab.async false
set_option linter.all false
set_option maxRecDepth 100000
set_option maxHeartbeats 2000000
/-! How deeds, pieces, rows, tables lie in the heap; more of what a reading evaluates to. -/
namespace Pe
open PySem PySem.Spec PyProof.Rows L2 VamacBase Evl

/-! ### heaps -/
/-- all but the addresses of l is as it was -/
def Keep (l : List Addr) (H H' : Hp) : Prop := ∀ b o, H b = some o → b ∉ l → H' b = some o
theorem Keep.refl {l : List Addr} {H : Hp} : Keep l H H := fun _ _ h _ => h
theorem Keep.trans {l : List Addr} {H H1 H2 : Hp} (a : Keep l H H1) (b : Keep l H1 H2) : Keep l H H2 := fun c o h n => b c o (a c o h n) n
theorem kp {l : List Addr} {H H1 : Hp} (a : Ex H H1) : Keep l H H1 := fun c o h _ => a c o h
theorem Keep.upd {H H1 : Hp} {r : Addr} {o : HO} (a : Keep [r] H H1) : Keep [r] H (L2.upd H1 r o) := fun c u h n => by
  rw [upd_ne (fun z => n (by rw [z]; exact List.mem_cons_self ..))]
  exact a c u h n
/-- what was not there ahead -/
def New (H H' : Hp) : Hp := fun b => match H b with
  | none => H' b
  | some _ => none
theorem New.at {H H' : Hp} {b : Addr} {o : HO} (h : H b = none) (h' : H' b = some o) : New H H' b = some o := by
  unfold New
  rw [h]
  exact h'
theorem New.of {H H' : Hp} {b : Addr} {o : HO} (h : New H H' b = some o) : H b = none ∧ H' b = some o := by
  unfold New at h
  cases e : H b with
  | none => rw [e] at h; exact ⟨rfl, h⟩
  | some u => rw [e] at h; cases h
theorem New.le {H H' : Hp} : Ex (New H H') H' := fun b o h => (New.of h).2
theorem New.mono {H H1 H2 : Hp} {l : List Addr} (k : Keep l H1 H2) (hl : ∀ b ∈ l, H b ≠ none) : Ex (New H H1) (New H H2) := fun b o h => by
  obtain ⟨a, c⟩ := New.of h
  exact New.at a (k b o c fun z => hl b z a)
theorem none_back {l : List Addr} {H H1 : Hp} (k : Keep l H H1) {b : Addr} (hl : ∀ c ∈ l, H1 c ≠ none) (h : H1 b = none) : H b = none := by
  cases e : H b with
  | none => rfl
  | some o =>
    by_cases m : b ∈ l
    · exact absurd h (hl b m)
    · rw [k b o e m] at h
      cases h
theorem New.late {H H1 H2 : Hp} {l : List Addr} (k : Keep l H H1) (hl : ∀ b ∈ l, H1 b ≠ none) : Ex (New H1 H2) (New H H2) := fun b o h => by
  obtain ⟨a, c⟩ := New.of h
  exact New.at (none_back k hl a) c
/-- objects made since H, in a heap where all of them still stand -/
theorem Ex.upd_none {B H : Hp} {a : Addr} {o : HO} (e : Ex B H) (h : B a = none) : Ex B (L2.upd H a o) := Ex.mut e h
theorem neB {B H : Hp} {a b : Addr} {o : HO} (hb : B b = some o) (ha : B a = none) : b ≠ a := fun z => by rw [z, ha] at hb; cases hb
theorem neH {H : Hp} {a b : Addr} {C C' dx dx' : Addr} {fs fs' : List (Str × V)} (h1 : H a = some (.ins C dx fs)) (h2 : H b = some (.ins C' dx' fs')) (hl : fs.length ≠ fs'.length) : a ≠ b := fun z => by
  rw [z, h2] at h1
  injection h1 with h1
  injection h1 with _ _ h1
  exact hl (by rw [h1])

/-! ### deeds, pieces, rows -/
section
variable {K : PySem.W.Frag} {mg : Str → Option Value} (T : Txt K mg)
def DeedAt (H : Hp) (a : Addr) (r : Raw) : Prop := ∃ dx, H a = some (.ins T.c_Deed dx (f_Deed (.int r.1) (.int r.2.1) (.int r.2.2.1) (.int r.2.2.2)))
def rawOf (d : Deed) (s : Int) : Raw := (dSort d, (dField d : Int), numberOf d, s)
abbrev kindOf : Prog → Int := kindN
abbrev numsOf : Prog → List Int := numsN
def DvAt (H : Hp) (dv : V) : Prog → Prop
  | .deed d s _ => ∃ da, dv = .ref da ∧ DeedAt T H da (rawOf d s)
  | _ => dv = .non
/-- a piece at a, what its row of pieces is told by inn -/
def Pc (H : Hp) (a : Addr) (q : Prog) (inn : List V → Prop) : Prop := ∃ dx nl dv il zs, H a = some (.ins T.c_Piece dx (f_Piece (.int (kindOf q)) (.ref nl) dv (.ref il))) ∧ H nl = some (.lst ((numsOf q).map V.int)) ∧ DvAt T H dv q ∧ H il = some (.lst zs) ∧ inn zs
def PsAt (H : Hp) : Prog → List V → Prop
  | .done, xs => xs = []
  | .deed d s r, xs => ∃ a ys, xs = .ref a :: ys ∧ Pc T H a (.deed d s .done) (fun zs => zs = []) ∧ PsAt H r ys
  | .times n b r, xs => ∃ a ys, xs = .ref a :: ys ∧ Pc T H a (.times n b .done) (fun zs => PsAt H b zs) ∧ PsAt H r ys
  | .toEnd b r, xs => ∃ a ys, xs = .ref a :: ys ∧ Pc T H a (.toEnd b .done) (fun zs => PsAt H b zs) ∧ PsAt H r ys
  | .when f v b r, xs => ∃ a ys, xs = .ref a :: ys ∧ Pc T H a (.when f v b .done) (fun zs => PsAt H b zs) ∧ PsAt H r ys
def PcAt (H : Hp) (a : Addr) (q : Prog) : Prop := Pc T H a q (fun zs => PsAt T H (inner q) zs)
theorem PsAt_cons {H : Hp} {q r : Prog} (h : One q) {xs : List V} : PsAt T H (q.andThen r) xs ↔ ∃ a ys, xs = .ref a :: ys ∧ PcAt T H a q ∧ PsAt T H r ys := by
  cases h <;> exact Iff.rfl
theorem PsAt_nil {H : Hp} {xs : List V} : PsAt T H .done xs ↔ xs = [] := Iff.rfl
variable {T}
theorem DeedAt.mono {H H' : Hp} (e : Ex H H') {a : Addr} {r : Raw} (h : DeedAt T H a r) : DeedAt T H' a r := let ⟨dx, q⟩ := h; ⟨dx, e _ _ q⟩
theorem DvAt.mono {H H' : Hp} (e : Ex H H') {dv : V} {q : Prog} (h : DvAt T H dv q) : DvAt T H' dv q := by
  cases q with
  | deed d s r => obtain ⟨da, h1, h2⟩ := h; exact ⟨da, h1, h2.mono e⟩
  | _ => exact h
theorem Pc.mono {H H' : Hp} (e : Ex H H') {a : Addr} {q : Prog} {inn inn' : List V → Prop} (hi : ∀ zs, inn zs → inn' zs) (h : Pc T H a q inn) : Pc T H' a q inn' := by
  obtain ⟨dx, nl, dv, il, zs, h1, h2, h3, h4, h5⟩ := h
  exact ⟨dx, nl, dv, il, zs, e _ _ h1, e _ _ h2, h3.mono e, e _ _ h4, hi _ h5⟩
theorem PsAt.mono {H H' : Hp} (e : Ex H H') : ∀ {p : Prog} {xs : List V}, PsAt T H p xs → PsAt T H' p xs
  | .done, xs, h => h
  | .deed d s r, xs, ⟨a, ys, h1, h2, h3⟩ => ⟨a, ys, h1, h2.mono e fun _ q => q, PsAt.mono e h3⟩
  | .times n b r, xs, ⟨a, ys, h1, h2, h3⟩ => ⟨a, ys, h1, h2.mono e fun _ q => PsAt.mono e q, PsAt.mono e h3⟩
  | .toEnd b r, xs, ⟨a, ys, h1, h2, h3⟩ => ⟨a, ys, h1, h2.mono e fun _ q => PsAt.mono e q, PsAt.mono e h3⟩
  | .when f v b r, xs, ⟨a, ys, h1, h2, h3⟩ => ⟨a, ys, h1, h2.mono e fun _ q => PsAt.mono e q, PsAt.mono e h3⟩
theorem PcAt.mono {H H' : Hp} (e : Ex H H') {a : Addr} {q : Prog} (h : PcAt T H a q) : PcAt T H' a q := Pc.mono e (fun _ z => z.mono e) h
theorem PsAt.len {H : Hp} {p : Prog} : ∀ {xs : List V}, PsAt T H p xs → xs.length = p.row := by
  induction p using prog_ind with
  | h0 => intro xs h; rw [(PsAt_nil T).mp h]; rfl
  | h1 q r hq ih =>
    intro xs h
    obtain ⟨a, ys, rfl, _, h3⟩ := (PsAt_cons T hq).mp h
    have e : (q.andThen r).row = r.row + 1 := by cases hq <;> rfl
    rw [List.length_cons, ih h3, e]
theorem PsAt.app {H : Hp} {p q : Prog} : ∀ {xs ys : List V}, PsAt T H p xs → PsAt T H q ys → PsAt T H (p.andThen q) (xs ++ ys) := by
  induction p using prog_ind with
  | h0 => intro xs ys h1 h2; rw [(PsAt_nil T).mp h1]; exact h2
  | h1 z r hz ih =>
    intro xs ys h1 h2
    obtain ⟨a, zs, rfl, h3, h4⟩ := (PsAt_cons T hz).mp h1
    have e : (z.andThen r).andThen q = z.andThen (r.andThen q) := by cases hz <;> rfl
    rw [e]
    exact (PsAt_cons T hz).mpr ⟨a, zs ++ ys, rfl, h3, ih h4 h2⟩
/-- a list of pieces, each told by itself -/
def FlatAt (T : Txt K mg) (H : Hp) : List V → List Prog → Prop := Paired fun x q => ∃ a, x = .ref a ∧ PcAt T H a q
theorem FlatAt.mono {H H' : Hp} (e : Ex H H') {xs : List V} {l : List Prog} (h : FlatAt T H xs l) : FlatAt T H' xs l := Paired.mapP h fun _ _ ⟨a, h1, h2⟩ => ⟨a, h1, h2.mono e⟩
theorem paired_app {α β : Type} {F : α → β → Prop} : ∀ {a c : List α} {b d : List β}, Paired F a b → Paired F c d → Paired F (a ++ c) (b ++ d)
  | _, _, _, _, .nil, h => h
  | _, _, _, _, .cons r t, h => .cons r (paired_app t h)
theorem paired_at {α β : Type} {F : α → β → Prop} : ∀ {a : List α} {b : List β} {i : Nat} {x : α}, Paired F a b → a[i]? = some x → ∃ y, b[i]? = some y ∧ F x y
  | _, _, _, _, .nil, e => by simp at e
  | _, _, 0, _, .cons r _, e => by simp at e; subst e; exact ⟨_, rfl, r⟩
  | _, _, i + 1, x, .cons _ t, e => by
    obtain ⟨u, h1, h2⟩ := paired_at (i := i) (x := x) t (by simpa using e)
    exact ⟨u, by simpa using h1, h2⟩
theorem PsAt.heads {H : Hp} {p : Prog} : ∀ {xs : List V}, PsAt T H p xs → FlatAt T H xs (Pe.heads p) := by
  induction p using prog_ind with
  | h0 => intro xs h; rw [(PsAt_nil T).mp h]; exact .nil
  | h1 q r hq ih =>
    intro xs h
    obtain ⟨a, ys, rfl, h2, h3⟩ := (PsAt_cons T hq).mp h
    rw [heads_step hq]
    exact .cons ⟨a, rfl, h2⟩ (ih h3)
/-- a row of pieces: a list at a -/
def Row (T : Txt K mg) (H : Hp) (a : Addr) (p : Prog) : Prop := ∃ xs, H a = some (.lst xs) ∧ PsAt T H p xs
theorem Row.mono {H H' : Hp} (e : Ex H H') {a : Addr} {p : Prog} (h : Row T H a p) : Row T H' a p := let ⟨xs, h1, h2⟩ := h; ⟨xs, e _ _ h1, h2.mono e⟩
/-- what is read off a piece -/
structure PcRead (T : Txt K mg) (H : Hp) (a : Addr) (q : Prog) (dx nl : Addr) (dv : V) (il : Addr) : Prop where
  ins : H a = some (.ins T.c_Piece dx (f_Piece (.int (kindOf q)) (.ref nl) dv (.ref il)))
  nums : H nl = some (.lst ((numsOf q).map V.int))
  dv : DvAt T H dv q
  row : Row T H il (inner q)
theorem PcAt.read {H : Hp} {a : Addr} {q : Prog} (h : PcAt T H a q) : ∃ dx nl dv il, PcRead T H a q dx nl dv il := by
  obtain ⟨dx, nl, dv, il, zs, h1, h2, h3, h4, h5⟩ := h
  exact ⟨dx, nl, dv, il, h1, h2, h3, zs, h4, h5⟩
theorem PcRead.mono {H H' : Hp} (e : Ex H H') {a : Addr} {q : Prog} {dx nl : Addr} {dv : V} {il : Addr} (h : PcRead T H a q dx nl dv il) : PcRead T H' a q dx nl dv il :=
  ⟨e _ _ h.ins, e _ _ h.nums, h.dv.mono e, h.row.mono e⟩

/-! ### a loop over a row -/
theorem for_row {B : Hp} {a : Addr} {xs : List V} {p : Prog} {g : TG} {tb : TS} {D : Ends} {σ : L2.St} {H : Hp} (hp : PsAt T B p xs) (Pv : Nat → Prog → L2.St → Hp → Prop) (h0 : Pv 0 p σ H) (hl : ∀ i q σ H, Pv i q σ H → SqL K H a xs)
    (hs : ∀ i b q r σ H (Nx : L2.St → Hp → Prop), One q → PcAt T B b q → xs[i]? = some (.ref b) → Pv i (q.andThen r) σ H → (∀ σ' H', Pv (i + 1) r σ' H' → Nx σ' H') → g (.ref b) σ H fun σ2 H2 => tb { D with nx := Nx, ct := Nx, bk := D.nx } σ2 H2)
    (hd : ∀ σ H, Pv xs.length .done σ H → D.nx σ H) :
    ∃ W : Nat → Nat → L2.St → Hp → Prop, (∃ m, W 0 m σ H) ∧ ∀ i m σ H, W i m σ H →
      ((Itl K a).stop i H ∧ D.nx σ H) ∨ ((Itl K a).go i H ∧ ∃ N : L2.St → Hp → Prop, (∀ σ' H', N σ' H' → ∃ m', m' < m ∧ W (i + 1) m' σ' H') ∧ ∀ x H', (Itl K a).yld i H x H' → g x σ H' fun σ2 H2 => tb { D with nx := N, ct := N, bk := D.nx } σ2 H2) := by
  refine for_list (K := K) (a := a) (xs := xs) (fun i σ H => ∃ q, PsAt T B q (xs.drop i) ∧ Pv i q σ H) ⟨p, by rw [List.drop_zero]; exact hp, h0⟩ (fun i σ H _ ⟨q, _, h⟩ => hl i q σ H h) (fun i x σ H hx ⟨q, h1, h2⟩ => ?_) fun σ H ⟨q, h1, h2⟩ => ?_
  · have hd : xs.drop i = x :: xs.drop (i + 1) := by
      obtain ⟨hi, e⟩ := List.getElem?_eq_some_iff.mp hx
      rw [List.drop_eq_getElem_cons hi, e]
    rw [hd] at h1
    rcases row_cases q with rfl | ⟨q1, r, hq, rfl⟩
    · cases (PsAt_nil T).mp h1
    · obtain ⟨b, ys, e, h3, h4⟩ := (PsAt_cons T hq).mp h1
      cases e
      exact hs i b q1 r σ H _ hq h3 hx h2 fun σ' H' h => ⟨r, h4, h⟩
  · rw [List.drop_length] at h1
    rcases row_cases q with rfl | ⟨q1, r, hq, rfl⟩
    · exact hd σ H h2
    · obtain ⟨b, ys, e, _⟩ := (PsAt_cons T hq).mp h1
      cases e
end

/-! ### more of Evl -/
section
variable {σ : L2.St} {H : Hp} {ta te : TE} {K : PySem.W.Frag} {v : V}
theorem ev_fld {a C dx : Addr} {fs : List (Str × V)} {f : Str} (h : Ev ta σ H (.ref a)) (ho : H a = some (.ins C dx fs)) (hc : Cls K C) (hn : NoAttr K C f) (hl : fs.lookup f = some v) : Ev (tFld K ta f) σ H v := fun H1 e Q q =>
  h H1 e _ fun H2 e2 => ⟨a, C, dx, fs, v, rfl, e2 _ _ (e _ _ ho), hc, hn, hl, q H2 e2⟩
theorem ev_meth {a C dx : Addr} {fs : List (Str × V)} {m : Str} {sp : Sp} {dvs vs : List V} {E : XK} {t : TA} (h : Ev ta σ H (.ref a)) (ho : H a = some (.ins C dx fs)) (hl : fs.lookup m = none) (hv : EvA t σ H vs) (hs : SpV sp (.ref a :: (vs ++ dvs)) H v) : Ev (tMeth C m sp dvs E ta t) σ H v := fun H1 e Q q =>
  h H1 e _ fun H2 e2 => ⟨a, dx, fs, rfl, e2 _ _ (e _ _ ho), hl, hv H2 (e.trans e2) _ fun H3 e3 => hs H3 ((e.trans e2).trans e3) Q (fun H4 e4 => q H4 ((e2.trans e3).trans e4)) E⟩
theorem el_meth {a C dx : Addr} {fs : List (Str × V)} {m : Str} {sp : Sp} {dvs vs xs : List V} {E : XK} {t : TA} (h : Ev ta σ H (.ref a)) (ho : H a = some (.ins C dx fs)) (hl : fs.lookup m = none) (hv : EvA t σ H vs) (hs : SpL sp (.ref a :: (vs ++ dvs)) H xs) : EvL (tMeth C m sp dvs E ta t) σ H xs := fun H1 e Q q =>
  h H1 e _ fun H2 e2 => ⟨a, dx, fs, rfl, e2 _ _ (e _ _ ho), hl, hv H2 (e.trans e2) _ fun H3 e3 => hs H3 ((e.trans e2).trans e3) Q (fun p H4 hp e4 h4 => q p H4 (fresh_back (e2.trans e3) hp) ((e2.trans e3).trans e4) h4) E⟩
/-- sum, max of a new list -/
theorem ev_sumN {xs : List V} {ns : List Int} (h : EvL te σ H xs) (hx : xs = ns.map V.int) : Ev (tCB (rSum K) (tCons te tNil)) σ H (.int ns.sum) := fun H1 e Q q => h H1 e _ fun p H2 hp e2 h2 => ⟨p, ns, rfl, sq_of (by rw [h2, hx]), q H2 e2⟩
theorem ev_maxN {xs : List V} {ns : List Int} {m : Int} (h : EvL te σ H xs) (hx : xs = ns.map V.int) (h0 : 0 < ns.length) (hm : ∀ z, z ∈ ns → (∀ y, y ∈ ns → y ≤ z) → z = m) : Ev (tCB (rMax K) (tCons te tNil)) σ H (.int m) := fun H1 e Q q => h H1 e _ fun p H2 hp e2 h2 => ⟨p, ns, rfl, sq_of (by rw [h2, hx]), h0, fun z hz hy => by
  rw [hm z hz hy]
  exact q H2 e2⟩
/-- two lists, one behind the other -/
theorem el_cat {tb : TE} {xs ys : List V} (ha : EvL ta σ H xs) (hb : EvL tb σ H ys) (hz : xs.length + ys.length ≤ 100000) : EvL (tOp rCat ta tb) σ H (xs ++ ys) := fun H1 e Q q => ha H1 e _ fun p H2 hp e2 h2 => hb H2 (e.trans e2) _ fun r H3 hr e3 h3 =>
  ⟨p, r, xs, ys, rfl, rfl, e3 _ _ h2, h3, sz_of hz, fun l hl => q l _ (fresh_back (e2.trans e3) hl) ((e2.trans e3).trans (Ex.new hl)) upd_same⟩
theorem el_catV {tb : TE} {xs ys : List V} {a : Addr} (ha : Ev ta σ H (.ref a)) (hx : H a = some (.lst xs)) (hb : EvL tb σ H ys) (hz : xs.length + ys.length ≤ 100000) : EvL (tOp rCat ta tb) σ H (xs ++ ys) := fun H1 e Q q => ha H1 e _ fun H2 e2 => hb H2 (e.trans e2) _ fun r H3 hr e3 h3 =>
  ⟨a, r, xs, ys, rfl, rfl, e3 _ _ (e2 _ _ (e _ _ hx)), h3, sz_of hz, fun l hl => q l _ (fresh_back (e2.trans e3) hl) ((e2.trans e3).trans (Ex.new hl)) upd_same⟩
theorem el_catW {tb : TE} {xs ys : List V} {b : Addr} (ha : EvL ta σ H xs) (hb : Ev tb σ H (.ref b)) (hy : H b = some (.lst ys)) (hz : xs.length + ys.length ≤ 100000) : EvL (tOp rCat ta tb) σ H (xs ++ ys) := fun H1 e Q q => ha H1 e _ fun p H2 hp e2 h2 => hb H2 (e.trans e2) _ fun H3 e3 =>
  ⟨p, b, xs, ys, rfl, rfl, e3 _ _ h2, e3 _ _ (e2 _ _ (e _ _ hy)), sz_of hz, fun l hl => q l _ (fresh_back (e2.trans e3) hl) ((e2.trans e3).trans (Ex.new hl)) upd_same⟩
/-- l.extend(a list) -/
theorem s_ext {D : Ends} {l b : Addr} {xs ys : List V} (hl : H l = some (.lst xs)) (ha : Ev ta σ H (.ref l)) (h : Ev te σ H (.ref b)) (hy : H b = some (.lst ys)) (hz : xs.length + ys.length ≤ 100000) (k : ∀ H1, Ex H H1 → D.nx σ (upd H1 l (.lst (xs ++ ys)))) :
    tDrop (tBM K "list" rExtend ta (tCons te tNil)) D σ H := ha H (Ex.refl H) _ fun H1 e1 =>
  ⟨Or.inl ⟨rfl, xs, sq_of (e1 l _ hl)⟩, h H1 e1 _ fun H2 e2 => ⟨l, b, xs, ys, rfl, rfl, e2 l _ (e1 l _ hl), e2 _ _ (e1 _ _ hy), sz_of hz, k H2 (e1.trans e2)⟩⟩
theorem s_extL {D : Ends} {l : Addr} {xs ys : List V} (hl : H l = some (.lst xs)) (ha : Ev ta σ H (.ref l)) (h : EvL te σ H ys) (hz : xs.length + ys.length ≤ 100000) (k : ∀ p H1, H p = none → Ex H H1 → H1 p = some (.lst ys) → D.nx σ (upd H1 l (.lst (xs ++ ys)))) :
    tDrop (tBM K "list" rExtend ta (tCons te tNil)) D σ H := ha H (Ex.refl H) _ fun H1 e1 =>
  ⟨Or.inl ⟨rfl, xs, sq_of (e1 l _ hl)⟩, h H1 e1 _ fun p H2 hp e2 h2 => ⟨l, p, xs, ys, rfl, rfl, e2 l _ (e1 l _ hl), h2, sz_of hz, k p H2 (fresh_back e1 hp) (e1.trans e2) h2⟩⟩
theorem given_map {α : Type} {xs : List α} {f : Nat → Bool} {v : Nat → V} {g : α → V} (hf : ∀ i x, xs[i]? = some x → f i = true) (hv : ∀ i x, xs[i]? = some x → v i = g x) : given xs.length f v = xs.map g := by
  unfold given
  have e1 : (List.range xs.length).filter f = List.range xs.length := List.filter_eq_self.mpr fun i hi => hf i _ (List.getElem?_eq_getElem (List.mem_range.mp hi))
  rw [e1]
  apply List.ext_getElem
  · simp
  · intro i h1 h2
    have hi : i < xs.length := by simpa using h2
    rw [List.getElem_map, List.getElem_map, List.getElem_range]
    exact hv i _ (List.getElem?_eq_getElem hi)
/-- kept by a test, then a value of each -/
theorem given_filter {α : Type} (keep : α → Bool) (g : α → V) : ∀ (xs : List α) (f : Nat → Bool) (v : Nat → V), (∀ i x, xs[i]? = some x → f i = keep x) → (∀ i x, xs[i]? = some x → keep x = true → v i = g x) → given xs.length f v = (xs.filter keep).map g := by
  intro xs
  induction xs with
  | nil => intro f v _ _; rfl
  | cons a l ih =>
    intro f v hf hv
    have e : given (a :: l).length f v = (if f 0 = true then [v 0] else []) ++ given l.length (fun i => f (i + 1)) (fun i => v (i + 1)) := by
      unfold given
      rw [List.length_cons, List.range_succ_eq_map, List.filter_cons]
      have e2 : ((List.map Nat.succ (List.range l.length)).filter f).map v = ((List.range l.length).filter fun i => f (i + 1)).map fun i => v (i + 1) := by
        rw [List.filter_map, List.map_map]
        rfl
      split
      · rw [List.map_cons, e2]; rfl
      · rw [e2]; rfl
    rw [e, ih _ _ (fun i x h => hf (i + 1) x (by simpa using h)) (fun i x h => hv (i + 1) x (by simpa using h)), hf 0 a rfl, List.filter_cons]
    by_cases c : keep a = true
    · rw [if_pos c, if_pos c, hv 0 a rfl c]
      rfl
    · rw [if_neg c, if_neg c]
      rfl
end
end Pe
set_option Elab.async false
set_option linter.all false
set_option maxRecDepth 100000
set_option maxHeartbeats 2000000
/-! More of what a reading evaluates to; heights of rows. -/
namespace Pe
open PySem PySem.Spec PyProof.Rows L2 VamacBase Evl
/-- a def that nobody may call -/
theorem fn_no {P : Program} {w : World} {K : PySem.W.Frag} {mg : Str → Option Value} {base : Heap} {CX : CXT} {k : Nat} {f : Addr} {fd : FuncData} {ps : List Str} {sp : Sp} (h : ∀ vs H Q E, ¬ sp vs H Q E) : FnOk P w K mg base CX k f fd ps sp :=
  ⟨fun vs H Q E q => absurd q (h vs H Q E), fun _ _ _ H _ _ vs Q E _ _ _ _ q => absurd q (h vs H Q E)⟩
/-- a new instance -/
def EvI (te : TE) (σ : L2.St) (H : Hp) (C : Addr) (fs : List (Str × V)) : Prop := ∀ H1, Ex H H1 → ∀ Q : VK, (∀ p H2, H1 p = none → Ex H1 H2 → (∃ dx, H2 p = some (.ins C dx fs)) → Q (.ref p) H2) → te σ H1 Q
/-- what an __init__ does that stores its arguments -/
def spInit (C : Addr) (ws : List V) (fs : List (Str × V)) (vs : List V) (H : Hp) (Q : VK) : Prop := ∃ p dx, vs = .ref p :: ws ∧ H p = some (.ins C dx []) ∧
  ∀ H' : Hp, H' p = some (.ins C dx fs) → (∀ b o, H b = some o → b ≠ p → H' b = some o) → Q .non H'
section
variable {σ : L2.St} {H : Hp} {K : PySem.W.Frag} {D : Ends} {ta tb tc te tv : TE} {v x y : V} {t : TA} {E : XK}
theorem ei_make {C : Addr} {sp : Sp} {ws : List V} {fs : List (Str × V)} (hv : EvA t σ H ws) (hs : ∀ vs H Q E, spInit C ws fs vs H Q → sp vs H Q E) : EvI (tMake C sp [] E t) σ H C fs := fun H1 e Q q =>
  hv H1 e _ fun H2 e2 x dx nx nd ne => by
    rw [List.append_nil]
    exact hs _ _ _ _ ⟨x, dx, rfl, upd_same, fun H' h1 h2 => ⟨rfl, q x H' (fresh_back e2 nx) (e2.trans (Same.made nx nd h2)) ⟨dx, h1⟩⟩⟩
/-- two comparisons of ints -/
theorem ev_chain {p r : Int → Int → Bool} {i j k : Int} (ha : Ev ta σ H (.int i)) (hb : Ev tb σ H (.int j)) (hc : Ev tc σ H (.int k)) : Ev (tChain (rI0 fun i j => .bl (p i j)) (rI0 fun i j => .bl (r i j)) ta tb tc) σ H (.bl (p i j && r j k)) := fun H1 e Q q =>
  ha H1 e _ fun H2 e2 => hb H2 (e.trans e2) _ fun H3 e3 => ⟨i, j, rfl, rfl, p i j, rfl, by
    cases hp : p i j with
    | true =>
      rw [if_pos rfl]
      refine hc H3 ((e.trans e2).trans e3) _ fun H4 e4 => ⟨j, k, rfl, rfl, ?_⟩
      have z := q H4 ((e2.trans e3).trans e4)
      rw [hp] at z
      exact z
    | false =>
      rw [if_neg Bool.false_ne_true]
      have z := q H3 (e2.trans e3)
      rw [hp] at z
      exact z⟩
theorem ev_isN (ha : Ev ta σ H x) : Ev (tOp (fun x y H Q => y = .non ∧ Q (.bl (decide (x = .non))) H) ta (tC .non)) σ H (.bl (decide (x = .non))) := fun H1 e Q q => ha H1 e _ fun H2 e2 => ⟨rfl, q H2 e2⟩
theorem ev_notN (ha : Ev ta σ H x) : Ev (tOp (fun x y H Q => y = .non ∧ Q (.bl (!decide (x = .non))) H) ta (tC .non)) σ H (.bl (!decide (x = .non))) := fun H1 e Q q => ha H1 e _ fun H2 e2 => ⟨rfl, q H2 e2⟩
/-- o.f = e -/
theorem s_fld {a C dx : Addr} {fs : List (Str × V)} {f : Str} (hv : Ev tv σ H y) (ha : Ev ta σ H (.ref a)) (ho : H a = some (.ins C dx fs)) (hc : Cls K C) (hn : NoAttr K C f) (hl : fs.length < 1000)
    (k : ∀ H1, Ex H H1 → D.nx σ (upd H1 a (.ins C dx (putF f y fs)))) : sFld K ta tv f D σ H :=
  hv H (Ex.refl H) _ fun H1 e1 => ha H1 e1 _ fun H2 e2 => ⟨a, C, dx, fs, rfl, e2 _ _ (e1 _ _ ho), hc, hn, hl, k H2 (e1.trans e2)⟩
theorem s_fldaug {a C dx : Addr} {fs : List (Str × V)} {f : Str} {i j : Int} {rd : V → V → Hp → VK → Prop} {z : Int} (hr : ∀ H Q, Q (.int z) H → rd (.int i) (.int j) H Q) (hv : Ev tv σ H (.int j)) (ha : Ev ta σ H (.ref a)) (ho : H a = some (.ins C dx fs)) (hc : Cls K C) (hn : NoAttr K C f) (hf : fs.lookup f = some (.int i)) (hl : fs.length < 1000)
    (k : ∀ H1, Ex H H1 → D.nx σ (upd H1 a (.ins C dx (putF f (.int z) fs)))) : sFldAug K ta tv rd f D σ H :=
  ha H (Ex.refl H) _ fun H1 e1 => ⟨a, C, dx, fs, .int i, rfl, e1 _ _ ho, hc, hn, hf, hv H1 e1 _ fun H2 e2 => hr H2 _ ⟨dx, fs, e2 _ _ (e1 _ _ ho), hl, k H2 (e1.trans e2)⟩⟩
end

section
variable {σ : L2.St} {H : Hp} {D : Ends} {ta : TE} {t : TA} {tz : TS} {sp : Sp} {dvs vs : List V} {E : XK} {Q : VK}
theorem ra_call (hv : EvA t σ H vs) (k : ∀ H1, Ex H H1 → sp (vs ++ dvs) H1 Q E) : tCall sp dvs E t σ H Q := hv H (Ex.refl H) _ fun H1 e1 => k H1 e1
theorem ra_meth {a C dx : Addr} {fs : List (Str × V)} {m : Str} (ha : Ev ta σ H (.ref a)) (ho : H a = some (.ins C dx fs)) (hl : fs.lookup m = none) (hv : EvA t σ H vs) (k : ∀ H1, Ex H H1 → sp (.ref a :: (vs ++ dvs)) H1 Q E) : tMeth C m sp dvs E ta t σ H Q :=
  ha H (Ex.refl H) _ fun H1 e1 => ⟨a, dx, fs, rfl, e1 _ _ ho, hl, hv H1 e1 _ fun H2 e2 => k H2 (e1.trans e2)⟩
theorem qd_call (hv : EvA t σ H vs) (k : ∀ H1, Ex H H1 → sp (vs ++ dvs) H1 (fun _ H2 => tz D σ H2) E) : tSeq (tDrop (tCall sp dvs E t)) tz D σ H := ra_call hv k
theorem qd_meth {a C dx : Addr} {fs : List (Str × V)} {m : Str} (ha : Ev ta σ H (.ref a)) (ho : H a = some (.ins C dx fs)) (hl : fs.lookup m = none) (hv : EvA t σ H vs) (k : ∀ H1, Ex H H1 → sp (.ref a :: (vs ++ dvs)) H1 (fun _ H2 => tz D σ H2) E) : tSeq (tDrop (tMeth C m sp dvs E ta t)) tz D σ H := ra_meth ha ho hl hv k
theorem qa_call {i : Nat} (hv : EvA t σ H vs) (k : ∀ H1, Ex H H1 → sp (vs ++ dvs) H1 (fun v H2 => tz D (σ.set i (some v)) H2) E) : tSeq (tAsg (tCall sp dvs E t) (gName i)) tz D σ H := ra_call hv k
theorem qa_meth {i : Nat} {a C dx : Addr} {fs : List (Str × V)} {m : Str} (ha : Ev ta σ H (.ref a)) (ho : H a = some (.ins C dx fs)) (hl : fs.lookup m = none) (hv : EvA t σ H vs) (k : ∀ H1, Ex H H1 → sp (.ref a :: (vs ++ dvs)) H1 (fun v H2 => tz D (σ.set i (some v)) H2) E) : tSeq (tAsg (tMeth C m sp dvs E ta t) (gName i)) tz D σ H := ra_meth ha ho hl hv k
end

/-! ### heights: rows within rows, the empty row lowest -/
def hgt : Prog → Nat
  | .done => 0
  | .deed _ _ r => Nat.max 1 (hgt r)
  | .times _ b r => Nat.max (hgt b + 1) (hgt r)
  | .toEnd b r => Nat.max (hgt b + 1) (hgt r)
  | .when _ _ b r => Nat.max (hgt b + 1) (hgt r)
theorem hgt_cons {q r : Prog} (h : One q) : hgt (q.andThen r) = Nat.max (hgt (inner q) + 1) (hgt r) := by cases h <;> rfl
theorem hgt_depth : ∀ p : Prog, hgt p ≤ p.depth + 1
  | .done => Nat.zero_le _
  | .deed d s r => Nat.max_le.mpr ⟨by omega, hgt_depth r⟩
  | .times n b r => by
    have h1 := hgt_depth b
    have h2 := hgt_depth r
    have e : (Prog.times n b r).depth = max (b.depth + 1) r.depth := rfl
    have e2 : hgt (Prog.times n b r) = max (hgt b + 1) (hgt r) := rfl
    omega
  | .toEnd b r => by
    have h1 := hgt_depth b
    have h2 := hgt_depth r
    have e : (Prog.toEnd b r).depth = max (b.depth + 1) r.depth := rfl
    have e2 : hgt (Prog.toEnd b r) = max (hgt b + 1) (hgt r) := rfl
    omega
  | .when f v b r => by
    have h1 := hgt_depth b
    have h2 := hgt_depth r
    have e : (Prog.when f v b r).depth = max (b.depth + 1) r.depth := rfl
    have e2 : hgt (Prog.when f v b r) = max (hgt b + 1) (hgt r) := rfl
    omega
theorem hgt_heads {p : Prog} : ∀ q ∈ heads p, hgt (inner q) + 1 ≤ hgt p := by
  induction p using prog_ind with
  | h0 => intro q h; cases h
  | h1 q r hq ih =>
    intro z hz
    rw [heads_step hq] at hz
    rw [hgt_cons hq]
    rcases List.mem_cons.mp hz with rfl | hz
    · exact Nat.le_max_left ..
    · exact Nat.le_trans (ih z hz) (Nat.le_max_right ..)
theorem size_mem {p : Prog} : ∀ q ∈ heads p, q.size ≤ p.size := by
  induction p using prog_ind with
  | h0 => intro q h; cases h
  | h1 q r hq ih =>
    intro z hz
    have e : (q.andThen r).size = q.size + r.size := size_then q r
    rw [heads_step hq] at hz
    rcases List.mem_cons.mp hz with rfl | hz
    · omega
    · have := ih z hz; omega
/-- a piece of a row, by its place -/
theorem row_at {K : PySem.W.Frag} {mg : Str → Option Value} {T : Txt K mg} {H : Hp} {p : Prog} {xs : List V} (h : PsAt T H p xs) {i : Nat} {x : V} (hx : xs[i]? = some x) : ∃ a q, x = .ref a ∧ (heads p)[i]? = some q ∧ One q ∧ PcAt T H a q ∧ hgt (inner q) + 1 ≤ hgt p ∧ q.size ≤ p.size := by
  obtain ⟨q, h1, a, h2, h3⟩ := paired_at h.heads hx
  have hm := List.mem_of_getElem? h1
  exact ⟨a, q, h2, h1, heads_one p q hm, h3, hgt_heads q hm, size_mem q hm⟩
theorem getD_at {l : List Prog} {i : Nat} {q : Prog} (h : l[i]? = some q) : l.getD i .done = q := by
  rw [List.getD_eq_getElem?_getD, h]
  rfl
/-- what a comprehension over a row gives -/
theorem given_row {K : PySem.W.Frag} {mg : Str → Option Value} {T : Txt K mg} {H : Hp} {p : Prog} {xs : List V} (h : PsAt T H p xs) (g : Prog → V) : given xs.length (fun _ => true) (fun i => g ((heads p).getD i .done)) = (heads p).map g := by
  have e : xs.length = (heads p).length := Paired.length h.heads
  rw [e]
  exact given_map (fun _ _ _ => rfl) fun i q hq => by rw [getD_at hq]
end Pe
set_option Elab.async false
set_option linter.all false
set_option maxRecDepth 100000
set_option maxHeartbeats 2000000
/-! The classes' __init__ (printed by geninit.py). -/
namespace Pe
open PySem PySem.Spec PyProof.Rows L2 VamacBase Evl
section
variable {σ : L2.St} {H : Hp} {K : PySem.W.Frag} {D : Ends} {ta tv : TE} {y : V} {tz : TS}
theorem q_fld {a C dx : Addr} {fs : List (Str × V)} {f : Str} (hv : Ev tv σ H y) (ha : Ev ta σ H (.ref a)) (ho : H a = some (.ins C dx fs)) (hc : Cls K C) (hn : NoAttr K C f) (hl : fs.length < 1000)
    (k : ∀ H1, Ex H H1 → tz D σ (upd H1 a (.ins C dx (putF f y fs)))) : tSeq (sFld K ta tv f) tz D σ H := s_fld (D := { D with nx := tz D }) hv ha ho hc hn hl k
end
section
variable {P : Program} {w : World} {K : PySem.W.Frag} {mg : Str → Option Value} {base : Heap} (T : Txt K mg)
def sp_Deed_init : Sp := fun vs H Q _ => ∃ x_sort_of x_field x_number x_step : V, spInit T.c_Deed [x_sort_of, x_field, x_number, x_step] (f_Deed x_sort_of x_field x_number x_step) vs H Q
theorem ok_Deed_init : FnOk P w K mg base CX0 1 T.f_Deed_init T.d_Deed_init P_Deed_init (sp_Deed_init T) := by
  refine T.F_Deed_init.ok sc_Deed_init (fun vs H Q E h => ?_) (fun cdv A outer s H vs Q E hr h => ⟨_, ((pss_cons (ps_fld (pv 0) (pv 1) rfl) (pss_cons (ps_fld (pv 0) (pv 2) rfl) (pss_cons (ps_fld (pv 0) (pv 3) rfl) (pss_one (ps_fld (pv 0) (pv 4) rfl)))))), ?_⟩)
  · obtain ⟨x_sort_of, x_field, x_number, x_step, p, dx, rfl, hp, k⟩ := h
    rfl
  · obtain ⟨x_sort_of, x_field, x_number, x_step, p, dx, rfl, hp, k⟩ := h
    refine q_fld (ev_var rfl) (ev_var rfl) hp T.cl_Deed T.n_Deed_sort_of (by show 0 < 1000; decide) fun H1 e1 => ?_
    refine q_fld (ev_var rfl) (ev_var rfl) upd_same T.cl_Deed T.n_Deed_field (by show 1 < 1000; decide) fun H2 e2 => ?_
    refine q_fld (ev_var rfl) (ev_var rfl) upd_same T.cl_Deed T.n_Deed_number (by show 2 < 1000; decide) fun H3 e3 => ?_
    refine s_fld (ev_var rfl) (ev_var rfl) upd_same T.cl_Deed T.n_Deed_step (by show 3 < 1000; decide) fun H4 e4 => ?_
    refine k _ (Eq.trans upd_same (congrArg (fun q => some (HO.ins T.c_Deed dx q)) (new_Deed x_sort_of x_field x_number x_step))) fun b o e hb => ?_
    rw [upd_ne hb]
    exact (e4 _ _ ((upd_ne hb).trans (e3 _ _ ((upd_ne hb).trans (e2 _ _ ((upd_ne hb).trans (e1 _ _ e)))))))
def sp_Piece_init : Sp := fun vs H Q _ => ∃ x_kind x_numbers x_deed x_inner : V, spInit T.c_Piece [x_kind, x_numbers, x_deed, x_inner] (f_Piece x_kind x_numbers x_deed x_inner) vs H Q
theorem ok_Piece_init : FnOk P w K mg base CX0 1 T.f_Piece_init T.d_Piece_init P_Piece_init (sp_Piece_init T) := by
  refine T.F_Piece_init.ok sc_Piece_init (fun vs H Q E h => ?_) (fun cdv A outer s H vs Q E hr h => ⟨_, ((pss_cons (ps_fld (pv 0) (pv 1) rfl) (pss_cons (ps_fld (pv 0) (pv 2) rfl) (pss_cons (ps_fld (pv 0) (pv 3) rfl) (pss_one (ps_fld (pv 0) (pv 4) rfl)))))), ?_⟩)
  · obtain ⟨x_kind, x_numbers, x_deed, x_inner, p, dx, rfl, hp, k⟩ := h
    rfl
  · obtain ⟨x_kind, x_numbers, x_deed, x_inner, p, dx, rfl, hp, k⟩ := h
    refine q_fld (ev_var rfl) (ev_var rfl) hp T.cl_Piece T.n_Piece_kind (by show 0 < 1000; decide) fun H1 e1 => ?_
    refine q_fld (ev_var rfl) (ev_var rfl) upd_same T.cl_Piece T.n_Piece_numbers (by show 1 < 1000; decide) fun H2 e2 => ?_
    refine q_fld (ev_var rfl) (ev_var rfl) upd_same T.cl_Piece T.n_Piece_deed (by show 2 < 1000; decide) fun H3 e3 => ?_
    refine s_fld (ev_var rfl) (ev_var rfl) upd_same T.cl_Piece T.n_Piece_inner (by show 3 < 1000; decide) fun H4 e4 => ?_
    refine k _ (Eq.trans upd_same (congrArg (fun q => some (HO.ins T.c_Piece dx q)) (new_Piece x_kind x_numbers x_deed x_inner))) fun b o e hb => ?_
    rw [upd_ne hb]
    exact (e4 _ _ ((upd_ne hb).trans (e3 _ _ ((upd_ne hb).trans (e2 _ _ ((upd_ne hb).trans (e1 _ _ e)))))))
def sp_Reader_init : Sp := fun vs H Q _ => ∃ x_numbers : V, spInit T.c_Reader [x_numbers] (f_Reader x_numbers (.int 0)) vs H Q
theorem ok_Reader_init : FnOk P w K mg base CX0 1 T.f_Reader_init T.d_Reader_init P_Reader_init (sp_Reader_init T) := by
  refine T.F_Reader_init.ok sc_Reader_init (fun vs H Q E h => ?_) (fun cdv A outer s H vs Q E hr h => ⟨_, ((pss_cons (ps_fld (pv 0) (pv 1) rfl) (pss_one (ps_fld (pv 0) pe_int rfl)))), ?_⟩)
  · obtain ⟨x_numbers, p, dx, rfl, hp, k⟩ := h
    rfl
  · obtain ⟨x_numbers, p, dx, rfl, hp, k⟩ := h
    refine q_fld (ev_var rfl) (ev_var rfl) hp T.cl_Reader T.n_Reader_row_told (by show 0 < 1000; decide) fun H1 e1 => ?_
    refine s_fld (ev_c) (ev_var rfl) upd_same T.cl_Reader T.n_Reader_at (by show 1 < 1000; decide) fun H2 e2 => ?_
    refine k _ (Eq.trans upd_same (congrArg (fun q => some (HO.ins T.c_Reader dx q)) (new_Reader x_numbers (.int 0)))) fun b o e hb => ?_
    rw [upd_ne hb]
    exact (e2 _ _ ((upd_ne hb).trans (e1 _ _ e)))
def sp_Clipboard_init : Sp := fun vs H Q _ => spInit T.c_Clipboard [] (f_Clipboard (.bl false)) vs H Q
theorem ok_Clipboard_init : FnOk P w K mg base CX0 1 T.f_Clipboard_init T.d_Clipboard_init P_Clipboard_init (sp_Clipboard_init T) := by
  refine T.F_Clipboard_init.ok sc_Clipboard_init (fun vs H Q E h => ?_) (fun cdv A outer s H vs Q E hr h => ⟨_, ((pss_one (ps_fld (pv 0) pe_bl rfl))), ?_⟩)
  · obtain ⟨p, dx, rfl, hp, k⟩ := h
    rfl
  · obtain ⟨p, dx, rfl, hp, k⟩ := h
    refine s_fld (ev_c) (ev_var rfl) hp T.cl_Clipboard T.n_Clipboard_is_old (by show 0 < 1000; decide) fun H1 e1 => ?_
    refine k _ (Eq.trans upd_same (congrArg (fun q => some (HO.ins T.c_Clipboard dx q)) (new_Clipboard (.bl false)))) fun b o e hb => ?_
    rw [upd_ne hb]
    exact (e1 _ _ e)
def sp_Table_init : Sp := fun vs H Q _ => ∃ x_rows x_cursor x_clipboard : V, spInit T.c_Table [x_rows, x_cursor, x_clipboard] (f_Table x_rows x_cursor x_clipboard) vs H Q
theorem ok_Table_init : FnOk P w K mg base CX0 1 T.f_Table_init T.d_Table_init P_Table_init (sp_Table_init T) := by
  refine T.F_Table_init.ok sc_Table_init (fun vs H Q E h => ?_) (fun cdv A outer s H vs Q E hr h => ⟨_, ((pss_cons (ps_fld (pv 0) (pv 1) rfl) (pss_cons (ps_fld (pv 0) (pv 2) rfl) (pss_one (ps_fld (pv 0) (pv 3) rfl))))), ?_⟩)
  · obtain ⟨x_rows, x_cursor, x_clipboard, p, dx, rfl, hp, k⟩ := h
    rfl
  · obtain ⟨x_rows, x_cursor, x_clipboard, p, dx, rfl, hp, k⟩ := h
    refine q_fld (ev_var rfl) (ev_var rfl) hp T.cl_Table T.n_Table_rows (by show 0 < 1000; decide) fun H1 e1 => ?_
    refine q_fld (ev_var rfl) (ev_var rfl) upd_same T.cl_Table T.n_Table_cursor (by show 1 < 1000; decide) fun H2 e2 => ?_
    refine s_fld (ev_var rfl) (ev_var rfl) upd_same T.cl_Table T.n_Table_clipboard (by show 2 < 1000; decide) fun H3 e3 => ?_
    refine k _ (Eq.trans upd_same (congrArg (fun q => some (HO.ins T.c_Table dx q)) (new_Table x_rows x_cursor x_clipboard))) fun b o e hb => ?_
    rw [upd_ne hb]
    exact (e3 _ _ ((upd_ne hb).trans (e2 _ _ ((upd_ne hb).trans (e1 _ _ e)))))
def sp_Run_init : Sp := fun vs H Q _ => ∃ x_table : V, spInit T.c_Run [x_table] (f_Run x_table (.int 0) (.int 0)) vs H Q
theorem ok_Run_init : FnOk P w K mg base CX0 1 T.f_Run_init T.d_Run_init P_Run_init (sp_Run_init T) := by
  refine T.F_Run_init.ok sc_Run_init (fun vs H Q E h => ?_) (fun cdv A outer s H vs Q E hr h => ⟨_, ((pss_cons (ps_fld (pv 0) (pv 1) rfl) (pss_cons (ps_fld (pv 0) pe_int rfl) (pss_one (ps_fld (pv 0) (pe_glob (v := .int (0)) rfl T.k_WELL ⟨_, rfl⟩) rfl))))), ?_⟩)
  · obtain ⟨x_table, p, dx, rfl, hp, k⟩ := h
    rfl
  · obtain ⟨x_table, p, dx, rfl, hp, k⟩ := h
    refine q_fld (ev_var rfl) (ev_var rfl) hp T.cl_Run T.n_Run_table (by show 0 < 1000; decide) fun H1 e1 => ?_
    refine q_fld (ev_c) (ev_var rfl) upd_same T.cl_Run T.n_Run_done (by show 1 < 1000; decide) fun H2 e2 => ?_
    refine s_fld (ev_c) (ev_var rfl) upd_same T.cl_Run T.n_Run_word (by show 2 < 1000; decide) fun H3 e3 => ?_
    refine k _ (Eq.trans upd_same (congrArg (fun q => some (HO.ins T.c_Run dx q)) (new_Run x_table (.int 0) (.int 0)))) fun b o e hb => ?_
    rw [upd_ne hb]
    exact (e3 _ _ ((upd_ne hb).trans (e2 _ _ ((upd_ne hb).trans (e1 _ _ e)))))
end
end Pe
set_option Elab.async false
set_option linter.all false
set_option maxRecDepth 100000
set_option maxHeartbeats 2000000
/-! Deeds and pieces: counted, told. -/
namespace Pe
open PySem PySem.Spec PyProof.Rows L2 VamacBase Evl
theorem in_WITH_FIELD (k : Int) : inV (.int k) [.int 3, .int 4, .int 5, .int 6, .int 9] = hasF k := by
  simp only [inV, List.any_cons, List.any_nil, eqV, hasF, Bool.or_false, Bool.or_assoc, Bool.beq_comm (b := k), BEq.comm (b := k)]
theorem in_WITH_NUMBER (k : Int) : inV (.int k) [.int 3, .int 4, .int 9] = hasN k := by
  simp only [inV, List.any_cons, List.any_nil, eqV, hasN, Bool.or_false, Bool.or_assoc, BEq.comm (b := k)]
/-- a deed's numbers, without its step -/
def dnums (r : Raw) : List Int := r.1 :: ((if hasF r.1 = true then [r.2.1] else []) ++ (if hasN r.1 = true then [r.2.2.1] else []))
section
variable {P : Program} {w : World} {K : PySem.W.Frag} {mg : Str → Option Value} {base : Heap} (T : Txt K mg)
def spNeed : Sp := fun vs H Q E => ∃ z lo hi : Int, vs = [.int z, .int lo, .int hi] ∧ (¬ (lo ≤ z ∧ z ≤ hi) → ∀ H', Ex H H' → E (.ref T.c_NoProgram) none H') ∧ (lo ≤ z ∧ z ≤ hi → ∀ H', Ex H H' → Q .non H')
theorem ok_need : FnOk P w K mg base (L2.CX P w) 1 T.f_need_range T.d_need_range P_need_range (spNeed T) := by
  refine T.F_need_range.okX sc_need_range (fun vs H Q E h => ?_) (fun cdv A outer s H vs Q E hr h => ⟨_, ((pss_one (ps_if (pt_not (pt_chain op_le op_le (pv 1) (pv 0) (pv 2))) (pss_one (ps_raise rfl (takes_of rfl rfl rfl rfl) (pmk_own0 PySem.F.excBase_ValueError T.x_NoProgram T.g_NoProgram T.kp_NoProgram (raises_own T.sb_NoProgram T.ty_NoProgram) (by exact rfl)))) pss_nil))), ?_⟩)
  · obtain ⟨z, lo, hi, rfl, _⟩ := h
    rfl
  · obtain ⟨z, lo, hi, rfl, k1, k2⟩ := h
    refine s_when (b := !(decide (lo ≤ z) && decide (z ≤ hi))) (et_not (et_test (ev_chain (ev_var rfl) (ev_var rfl) (ev_var rfl)))) (fun hb H1 e1 => k1 (fun c => ?_) H1 e1) (fun hb H1 e1 => k2 ?_ H1 e1)
    · rw [decide_eq_true c.1, decide_eq_true c.2] at hb
      cases hb
    · simpa using hb
def spDeedNums : Sp := fun vs H Q _ => ∃ a r, vs = [.ref a] ∧ DeedAt T H a r ∧ ∀ p H', H p = none → Ex H H' → H' p = some (.lst ((dnums r).map V.int)) → Q (.ref p) H'
theorem ok_Deed_as_numbers : FnOk P w K mg base CX0 1 T.f_Deed_as_numbers T.d_Deed_as_numbers P_Deed_as_numbers (spDeedNums T) := by
  refine T.F_Deed_as_numbers.ok sc_Deed_as_numbers (fun vs H Q E h => ?_) (fun cdv A outer s H vs Q E hr h => ⟨_, ((pss_cons (ps_set (i := 1) sc_Deed_as_numbers.nd rfl (Or.inl rfl) (pe_lst (pa_cons (pe_fld (pv 0) rfl) pa_nil))) (pss_cut (ps_if (pt_cmpR op_in_seq (pe_fld (pv 0) rfl) (pe_glob (v := .ref T.a_WITH_FIELD) rfl T.k_WITH_FIELD rfl) (by rfl)) (pss_one (ps_expr (pe_bm PySem.F.plainAttrs_list PySem.F.slot_list_append PySem.F.type_list_append mt_append (pv 1) (pa_cons (pe_fld (pv 0) rfl) pa_nil)))) pss_nil) (pss_cut (ps_if (pt_cmpR op_in_seq (pe_fld (pv 0) rfl) (pe_glob (v := .ref T.a_WITH_NUMBER) rfl T.k_WITH_NUMBER rfl) (by rfl)) (pss_one (ps_expr (pe_bm PySem.F.plainAttrs_list PySem.F.slot_list_append PySem.F.type_list_append mt_append (pv 1) (pa_cons (pe_fld (pv 0) rfl) pa_nil)))) pss_nil) (pss_one (ps_ret (pv 1))))))), ?_⟩)
  · obtain ⟨a, r, rfl, _⟩ := h
    rfl
  · obtain ⟨a, r, rfl, ⟨dx, hd⟩, k⟩ := h
    refine q_asgL (el_lst (ea_cons (ev_fld (ev_var rfl) hd T.cl_Deed T.n_Deed_sort_of (l_Deed_sort_of ..)) ea_nil) (by simp)) fun p H1 hp e1 h1 => ?_
    refine q_cut (M := fun σ' H' => σ' = [some (.ref a), some (.ref p)] ∧ Ex H H' ∧ H' p = some (.lst (.int r.1 :: (if hasF r.1 = true then [.int r.2.1] else [])))) ?_ ?_
    · refine s_when (b := hasF r.1) (et_test (ev_is (ev_op (ev_fld (ev_var rfl) (e1 _ _ hd) T.cl_Deed T.n_Deed_sort_of (l_Deed_sort_of ..)) ev_c (rv_isT (T.t_WITH_FIELD _) rfl rfl)) (by rw [in_WITH_FIELD]))) (fun hb H2 e2 => ?_) (fun hb H2 e2 => ?_)
      · refine s_app (e2 _ _ h1) (ev_var rfl) (ev_fld (ev_var rfl) ((e1.trans e2) _ _ hd) T.cl_Deed T.n_Deed_field (l_Deed_field ..)) (by simp) fun H3 e3 => ⟨rfl, Ex.mut ((e1.trans e2).trans e3) hp, ?_⟩
        rw [upd_same, hb]
        rfl
      · refine ⟨rfl, e1.trans e2, ?_⟩
        rw [e2 _ _ h1, hb]
        rfl
    · rintro σ' H2 ⟨rfl, e2, h2⟩
      refine q_cut (M := fun σ' H' => σ' = [some (.ref a), some (.ref p)] ∧ Ex H H' ∧ H' p = some (.lst ((dnums r).map V.int))) ?_ ?_
      · refine s_when (b := hasN r.1) (et_test (ev_is (ev_op (ev_fld (ev_var rfl) (e2 _ _ hd) T.cl_Deed T.n_Deed_sort_of (l_Deed_sort_of ..)) ev_c (rv_isT (T.t_WITH_NUMBER _) rfl rfl)) (by rw [in_WITH_NUMBER]))) (fun hb H3 e3 => ?_) (fun hb H3 e3 => ?_)
        · refine s_app (e3 _ _ h2) (ev_var rfl) (ev_fld (ev_var rfl) ((e2.trans e3) _ _ hd) T.cl_Deed T.n_Deed_number (l_Deed_number ..)) (by split <;> simp) fun H4 e4 => ⟨rfl, Ex.mut ((e2.trans e3).trans e4) hp, ?_⟩
          rw [upd_same]
          unfold dnums
          rw [hb]
          cases hasF r.1 <;> rfl
        · refine ⟨rfl, e2.trans e3, ?_⟩
          rw [e3 _ _ h2]
          unfold dnums
          rw [hb]
          cases hasF r.1 <;> rfl
      · rintro σ' H3 ⟨rfl, e3, h3⟩
        exact s_ret (ev_var rfl) fun H4 e4 => k p H4 hp (e3.trans e4) (e4 _ _ h3)
end
end Pe
set_option Elab.async false
set_option linter.all false
set_option maxRecDepth 100000
set_option maxHeartbeats 2000000
/-! Rows of pieces: how many, how deep, told as numbers, all in order. -/
namespace Pe
open PySem PySem.Spec PyProof.Rows L2 VamacBase Evl
theorem et_yes {σ : L2.St} {H : Hp} : EvT tYes σ H true := fun H1 _ _ q => q H1 (Ex.refl H1)
section
variable {P : Program} {w : World} {K : PySem.W.Frag} {mg : Str → Option Value} {base : Heap} (T : Txt K mg)
/-! ### how many -/
def spMany (h : Nat) : Sp := fun vs H Q _ => ∃ a p, vs = [.ref a] ∧ Row T H a p ∧ hgt p < h ∧ p.size ≤ 1000 ∧ ∀ H', Ex H H' → Q (.int p.size) H'
def spPMany (h : Nat) : Sp := fun vs H Q _ => ∃ a q, vs = [.ref a] ∧ One q ∧ PcAt T H a q ∧ hgt (inner q) < h ∧ q.size ≤ 1000 ∧ ∀ H', Ex H H' → Q (.int q.size) H'
theorem ok_many_row {h : Nat} (G_Piece_many : FnOk P w K mg base CX0 (2 * h + 1) T.f_Piece_many T.d_Piece_many P_Piece_many (spPMany T h)) : FnOk P w K mg base CX0 (2 * h + 2) T.f_many_pieces T.d_many_pieces P_many_pieces (spMany T (h + 1)) := by
  refine T.F_many_pieces.ok sc_many_pieces (fun vs H Q E h => ?_) (fun cdv A outer s H vs Q E hr hh => ⟨_, ((pss_one (ps_ret (pe_callB (cr_sum rfl) (by rfl) T.b_sum (by decide +kernel) (pa_cons (pe_lc (own := [("piece", 1)]) (g := gName 1) (tt := tYes) rfl sc_many_pieces.nd (pi_list (pv 0)) (blkOk_by (own := [("piece", 1)]) (N := N_many_pieces) (sc := defScope s_many_pieces) (by decide +kernel)) (fun _ _ _ _ _ => pg_name (i := 1) sc_many_pieces.nd rfl (Or.inl rfl)) (fun _ _ _ _ _ => pts_nil) (fun _ _ _ _ _ => (pe_meth0 (pv 1) T.cl_Piece T.m_Piece_many G_Piece_many (hr.mono (by omega)) (b_Piece_many T) .nil pass0))) pa_nil))))), ?_⟩)
  · obtain ⟨a, p, rfl, _⟩ := h
    rfl
  · obtain ⟨a, p, rfl, ⟨xs, hx, hp⟩, hg, hz, k⟩ := hh
    have hl : xs.length ≤ 1000 := by rw [hp.len]; exact Nat.le_trans (row_le p) hz
    refine s_ret (ev_sumN (ns := (heads p).map fun q => (q.size : Int)) (el_lcL (fun _ => true) (fun i => .int (((heads p).getD i .done).size : Int)) (ev_var rfl) (sq_of hx) (by omega) (fun _ => rfl) (fun _ _ _ _ _ => et_yes) ?_) ?_) ?_
    · intro i x H1 e1 hi _
      obtain ⟨b, q, rfl, hq, o1, hb, h1, h2⟩ := row_at hp hi
      rw [getD_at hq]
      obtain ⟨dx, nl, dv, il, R⟩ := (hb.mono e1).read
      exact ev_meth (ev_var rfl) R.ins (no_Piece_many ..) ea_nil fun H2 e2 Q q' E => ⟨b, q, rfl, o1, hb.mono (e1.trans e2), by omega, by omega, fun H' e' => q' H' e'⟩
    · rw [given_row hp (fun q => V.int (q.size : Int)), List.map_map]
      rfl
    · rw [sum_sizes]
      exact k
theorem ok_many_piece {h : Nat} (G_many_pieces : FnOk P w K mg base CX0 (2 * h) T.f_many_pieces T.d_many_pieces P_many_pieces (spMany T h)) : FnOk P w K mg base CX0 (2 * h + 1) T.f_Piece_many T.d_Piece_many P_Piece_many (spPMany T h) := by
  refine T.F_Piece_many.ok sc_Piece_many (fun vs H Q E h => ?_) (fun cdv A outer s H vs Q E hr hh => ⟨_, ((pss_one (ps_ret (pe_op op_add pe_int (pe_call G_many_pieces (hr.mono (by omega)) (by rfl) T.g_many_pieces T.F_many_pieces.kp (b_many_pieces T) .nil pass0 (pa_cons (pe_fld (pv 0) rfl) pa_nil)))))), ?_⟩)
  · obtain ⟨a, p, rfl, _⟩ := h
    rfl
  · obtain ⟨a, q, rfl, o1, hb, h1, h2, k⟩ := hh
    obtain ⟨dx, nl, dv, il, R⟩ := hb.read
    rw [size_one o1] at h2 k
    refine s_ret (v := .int (1 + ((inner q).size : Int))) (ev_op ev_c (ev_call (ea_cons (ev_fld (ev_var rfl) R.ins T.cl_Piece T.n_Piece_inner (l_Piece_inner ..)) ea_nil) ?_) rv_I0) ?_
    · exact fun H1 e1 Q q' E => ⟨il, inner q, rfl, R.row.mono e1, h1, by omega, fun H' e' => q' H' e'⟩
    · intro H1 e1
      have z := k H1 e1
      rw [Int.natCast_add] at z
      exact z
theorem ok_many : ∀ h : Nat, FnOk P w K mg base CX0 (2 * h) T.f_many_pieces T.d_many_pieces P_many_pieces (spMany T h)
  | 0 => fn_no fun vs H Q E ⟨_, _, _, _, h, _⟩ => absurd h (Nat.not_lt_zero _)
  | h + 1 => ok_many_row T (ok_many_piece T (ok_many h))

/-! ### how deep -/
def spDeep (h : Nat) : Sp := fun vs H Q _ => ∃ a p, vs = [.ref a] ∧ Row T H a p ∧ hgt p < h ∧ p.size ≤ 1000 ∧ ∀ H', Ex H H' → Q (.int p.depth) H'
def spPDeep (h : Nat) : Sp := fun vs H Q _ => ∃ a q, vs = [.ref a] ∧ One q ∧ PcAt T H a q ∧ hgt (inner q) < h ∧ q.size ≤ 1000 ∧ ∀ H', Ex H H' → Q (.int q.depth) H'
theorem ok_deep_row {h : Nat} (G_Piece_deep : FnOk P w K mg base CX0 (2 * h + 1) T.f_Piece_deep T.d_Piece_deep P_Piece_deep (spPDeep T h)) : FnOk P w K mg base CX0 (2 * h + 2) T.f_deepest T.d_deepest P_deepest (spDeep T (h + 1)) := by
  refine T.F_deepest.ok sc_deepest (fun vs H Q E h => ?_) (fun cdv A outer s H vs Q E hr hh => ⟨_, ((pss_one (ps_ret (pe_callB (cr_max rfl) (by rfl) T.b_max (by decide +kernel) (pa_cons (pe_op op_cat (pe_lst (pa_cons pe_int pa_nil)) (pe_lc (own := [("piece", 1)]) (g := gName 1) (tt := tYes) rfl sc_deepest.nd (pi_list (pv 0)) (blkOk_by (own := [("piece", 1)]) (N := N_deepest) (sc := defScope s_deepest) (by decide +kernel)) (fun _ _ _ _ _ => pg_name (i := 1) sc_deepest.nd rfl (Or.inl rfl)) (fun _ _ _ _ _ => pts_nil) (fun _ _ _ _ _ => (pe_meth0 (pv 1) T.cl_Piece T.m_Piece_deep G_Piece_deep (hr.mono (by omega)) (b_Piece_deep T) .nil pass0)))) pa_nil))))), ?_⟩)
  · obtain ⟨a, p, rfl, _⟩ := h
    rfl
  · obtain ⟨a, p, rfl, ⟨xs, hx, hp⟩, hg, hz, k⟩ := hh
    have hl : xs.length ≤ 1000 := by rw [hp.len]; exact Nat.le_trans (row_le p) hz
    refine s_ret (ev_maxN (ns := 0 :: (heads p).map fun q => (q.depth : Int)) (m := (p.depth : Int)) (el_cat (el_lst (ea_cons ev_c ea_nil) (by simp)) (el_lcL (fun _ => true) (fun i => .int (((heads p).getD i .done).depth : Int)) (ev_var rfl) (sq_of hx) (by omega) (fun _ => rfl) (fun _ _ _ _ _ => et_yes) ?_) ?_) ?_ (Nat.succ_pos _) fun z h1 h2 => depth_max h1 h2) k
    · intro i x H1 e1 hi _
      obtain ⟨b, q, rfl, hq, o1, hb, h1, h2⟩ := row_at hp hi
      rw [getD_at hq]
      obtain ⟨dx, nl, dv, il, R⟩ := (hb.mono e1).read
      exact ev_meth (ev_var rfl) R.ins (no_Piece_deep ..) ea_nil fun H2 e2 Q q' E => ⟨b, q, rfl, o1, hb.mono (e1.trans e2), by omega, by omega, fun H' e' => q' H' e'⟩
    · have := given_len xs.length (fun _ => true) (fun i => V.int (((heads p).getD i .done).depth : Int))
      simp only [List.length_cons, List.length_nil]
      omega
    · rw [given_row hp (fun q => V.int (q.depth : Int)), List.map_cons, List.map_map]
      rfl
theorem kind_deed {q : Prog} (h : One q) : decide (V.int (kindOf q) = V.int 0) = isDeed q := by cases h <;> rfl
theorem ok_deep_piece {h : Nat} (G_deepest : FnOk P w K mg base CX0 (2 * h) T.f_deepest T.d_deepest P_deepest (spDeep T h)) : FnOk P w K mg base CX0 (2 * h + 1) T.f_Piece_deep T.d_Piece_deep P_Piece_deep (spPDeep T h) := by
  refine T.F_Piece_deep.ok sc_Piece_deep (fun vs H Q E h => ?_) (fun cdv A outer s H vs Q E hr hh => ⟨_, ((pss_cons (ps_if (pt_cmpR op_eq (pe_fld (pv 0) rfl) (pe_glob (v := .int (0)) rfl T.k_A_DEED ⟨_, rfl⟩) (nomark _)) (pss_one (ps_ret pe_int)) pss_nil) (pss_one (ps_ret (pe_op op_add pe_int (pe_call G_deepest (hr.mono (by omega)) (by rfl) T.g_deepest T.F_deepest.kp (b_deepest T) .nil pass0 (pa_cons (pe_fld (pv 0) rfl) pa_nil))))))), ?_⟩)
  · obtain ⟨a, p, rfl, _⟩ := h
    rfl
  · obtain ⟨a, q, rfl, o1, hb, h1, h2, k⟩ := hh
    obtain ⟨dx, nl, dv, il, R⟩ := hb.read
    rw [size_one o1] at h2
    rw [depth_one o1] at k
    refine q_when (b := isDeed q) (et_test (ev_is (ev_op (ev_fld (ev_var rfl) R.ins T.cl_Piece T.n_Piece_kind (l_Piece_kind ..)) ev_c (rv_eq rfl)) (by rw [kind_deed o1]))) (fun hb H1 e1 => ?_) (fun hb H1 e1 => ?_)
    · rw [hb, if_pos rfl] at k
      exact s_ret ev_c fun H2 e2 => k H2 (e1.trans e2)
    · rw [hb, if_neg Bool.false_ne_true] at k
      refine s_ret (v := .int (1 + ((inner q).depth : Int))) (ev_op ev_c (ev_call (ea_cons (ev_fld (ev_var rfl) (e1 _ _ R.ins) T.cl_Piece T.n_Piece_inner (l_Piece_inner ..)) ea_nil) ?_) rv_I0) ?_
      · exact fun H2 e2 Q q' E => ⟨il, inner q, rfl, R.row.mono (e1.trans e2), h1, by omega, fun H' e' => q' H' e'⟩
      · intro H2 e2
        have z := k H2 (e1.trans e2)
        rw [Int.natCast_add] at z
        exact z
theorem ok_deep : ∀ h : Nat, FnOk P w K mg base CX0 (2 * h) T.f_deepest T.d_deepest P_deepest (spDeep T h)
  | 0 => fn_no fun vs H Q E ⟨_, _, _, _, h, _⟩ => absurd h (Nat.not_lt_zero _)
  | h + 1 => ok_deep_row T (ok_deep_piece T (ok_deep h))
end
end Pe
set_option Elab.async false
set_option linter.all false
set_option maxRecDepth 100000
set_option maxHeartbeats 2000000
/-! Rows of pieces told as numbers; all pieces in order. -/
namespace Pe
open PySem PySem.Spec PyProof.Rows L2 VamacBase Evl
theorem lc_yes {σ : L2.St} {H : Hp} {te : TE} {R : VK} {Nx : Hp → Prop} (h : te σ H R) : tYes σ H (fun b H3 => if b = true then te σ H3 R else Nx H3) := by
  show if true = true then te σ H R else Nx H
  rw [if_pos rfl]
  exact h
theorem dnums_flat (d : Deed) (s : Int) : dnums (rawOf d s) = flatDeed d := by cases d <;> rfl
theorem flat_step_nums {q : Prog} (h : One q) : flatPieces q = if isDeed q = true then flatPieces q else kindOf q :: (numsOf q ++ flatProg (inner q)) := by
  cases h with
  | deed d s => rfl
  | times n b => show 1 :: _ :: _ :: (flatPieces b ++ []) = 1 :: ([_] ++ (_ :: flatPieces b)); rw [List.append_nil]; rfl
  | toEnd b => show 2 :: _ :: (flatPieces b ++ []) = 2 :: ([] ++ (_ :: flatPieces b)); rw [List.append_nil]; rfl
  | when f v b => show 3 :: _ :: _ :: _ :: (flatPieces b ++ []) = 3 :: ([_, _] ++ (_ :: flatPieces b)); rw [List.append_nil]; rfl
theorem flat_deed_nums (d : Deed) (s : Int) : flatPieces (.deed d s .done) = 0 :: (flatDeed d ++ (if hasNumber d = true then [s] else [])) := by
  show 0 :: (flatDeed d ++ ((if hasNumber d = true then [s] else []) ++ [])) = _
  rw [List.append_nil]
section
variable {P : Program} {w : World} {K : PySem.W.Frag} {mg : Str → Option Value} {base : Heap} (T : Txt K mg)
def spRowNums (h : Nat) : Sp := fun vs H Q _ => ∃ a p, vs = [.ref a] ∧ Row T H a p ∧ hgt p < h ∧ p.size ≤ 1000 ∧ ∀ l H', H l = none → Ex H H' → H' l = some (.lst ((flatProg p).map V.int)) → Q (.ref l) H'
def spPNums (h : Nat) : Sp := fun vs H Q _ => ∃ a q, vs = [.ref a] ∧ One q ∧ PcAt T H a q ∧ hgt (inner q) < h ∧ q.size ≤ 1000 ∧ ∀ l H', H l = none → Ex H H' → H' l = some (.lst ((flatPieces q).map V.int)) → Q (.ref l) H'
theorem ok_nums_row {h : Nat} (G_Piece_as_numbers : FnOk P w K mg base CX0 (2 * h + 2) T.f_Piece_as_numbers T.d_Piece_as_numbers P_Piece_as_numbers (spPNums T h)) : FnOk P w K mg base CX0 (2 * h + 3) T.f_row_as_numbers T.d_row_as_numbers P_row_as_numbers (spRowNums T (h + 1)) := by
  refine T.F_row_as_numbers.ok sc_row_as_numbers (fun vs H Q E h => ?_) (fun cdv A outer s H vs Q E hr hh => ⟨_, ((pss_cons (ps_set (i := 1) sc_row_as_numbers.nd rfl (Or.inl rfl) (pe_lst (pa_cons (pe_callB call_len_seq (by rfl) T.b_len PySem.boot_len (pa_cons (pv 0) pa_nil)) pa_nil))) (pss_cons (ps_for PassesOwn.never rfl (pi_list (pv 0)) (pg_name (i := 2) sc_row_as_numbers.nd rfl (Or.inl rfl)) (pss_one (ps_expr (pe_bm PySem.F.plainAttrs_list PySem.F.slot_list_extend PySem.F.type_list_extend mt_extend (pv 1) (pa_cons (pe_meth0 (pv 2) T.cl_Piece T.m_Piece_as_numbers G_Piece_as_numbers (hr.mono (by omega)) (b_Piece_as_numbers T) .nil pass0) pa_nil))))) (pss_one (ps_ret (pv 1)))))), ?_⟩)
  · obtain ⟨a, p, rfl, _⟩ := h
    rfl
  · obtain ⟨a, p, rfl, ⟨xs, hx, hp⟩, hg, hz, k⟩ := hh
    refine q_asgL (el_lst (ea_cons (ev_len (ev_var rfl) (sq_of hx)) ea_nil) (by simp)) fun f H1 hf e1 h1 => ?_
    refine ⟨_, rfl, a, rfl, ⟨xs, sq_of (e1 _ _ hx)⟩, for_row (K := K) (a := a) hp (fun i q σ' H' => ∃ (acc : List Int) (v : Option V), σ' = [some (.ref a), some (.ref f), v] ∧ Ex H H' ∧ H' f = some (.lst (acc.map V.int)) ∧ acc ++ flatPieces q = flatProg p ∧ hgt q < h + 1 ∧ q.size ≤ p.size)
      ⟨[(p.row : Int)], none, rfl, e1, by rw [h1, hp.len]; rfl, rfl, hg, Nat.le_refl _⟩ (fun i q σ' H' ⟨acc, v, _, e, _⟩ => sq_of (e _ _ hx)) ?_ ?_⟩
    · rintro i b q r σ' H' Nx o1 hb hi ⟨acc, v, rfl, e, hf', eq, hg', hz'⟩ nx
      obtain ⟨dx, nl, dv, il, R⟩ := (hb.mono e).read
      have hq : hgt (inner q) + 1 ≤ hgt (q.andThen r) := by rw [hgt_cons o1]; exact Nat.le_max_left ..
      have hr2 : hgt r ≤ hgt (q.andThen r) := by rw [hgt_cons o1]; exact Nat.le_max_right ..
      have hz2 : (q.andThen r).size = q.size + r.size := size_then q r
      rw [flatPieces_then o1, ← List.append_assoc] at eq
      have l1 := congrArg List.length eq
      have l2 := flatProg_len p
      rw [List.length_append, List.length_append] at l1
      refine s_extL hf' (ev_var rfl) (el_meth (xs := (flatPieces q).map V.int) (ev_var rfl) R.ins (no_Piece_as_numbers ..) ea_nil ?_) (by rw [List.length_map, List.length_map]; omega) fun l H2 hl e2 h2 => nx _ _ ⟨acc ++ flatPieces q, some (.ref b), rfl, Ex.mut (e.trans e2) hf, ?_, eq, by omega, by omega⟩
      · exact fun H2 e2 Q q' E => ⟨b, q, rfl, o1, hb.mono (e.trans e2), by omega, by omega, fun l H3 hl e3 h3 => q' l H3 hl e3 h3⟩
      · rw [upd_same, List.map_append]
    · rintro σ' H' ⟨acc, v, rfl, e, hf', eq, _⟩
      refine s_ret (ev_var rfl) fun H2 e2 => k f H2 hf (e.trans e2) ?_
      have e3 : flatPieces .done = [] := rfl
      rw [e3, List.append_nil] at eq
      rw [e2 _ _ hf', eq]
theorem ok_nums_piece {h : Nat} (G_Deed_as_numbers : FnOk P w K mg base CX0 1 T.f_Deed_as_numbers T.d_Deed_as_numbers P_Deed_as_numbers (spDeedNums T)) (G_row_as_numbers : FnOk P w K mg base CX0 (2 * h + 1) T.f_row_as_numbers T.d_row_as_numbers P_row_as_numbers (spRowNums T h)) : FnOk P w K mg base CX0 (2 * h + 2) T.f_Piece_as_numbers T.d_Piece_as_numbers P_Piece_as_numbers (spPNums T h) := by
  refine T.F_Piece_as_numbers.ok sc_Piece_as_numbers (fun vs H Q E h => ?_) (fun cdv A outer s H vs Q E hr hh => ⟨_, ((pss_cons (ps_if (pt_cmpR op_eq (pe_fld (pv 0) rfl) (pe_glob (v := .int (0)) rfl T.k_A_DEED ⟨_, rfl⟩) (nomark _)) (pss_cons (ps_set (i := 1) sc_Piece_as_numbers.nd rfl (Or.inl rfl) (pe_op op_cat (pe_lst (pa_cons (pe_glob (v := .int (0)) rfl T.k_A_DEED ⟨_, rfl⟩) pa_nil)) (pe_meth0 (pe_fld (pv 0) rfl) T.cl_Deed T.m_Deed_as_numbers G_Deed_as_numbers (hr.mono (by omega)) (b_Deed_as_numbers T) .nil pass0))) (pss_cut (ps_if (pt_cmpR op_in_seq (pe_fld (pe_fld (pv 0) rfl) rfl) (pe_glob (v := .ref T.a_WITH_NUMBER) rfl T.k_WITH_NUMBER rfl) (by rfl)) (pss_one (ps_expr (pe_bm PySem.F.plainAttrs_list PySem.F.slot_list_append PySem.F.type_list_append mt_append (pv 1) (pa_cons (pe_fld (pe_fld (pv 0) rfl) rfl) pa_nil)))) pss_nil) (pss_one (ps_ret (pv 1))))) pss_nil) (pss_one (ps_ret (pe_op op_cat (pe_op op_cat (pe_lst (pa_cons (pe_fld (pv 0) rfl) pa_nil)) (pe_fld (pv 0) rfl)) (pe_call G_row_as_numbers (hr.mono (by omega)) (by rfl) T.g_row_as_numbers T.F_row_as_numbers.kp (b_row_as_numbers T) .nil pass0 (pa_cons (pe_fld (pv 0) rfl) pa_nil))))))), ?_⟩)
  · obtain ⟨a, p, rfl, _⟩ := h
    rfl
  · obtain ⟨a, q, rfl, o1, hb, h1, h2, k⟩ := hh
    obtain ⟨dx, nl, dv, il, R⟩ := hb.read
    refine q_when (b := isDeed q) (et_test (ev_is (ev_op (ev_fld (ev_var rfl) R.ins T.cl_Piece T.n_Piece_kind (l_Piece_kind ..)) ev_c (rv_eq rfl)) (by rw [kind_deed o1]))) (fun hb H1 e1 => ?_) (fun hb H1 e1 => ?_)
    · cases o1 with
      | deed d s =>
        obtain ⟨da, rfl, dd, hd⟩ := R.dv
        rw [flat_deed_nums] at k
        have R1 := e1 _ _ R.ins
        have hd1 := e1 _ _ hd
        refine q_asgL (el_cat (xs := [.int 0]) (ys := (flatDeed d).map V.int) (el_lst (ea_cons ev_c ea_nil) (by simp)) (el_meth (ev_fld (ev_var rfl) R1 T.cl_Piece T.n_Piece_deed (l_Piece_deed ..)) hd1 (no_Deed_as_numbers ..) ea_nil ?_) ?_) fun f H2 hf e2 h2 => ?_
        · exact fun H2 e2 Q q' E => ⟨da, rawOf d s, rfl, ⟨dd, e2 _ _ hd1⟩, fun l H3 hl e3 h3 => q' l H3 hl e3 (by rw [h3, dnums_flat])⟩
        · have := flatDeed_len d
          rw [List.length_map]
          simp only [List.length_cons, List.length_nil]
          omega
        · refine q_cut (M := fun σ' H' => σ' = [some (.ref a), some (.ref f)] ∧ Ex H H' ∧ H' f = some (.lst ((0 :: (flatDeed d ++ (if hasNumber d = true then [s] else []))).map V.int))) ?_ ?_
          · refine s_when (b := hasNumber d) (et_test (ev_is (ev_op (ev_fld (ev_fld (ev_var rfl) (e2 _ _ R1) T.cl_Piece T.n_Piece_deed (l_Piece_deed ..)) (e2 _ _ hd1) T.cl_Deed T.n_Deed_sort_of (l_Deed_sort_of ..)) ev_c (rv_isT (T.t_WITH_NUMBER _) rfl rfl)) (by rw [in_WITH_NUMBER]; exact congrArg V.bl (hasN_sort d)))) (fun hb H3 e3 => ?_) (fun hb H3 e3 => ?_)
            · refine s_app (e3 _ _ h2) (ev_var rfl) (ev_fld (ev_fld (ev_var rfl) ((e2.trans e3) _ _ R1) T.cl_Piece T.n_Piece_deed (l_Piece_deed ..)) ((e2.trans e3) _ _ hd1) T.cl_Deed T.n_Deed_step (l_Deed_step ..)) ?_ fun H4 e4 => ⟨rfl, Ex.mut (((e1.trans e2).trans e3).trans e4) (fresh_back e1 hf), ?_⟩
              · have := flatDeed_len d
                simp only [List.length_cons, List.length_nil, List.length_append, List.length_map]
                omega
              · rw [upd_same, hb, if_pos rfl, List.map_cons, List.map_append]
                rfl
            · refine ⟨rfl, (e1.trans e2).trans e3, ?_⟩
              rw [e3 _ _ h2, hb, if_neg Bool.false_ne_true, List.append_nil]
              rfl
          · rintro σ' H3 ⟨rfl, e3, h3⟩
            exact s_ret (ev_var rfl) fun H4 e4 => k f H4 (fresh_back e1 hf) (e3.trans e4) (e4 _ _ h3)
      | _ => cases hb
    · rw [flat_step_nums o1, hb, if_neg Bool.false_ne_true] at k
      have hz : (inner q).size ≤ 1000 := by have := size_one o1; omega
      have hn : (numsOf q).length ≤ 2 := by cases o1 <;> simp [numsOf, numsN]
      have hl := flatProg_len (inner q)
      refine s_retL (el_cat (xs := (kindOf q :: numsOf q).map V.int) (ys := (flatProg (inner q)).map V.int) (el_catW (xs := [.int (kindOf q)]) (ys := (numsOf q).map V.int) (el_lst (ea_cons (ev_fld (ev_var rfl) (e1 _ _ R.ins) T.cl_Piece T.n_Piece_kind (l_Piece_kind ..)) ea_nil) (by simp)) (ev_fld (ev_var rfl) (e1 _ _ R.ins) T.cl_Piece T.n_Piece_numbers (l_Piece_numbers ..)) (e1 _ _ R.nums) ?_) (el_call (ea_cons (ev_fld (ev_var rfl) (e1 _ _ R.ins) T.cl_Piece T.n_Piece_inner (l_Piece_inner ..)) ea_nil) ?_) ?_) fun l H2 hl2 e2 h2 => k l H2 (fresh_back e1 hl2) (e1.trans e2) ?_
      · rw [List.length_map]
        simp only [List.length_cons, List.length_nil]
        omega
      · exact fun H2 e2 Q q' E => ⟨il, inner q, rfl, R.row.mono (e1.trans e2), h1, hz, fun l H3 hl e3 h3 => q' l H3 hl e3 h3⟩
      · rw [List.length_map, List.length_map, List.length_cons]
        omega
      · rw [h2, ← List.map_append]
        rfl
theorem ok_nums (G_Deed_as_numbers : FnOk P w K mg base CX0 1 T.f_Deed_as_numbers T.d_Deed_as_numbers P_Deed_as_numbers (spDeedNums T)) : ∀ h : Nat, FnOk P w K mg base CX0 (2 * h + 1) T.f_row_as_numbers T.d_row_as_numbers P_row_as_numbers (spRowNums T h)
  | 0 => fn_no fun vs H Q E ⟨_, _, _, _, h, _⟩ => absurd h (Nat.not_lt_zero _)
  | h + 1 => ok_nums_row T (ok_nums_piece T G_Deed_as_numbers (ok_nums G_Deed_as_numbers h))

/-! ### all pieces in order -/
def spOrder (h : Nat) : Sp := fun vs H Q _ => ∃ (B : Hp) (a : Addr) (p : Prog), vs = [.ref a] ∧ Ex B H ∧ Row T B a p ∧ hgt p < h ∧ p.size ≤ 1000 ∧ ∀ l H' ys, H l = none → Ex H H' → H' l = some (.lst ys) → FlatAt T B ys (flat p) → Q (.ref l) H'
theorem ok_order_row {h : Nat} (G_in_order : FnOk P w K mg base CX0 h T.f_in_order T.d_in_order P_in_order (spOrder T h)) : FnOk P w K mg base CX0 (h + 1) T.f_in_order T.d_in_order P_in_order (spOrder T (h + 1)) := by
  refine T.F_in_order.ok sc_in_order (fun vs H Q E h => ?_) (fun cdv A outer s H vs Q E hr hh => ⟨_, ((pss_cons (ps_set (i := 1) sc_in_order.nd rfl (Or.inl rfl) (pe_lst pa_nil)) (pss_cons (ps_for PassesOwn.never rfl (pi_list (pv 0)) (pg_name (i := 2) sc_in_order.nd rfl (Or.inl rfl)) (pss_cons (ps_expr (pe_bm PySem.F.plainAttrs_list PySem.F.slot_list_append PySem.F.type_list_append mt_append (pv 1) (pa_cons (pv 2) pa_nil))) (pss_one (ps_expr (pe_bm PySem.F.plainAttrs_list PySem.F.slot_list_extend PySem.F.type_list_extend mt_extend (pv 1) (pa_cons (pe_call G_in_order (hr.mono (by omega)) (by rfl) T.g_in_order T.F_in_order.kp (b_in_order T) .nil pass0 (pa_cons (pe_fld (pv 2) rfl) pa_nil)) pa_nil)))))) (pss_one (ps_ret (pv 1)))))), ?_⟩)
  · obtain ⟨B, a, p, rfl, _⟩ := h
    rfl
  · obtain ⟨B, a, p, rfl, eB, ⟨xs, hx, hp⟩, hg, hz, k⟩ := hh
    refine q_asgL (el_lst ea_nil (by simp)) fun f H1 hf e1 h1 => ?_
    have e1B := eB.trans e1
    refine ⟨_, rfl, a, rfl, ⟨xs, sq_of (e1B _ _ hx)⟩, for_row (K := K) (a := a) hp (fun i q σ' H' => ∃ (ys : List V) (l1 : List Prog) (v : Option V), σ' = [some (.ref a), some (.ref f), v] ∧ Ex H H' ∧ H' f = some (.lst ys) ∧ FlatAt T B ys l1 ∧ l1 ++ flat q = flat p ∧ hgt q < h + 1 ∧ q.size ≤ p.size)
      ⟨[], [], none, rfl, e1, h1, .nil, rfl, hg, Nat.le_refl _⟩ (fun i q σ' H' ⟨_, _, v, _, e, _⟩ => sq_of (e _ _ (eB _ _ hx))) ?_ ?_⟩
    · rintro i b q r σ' H' Nx o1 hb hi ⟨ys, l1, v, rfl, e, hf', hF, eq, hg', hz'⟩ nx
      obtain ⟨dx, nl, dv, il, R⟩ := hb.read
      have hq : hgt (inner q) + 1 ≤ hgt (q.andThen r) := by rw [hgt_cons o1]; exact Nat.le_max_left ..
      have hr2 : hgt r ≤ hgt (q.andThen r) := by rw [hgt_cons o1]; exact Nat.le_max_right ..
      have hz2 : (q.andThen r).size = q.size + r.size := size_then q r
      have hz3 := size_one o1
      rw [flat_step o1] at eq
      have l2 := congrArg List.length eq
      have l3 := hF.length
      have l4 := flat_length p
      rw [List.length_append, List.length_cons, List.length_append] at l2
      refine q_app hf' (ev_var rfl) (ev_var rfl) (by omega) fun H2 e2 => ?_
      have e3 : Ex H (upd H2 f (.lst (ys ++ [.ref b]))) := Ex.mut (e.trans e2) hf
      refine ⟨_, rfl, Or.inl ⟨rfl, _, sq_of upd_same⟩, ?_⟩
      refine ⟨_, rfl, b, _, dx, _, _, rfl, e3 _ _ (eB _ _ R.ins), T.cl_Piece, T.n_Piece_inner, l_Piece_inner .., ?_⟩
      refine ⟨B, il, inner q, rfl, eB.trans e3, R.row, by omega, by omega, fun l H5 zs hl e7 h5 hF2 => ?_⟩
      have l5 := hF2.length
      have fl := flat_length (inner q)
      refine ⟨f, l, ys ++ [.ref b], zs, rfl, rfl, e7 _ _ upd_same, h5, sz_of (by rw [List.length_append, List.length_singleton]; omega), nx _ _ ⟨ys ++ [.ref b] ++ zs, l1 ++ [q] ++ flat (inner q), some (.ref b), rfl, Ex.mut (e3.trans e7) hf, upd_same, paired_app (paired_app hF (.cons ⟨b, rfl, hb⟩ .nil)) hF2, ?_, by omega, by omega⟩⟩
      rw [List.append_assoc, List.append_assoc]
      exact eq
    · rintro σ' H' ⟨ys, l1, v, rfl, e, hf', hF, eq, _⟩
      have e3 : flat .done = [] := rfl
      rw [e3, List.append_nil] at eq
      rw [eq] at hF
      exact s_ret (ev_var rfl) fun H2 e2 => k f H2 ys hf (e.trans e2) (e2 _ _ hf') hF
theorem ok_order : ∀ h : Nat, FnOk P w K mg base CX0 h T.f_in_order T.d_in_order P_in_order (spOrder T h)
  | 0 => fn_no fun vs H Q E ⟨_, _, _, _, _, _, h, _⟩ => absurd h (Nat.not_lt_zero _)
  | h + 1 => ok_order_row T (ok_order h)

/-! ### deeds as a program -/
/-- a recording's deeds -/
def RecAt (H : Hp) : List V → List Deed → Prop := Paired fun x d => ∃ b, x = .ref b ∧ DeedAt T H b (rawOf d 0)
variable {T}
theorem RecAt.mono {H H' : Hp} (e : Ex H H') {xs : List V} {ds : List Deed} (h : RecAt T H xs ds) : RecAt T H' xs ds := Paired.mapP h fun _ _ ⟨b, h1, h2⟩ => ⟨b, h1, h2.mono e⟩
variable (T)
/-- all but one address -/
def Del (D : Addr) (H : Hp) : Hp := fun b => if b = D then none else H b
theorem Del.at {D : Addr} {H : Hp} {b : Addr} {o : HO} (n : b ≠ D) (h : H b = some o) : Del D H b = some o := by
  unfold Del
  rw [if_neg n]
  exact h
theorem Del.of {D : Addr} {H : Hp} {b : Addr} {o : HO} (h : Del D H b = some o) : b ≠ D ∧ H b = some o := by
  unfold Del at h
  split at h
  · cases h
  · rename_i n
    exact ⟨n, h⟩
theorem Del.le {D : Addr} {H : Hp} : Ex (Del D H) H := fun b o h => (Del.of h).2
theorem Del.upd {D : Addr} {H : Hp} {o : HO} : Ex (Del D H) (L2.upd H D o) := fun b u h => by
  rw [upd_ne (Del.of h).1]
  exact (Del.of h).2
theorem Del.mono {D : Addr} {H H' : Hp} (e : Ex H H') : Ex (Del D H) (Del D H') := fun b u h => Del.at (Del.of h).1 (e _ _ (Del.of h).2)
theorem Del.updD {D : Addr} {H : Hp} {o : HO} : Ex (Del D H) (Del D (L2.upd H D o)) := fun b u h => Del.at (Del.of h).1 (Del.upd _ _ h)
def spAsProg : Sp := fun vs H Q _ => ∃ (a : Addr) (xs : List V) (ds : List Deed), vs = [.ref a] ∧ H a = some (.lst xs) ∧ RecAt T H xs ds ∧ ds.length ≤ 1000 ∧ ∀ l H', H l = none → Ex H H' → Row T H' l (plain ds) → Q (.ref l) H'
theorem plain_snoc (ds : List Deed) (d : Deed) : plain (ds ++ [d]) = (plain ds).andThen (.deed d 0 .done) := by
  induction ds with
  | nil => rfl
  | cons a l ih => show Prog.deed a 0 (plain (l ++ [d])) = Prog.deed a 0 ((plain l).andThen _); rw [ih]
theorem ok_as_program (G_Piece_init : FnOk P w K mg base CX0 1 T.f_Piece_init T.d_Piece_init P_Piece_init (sp_Piece_init T)) : FnOk P w K mg base CX0 3 T.f_as_program T.d_as_program P_as_program (spAsProg T) := by
  refine T.F_as_program.ok sc_as_program (fun vs H Q E h => ?_) (fun cdv A outer s H vs Q E hr hh => ⟨_, ((pss_one (ps_ret (pe_lc (own := [("deed", 1)]) (g := gName 1) (tt := tYes) rfl sc_as_program.nd (pi_list (pv 0)) (blkOk_by (own := [("deed", 1)]) (N := N_as_program) (sc := defScope s_as_program) (by decide +kernel)) (fun _ _ _ _ _ => pg_name (i := 1) sc_as_program.nd rfl (Or.inl rfl)) (fun _ _ _ _ _ => pts_nil) (fun _ _ _ _ _ => (pe_make T.mk_Piece G_Piece_init (hr.mono (by omega)) (by rfl) T.g_Piece (b_Piece_init T) .nil pass0 (pa_cons (pe_glob (v := .int (0)) rfl T.k_A_DEED ⟨_, rfl⟩) (pa_cons (pe_lst pa_nil) (pa_cons (pv 1) (pa_cons (pe_lst pa_nil) pa_nil)))))))))), ?_⟩)
  · obtain ⟨a, xs, ds, rfl, _⟩ := h
    rfl
  · obtain ⟨a, xs, ds, rfl, hx, hR, hz, k⟩ := hh
    have hl := hR.length
    refine ⟨_, rfl, a, rfl, ⟨xs, sq_of hx⟩, fun D hD => lc_list (K := K) (a := a) (xs := xs) (fun i H' => ∃ ys, Ex H H' ∧ H' D = some (.lst ys) ∧ ys.length = i ∧ PsAt T (Del D H') (plain (ds.take i)) ys) ⟨[], Ex.new hD, upd_same, rfl, rfl⟩ (fun i H' _ ⟨ys, e, _⟩ => sq_of (e _ _ hx)) ?_ ?_⟩
    · rintro i x H' hi ⟨ys, e, hD', hy, hP⟩
      obtain ⟨d, hd, b, rfl, hb⟩ := paired_at hR hi
      have hil : i < ds.length := (List.getElem?_eq_some_iff.mp hd).1
      refine ⟨rfl, lc_yes ?_⟩
      refine ⟨Nat.zero_le _, fun n1 hn1 => ⟨_, rfl, Nat.zero_le _, fun n2 hn2 => ?_⟩⟩
      intro x dx nx nd ne
      refine ⟨_, _, _, _, x, dx, rfl, upd_same, fun H4 h1 h2 => ⟨rfl, ?_⟩⟩
      have e12 : Ex H' (L2.upd (L2.upd H' n1 (.lst [])) n2 (.lst [])) := (Ex.new hn1).trans (Ex.new hn2)
      have e24 : Ex (L2.upd (L2.upd H' n1 (.lst [])) n2 (.lst [])) H4 := Same.made nx nd h2
      have e4 : Ex H' H4 := e12.trans e24
      have hD4 := e4 _ _ hD'
      have xD : x ≠ D := (ne_of_none (e12 _ _ hD') nx).symm
      have n2D : n2 ≠ D := (ne_of_none ((Ex.new hn1) _ _ hD') hn2).symm
      have n1D : n1 ≠ D := (ne_of_none hD' hn1).symm
      obtain ⟨dd, hdd⟩ := hb
      have bD : b ≠ D := ne_of_none hdd hD
      have n1v : H4 n1 = some (.lst []) := e24 _ _ ((Ex.new hn2) _ _ upd_same)
      have n2v : H4 n2 = some (.lst []) := e24 _ _ upd_same
      refine ⟨ys, hD4, (by rw [hy]; have := hl; exact sz_lt (by omega)), ys ++ [.ref x], Ex.mut (e.trans e4) hD, upd_same, by rw [List.length_append, hy]; rfl, ?_⟩
      have et : ds.take (i + 1) = ds.take i ++ [d] := by rw [List.take_add_one, hd]; rfl
      rw [et, plain_snoc]
      refine PsAt.app (hP.mono ((Del.mono e4).trans Del.updD)) ((PsAt_cons T (One.deed d 0)).mpr ⟨x, [], rfl, ?_, rfl⟩)
      exact ⟨dx, n1, .ref b, n2, [], Del.updD _ _ (Del.at xD h1), Del.updD _ _ (Del.at n1D n1v), ⟨b, rfl, dd, Del.updD _ _ (Del.at bD ((e.trans e4) _ _ hdd))⟩, Del.updD _ _ (Del.at n2D n2v), rfl⟩
    · rintro H' ⟨ys, e, hD', hy, hP⟩
      rw [hl, List.take_length] at hP
      exact k D H' hD e ⟨ys, hD', hP.mono Del.le⟩
end
end Pe
set_option Elab.async false
set_option linter.all false
set_option maxRecDepth 100000
set_option maxHeartbeats 2000000
/-! The reader. -/
namespace Pe
open PySem PySem.Spec PyProof.Rows L2 VamacBase Evl
section
variable {σ : L2.St} {H : Hp} {K : PySem.W.Frag} {D : Ends} {ta tv : TE} {tz : TS}
theorem q_fldaug {a C dx : Addr} {fs : List (Str × V)} {f : Str} {i j : Int} {rd : V → V → Hp → VK → Prop} {z : Int} (hr : ∀ H Q, Q (.int z) H → rd (.int i) (.int j) H Q) (hv : Ev tv σ H (.int j)) (ha : Ev ta σ H (.ref a)) (ho : H a = some (.ins C dx fs)) (hc : Cls K C) (hn : NoAttr K C f) (hf : fs.lookup f = some (.int i)) (hl : fs.length < 1000)
    (k : ∀ H1, Ex H H1 → tz D σ (upd H1 a (.ins C dx (putF f (.int z) fs)))) : tSeq (sFldAug K ta tv rd f) tz D σ H := s_fldaug (D := { D with nx := tz D }) hr hv ha ho hc hn hf hl k
end
theorem seq_keep {K : PySem.W.Frag} {H H' : Hp} {r C dx : Addr} {fs : List (Str × V)} (hr : H r = some (.ins C dx fs)) (k : Keep [r] H H') {a : Addr} {xs : List V} (h : SqL K H a xs) : SqL K H' a xs := by
  have ne : ∀ {o : HO}, H a = some o → (∀ C dx fs, o ≠ .ins C dx fs) → a ∉ [r] := fun {o} e n z => by
    rw [List.mem_singleton] at z
    rw [z, hr] at e
    cases e
    exact n _ _ _ rfl
  rcases h with (h | ⟨o, h⟩) | h
  · exact .inl (.inl (k _ _ h (ne h fun _ _ _ z => by cases z)))
  · exact .inl (.inr ⟨o, k _ _ h (ne h fun _ _ _ z => by cases z)⟩)
  · exact .inr h
section
variable {P : Program} {w : World} {K : PySem.W.Frag} {mg : Str → Option Value} {base : Heap} (T : Txt K mg)
/-- a reader that has the numbers x ahead -/
def RdAt (H : Hp) (r : Addr) (z : Addr × List Int) (x : List Int) : Prop := ∃ (dx : Addr) (i : Nat), H r = some (.ins T.c_Reader dx (f_Reader (.ref z.1) (.int i))) ∧ SqL K H z.1 (z.2.map V.int) ∧ i ≤ z.2.length ∧ z.2.drop i = x
variable {T}
theorem RdAt.mono {H H' : Hp} (e : Ex H H') {r : Addr} {z : Addr × List Int} {x : List Int} (h : RdAt T H r z x) : RdAt T H' r z x := by
  obtain ⟨dx, i, h1, h2, h3, h4⟩ := h
  exact ⟨dx, i, e _ _ h1, ex_l e h2, h3, h4⟩
/-- a list that came later is written -/
theorem RdAt.updN {H0 H : Hp} {r D : Addr} {z : Addr × List Int} {x y : List Int} {o : HO} (h0 : RdAt T H0 r z y) (hD : H0 D = none) (h : RdAt T H r z x) : RdAt T (L2.upd H D o) r z x := by
  obtain ⟨dx0, i0, a1, a2, _⟩ := h0
  obtain ⟨dx, i, h1, h2, h3, h4⟩ := h
  refine ⟨dx, i, (upd_ne (ne_of_none a1 hD)).trans h1, ?_, h3, h4⟩
  rcases a2 with (a2 | ⟨u, a2⟩) | a2
  · rcases h2 with (h2 | ⟨v, h2⟩) | h2
    · exact .inl (.inl ((upd_ne (ne_of_none a2 hD)).trans h2))
    · exact .inl (.inr ⟨v, (upd_ne (ne_of_none a2 hD)).trans h2⟩)
    · exact .inr h2
  · rcases h2 with (h2 | ⟨v, h2⟩) | h2
    · exact .inl (.inl ((upd_ne (ne_of_none a2 hD)).trans h2))
    · exact .inl (.inr ⟨v, (upd_ne (ne_of_none a2 hD)).trans h2⟩)
    · exact .inr h2
  · exact .inr a2
theorem RdAt.there {H : Hp} {r : Addr} {z : Addr × List Int} {x : List Int} (h : RdAt T H r z x) : H r ≠ none := by
  obtain ⟨dx, i, h1, _⟩ := h
  rw [h1]
  intro z
  cases z
variable (T)
def spTake : Sp := fun vs H Q E => ∃ (r : Addr) (z : Addr × List Int) (lo hi : Int) (x : List Int), vs = [.ref r, .int lo, .int hi] ∧ RdAt T H r z x ∧ (takeR lo hi x = none → ∀ H', Keep [r] H H' → E (.ref T.c_NoProgram) none H') ∧
  (∀ n y, takeR lo hi x = some (n, y) → ∀ H', Keep [r] H H' → RdAt T H' r z y → Q (.int n) H')
theorem ok_take (G_need_range : FnOk P w K mg base (L2.CX P w) 1 T.f_need_range T.d_need_range P_need_range (spNeed T)) : FnOk P w K mg base (L2.CX P w) 2 T.f_Reader_take T.d_Reader_take P_Reader_take (spTake T) := by
  refine T.F_Reader_take.okX sc_Reader_take (fun vs H Q E h => ?_) (fun cdv A outer s H vs Q E hr h => ⟨_, ((pss_cons (ps_if (pt_cmpR op_eq (pe_fld (pv 0) rfl) (pe_callB call_len_seq (by rfl) T.b_len PySem.boot_len (pa_cons (pe_fld (pv 0) rfl) pa_nil)) (nomark _)) (pss_one (ps_raise rfl (takes_of rfl rfl rfl rfl) (pmk_own0 PySem.F.excBase_ValueError T.x_NoProgram T.g_NoProgram T.kp_NoProgram (raises_own T.sb_NoProgram T.ty_NoProgram) (by exact rfl)))) pss_nil) (pss_cons (ps_set (i := 3) sc_Reader_take.nd rfl (Or.inl rfl) (pe_ix ix_list (pe_fld (pv 0) rfl) (pe_fld (pv 0) rfl) (fun _ _ => rfl))) (pss_cons (ps_expr (pe_call G_need_range (hr.mono (by omega)) (by rfl) T.g_need_range T.F_need_range.kp (b_need_range T) .nil (passes_call (takes_of rfl rfl rfl rfl) (fun _ _ _ _ h => h)) (pa_cons (pv 3) (pa_cons (pv 1) (pa_cons (pv 2) pa_nil))))) (pss_cons (ps_fldaug (pv 0) pe_int in_add) (pss_one (ps_ret (pv 3)))))))), ?_⟩)
  · obtain ⟨r, z, lo, hi, x, rfl, _⟩ := h
    rfl
  · obtain ⟨r, ⟨a, ns⟩, lo, hi, x, rfl, ⟨dx, i, h1, hs, hi1, hx⟩, kE, kQ⟩ := h
    have hi1 : i ≤ ns.length := hi1
    have hx : ns.drop i = x := hx
    have hlen : (ns.map V.int).length = ns.length := List.length_map _
    refine q_when (b := decide (V.int i = V.int ((ns.map V.int).length : Nat))) (et_test (ev_op (ev_fld (ev_var rfl) h1 T.cl_Reader T.n_Reader_at (l_Reader_at ..)) (ev_len (ev_fld (ev_var rfl) h1 T.cl_Reader T.n_Reader_row_told (l_Reader_row_told ..)) hs) (rv_eq rfl))) (fun hb H1 e1 => ?_) (fun hb H1 e1 => ?_)
    · have e : i = ns.length := by
        have z := of_decide_eq_true hb
        rw [hlen] at z
        injection z with z
        omega
      refine kE ?_ H1 (kp e1)
      rw [← hx, e, List.drop_length]
      rfl
    · have hlt : i < ns.length := by
        have z := of_decide_eq_false hb
        rw [hlen] at z
        have : ¬ ((i : Int) = (ns.length : Int)) := fun q => z (congrArg V.int q)
        omega
      obtain ⟨z, hz⟩ : ∃ z, ns[i]? = some z := ⟨_, List.getElem?_eq_getElem hlt⟩
      have hd : x = z :: ns.drop (i + 1) := by
        rw [← hx, List.drop_eq_getElem_cons hlt]
        rw [List.getElem?_eq_getElem hlt] at hz
        rw [Option.some.inj hz]
      have hzv : (ns.map V.int)[i]? = some (.int z) := by rw [List.getElem?_map, hz]; rfl
      refine q_asg (ev_op (ev_fld (ev_var rfl) (e1 _ _ h1) T.cl_Reader T.n_Reader_row_told (l_Reader_row_told ..)) (ev_fld (ev_var rfl) (e1 _ _ h1) T.cl_Reader T.n_Reader_at (l_Reader_at ..)) (rv_ixL (ex_l e1 hs) (atI_nat hzv))) fun H2 e2 => ?_
      have e12 := e1.trans e2
      refine ⟨_, rfl, _, rfl, _, rfl, z, lo, hi, rfl, fun c H3 e3 => kE ?_ H3 (kp (e12.trans e3)), fun c H3 e3 => ?_⟩
      · rw [hd, takeR_cons, if_neg c]
      · have e13 := e12.trans e3
        refine q_fldaug (i := (i : Int)) (j := 1) (z := (i : Int) + 1) (fun H Q q => ⟨_, _, rfl, rfl, q⟩) ev_c (ev_var rfl) (e13 _ _ h1) T.cl_Reader T.n_Reader_at (l_Reader_at ..) (by show 2 < 1000; decide) fun H4 e4 => ?_
        refine s_ret (ev_var rfl) fun H5 e5 => kQ z (ns.drop (i + 1)) (by rw [hd, takeR_cons, if_pos c]) H5 ?_ ?_
        · exact ((kp (e13.trans e4)).upd).trans (kp e5)
        · have k4 : Keep [r] H H5 := ((kp (e13.trans e4)).upd).trans (kp e5)
          refine ⟨dx, i + 1, e5 _ _ ?_, seq_keep h1 k4 hs, hlt, rfl⟩
          rw [upd_same, p_Reader_at]
          rfl
/-- self.take(e1, e2) -/
theorem rd_take {σ : L2.St} {H : Hp} {Q : VK} {E : XK} {ta t1 t2 : TE} {r : Addr} {z : Addr × List Int} {lo hi : Int} {x : List Int} (ha : Ev ta σ H (.ref r)) (h1 : Ev t1 σ H (.int lo)) (h2 : Ev t2 σ H (.int hi)) (hR : RdAt T H r z x)
    (kE : takeR lo hi x = none → ∀ H', Keep [r] H H' → E (.ref T.c_NoProgram) none H') (kQ : ∀ n y, takeR lo hi x = some (n, y) → ∀ H', Keep [r] H H' → RdAt T H' r z y → Q (.int n) H') :
    tMeth T.c_Reader "take" (spTake T) [] E ta (tCons t1 (tCons t2 tNil)) σ H Q := ha H (Ex.refl H) _ fun H1 e1 => by
  obtain ⟨dx, i, q1, q2⟩ := id hR
  refine ⟨r, dx, _, rfl, e1 _ _ q1, no_Reader_take .., h1 H1 e1 _ fun H2 e2 => h2 H2 (e1.trans e2) _ fun H3 e3 => ?_⟩
  have e13 := (e1.trans e2).trans e3
  exact ⟨r, z, lo, hi, x, rfl, hR.mono e13, fun c H' k => kE c H' ((kp e13).trans k), fun n y c H' k R => kQ n y c H' ((kp e13).trans k) R⟩

def spMustEnd : Sp := fun vs H Q E => ∃ (r : Addr) (z : Addr × List Int) (x : List Int), vs = [.ref r] ∧ RdAt T H r z x ∧ (x ≠ [] → ∀ H', Ex H H' → E (.ref T.c_NoProgram) none H') ∧ (x = [] → ∀ H', Ex H H' → Q .non H')
theorem ok_must_end (G_need_range : FnOk P w K mg base (L2.CX P w) 1 T.f_need_range T.d_need_range P_need_range (spNeed T)) : FnOk P w K mg base (L2.CX P w) 2 T.f_Reader_must_end T.d_Reader_must_end P_Reader_must_end (spMustEnd T) := by
  refine T.F_Reader_must_end.okX sc_Reader_must_end (fun vs H Q E h => ?_) (fun cdv A outer s H vs Q E hr h => ⟨_, ((pss_one (ps_expr (pe_call G_need_range (hr.mono (by omega)) (by rfl) T.g_need_range T.F_need_range.kp (b_need_range T) .nil (passes_call (takes_of rfl rfl rfl rfl) (fun _ _ _ _ h => h)) (pa_cons (pe_op op_sub (pe_callB call_len_seq (by rfl) T.b_len PySem.boot_len (pa_cons (pe_fld (pv 0) rfl) pa_nil)) (pe_fld (pv 0) rfl)) (pa_cons pe_int (pa_cons pe_int pa_nil))))))), ?_⟩)
  · obtain ⟨r, z, x, rfl, _⟩ := h
    rfl
  · obtain ⟨r, ⟨a, ns⟩, x, rfl, ⟨dx, i, h1, hs, hi1, hx⟩, kE, kQ⟩ := h
    have hi1 : i ≤ ns.length := hi1
    have hx : ns.drop i = x := hx
    have hl : ns.length - i = x.length := by rw [← hx, List.length_drop]
    have ev : Ev (tOp (rI0 fun i j => V.int (i - j)) (tCB (rLenS K) (tCons (tFld K (tVar 0) "row_told") tNil)) (tFld K (tVar 0) "at")) (L2.start N_Reader_must_end [.ref r]) H (.int (((ns.map V.int).length : Nat) - (i : Int))) :=
      ev_op (ev_len (ev_fld (ev_var rfl) h1 T.cl_Reader T.n_Reader_row_told (l_Reader_row_told ..)) hs) (ev_fld (ev_var rfl) h1 T.cl_Reader T.n_Reader_at (l_Reader_at ..)) rv_I0
    refine ev H (Ex.refl H) _ fun H1 e1 => ?_
    rw [List.length_map]
    refine ⟨_, 0, 0, rfl, fun c H2 e2 => kE (fun z => ?_) H2 (e1.trans e2), fun c H2 e2 => kQ ?_ H2 (e1.trans e2)⟩
    · rw [z] at hl
      simp only [List.length_nil] at hl
      omega
    · have : x.length = 0 := by omega
      exact List.length_eq_zero_iff.mp this
def spNext : Sp := fun vs H Q E => ∃ (r : Addr) (z : Addr × List Int) (ws : Bool) (x : List Int), vs = [.ref r, .bl ws] ∧ RdAt T H r z x ∧ (rawDeed ws x = none → ∀ H', Keep [r] H H' → E (.ref T.c_NoProgram) none H') ∧
  (∀ a y, rawDeed ws x = some (a, y) → ∀ H' d, Keep [r] H H' → RdAt T H' r z y → H d = none → DeedAt T H' d a → Q (.ref d) H')
theorem ok_next_deed (G_Reader_take : FnOk P w K mg base (L2.CX P w) 2 T.f_Reader_take T.d_Reader_take P_Reader_take (spTake T)) (G_Deed_init : FnOk P w K mg base CX0 1 T.f_Deed_init T.d_Deed_init P_Deed_init (sp_Deed_init T)) : FnOk P w K mg base (L2.CX P w) 3 T.f_Reader_next_deed T.d_Reader_next_deed P_Reader_next_deed (spNext T) := by
  refine T.F_Reader_next_deed.okX sc_Reader_next_deed (fun vs H Q E h => ?_) (fun cdv A outer s H vs Q E hr h => ⟨_, ((pss_cons (ps_set (i := 2) sc_Reader_next_deed.nd rfl (Or.inl rfl) (pe_meth (pv 0) T.cl_Reader T.m_Reader_take G_Reader_take (hr.mono (by omega)) (b_Reader_take T) .nil (passes_call (takes_of rfl rfl rfl rfl) (fun _ _ _ _ h => h)) (pa_cons (pe_glob (v := .int (0)) rfl T.k_DOWN ⟨_, rfl⟩) (pa_cons (pe_glob (v := .int (9)) rfl T.k_FIND ⟨_, rfl⟩) pa_nil)))) (pss_cons (ps_set (i := 3) sc_Reader_next_deed.nd rfl (Or.inl rfl) pe_int) (pss_cons (ps_set (i := 4) sc_Reader_next_deed.nd rfl (Or.inl rfl) pe_int) (pss_cons (ps_set (i := 5) sc_Reader_next_deed.nd rfl (Or.inl rfl) pe_int) (pss_cut (ps_if (pt_cmpR op_in_seq (pv 2) (pe_glob (v := .ref T.a_WITH_FIELD) rfl T.k_WITH_FIELD rfl) (by rfl)) (pss_one (ps_set (i := 3) sc_Reader_next_deed.nd rfl (Or.inl rfl) (pe_meth (pv 0) T.cl_Reader T.m_Reader_take G_Reader_take (hr.mono (by omega)) (b_Reader_take T) .nil (passes_call (takes_of rfl rfl rfl rfl) (fun _ _ _ _ h => h)) (pa_cons pe_int (pa_cons (pe_op op_sub (pe_glob (v := .int (3)) rfl T.k_FIELDS ⟨_, rfl⟩) pe_int) pa_nil))))) pss_nil) (pss_cut (ps_if (pt_cmpR op_in_seq (pv 2) (pe_glob (v := .ref T.a_WITH_NUMBER) rfl T.k_WITH_NUMBER rfl) (by rfl)) (pss_cons (ps_set (i := 4) sc_Reader_next_deed.nd rfl (Or.inl rfl) (pe_meth (pv 0) T.cl_Reader T.m_Reader_take G_Reader_take (hr.mono (by omega)) (b_Reader_take T) .nil (passes_call (takes_of rfl rfl rfl rfl) (fun _ _ _ _ h => h)) (pa_cons (pe_un un_neg (pe_glob (v := .int (999)) rfl T.k_GREATEST ⟨_, rfl⟩)) (pa_cons (pe_glob (v := .int (999)) rfl T.k_GREATEST ⟨_, rfl⟩) pa_nil)))) (pss_one (ps_if (pt_val (pv 1)) (pss_one (ps_set (i := 5) sc_Reader_next_deed.nd rfl (Or.inl rfl) (pe_meth (pv 0) T.cl_Reader T.m_Reader_take G_Reader_take (hr.mono (by omega)) (b_Reader_take T) .nil (passes_call (takes_of rfl rfl rfl rfl) (fun _ _ _ _ h => h)) (pa_cons (pe_un un_neg (pe_glob (v := .int (999)) rfl T.k_GREATEST ⟨_, rfl⟩)) (pa_cons (pe_glob (v := .int (999)) rfl T.k_GREATEST ⟨_, rfl⟩) pa_nil))))) pss_nil))) pss_nil) (pss_one (ps_ret (pe_make T.mk_Deed G_Deed_init (hr.mono (by omega)) (by rfl) T.g_Deed (b_Deed_init T) .nil pass0 (pa_cons (pv 2) (pa_cons (pv 3) (pa_cons (pv 4) (pa_cons (pv 5) pa_nil)))))))))))))), ?_⟩)
  · obtain ⟨r, z, ws, x, rfl, _⟩ := h
    rfl
  · obtain ⟨r, z, ws, x, rfl, hR, kE, kQ⟩ := h
    refine rd_take T (ev_var rfl) ev_c ev_c hR (fun c H1 k1 => kE (by unfold rawDeed; rw [c]; rfl) H1 k1) fun k x1 c1 H1 k1 R1 => ?_
    refine q_asg ev_c fun H2 e2 => q_asg ev_c fun H3 e3 => q_asg ev_c fun H4 e4 => ?_
    have e14 := (e2.trans e3).trans e4
    have k4 := k1.trans (kp e14)
    refine q_cut (M := fun σ' H' => ∃ f x2, (if hasF k = true then takeR 0 2 x1 else some (0, x1)) = some (f, x2) ∧ σ' = [some (.ref r), some (.bl ws), some (.int k), some (.int f), some (.int 0), some (.int 0)] ∧ Keep [r] H H' ∧ RdAt T H' r z x2) ?_ ?_
    · refine s_when (b := hasF k) (et_test (ev_is (ev_op (ev_var rfl) ev_c (rv_isT (T.t_WITH_FIELD _) rfl rfl)) (by rw [in_WITH_FIELD]))) (fun hb H5 e5 => ?_) (fun hb H5 e5 => ?_)
      · refine rd_take T (ev_var rfl) ev_c (ev_op ev_c ev_c rv_I0) (R1.mono (e14.trans e5)) (fun c H6 k6 => kE ?_ H6 ((k4.trans (kp e5)).trans k6)) fun f x2 c2 H6 k6 R6 => ⟨f, x2, ?_, rfl, (k4.trans (kp e5)).trans k6, R6⟩
        · unfold rawDeed
          rw [c1]
          simp only [Option.bind_some]
          rw [hb, if_pos rfl, show takeR 0 2 x1 = none from c]
          rfl
        · rw [hb, if_pos rfl]
          exact c2
      · refine ⟨0, x1, ?_, rfl, k4.trans (kp e5), R1.mono (e14.trans e5)⟩
        rw [hb, if_neg Bool.false_ne_true]
    · rintro σ' H5 ⟨f, x2, c2, rfl, k5, R5⟩
      refine q_cut (M := fun σ' H' => ∃ v x3 st x4, (if hasN k = true then takeR (-999) 999 x2 else some (0, x2)) = some (v, x3) ∧ (if (hasN k && ws) = true then takeR (-999) 999 x3 else some (0, x3)) = some (st, x4) ∧
        σ' = [some (.ref r), some (.bl ws), some (.int k), some (.int f), some (.int v), some (.int st)] ∧ Keep [r] H H' ∧ RdAt T H' r z x4) ?_ ?_
      · refine s_when (b := hasN k) (et_test (ev_is (ev_op (ev_var rfl) ev_c (rv_isT (T.t_WITH_NUMBER _) rfl rfl)) (by rw [in_WITH_NUMBER]))) (fun hb H6 e6 => ?_) (fun hb H6 e6 => ?_)
        · have raw0 : takeR (-999) 999 x2 = none → rawDeed ws x = none := fun c => by
            unfold rawDeed
            rw [c1]
            simp only [Option.bind_some]
            rw [c2]
            simp only [Option.bind_some]
            rw [hb, if_pos rfl, c]
            rfl
          refine rd_take T (ev_var rfl) (ev_un ev_c ru_neg) ev_c (R5.mono e6) (fun c H7 k7 => kE (raw0 c) H7 ((k5.trans (kp e6)).trans k7)) fun v x3 c3 H7 k7 R7 => ?_
          have k7' := (k5.trans (kp e6)).trans k7
          refine s_when (b := ws) (et_B (ev_var rfl)) (fun hw H8 e8 => ?_) (fun hw H8 e8 => ?_)
          · refine rd_take T (ev_var rfl) (ev_un ev_c ru_neg) ev_c (R7.mono e8) (fun c H9 k9 => kE ?_ H9 ((k7'.trans (kp e8)).trans k9)) fun st x4 c4 H9 k9 R9 => ⟨v, x3, st, x4, ?_, ?_, rfl, (k7'.trans (kp e8)).trans k9, R9⟩
            · unfold rawDeed
              rw [c1]
              simp only [Option.bind_some]
              rw [c2]
              simp only [Option.bind_some]
              rw [hb, if_pos rfl, show takeR (-999) 999 x2 = some (v, x3) from c3]
              simp only [Option.bind_some]
              rw [hw, if_pos (by rfl), show takeR (-999) 999 x3 = none from c]
              rfl
            · rw [hb, if_pos rfl]
              exact c3
            · rw [hb, hw, if_pos (by rfl)]
              exact c4
          · refine ⟨v, x3, 0, x3, ?_, ?_, rfl, k7'.trans (kp e8), R7.mono e8⟩
            · rw [hb, if_pos rfl]
              exact c3
            · rw [hb, hw, if_neg (by decide)]
        · refine ⟨0, x2, 0, x2, ?_, ?_, rfl, k5.trans (kp e6), R5.mono e6⟩
          · rw [hb, if_neg Bool.false_ne_true]
          · rw [hb, Bool.false_and, if_neg Bool.false_ne_true]
      · rintro σ' H6 ⟨v, x3, st, x4, c3, c4, rfl, k6, R6⟩
        refine (ei_make (ws := [.int k, .int f, .int v, .int st]) (fs := f_Deed (.int k) (.int f) (.int v) (.int st)) (ea_cons (ev_var rfl) (ea_cons (ev_var rfl) (ea_cons (ev_var rfl) (ea_cons (ev_var rfl) ea_nil)))) fun vs H Q E h => ⟨_, _, _, _, h⟩) H6 (Ex.refl H6) _ fun p H7 hp e7 ⟨dd, h7⟩ => ?_
        refine kQ (k, f, v, st) x4 ?_ H7 p (k6.trans (kp e7)) (R6.mono e7) (none_back k6 (fun c hc => by rw [List.mem_singleton] at hc; rw [hc]; exact R6.there) hp) ⟨dd, h7⟩
        unfold rawDeed
        rw [c1]
        simp only [Option.bind_some]
        rw [c2]
        simp only [Option.bind_some]
        rw [c3]
        simp only [Option.bind_some]
        rw [c4]
        rfl
end
end Pe
set_option Elab.async false
set_option linter.all false
set_option maxRecDepth 100000
set_option maxHeartbeats 2000000
/-! The reader: pieces, programs. -/
namespace Pe
open PySem PySem.Spec PyProof.Rows L2 VamacBase Evl
section
variable {P : Program} {w : World} {K : PySem.W.Frag} {mg : Str → Option Value} {base : Heap} (T : Txt K mg)
variable {T}
theorem nbk {H H1 : Hp} {r b : Addr} {z : Addr × List Int} {y : List Int} (k : Keep [r] H H1) (R : RdAt T H1 r z y) (h : H1 b = none) : H b = none := none_back k (fun c hc => by rw [List.mem_singleton] at hc; rw [hc]; exact R.there) h
theorem New.lateR {H H1 H2 : Hp} {r : Addr} {z : Addr × List Int} {y : List Int} (k : Keep [r] H H1) (R : RdAt T H1 r z y) : Ex (New H1 H2) (New H H2) := New.late k fun c hc => by rw [List.mem_singleton] at hc; rw [hc]; exact R.there
theorem New.monoR {H H1 H2 : Hp} {r : Addr} {z : Addr × List Int} {y : List Int} (k : Keep [r] H1 H2) (R : RdAt T H r z y) : Ex (New H H1) (New H H2) := New.mono k fun c hc => by rw [List.mem_singleton] at hc; rw [hc]; exact R.there
theorem New.ex {H H1 H2 : Hp} (e : Ex H1 H2) : Ex (New H H1) (New H H2) := fun b o h => New.at (New.of h).1 (e _ _ (New.of h).2)
theorem PsAt.one {H : Hp} {a : Addr} {q : Prog} (h : One q) (hq : PcAt T H a q) : PsAt T H q [.ref a] := by
  cases h <;> exact ⟨a, [], rfl, hq, rfl⟩
variable (T)
def spPieces (m : Nat) : Sp := fun vs H Q E => ∃ (r : Addr) (z : Addr × List Int) (x : List Int), vs = [.ref r, .int (4 - (m : Int))] ∧ 0 < m ∧ RdAt T H r z x ∧ (rowR m x = none → ∀ H', Keep [r] H H' → E (.ref T.c_NoProgram) none H') ∧
  (∀ p y, rowR m x = some (p, y) → ∀ H' a, Keep [r] H H' → RdAt T H' r z y → H a = none → Row T (New H H') a p → Q (.ref a) H')
def spPiece (m : Nat) : Sp := fun vs H Q E => ∃ (r : Addr) (z : Addr × List Int) (x : List Int), vs = [.ref r, .int (3 - (m : Int))] ∧ m ≤ 3 ∧ RdAt T H r z x ∧ (piece1 (rowR m) x = none → ∀ H', Keep [r] H H' → E (.ref T.c_NoProgram) none H') ∧
  (∀ q y, piece1 (rowR m) x = some (q, y) → One q → ∀ H' a, Keep [r] H H' → RdAt T H' r z y → H a = none → PcAt T (New H H') a q → Q (.ref a) H')
theorem piece1_one {inn : List Int → Option (Prog × List Int)} {x y : List Int} {q : Prog} (h : piece1 inn x = some (q, y)) : One q := by
  rw [piece1_nums] at h
  obtain ⟨u, e, h⟩ := bind_some h
  split at h
  · obtain ⟨_, _, d, s, rfl⟩ := rdDeed_ok h
    exact .deed d s
  · rename_i h0
    obtain ⟨n, e2, h⟩ := bind_some h
    obtain ⟨b, e3, h⟩ := map_some h
    cases h
    have q := takeR_some e
    exact (node_ok (y := u.2) (z := n.2) b.1 e2 (by omega)).one
theorem ok_pieces {m : Nat} (hm : m ≤ 3) (G_Reader_take : FnOk P w K mg base (L2.CX P w) 2 T.f_Reader_take T.d_Reader_take P_Reader_take (spTake T)) (G_Reader_piece : FnOk P w K mg base (L2.CX P w) (4 + 2 * m) T.f_Reader_piece T.d_Reader_piece P_Reader_piece (spPiece T m)) : FnOk P w K mg base (L2.CX P w) (5 + 2 * m) T.f_Reader_pieces T.d_Reader_pieces P_Reader_pieces (spPieces T (m + 1)) := by
  have e5 : 5 + 2 * m = (4 + 2 * m) + 1 := by omega
  rw [e5]
  refine T.F_Reader_pieces.okX sc_Reader_pieces (fun vs H Q E h => ?_) (fun cdv A outer s H vs Q E hr h => ⟨_, ((pss_cons (ps_set (i := 2) sc_Reader_pieces.nd rfl (Or.inl rfl) (pe_meth (pv 0) T.cl_Reader T.m_Reader_take G_Reader_take (hr.mono (by omega)) (b_Reader_take T) .nil (passes_call (takes_of rfl rfl rfl rfl) (fun _ _ _ _ h => h)) (pa_cons pe_int (pa_cons (pe_glob (v := .int (16)) rfl T.k_MOST_PIECES ⟨_, rfl⟩) pa_nil)))) (pss_one (ps_ret (pe_lcX (own := [("k", 3)]) (g := gName 3) (takes_of rfl rfl rfl rfl) rfl rfl rfl sc_Reader_pieces.nd (pi_range1 (by rfl) T.b_range (pa_cons (pv 2) pa_nil)) (blkOk_by (own := [("k", 3)]) (N := N_Reader_pieces) (sc := defScope s_Reader_pieces) (by decide +kernel)) (fun _ _ _ _ _ => pg_name (i := 3) sc_Reader_pieces.nd rfl (Or.inl rfl)) (fun _ _ _ _ _ => (pe_meth (pv 0) T.cl_Reader T.m_Reader_piece G_Reader_piece (hr.mono (by omega)) (b_Reader_piece T) .nil passB (pa_cons (pv 1) pa_nil)))))))), ?_⟩)
  · obtain ⟨r, z, x, rfl, _⟩ := h
    rfl
  · obtain ⟨r, z, x, rfl, _, hR, kE, kQ⟩ := h
    refine rd_take T (ev_var rfl) ev_c ev_c hR (fun c H1 k1 => kE ?_ H1 k1) fun n x1 c1 H1 k1 R1 => ?_
    · show (takeR 0 16 x).bind _ = none
      rw [c]
      rfl
    · have hn := takeR_some c1
      have row : rowR (m + 1) x = rowN (rowR m) n.toNat x1 := by
        show (takeR 0 16 x).bind _ = _
        rw [c1]
        rfl
      rw [row] at kE kQ
      refine ⟨_, rfl, n, rfl, by omega, by omega, fun D hD => lc_range (lo := 0) (n := n.toNat) (fun i H' => ∃ p y ys, Keep [r] H1 H' ∧ H' D = some (.lst ys) ∧ ys.length = i ∧ PsAt T (Del D (New H1 H')) p ys ∧ RdAt T H' r z y ∧ rowN (rowR m) n.toNat x1 = (rowN (rowR m) (n.toNat - i) y).map fun v => (p.andThen v.1, v.2)) ?_ ?_ ?_⟩
      · refine ⟨.done, x1, [], kp (Ex.new hD), upd_same, rfl, rfl, R1.mono (Ex.new hD), ?_⟩
        rw [Nat.sub_zero]
        cases rowN (rowR m) n.toNat x1 <;> rfl
      · rintro i H2 hi ⟨p, y, ys, k2, hD2, hl, hP, R2, eq⟩
        have hsub : n.toNat - i = (n.toNat - (i + 1)) + 1 := by omega
        rw [hsub] at eq
        have rD : D ≠ r := fun z => R1.there (by rw [← z]; exact hD)
        obtain ⟨dx, j, q1, q2⟩ := id R2
        have eq2 : rowN (rowR m) n.toNat x1 = (((piece1 (rowR m) y).bind fun u => (rowN (rowR m) (n.toNat - (i + 1)) u.2).map fun v => (u.1.andThen v.1, v.2)).map fun v => (p.andThen v.1, v.2)) := eq
        refine ⟨rfl, lc_yes ?_⟩
        refine ⟨_, rfl, r, dx, _, rfl, q1, no_Reader_piece .., _, rfl, r, z, y, ?_, hm, R2, fun c H3 k3 => kE ?_ H3 ((k1.trans k2).trans k3), fun q y2 c o1 H3 a k3 R3 ha hq => ?_⟩
        · have e4 : (4 : Int) - ((m + 1 : Nat) : Int) = 3 - (m : Int) := by omega
          rw [e4]
          rfl
        · rw [eq2, c]
          rfl
        · have hD3 : H3 D = some (.lst ys) := k3 D _ hD2 fun z => rD (List.mem_singleton.mp z)
          refine ⟨ys, hD3, sz_lt (by omega), p.andThen q, y2, ys ++ [.ref a], ?_, upd_same, by rw [List.length_append, hl]; rfl, ?_, ?_, ?_⟩
          · exact fun b o e nb => by
              rw [upd_ne (ne_of_none e hD)]
              exact (k2.trans k3) b o e nb
          · have up : ∀ {o : HO}, Ex (Del D (New H1 H3)) (Del D (New H1 (L2.upd H3 D o))) := fun {o} b u h => by
              obtain ⟨n1, h2⟩ := Del.of h
              refine Del.at n1 (New.at (New.of h2).1 ?_)
              rw [upd_ne n1]
              exact (New.of h2).2
            refine PsAt.app (hP.mono ((Del.mono (New.monoR k3 R1)).trans up)) (PsAt.one o1 (hq.mono fun b o h => ?_))
            have nb : b ≠ D := fun z => by
              rw [z] at h
              rw [(New.of h).1] at hD2
              cases hD2
            exact up _ _ (Del.at nb (New.lateR k2 R2 _ _ h))
          · exact R1.updN hD R3
          · rw [eq2, c]
            simp only [Option.bind_some]
            rw [Option.map_map]
            congr 1
            funext v
            show (p.andThen (q.andThen v.1), v.2) = ((p.andThen q).andThen v.1, v.2)
            rw [then_assoc]
      · rintro H2 ⟨p, y, ys, k2, hD2, hl, hP, R2, eq⟩
        rw [Nat.sub_self] at eq
        refine kQ p y ?_ H2 D (k1.trans k2) R2 (nbk k1 R1 hD) ⟨ys, New.at (nbk k1 R1 hD) hD2, hP.mono (Del.le.trans (New.lateR k1 R1))⟩
        rw [eq]
        show some (p.andThen .done, y) = _
        rw [then_done]
theorem ok_piece {m : Nat} (G_Reader_take : FnOk P w K mg base (L2.CX P w) 2 T.f_Reader_take T.d_Reader_take P_Reader_take (spTake T)) (G_need_range : FnOk P w K mg base (L2.CX P w) 1 T.f_need_range T.d_need_range P_need_range (spNeed T))
    (G_Reader_next_deed : FnOk P w K mg base (L2.CX P w) 3 T.f_Reader_next_deed T.d_Reader_next_deed P_Reader_next_deed (spNext T)) (G_Piece_init : FnOk P w K mg base CX0 1 T.f_Piece_init T.d_Piece_init P_Piece_init (sp_Piece_init T))
    (G_Reader_pieces : FnOk P w K mg base (L2.CX P w) (3 + 2 * m) T.f_Reader_pieces T.d_Reader_pieces P_Reader_pieces (spPieces T m)) : FnOk P w K mg base (L2.CX P w) (4 + 2 * m) T.f_Reader_piece T.d_Reader_piece P_Reader_piece (spPiece T m) := by
  have e4 : 4 + 2 * m = (3 + 2 * m) + 1 := by omega
  rw [e4]
  refine T.F_Reader_piece.okX sc_Reader_piece (fun vs H Q E h => ?_) (fun cdv A outer s H vs Q E hr h => ⟨_, ((pss_cons (ps_set (i := 2) sc_Reader_piece.nd rfl (Or.inl rfl) (pe_meth (pv 0) T.cl_Reader T.m_Reader_take G_Reader_take (hr.mono (by omega)) (b_Reader_take T) .nil (passes_call (takes_of rfl rfl rfl rfl) (fun _ _ _ _ h => h)) (pa_cons (pe_glob (v := .int (0)) rfl T.k_A_DEED ⟨_, rfl⟩) (pa_cons (pe_glob (v := .int (3)) rfl T.k_PART ⟨_, rfl⟩) pa_nil)))) (pss_cons (ps_if (pt_cmpR op_eq (pv 2) (pe_glob (v := .int (0)) rfl T.k_A_DEED ⟨_, rfl⟩) (nomark _)) (pss_one (ps_ret (pe_make T.mk_Piece G_Piece_init (hr.mono (by omega)) (by rfl) T.g_Piece (b_Piece_init T) .nil pass0 (pa_cons (pe_glob (v := .int (0)) rfl T.k_A_DEED ⟨_, rfl⟩) (pa_cons (pe_lst pa_nil) (pa_cons (pe_meth (pv 0) T.cl_Reader T.m_Reader_next_deed G_Reader_next_deed (hr.mono (by omega)) (b_Reader_next_deed T) .nil (passes_call (takes_of rfl rfl rfl rfl) (fun _ _ _ _ h => h)) (pa_cons pe_bl pa_nil)) (pa_cons (pe_lst pa_nil) pa_nil))))))) pss_nil) (pss_cons (ps_expr (pe_call G_need_range (hr.mono (by omega)) (by rfl) T.g_need_range T.F_need_range.kp (b_need_range T) .nil (passes_call (takes_of rfl rfl rfl rfl) (fun _ _ _ _ h => h)) (pa_cons (pv 1) (pa_cons pe_int (pa_cons (pe_op op_sub (pe_glob (v := .int (3)) rfl T.k_DEEPEST ⟨_, rfl⟩) pe_int) pa_nil))))) (pss_cons (ps_set (i := 3) sc_Reader_piece.nd rfl (Or.inl rfl) (pe_lst pa_nil)) (pss_cut (ps_if (pt_cmpR op_eq (pv 2) (pe_glob (v := .int (1)) rfl T.k_ROUNDS ⟨_, rfl⟩) (nomark _)) (pss_one (ps_set (i := 3) sc_Reader_piece.nd rfl (Or.inl rfl) (pe_lst (pa_cons (pe_meth (pv 0) T.cl_Reader T.m_Reader_take G_Reader_take (hr.mono (by omega)) (b_Reader_take T) .nil (passes_call (takes_of rfl rfl rfl rfl) (fun _ _ _ _ h => h)) (pa_cons pe_int (pa_cons (pe_glob (v := .int (9)) rfl T.k_MOST_ROUNDS_pieces ⟨_, rfl⟩) pa_nil))) pa_nil)))) pss_nil) (pss_cut (ps_if (pt_cmpR op_eq (pv 2) (pe_glob (v := .int (3)) rfl T.k_PART ⟨_, rfl⟩) (nomark _)) (pss_one (ps_set (i := 3) sc_Reader_piece.nd rfl (Or.inl rfl) (pe_lst (pa_cons (pe_meth (pv 0) T.cl_Reader T.m_Reader_take G_Reader_take (hr.mono (by omega)) (b_Reader_take T) .nil (passes_call (takes_of rfl rfl rfl rfl) (fun _ _ _ _ h => h)) (pa_cons pe_int (pa_cons (pe_op op_sub (pe_glob (v := .int (3)) rfl T.k_FIELDS ⟨_, rfl⟩) pe_int) pa_nil))) (pa_cons (pe_meth (pv 0) T.cl_Reader T.m_Reader_take G_Reader_take (hr.mono (by omega)) (b_Reader_take T) .nil (passes_call (takes_of rfl rfl rfl rfl) (fun _ _ _ _ h => h)) (pa_cons (pe_un un_neg (pe_glob (v := .int (999)) rfl T.k_GREATEST ⟨_, rfl⟩)) (pa_cons (pe_glob (v := .int (999)) rfl T.k_GREATEST ⟨_, rfl⟩) pa_nil))) pa_nil))))) pss_nil) (pss_one (ps_ret (pe_make T.mk_Piece G_Piece_init (hr.mono (by omega)) (by rfl) T.g_Piece (b_Piece_init T) .nil pass0 (pa_cons (pv 2) (pa_cons (pv 3) (pa_cons pe_non (pa_cons (pe_meth (pv 0) T.cl_Reader T.m_Reader_pieces G_Reader_pieces (hr.mono (by omega)) (b_Reader_pieces T) .nil (passes_call (takes_of rfl rfl rfl rfl) (fun _ _ _ _ h => h)) (pa_cons (pe_op op_add (pv 1) pe_int) pa_nil)) pa_nil)))))))))))))), ?_⟩)
  · obtain ⟨r, z, x, rfl, _⟩ := h
    rfl
  · obtain ⟨r, z, x, rfl, hm, hR, kE, kQ⟩ := h
    refine rd_take T (ev_var rfl) ev_c ev_c hR (fun c H1 k1 => kE ?_ H1 k1) fun k x1 c1 H1 k1 R1 => ?_
    · rw [piece1_nums, c]
      rfl
    · have hk := takeR_some c1
      have hk : 0 ≤ k ∧ k ≤ 3 := hk.2
      refine q_when (b := decide (V.int k = V.int 0)) (et_test (ev_op (ev_var rfl) ev_c (rv_eq rfl))) (fun hb H2 e2 => ?_) (fun hb H2 e2 => ?_)
      · have k0 : k = 0 := by
          have q := of_decide_eq_true hb
          injection q
        subst k0
        rw [piece1_deed c1] at kE kQ
        have R2 := R1.mono e2
        refine ⟨Nat.zero_le _, fun n1 hn1 => ?_⟩
        have e3 : Ex H2 (L2.upd H2 n1 (.lst [])) := Ex.new hn1
        obtain ⟨dx, j, q1, q2⟩ := id (R2.mono e3)
        refine ⟨_, rfl, r, dx, _, rfl, q1, no_Reader_next_deed .., r, z, true, x1, rfl, R2.mono e3, fun c H4 k4 => kE ?_ H4 ((k1.trans (kp (e2.trans e3))).trans k4), fun a y c H4 d k4 R4 hd hD => ?_⟩
        · unfold rdDeed
          rw [c]
          rfl
        · refine ⟨Nat.zero_le _, fun n2 hn2 => ?_⟩
          intro px dx2 nx nd ne
          refine ⟨_, _, _, _, px, dx2, rfl, upd_same, fun H5 h1 h2 => ⟨rfl, ?_⟩⟩
          have e45 : Ex H4 (L2.upd H4 n2 (.lst [])) := Ex.new hn2
          have e5 : Ex (L2.upd H4 n2 (.lst [])) H5 := Same.made nx nd h2
          have kk3 : Keep [r] H (L2.upd H2 n1 (.lst [])) := k1.trans (kp (e2.trans e3))
          have kk4 : Keep [r] H H4 := kk3.trans k4
          have kk5 : Keep [r] H H5 := kk4.trans (kp (e45.trans e5))
          have RA : RdAt T H5 r z y := R4.mono (e45.trans e5)
          have h0 : ∀ {b : Addr}, (L2.upd H4 n2 (.lst [])) b = none → H b = none := fun {b} q => nbk (kk4.trans (kp e45)) (R4.mono e45) q
          have pn : H px = none := h0 nx
          have n1H : H n1 = none := nbk (k1.trans (kp e2)) R2 hn1
          have n1r : n1 ∉ [r] := fun q => R2.there (by rw [← List.mem_singleton.mp q]; exact hn1)
          have n1v : H5 n1 = some (.lst []) := e5 _ _ (e45 _ _ (k4 _ _ upd_same n1r))
          have n2v : H5 n2 = some (.lst []) := e5 _ _ upd_same
          have n2H : H n2 = none := nbk kk4 R4 hn2
          have dH : H d = none := nbk kk3 (R2.mono e3) hd
          obtain ⟨dd, hdd⟩ := hD
          obtain ⟨o, l, _⟩ := rawDeed_ok c
          obtain ⟨ro, o1, o2, o3, o4⟩ := deedOf_ok o
          have er : rawOf (deedOf a.1 a.2.1 a.2.2.1) a.2.2.2 = a := by
            unfold rawOf
            rw [← ro.sort, ← ro.field, ← ro.num]
          refine kQ (.deed (deedOf a.1 a.2.1 a.2.2.1) a.2.2.2 .done) y ?_ (.deed _ _) H5 px kk5 RA pn ?_
          · unfold rdDeed
            rw [c]
            rfl
          · refine ⟨dx2, n1, .ref d, n2, [], New.at pn h1, New.at n1H n1v, ⟨d, rfl, dd, ?_⟩, New.at n2H n2v, rfl⟩
            rw [er]
            exact New.at dH (e5 _ _ (e45 _ _ hdd))
      · have k0 : k ≠ 0 := fun q => by
          rw [q] at hb
          exact absurd hb (by decide)
        have hk3 : k = 1 ∨ k = 2 ∨ k = 3 := by omega
        rw [piece1_other c1 k0] at kE kQ
        have R2 := R1.mono e2
        have k2 : Keep [r] H H2 := k1.trans (kp e2)
        refine qd_call (ea_cons (ev_var rfl) (ea_cons ev_c (ea_cons (ev_op ev_c ev_c rv_I0) ea_nil))) fun H3 e3 => ⟨3 - (m : Int), 0, 3 - 1, rfl, fun c H4 e4 => kE ?_ H4 (k2.trans (kp (e3.trans e4))), fun c H4 e4 => ?_⟩
        · have m0 : m = 0 := by omega
          subst m0
          cases numsR k x1 <;> rfl
        · have m1 : 0 < m := by omega
          have k4 : Keep [r] H H4 := k2.trans (kp (e3.trans e4))
          have R4 := R2.mono (e3.trans e4)
          refine q_asgL (el_lst ea_nil (by simp)) fun nl H5 hnl e5 h5 => ?_
          refine q_cut (M := fun σ' H' => ∃ nl ns x2, (if k = 1 then (takeR 1 9 x1).map fun u => ([u.1], u.2) else some ([], x1)) = some (ns, x2) ∧ σ' = [some (.ref r), some (.int (3 - (m : Int))), some (.int k), some (.ref nl)] ∧ Keep [r] H H' ∧ RdAt T H' r z x2 ∧ H nl = none ∧ H' nl = some (.lst (ns.map V.int))) ?_ ?_
          · refine s_when (b := decide (V.int k = V.int 1)) (et_test (ev_op (ev_var rfl) ev_c (rv_eq rfl))) (fun hb H6 e6 => ?_) (fun hb H6 e6 => ?_)
            · have h1 : k = 1 := by
                have q := of_decide_eq_true hb
                injection q
              have k6 : Keep [r] H H6 := k4.trans (kp (e5.trans e6))
              refine rd_take T (ev_var rfl) ev_c ev_c (R4.mono (e5.trans e6)) (fun c H7 k7 => kE ?_ H7 (k6.trans k7)) fun n x2 c2 H7 k7 R7 => ⟨sz_of (by simp), fun p hp => ⟨p, [n], x2, ?_, rfl, (k6.trans k7).trans (kp (Ex.new hp)), R7.mono (Ex.new hp), nbk (k6.trans k7) R7 hp, upd_same⟩⟩
              · unfold numsR
                rw [if_pos h1, c]
                rfl
              · rw [if_pos h1, c2]
                rfl
            · have h1 : k ≠ 1 := fun q => of_decide_eq_false hb (congrArg V.int q)
              exact ⟨nl, [], x1, by rw [if_neg h1], rfl, k4.trans (kp (e5.trans e6)), R4.mono (e5.trans e6), nbk k4 R4 hnl, e6 _ _ h5⟩
          · rintro σ' H6 ⟨nl, ns, x2, c2, rfl, k6, R6, hnl, h6⟩
            refine q_cut (M := fun σ' H' => ∃ nl ns x3, numsR k x1 = some (ns, x3) ∧ σ' = [some (.ref r), some (.int (3 - (m : Int))), some (.int k), some (.ref nl)] ∧ Keep [r] H H' ∧ RdAt T H' r z x3 ∧ H nl = none ∧ H' nl = some (.lst (ns.map V.int))) ?_ ?_
            · refine s_when (b := decide (V.int k = V.int 3)) (et_test (ev_op (ev_var rfl) ev_c (rv_eq rfl))) (fun hb H7 e7 => ?_) (fun hb H7 e7 => ?_)
              · have h3 : k = 3 := by
                  have q := of_decide_eq_true hb
                  injection q
                rw [if_neg (by omega)] at c2
                cases c2
                have k7 : Keep [r] H H7 := k6.trans (kp e7)
                refine rd_take T (ev_var rfl) ev_c (ev_op ev_c ev_c rv_I0) (R6.mono e7) (fun c H8 k8 => kE ?_ H8 (k7.trans k8)) fun f x3 c3 H8 k8 R8 => ?_
                · unfold numsR
                  rw [if_neg (by omega), if_pos h3, show takeR 0 2 x1 = none from c]
                  rfl
                · refine rd_take T (ev_var rfl) (ev_un ev_c ru_neg) ev_c R8 (fun c H9 k9 => kE ?_ H9 ((k7.trans k8).trans k9)) fun v x4 c4 H9 k9 R9 => ⟨sz_of (by simp), fun p hp => ⟨p, [f, v], x4, ?_, rfl, ((k7.trans k8).trans k9).trans (kp (Ex.new hp)), R9.mono (Ex.new hp), nbk ((k7.trans k8).trans k9) R9 hp, upd_same⟩⟩
                  · unfold numsR
                    rw [if_neg (by omega), if_pos h3, show takeR 0 2 x1 = some (f, x3) from c3]
                    simp only [Option.bind_some]
                    rw [show takeR (-999) 999 x3 = none from c]
                    rfl
                  · unfold numsR
                    rw [if_neg (by omega), if_pos h3, show takeR 0 2 x1 = some (f, x3) from c3]
                    simp only [Option.bind_some]
                    rw [show takeR (-999) 999 x3 = some (v, x4) from c4]
                    rfl
              · have h3 : k ≠ 3 := fun q => of_decide_eq_false hb (congrArg V.int q)
                refine ⟨nl, ns, x2, ?_, rfl, k6.trans (kp e7), R6.mono e7, hnl, e7 _ _ h6⟩
                unfold numsR
                by_cases h1 : k = 1
                · rw [if_pos h1] at c2 ⊢
                  exact c2
                · rw [if_neg h1] at c2
                  rw [if_neg h1, if_neg h3]
                  exact c2
            · rintro σ' H7 ⟨nl, ns, x3, c3, rfl, k7, R7, hnl, h7⟩
              rw [c3] at kE kQ
              simp only [Option.bind_some] at kE kQ
              refine ⟨_, rfl, _, rfl, ?_⟩
              refine ra_meth (ev_var rfl) (id R7).choose_spec.choose_spec.1 (no_Reader_pieces ..) (ea_cons (ev_op (ev_var rfl) ev_c rv_I0) ea_nil) fun H8 e8 => ?_
              have e4' : (3 : Int) - (m : Int) + 1 = 4 - (m : Int) := by omega
              refine ⟨r, z, x3, by rw [e4']; rfl, m1, R7.mono e8, fun c H9 k9 => kE (by rw [c]; rfl) H9 ((k7.trans (kp e8)).trans k9), fun b y c H9 il k9 R9 hil hrow => ?_⟩
              intro px dx2 nx nd ne
              refine ⟨_, _, _, _, px, dx2, rfl, upd_same, fun H5 h1 h2 => ⟨rfl, ?_⟩⟩
              have e5 : Ex H9 H5 := Same.made nx nd h2
              have kk8 : Keep [r] H H8 := k7.trans (kp e8)
              have kk9 : Keep [r] H H9 := kk8.trans k9
              have pn : H px = none := nbk kk9 R9 nx
              have N := node_ok b c3 hk3
              have nlr : nl ∉ [r] := fun q => hR.there (by rw [← List.mem_singleton.mp q]; exact hnl)
              refine kQ (nodeOf k ns b) y (by rw [c]; rfl) N.one H5 px (kk9.trans (kp e5)) (R9.mono e5) pn ?_
              obtain ⟨zs, hz1, hz2⟩ := hrow
              have hilH : H il = none := nbk kk8 (R7.mono e8) hil
              refine ⟨dx2, nl, .non, il, zs, New.at pn ?_, New.at hnl ?_, ?_, New.at hilH (e5 _ _ (New.of hz1).2), ?_⟩
              · have q1 : kindOf (nodeOf k ns b) = k := N.kind
                rw [q1]
                exact h1
              · have q2 : numsOf (nodeOf k ns b) = ns := N.nums
                rw [q2]
                exact e5 _ _ (k9 _ _ (e8 _ _ h7) nlr)
              · have nd := N.nd
                revert nd
                cases nodeOf k ns b <;> first | (intro q; cases q; done) | (intro _; rfl)
              · rw [N.inn]
                exact hz2.mono ((New.lateR kk8 (R7.mono e8)).trans (New.ex e5))
theorem ok_pieces_all (G_Reader_take : FnOk P w K mg base (L2.CX P w) 2 T.f_Reader_take T.d_Reader_take P_Reader_take (spTake T)) (G_need_range : FnOk P w K mg base (L2.CX P w) 1 T.f_need_range T.d_need_range P_need_range (spNeed T))
    (G_Reader_next_deed : FnOk P w K mg base (L2.CX P w) 3 T.f_Reader_next_deed T.d_Reader_next_deed P_Reader_next_deed (spNext T)) (G_Piece_init : FnOk P w K mg base CX0 1 T.f_Piece_init T.d_Piece_init P_Piece_init (sp_Piece_init T)) :
    ∀ m : Nat, m ≤ 4 → FnOk P w K mg base (L2.CX P w) (3 + 2 * m) T.f_Reader_pieces T.d_Reader_pieces P_Reader_pieces (spPieces T m)
  | 0, _ => fn_no fun vs H Q E ⟨_, _, _, _, h, _⟩ => absurd h (Nat.not_lt_zero _)
  | m + 1, h => by
    have e : 3 + 2 * (m + 1) = 5 + 2 * m := by omega
    rw [e]
    exact ok_pieces T (by omega) G_Reader_take (ok_piece T G_Reader_take G_need_range G_Reader_next_deed G_Piece_init (ok_pieces_all G_Reader_take G_need_range G_Reader_next_deed G_Piece_init m (by omega)))
end
end Pe
set_option Elab.async false
set_option linter.all false
set_option maxRecDepth 100000
set_option maxHeartbeats 2000000
/-! Programs, recordings, fields read. -/
namespace Pe
open PySem PySem.Spec PyProof.Rows L2 VamacBase Evl
section
variable {σ : L2.St} {H : Hp} {D : Ends} {te : TE} {tz : TS}
theorem q_asgI {i : Nat} {C : Addr} {fs : List (Str × V)} (h : EvI te σ H C fs) (k : ∀ p H1, H p = none → Ex H H1 → (∃ dx, H1 p = some (.ins C dx fs)) → tz D (σ.set i (some (.ref p))) H1) : tSeq (tAsg te (gName i)) tz D σ H := h H (Ex.refl H) _ fun p H1 hp e h1 => k p H1 hp e h1
theorem s_retI {C : Addr} {fs : List (Str × V)} (h : EvI te σ H C fs) (k : ∀ p H1, H p = none → Ex H H1 → (∃ dx, H1 p = some (.ins C dx fs)) → D.rt (.ref p) H1) : tRet te D σ H := h H (Ex.refl H) _ fun p H1 hp e h1 => k p H1 hp e h1
end
/-- a reader that came after H -/
theorem ex_keep {H H1 H2 : Hp} {r : Addr} (e : Ex H H1) (hr : H r = none) (k : Keep [r] H1 H2) : Ex H H2 := fun b o h => k b o (e _ _ h) fun z => by
  rw [List.mem_singleton.mp z, hr] at h
  cases h
theorem New.ne {H H' : Hp} {b : Addr} {o : HO} (h : New H H' b = some o) : H b = none := (New.of h).1
theorem none_ex {H H1 : Hp} (e : Ex H H1) {b : Addr} (h : H1 b = none) : H b = none := fresh_back e h
theorem New.lateE {H H1 H2 : Hp} (e : Ex H H1) : Ex (New H1 H2) (New H H2) := fun b o h => New.at (none_ex e (New.of h).1) (New.of h).2
section
variable {P : Program} {w : World} {K : PySem.W.Frag} {mg : Str → Option Value} {base : Heap} (T : Txt K mg)
def spReadProg : Sp := fun vs H Q E => ∃ (a : Addr) (ns : List Int), vs = [.ref a] ∧ SqL K H a (ns.map V.int) ∧ ns.length ≤ 1000 ∧ (readP ns = none → ∀ H', Ex H H' → E (.ref T.c_NoProgram) none H') ∧
  (∀ p, readP ns = some p → ∀ H' l, Ex H H' → H l = none → Row T (New H H') l p → Q (.ref l) H')
theorem ok_read_program (G_Reader_init : FnOk P w K mg base CX0 1 T.f_Reader_init T.d_Reader_init P_Reader_init (sp_Reader_init T)) (G_Reader_pieces : FnOk P w K mg base (L2.CX P w) 11 T.f_Reader_pieces T.d_Reader_pieces P_Reader_pieces (spPieces T 4))
    (G_Reader_must_end : FnOk P w K mg base (L2.CX P w) 2 T.f_Reader_must_end T.d_Reader_must_end P_Reader_must_end (spMustEnd T)) (G_need_range : FnOk P w K mg base (L2.CX P w) 1 T.f_need_range T.d_need_range P_need_range (spNeed T))
    (G_many_pieces : FnOk P w K mg base CX0 10 T.f_many_pieces T.d_many_pieces P_many_pieces (spMany T 5)) : FnOk P w K mg base (L2.CX P w) 12 T.f_read_program T.d_read_program P_read_program (spReadProg T) := by
  refine T.F_read_program.okX sc_read_program (fun vs H Q E h => ?_) (fun cdv A outer s H vs Q E hr h => ⟨_, ((pss_cons (ps_set (i := 1) sc_read_program.nd rfl (Or.inl rfl) (pe_make T.mk_Reader G_Reader_init (hr.mono (by omega)) (by rfl) T.g_Reader (b_Reader_init T) .nil pass0 (pa_cons (pv 0) pa_nil))) (pss_cons (ps_set (i := 2) sc_read_program.nd rfl (Or.inl rfl) (pe_meth (pv 1) T.cl_Reader T.m_Reader_pieces G_Reader_pieces (hr.mono (by omega)) (b_Reader_pieces T) .nil (passes_call (takes_of rfl rfl rfl rfl) (fun _ _ _ _ h => h)) (pa_cons pe_int pa_nil))) (pss_cons (ps_expr (pe_meth0 (pv 1) T.cl_Reader T.m_Reader_must_end G_Reader_must_end (hr.mono (by omega)) (b_Reader_must_end T) .nil (passes_call (takes_of rfl rfl rfl rfl) (fun _ _ _ _ h => h)))) (pss_cons (ps_expr (pe_call G_need_range (hr.mono (by omega)) (by rfl) T.g_need_range T.F_need_range.kp (b_need_range T) .nil (passes_call (takes_of rfl rfl rfl rfl) (fun _ _ _ _ h => h)) (pa_cons (pe_call G_many_pieces (hr.mono (by omega)) (by rfl) T.g_many_pieces T.F_many_pieces.kp (b_many_pieces T) .nil pass0 (pa_cons (pv 2) pa_nil)) (pa_cons pe_int (pa_cons (pe_glob (v := .int (16)) rfl T.k_MOST_PIECES ⟨_, rfl⟩) pa_nil))))) (pss_one (ps_ret (pv 2)))))))), ?_⟩)
  · obtain ⟨a, ns, rfl, _⟩ := h
    rfl
  · obtain ⟨a, ns, rfl, hs, hz, kE, kQ⟩ := h
    refine q_asgI (ei_make (ea_cons (ev_var rfl) ea_nil) fun vs H Q E h => ⟨_, h⟩) fun r H1 hr1 e1 ⟨dx, h1⟩ => ?_
    have R1 : RdAt T H1 r (a, ns) ns := ⟨dx, 0, h1, ex_l e1 hs, Nat.zero_le _, rfl⟩
    have ek : ∀ {H2 : Hp}, Keep [r] H1 H2 → Ex H H2 := fun {H2} k => ex_keep e1 hr1 k
    refine qa_meth (ev_var rfl) h1 (no_Reader_pieces ..) (ea_cons ev_c ea_nil) fun H2 e2 => ⟨r, (a, ns), ns, rfl, by decide, R1.mono e2, fun c H3 k3 => kE ?_ H3 (ek ((kp e2).trans k3)), fun p y c H3 l k3 R3 hl hrow => ?_⟩
    · unfold readP
      rw [c]
      rfl
    · have kk3 : Keep [r] H1 H3 := (kp e2).trans k3
      obtain ⟨dx3, j, q1, q2⟩ := id R3
      refine qd_meth (ev_var rfl) q1 (no_Reader_must_end ..) ea_nil fun H4 e4 => ⟨r, (a, ns), y, rfl, R3.mono e4, fun c2 H5 e5 => kE ?_ H5 (ek (kk3.trans (kp (e4.trans e5)))), fun c2 H5 e5 => ?_⟩
      · unfold readP
        rw [c]
        cases y with
        | nil => exact absurd rfl c2
        | cons _ _ => rfl
      · subst c2
        have e35 := e4.trans e5
        have rk := rowR_ok 4 _ _ _ c
        have rs := size_rowR 4 _ _ _ c
        simp only [List.length_nil, Nat.add_zero] at rs
        have hh := hgt_depth p
        have hd := rk.1.deep
        have row5 : Row T H5 l p := (hrow.mono New.le).mono e35
        have ev : Ev (tCall (spMany T 5) [] E0 (tCons (tVar 2) tNil)) [some (.ref a), some (.ref r), some (.ref l)] H5 (.int p.size) := ev_call (ea_cons (ev_var rfl) ea_nil) fun H6 e6 Q q' E => ⟨l, p, rfl, row5.mono e6, by omega, by omega, fun H' e' => q' H' e'⟩
        refine qd_call (ea_cons ev (ea_cons ev_c (ea_cons ev_c ea_nil))) fun H6 e6 => ⟨_, 0, 16, rfl, fun c3 H7 e7 => kE ?_ H7 (ek (kk3.trans (kp ((e35.trans e6).trans e7)))), fun c3 H7 e7 => ?_⟩
        · unfold readP
          rw [c]
          show (if p.size ≤ 16 then some p else none) = none
          rw [if_neg (by omega)]
        · refine s_ret (ev_var rfl) fun H8 e8 => kQ p ?_ H8 l (ek (kk3.trans (kp (((e35.trans e6).trans e7).trans e8)))) ?_ ?_
          · unfold readP
            rw [c]
            show (if p.size ≤ 16 then some p else none) = some p
            rw [if_pos (by omega)]
          · exact none_ex (e1.trans e2) hl
          · exact (hrow.mono (New.ex (((e35.trans e6).trans e7).trans e8))).mono (New.lateE (e1.trans e2))

/-! ### recordings -/
variable {T}
theorem RecAt.keepD {H H' : Hp} {r D : Addr} {z : Addr × List Int} {x : List Int} (R : RdAt T H r z x) (k : Keep [r] H H') {xs : List V} {ds : List Deed} (h : RecAt T (Del D H) xs ds) : RecAt T (Del D H') xs ds := Paired.mapP h fun _ _ ⟨b, h1, dx, h2⟩ => by
  obtain ⟨dxr, i, hr, _⟩ := R
  obtain ⟨n, h3⟩ := Del.of h2
  exact ⟨b, h1, dx, Del.at n (k _ _ h3 fun q => neH h3 hr (by show 4 ≠ 2; decide) (List.mem_singleton.mp q))⟩
theorem RecAt.snoc {H : Hp} {xs : List V} {ds : List Deed} {b : Addr} {d : Deed} (h : RecAt T H xs ds) (hb : DeedAt T H b (rawOf d 0)) : RecAt T H (xs ++ [.ref b]) (ds ++ [d]) := paired_app h (.cons ⟨b, rfl, hb⟩ .nil)
variable (T)
theorem raw_eq {a : Raw} (h : RawOk a) (hs : a.2.2.2 = 0) : rawOf (toDeed a) 0 = a := by
  obtain ⟨ro, _⟩ := deedOf_ok h
  obtain ⟨k, f, v, s⟩ := a
  have hs : s = 0 := hs
  subst hs
  unfold rawOf toDeed
  rw [← ro.sort, ← ro.field, ← ro.num]
def spReadDeeds : Sp := fun vs H Q E => ∃ (a : Addr) (ns : List Int), vs = [.ref a] ∧ SqL K H a (ns.map V.int) ∧ (fin (deedsR ns) = none → ∀ H', Ex H H' → E (.ref T.c_NoProgram) none H') ∧
  (∀ rs, fin (deedsR ns) = some rs → ∀ H' l xs, Ex H H' → H l = none → H' l = some (.lst xs) → RecAt T H' xs (rs.map toDeed) → Q (.ref l) H')
theorem ok_read_deeds (G_Reader_init : FnOk P w K mg base CX0 1 T.f_Reader_init T.d_Reader_init P_Reader_init (sp_Reader_init T)) (G_Reader_take : FnOk P w K mg base (L2.CX P w) 2 T.f_Reader_take T.d_Reader_take P_Reader_take (spTake T))
    (G_Reader_next_deed : FnOk P w K mg base (L2.CX P w) 3 T.f_Reader_next_deed T.d_Reader_next_deed P_Reader_next_deed (spNext T)) (G_Reader_must_end : FnOk P w K mg base (L2.CX P w) 2 T.f_Reader_must_end T.d_Reader_must_end P_Reader_must_end (spMustEnd T)) : FnOk P w K mg base (L2.CX P w) 4 T.f_read_deeds T.d_read_deeds P_read_deeds (spReadDeeds T) := by
  refine T.F_read_deeds.okX sc_read_deeds (fun vs H Q E h => ?_) (fun cdv A outer s H vs Q E hr h => ⟨_, ((pss_cons (ps_set (i := 1) sc_read_deeds.nd rfl (Or.inr rfl) (pe_make T.mk_Reader G_Reader_init (hr.mono (by omega)) (by rfl) T.g_Reader (b_Reader_init T) .nil pass0 (pa_cons (pv 0) pa_nil))) (pss_cons (ps_set (i := 2) sc_read_deeds.nd rfl (Or.inl rfl) (pe_meth (pv 1) T.cl_Reader T.m_Reader_take G_Reader_take (hr.mono (by omega)) (b_Reader_take T) .nil (passes_call (takes_of rfl rfl rfl rfl) (fun _ _ _ _ h => h)) (pa_cons pe_int (pa_cons (pe_glob (v := .int (20)) rfl T.k_MOST_DEEDS_cleaning ⟨_, rfl⟩) pa_nil)))) (pss_cons (ps_setLcX (i := 3) (own := [("k", 4)]) (g := gName 4) (takes_of rfl rfl rfl rfl) rfl rfl rfl sc_read_deeds.nd rfl rfl (sw_true rfl rfl rfl (by decide +kernel)) (pi_range1 (by rfl) T.b_range (pa_cons (pv 2) pa_nil)) (blkOk_by (own := [("k", 4)]) (N := N_read_deeds) (sc := defScope s_read_deeds) (by decide +kernel)) (fun _ _ _ _ _ => pg_name (i := 4) sc_read_deeds.nd rfl (Or.inl rfl)) (fun _ _ _ _ _ => (pe_meth (pv 1) T.cl_Reader T.m_Reader_next_deed G_Reader_next_deed (hr.mono (by omega)) (b_Reader_next_deed T) .nil passB (pa_cons pe_bl pa_nil)))) (pss_cons (ps_expr (pe_meth0 (pv 1) T.cl_Reader T.m_Reader_must_end G_Reader_must_end (hr.mono (by omega)) (b_Reader_must_end T) .nil (passes_call (takes_of rfl rfl rfl rfl) (fun _ _ _ _ h => h)))) (pss_one (ps_ret (pv 3)))))))), ?_⟩)
  · obtain ⟨a, ns, rfl, _⟩ := h
    rfl
  · obtain ⟨a, ns, rfl, hs, kE, kQ⟩ := h
    refine q_asgI (ei_make (ea_cons (ev_var rfl) ea_nil) fun vs H Q E h => ⟨_, h⟩) fun r H1 hr1 e1 ⟨dx, h1⟩ => ?_
    have R1 : RdAt T H1 r (a, ns) ns := ⟨dx, 0, h1, ex_l e1 hs, Nat.zero_le _, rfl⟩
    have ek : ∀ {H2 : Hp}, Keep [r] H1 H2 → Ex H H2 := fun {H2} k => ex_keep e1 hr1 k
    refine rd_take T (ev_var rfl) ev_c ev_c R1 (fun c H2 k2 => kE (by unfold deedsR; rw [c]; rfl) H2 (ek k2)) fun n x1 c1 H2 k2 R2 => ?_
    have hn := (takeR_some c1).2
    have hn : 0 ≤ n ∧ n ≤ 20 := hn
    have eD : deedsR ns = rawN n.toNat x1 := by
      unfold deedsR
      rw [c1]
      rfl
    rw [eD] at kE kQ
    refine ⟨_, rfl, n, rfl, by omega, by omega, fun D hD => lc_range (lo := 0) (n := n.toNat) (fun i H' => ∃ rs y ys, Keep [r] H2 H' ∧ H' D = some (.lst ys) ∧ ys.length = i ∧ RecAt T (Del D H') ys (rs.map toDeed) ∧ RdAt T H' r (a, ns) y ∧ rawN n.toNat x1 = (rawN (n.toNat - i) y).map fun v => (rs ++ v.1, v.2)) ?_ ?_ ?_⟩
    · refine ⟨[], x1, [], kp (Ex.new hD), upd_same, rfl, .nil, R2.mono (Ex.new hD), ?_⟩
      rw [Nat.sub_zero]
      cases rawN n.toNat x1 <;> rfl
    · rintro i H3 hi ⟨rs, y, ys, k3, hD3, hl, hP, R3, eq⟩
      have hsub : n.toNat - i = (n.toNat - (i + 1)) + 1 := by omega
      rw [hsub] at eq
      have rD : D ≠ r := fun q => R2.there (by rw [← q]; exact hD)
      obtain ⟨dx3, j, q1, q2⟩ := id R3
      have eq2 : rawN n.toNat x1 = (((rawDeed false y).bind fun u => (rawN (n.toNat - (i + 1)) u.2).map fun v => (u.1 :: v.1, v.2)).map fun v => (rs ++ v.1, v.2)) := eq
      refine ⟨rfl, lc_yes ?_⟩
      refine ⟨_, rfl, r, dx3, _, rfl, q1, no_Reader_next_deed .., r, (a, ns), false, y, rfl, R3, fun c H4 k4 => kE (by rw [eq2, c]; rfl) H4 (ek ((k2.trans k3).trans k4)), fun q y2 c H4 d k4 R4 hd hq => ?_⟩
      have hD4 : H4 D = some (.lst ys) := k4 D _ hD3 fun q => rD (List.mem_singleton.mp q)
      have dD : d ≠ D := fun q => by
        rw [q, hD3] at hd
        cases hd
      obtain ⟨ro, _, r0⟩ := rawDeed_ok c
      refine ⟨ys, hD4, sz_lt (by omega), rs ++ [q], y2, ys ++ [.ref d], fun b o e nb => ?_, upd_same, by rw [List.length_append, hl]; rfl, ?_, R2.updN hD R4, ?_⟩
      · rw [upd_ne (ne_of_none e hD)]
        exact (k3.trans k4) b o e nb
      · obtain ⟨dd, hdd⟩ := hq
        rw [List.map_append]
        refine RecAt.snoc ((hP.keepD R3 k4).mono Del.updD) ⟨dd, Del.updD _ _ (Del.at dD ?_)⟩
        rw [raw_eq ro (r0 rfl)]
        exact hdd
      · rw [eq2, c]
        simp only [Option.bind_some]
        rw [Option.map_map]
        congr 1
        funext v
        show (rs ++ (q :: v.1), v.2) = ((rs ++ [q]) ++ v.1, v.2)
        rw [List.append_assoc]
        rfl
    · rintro H3 ⟨rs, y, ys, k3, hD3, hl, hP, R3, eq⟩
      rw [Nat.sub_self] at eq
      have eq : rawN n.toNat x1 = some (rs ++ [], y) := eq
      rw [List.append_nil] at eq
      rw [eq] at kE kQ
      obtain ⟨dx3, j, q1, q2⟩ := id R3
      refine qd_meth (ev_var rfl) q1 (no_Reader_must_end ..) ea_nil fun H4 e4 => ⟨r, (a, ns), y, rfl, R3.mono e4, fun c2 H5 e5 => kE ?_ H5 (ek ((k2.trans k3).trans (kp (e4.trans e5)))), fun c2 H5 e5 => ?_⟩
      · cases y with
        | nil => exact absurd rfl c2
        | cons _ _ => rfl
      · subst c2
        refine s_ret (ev_var rfl) fun H6 e6 => kQ rs rfl H6 D ys (ek ((k2.trans k3).trans (kp ((e4.trans e5).trans e6)))) ?_ (((e4.trans e5).trans e6) _ _ hD3) ((hP.mono Del.le).mono ((e4.trans e5).trans e6))
        exact none_ex e1 (nbk k2 R2 hD)

/-! ### fields -/
def spFields : Sp := fun vs H Q E => ∃ (a : Addr) (ns : List Int), vs = [.ref a] ∧ SqL K H a (ns.map V.int) ∧ (fin (fieldsR ns) = none → ∀ H', Ex H H' → E (.ref T.c_NoProgram) none H') ∧
  (∀ us, fin (fieldsR ns) = some us → ∀ H' l, Ex H H' → H l = none → H' l = some (.lst (us.map V.int)) → Q (.ref l) H')
theorem ok_fields_of (G_Reader_init : FnOk P w K mg base CX0 1 T.f_Reader_init T.d_Reader_init P_Reader_init (sp_Reader_init T)) (G_Reader_take : FnOk P w K mg base (L2.CX P w) 2 T.f_Reader_take T.d_Reader_take P_Reader_take (spTake T))
    (G_Reader_must_end : FnOk P w K mg base (L2.CX P w) 2 T.f_Reader_must_end T.d_Reader_must_end P_Reader_must_end (spMustEnd T)) : FnOk P w K mg base (L2.CX P w) 4 T.f_fields_of T.d_fields_of P_fields_of (spFields T) := by
  refine T.F_fields_of.okX sc_fields_of (fun vs H Q E h => ?_) (fun cdv A outer s H vs Q E hr h => ⟨_, ((pss_cons (ps_set (i := 1) sc_fields_of.nd rfl (Or.inr rfl) (pe_make T.mk_Reader G_Reader_init (hr.mono (by omega)) (by rfl) T.g_Reader (b_Reader_init T) .nil pass0 (pa_cons (pv 0) pa_nil))) (pss_cons (ps_set (i := 2) sc_fields_of.nd rfl (Or.inl rfl) (pe_meth (pv 1) T.cl_Reader T.m_Reader_take G_Reader_take (hr.mono (by omega)) (b_Reader_take T) .nil (passes_call (takes_of rfl rfl rfl rfl) (fun _ _ _ _ h => h)) (pa_cons pe_int (pa_cons (pe_glob (v := .int (3)) rfl T.k_FIELDS ⟨_, rfl⟩) pa_nil)))) (pss_cons (ps_setLcX (i := 3) (own := [("k", 4)]) (g := gName 4) (takes_of rfl rfl rfl rfl) rfl rfl rfl sc_fields_of.nd rfl rfl (sw_true rfl rfl rfl (by decide +kernel)) (pi_range1 (by rfl) T.b_range (pa_cons (pv 2) pa_nil)) (blkOk_by (own := [("k", 4)]) (N := N_fields_of) (sc := defScope s_fields_of) (by decide +kernel)) (fun _ _ _ _ _ => pg_name (i := 4) sc_fields_of.nd rfl (Or.inl rfl)) (fun _ _ _ _ _ => (pe_meth (pv 1) T.cl_Reader T.m_Reader_take G_Reader_take (hr.mono (by omega)) (b_Reader_take T) .nil passB (pa_cons pe_int (pa_cons (pe_op op_sub (pe_glob (v := .int (3)) rfl T.k_FIELDS ⟨_, rfl⟩) pe_int) pa_nil))))) (pss_cons (ps_expr (pe_meth0 (pv 1) T.cl_Reader T.m_Reader_must_end G_Reader_must_end (hr.mono (by omega)) (b_Reader_must_end T) .nil (passes_call (takes_of rfl rfl rfl rfl) (fun _ _ _ _ h => h)))) (pss_one (ps_ret (pv 3)))))))), ?_⟩)
  · obtain ⟨a, ns, rfl, _⟩ := h
    rfl
  · obtain ⟨a, ns, rfl, hs, kE, kQ⟩ := h
    refine q_asgI (ei_make (ea_cons (ev_var rfl) ea_nil) fun vs H Q E h => ⟨_, h⟩) fun r H1 hr1 e1 ⟨dx, h1⟩ => ?_
    have R1 : RdAt T H1 r (a, ns) ns := ⟨dx, 0, h1, ex_l e1 hs, Nat.zero_le _, rfl⟩
    have ek : ∀ {H2 : Hp}, Keep [r] H1 H2 → Ex H H2 := fun {H2} k => ex_keep e1 hr1 k
    refine rd_take T (ev_var rfl) ev_c ev_c R1 (fun c H2 k2 => kE (by unfold fieldsR; rw [c]; rfl) H2 (ek k2)) fun n x1 c1 H2 k2 R2 => ?_
    have hn := (takeR_some c1).2
    have hn : 0 ≤ n ∧ n ≤ 3 := hn
    have eD : fieldsR ns = takeN 0 2 n.toNat x1 := by
      unfold fieldsR
      rw [c1]
      rfl
    rw [eD] at kE kQ
    refine ⟨_, rfl, n, rfl, by omega, by omega, fun D hD => lc_range (lo := 0) (n := n.toNat) (fun i H' => ∃ us y, Keep [r] H2 H' ∧ H' D = some (.lst (us.map V.int)) ∧ us.length = i ∧ RdAt T H' r (a, ns) y ∧ takeN 0 2 n.toNat x1 = (takeN 0 2 (n.toNat - i) y).map fun v => (us ++ v.1, v.2)) ?_ ?_ ?_⟩
    · refine ⟨[], x1, kp (Ex.new hD), upd_same, rfl, R2.mono (Ex.new hD), ?_⟩
      rw [Nat.sub_zero]
      cases takeN 0 2 n.toNat x1 <;> rfl
    · rintro i H3 hi ⟨us, y, k3, hD3, hl, R3, eq⟩
      have hsub : n.toNat - i = (n.toNat - (i + 1)) + 1 := by omega
      rw [hsub] at eq
      have rD : D ≠ r := fun q => R2.there (by rw [← q]; exact hD)
      have eq2 : takeN 0 2 n.toNat x1 = (((takeR 0 2 y).bind fun u => (takeN 0 2 (n.toNat - (i + 1)) u.2).map fun v => (u.1 :: v.1, v.2)).map fun v => (us ++ v.1, v.2)) := eq
      refine ⟨rfl, lc_yes ?_⟩
      refine rd_take T (ev_var rfl) ev_c (ev_op ev_c ev_c rv_I0) R3 (fun c H4 k4 => kE (by rw [eq2, show takeR 0 2 y = none from c]; rfl) H4 (ek ((k2.trans k3).trans k4))) fun q y2 c H4 k4 R4 => ?_
      have hD4 : H4 D = some (.lst (us.map V.int)) := k4 D _ hD3 fun q => rD (List.mem_singleton.mp q)
      refine ⟨us.map V.int, hD4, sz_lt (by rw [List.length_map]; omega), us ++ [q], y2, fun b o e nb => ?_, ?_, by rw [List.length_append, hl]; rfl, R2.updN hD R4, ?_⟩
      · rw [upd_ne (ne_of_none e hD)]
        exact (k3.trans k4) b o e nb
      · rw [upd_same, List.map_append]
        rfl
      · rw [eq2, show takeR 0 2 y = some (q, y2) from c]
        simp only [Option.bind_some]
        rw [Option.map_map]
        congr 1
        funext v
        show (us ++ (q :: v.1), v.2) = ((us ++ [q]) ++ v.1, v.2)
        rw [List.append_assoc]
        rfl
    · rintro H3 ⟨us, y, k3, hD3, hl, R3, eq⟩
      rw [Nat.sub_self] at eq
      have eq : takeN 0 2 n.toNat x1 = some (us ++ [], y) := eq
      rw [List.append_nil] at eq
      rw [eq] at kE kQ
      obtain ⟨dx3, j, q1, q2⟩ := id R3
      refine qd_meth (ev_var rfl) q1 (no_Reader_must_end ..) ea_nil fun H4 e4 => ⟨r, (a, ns), y, rfl, R3.mono e4, fun c2 H5 e5 => kE ?_ H5 (ek ((k2.trans k3).trans (kp (e4.trans e5)))), fun c2 H5 e5 => ?_⟩
      · cases y with
        | nil => exact absurd rfl c2
        | cons _ _ => rfl
      · subst c2
        refine s_ret (ev_var rfl) fun H6 e6 => kQ us rfl H6 D (ek ((k2.trans k3).trans (kp ((e4.trans e5).trans e6)))) ?_ (((e4.trans e5).trans e6) _ _ hD3)
        exact none_ex e1 (nbk k2 R2 hD)
end
end Pe
set_option Elab.async false
set_option linter.all false
set_option maxRecDepth 100000
set_option maxHeartbeats 2000000
/-! Rules with what is kept named ahead. -/
namespace Pe
open PySem PySem.Spec PyProof.Rows L2 VamacBase Evl
theorem pe_fldK {X : Cx} {K : PySem.W.Frag} {e : Expr} {f : Str} {ta : TE} {pos : Pos} (hK : X.K = K) (he : PE X e ta) (hb : attributeBase e f X.env (eval e X.env) = eval e X.env) : PE X (.Attribute e f pos) (tFld K ta f) := by
  subst hK
  exact pe_fld he hb
theorem room65 {k : Nat} {A : Around} (r : Room k A) : A.units + 65 < cLine := by have := r.un; omega
end Pe
set_option Elab.async false
set_option linter.all false
set_option maxRecDepth 100000
set_option maxHeartbeats 2000000
/-! Tables. -/
namespace Pe
open PySem PySem.Spec PyProof.Rows L2 VamacBase Evl
/-! ### pairs, by place -/
theorem paired_iff {α β : Type} {F : α → β → Prop} : ∀ {a : List α} {b : List β}, Paired F a b ↔ a.length = b.length ∧ ∀ (i : Nat) (x : α) (y : β), a[i]? = some x → b[i]? = some y → F x y
  | [], [] => ⟨fun _ => ⟨rfl, fun i x y h => by simp at h⟩, fun _ => .nil⟩
  | [], y :: b => ⟨fun h => (by cases h), fun h => (by cases h.1)⟩
  | x :: a, [] => ⟨fun h => (by cases h), fun h => (by cases h.1)⟩
  | x :: a, y :: b => ⟨fun h => by
      cases h with
      | cons r t =>
        obtain ⟨l, k⟩ := paired_iff.mp t
        refine ⟨by rw [List.length_cons, List.length_cons, l], fun i u v hu hv => ?_⟩
        cases i with
        | zero => simp at hu hv; subst hu hv; exact r
        | succ i => simp at hu hv; exact k i u v hu hv,
    fun ⟨l, k⟩ => .cons (k 0 x y rfl rfl) (paired_iff.mpr ⟨by simpa using l, fun i u v hu hv => k (i + 1) u v (by simpa using hu) (by simpa using hv)⟩)⟩
theorem paired_take {α β : Type} {F : α → β → Prop} : ∀ {a : List α} {b : List β} (n : Nat), Paired F a b → Paired F (a.take n) (b.take n)
  | _, _, _, .nil => by simp only [List.take_nil]; exact .nil
  | _, _, 0, .cons _ _ => .nil
  | _, _, n + 1, .cons r t => .cons r (paired_take n t)
theorem paired_drop {α β : Type} {F : α → β → Prop} : ∀ {a : List α} {b : List β} (n : Nat), Paired F a b → Paired F (a.drop n) (b.drop n)
  | _, _, _, .nil => by simp only [List.drop_nil]; exact .nil
  | _, _, 0, .cons r t => .cons r t
  | _, _, n + 1, .cons r t => paired_drop n t
theorem paired_erase {α β : Type} {F : α → β → Prop} : ∀ {a : List α} {b : List β} (n : Nat), Paired F a b → Paired F (a.eraseIdx n) (b.eraseIdx n)
  | _, _, _, .nil => by simp only [List.eraseIdx_nil]; exact .nil
  | _, _, 0, .cons r t => t
  | _, _, n + 1, .cons r t => .cons r (paired_erase n t)
theorem paired_get {α β : Type} {F : α → β → Prop} {a : List α} {b : List β} {i : Nat} {y : β} (h : Paired F a b) (e : b[i]? = some y) : ∃ x, a[i]? = some x ∧ F x y := by
  obtain ⟨l, k⟩ := paired_iff.mp h
  obtain ⟨hi, _⟩ := List.getElem?_eq_some_iff.mp e
  have hx : a[i]? = some a[i] := List.getElem?_eq_getElem (by omega)
  exact ⟨_, hx, k i _ _ hx e⟩
theorem erase_map {α β : Type} (f : α → β) : ∀ (l : List α) (i : Nat), (l.map f).eraseIdx i = (l.eraseIdx i).map f
  | [], _ => rfl
  | _ :: _, 0 => rfl
  | a :: l, i + 1 => by show f a :: (l.map f).eraseIdx i = f a :: (l.eraseIdx i).map f; rw [erase_map f l i]
/-! ### a table -/
section
variable {K : PySem.W.Frag} {mg : Str → Option Value} (T : Txt K mg)
structure TabRaw (B H : Hp) (t : Addr) (tb : Table) (dx ra : Addr) (rs : List Addr) : Prop where
  ins : H t = some (.ins T.c_Table dx (f_Table (.ref ra) (.int tb.at_) (.int tb.clip)))
  rows : H ra = some (.lst (rs.map V.ref))
  each : Paired (fun r xs => H r = some (.lst (xs.map V.int))) rs tb.rows
  nd : rs.Nodup
  ni : ra ∉ rs
  bt : B t = none
  ba : B ra = none
  br : ∀ r ∈ rs, B r = none
def TabAt (B H : Hp) (t : Addr) (tb : Table) : Prop := ∃ dx ra rs, TabRaw T B H t tb dx ra rs
variable {T}
theorem TabRaw.mono {B H H' : Hp} (e : Ex H H') {t : Addr} {tb : Table} {dx ra : Addr} {rs : List Addr} (h : TabRaw T B H t tb dx ra rs) : TabRaw T B H' t tb dx ra rs :=
  ⟨e _ _ h.ins, e _ _ h.rows, Paired.mapP h.each fun _ _ q => e _ _ q, h.nd, h.ni, h.bt, h.ba, h.br⟩
theorem TabAt.mono {B H H' : Hp} (e : Ex H H') {t : Addr} {tb : Table} (h : TabAt T B H t tb) : TabAt T B H' t tb := let ⟨dx, ra, rs, q⟩ := h; ⟨dx, ra, rs, q.mono e⟩
theorem TabAt.base {B B' H : Hp} {t : Addr} {tb : Table} (e : Ex B' B) (h : TabAt T B H t tb) : TabAt T B' H t tb :=
  let ⟨dx, ra, rs, q⟩ := h
  ⟨dx, ra, rs, q.ins, q.rows, q.each, q.nd, q.ni, fresh_back e q.bt, fresh_back e q.ba, fun r hr => fresh_back e (q.br r hr)⟩
theorem TabRaw.len {B H : Hp} {t : Addr} {tb : Table} {dx ra : Addr} {rs : List Addr} (h : TabRaw T B H t tb dx ra rs) : rs.length = tb.rows.length := Paired.length h.each
theorem TabRaw.row {B H : Hp} {t : Addr} {tb : Table} {dx ra : Addr} {rs : List Addr} (h : TabRaw T B H t tb dx ra rs) {i : Nat} (hi : i < tb.rows.length) : ∃ r xs, rs[i]? = some r ∧ tb.rows[i]? = some xs ∧ H r = some (.lst (xs.map V.int)) ∧ r ∈ rs ∧ (rs.map V.ref)[i]? = some (.ref r) := by
  have e : tb.rows[i]? = some tb.rows[i] := List.getElem?_eq_getElem hi
  obtain ⟨r, h1, h2⟩ := paired_get h.each e
  exact ⟨r, _, h1, e, h2, List.mem_of_getElem? h1, by rw [List.getElem?_map, h1]; rfl⟩
/-- the cursor moved, the clipboard written -/
theorem TabRaw.head {B H : Hp} {t : Addr} {tb : Table} {dx ra : Addr} {rs : List Addr} (h : TabRaw T B H t tb dx ra rs) (a : Nat) (c : Int) : TabRaw T B (L2.upd H t (.ins T.c_Table dx (f_Table (.ref ra) (.int a) (.int c)))) t { tb with at_ := a, clip := c } dx ra rs := by
  have ne : ∀ {b : Addr} {xs : List V}, H b = some (.lst xs) → b ≠ t := fun {b xs} e z => by rw [z, h.ins] at e; cases e
  exact ⟨upd_same, (upd_ne (ne h.rows)).trans h.rows, Paired.mapP h.each fun _ _ q => (upd_ne (ne q)).trans q, h.nd, h.ni, h.bt, h.ba, h.br⟩
theorem TabRaw.put {B H : Hp} {t : Addr} {tb : Table} {dx ra : Addr} {rs : List Addr} (h : TabRaw T B H t tb dx ra rs) {i : Nat} {r : Addr} (hr : rs[i]? = some r) (ys : List Int) : TabRaw T B (L2.upd H r (.lst (ys.map V.int))) t { tb with rows := tb.rows.set i ys } dx ra rs := by
  have hm : r ∈ rs := List.mem_of_getElem? hr
  obtain ⟨hi, hg⟩ := List.getElem?_eq_some_iff.mp hr
  obtain ⟨l, k⟩ := paired_iff.mp h.each
  obtain ⟨xs, q1, q2⟩ := paired_at h.each hr
  have tr : t ≠ r := fun z => by rw [← z, h.ins] at q2; cases q2
  have ar : ra ≠ r := fun z => h.ni (by rw [z]; exact hm)
  refine ⟨(upd_ne tr).trans h.ins, (upd_ne ar).trans h.rows, paired_iff.mpr ⟨by show rs.length = (tb.rows.set i ys).length; rw [List.length_set, l], fun j x y hx hy => ?_⟩, h.nd, h.ni, h.bt, h.ba, h.br⟩
  have hy : (tb.rows.set i ys)[j]? = some y := hy
  rw [List.getElem?_set] at hy
  by_cases c : i = j
  · subst c
    rw [if_pos rfl, if_pos (by omega)] at hy
    cases hy
    rw [hr] at hx
    cases hx
    exact upd_same
  · rw [if_neg c] at hy
    have xr : x ≠ r := fun z => by
      obtain ⟨hj, gj⟩ := List.getElem?_eq_some_iff.mp hx
      exact c ((List.getElem_inj h.nd).mp (by rw [hg, gj, z]))
    exact (upd_ne xr).trans (k j x y hx hy)
theorem TabRaw.erase {B H : Hp} {t : Addr} {tb : Table} {dx ra : Addr} {rs : List Addr} (h : TabRaw T B H t tb dx ra rs) (i : Nat) : TabRaw T B (L2.upd H ra (.lst ((rs.map V.ref).eraseIdx i))) t { tb with rows := tb.rows.eraseIdx i } dx ra (rs.eraseIdx i) := by
  have tr : t ≠ ra := fun z => by have q := h.ins; rw [z, h.rows] at q; cases q
  have sub : ∀ {x}, x ∈ rs.eraseIdx i → x ∈ rs := fun {x} hx => List.mem_of_mem_eraseIdx hx
  refine ⟨(upd_ne tr).trans h.ins, ?_, ?_, h.nd.sublist (List.eraseIdx_sublist ..), fun q => h.ni (sub q), h.bt, h.ba, fun r hr => h.br r (sub hr)⟩
  · rw [upd_same, erase_map]
  · have q := paired_erase i h.each
    obtain ⟨l, k⟩ := paired_iff.mp q
    refine paired_iff.mpr ⟨l, fun j x y hx hy => ?_⟩
    have xr : x ≠ ra := fun z => h.ni (by rw [← z]; exact sub (List.mem_of_getElem? hx))
    exact (upd_ne xr).trans (k j x y hx hy)
theorem TabRaw.ins1 {B H : Hp} {t : Addr} {tb : Table} {dx ra : Addr} {rs : List Addr} (h : TabRaw T B H t tb dx ra rs) {i : Nat} {p : Addr} {ys : List Int} (hp : H p = some (.lst (ys.map V.int))) (np : p ∉ rs) (pa : p ≠ ra) (bp : B p = none) :
    TabRaw T B (L2.upd H ra (.lst ((rs.map V.ref).take i ++ [.ref p] ++ (rs.map V.ref).drop i))) t { tb with rows := tb.rows.take i ++ [ys] ++ tb.rows.drop i } dx ra (rs.take i ++ [p] ++ rs.drop i) := by
  have tr : t ≠ ra := fun z => by have q := h.ins; rw [z, h.rows] at q; cases q
  have mem : ∀ {x}, x ∈ rs.take i ++ [p] ++ rs.drop i → x ∈ rs ∨ x = p := fun {x} hx => by
    rcases List.mem_append.mp hx with hx | hx
    · rcases List.mem_append.mp hx with hx | hx
      · exact .inl (List.mem_of_mem_take hx)
      · exact .inr (List.mem_singleton.mp hx)
    · exact .inl (List.mem_of_mem_drop hx)
  have F : Paired (fun r xs => H r = some (.lst (xs.map V.int))) (rs.take i ++ [p] ++ rs.drop i) (tb.rows.take i ++ [ys] ++ tb.rows.drop i) := paired_app (paired_app (paired_take i h.each) (.cons hp .nil)) (paired_drop i h.each)
  have ne : ra ∉ rs.take i ++ [p] ++ rs.drop i := fun q => by
    rcases mem q with q | q
    · exact h.ni q
    · exact pa q.symm
  refine ⟨(upd_ne tr).trans h.ins, ?_, ?_, ?_, ne, h.bt, h.ba, fun r hr => ?_⟩
  · rw [upd_same, List.map_append, List.map_append, List.map_take, List.map_drop]
    rfl
  · obtain ⟨l, k⟩ := paired_iff.mp F
    refine paired_iff.mpr ⟨l, fun j x y hx hy => ?_⟩
    have xr : x ≠ ra := fun z => ne (by rw [← z]; exact List.mem_of_getElem? hx)
    exact (upd_ne xr).trans (k j x y hx hy)
  · have hd := h.nd
    rw [← List.take_append_drop i rs] at hd
    rw [List.nodup_append] at hd
    obtain ⟨d1, d2, d3⟩ := hd
    rw [List.nodup_append]
    refine ⟨?_, d2, fun a ha b hb => ?_⟩
    · rw [List.nodup_append]
      refine ⟨d1, List.nodup_cons.mpr ⟨List.not_mem_nil, List.nodup_nil⟩, fun a ha b hb z => ?_⟩
      rw [List.mem_singleton.mp hb] at z
      exact np (by rw [← z]; exact List.mem_of_mem_take ha)
    · rcases List.mem_append.mp ha with ha | ha
      · exact d3 a ha b hb
      · intro z
        rw [List.mem_singleton.mp ha] at z
        exact np (by rw [z]; exact List.mem_of_mem_drop hb)
  · rcases mem hr with hr | rfl
    · exact h.br r hr
    · exact bp
theorem TabRaw.exT {B H : Hp} {t : Addr} {tb : Table} {dx ra : Addr} {rs : List Addr} (h : TabRaw T B H t tb dx ra rs) {o : HO} (e : Ex B H) : Ex B (L2.upd H t o) := Ex.mut e h.bt
end
end Pe
set_option Elab.async false
set_option linter.all false
set_option maxRecDepth 100000
set_option maxHeartbeats 2000000
/-! What is done on tables. -/
namespace Pe
open PySem PySem.Spec PyProof.Rows L2 VamacBase Evl
theorem int_nat (a b : Nat) : decide (V.int (a : Int) = V.int (b : Int)) = decide (a = b) := by
  by_cases c : a = b
  · rw [decide_eq_true c, c, decide_eq_true rfl]
  · rw [decide_eq_false c, decide_eq_false fun z => c (by injection z with z; omega)]
theorem int_eq (a b : Int) : decide (V.int a = V.int b) = decide (a = b) := by
  by_cases c : a = b
  · rw [decide_eq_true c, c, decide_eq_true rfl]
  · rw [decide_eq_false c, decide_eq_false fun z => c (by injection z with z)]
theorem ev_int {te : TE} {σ : L2.St} {H : Hp} {a b : Int} (h : Ev te σ H (.bl (decide (V.int a = V.int b)))) : Ev te σ H (.bl (decide (a = b))) := by
  rw [← int_eq]
  exact h
theorem withN_sort (v : Int) (d : Deed) : dSort (withNumber v d) = dSort d := by cases d <;> rfl
def frV : Option Nat → V
  | none => .non
  | some k => .int (k : Int)
section
variable {K : PySem.W.Frag} {σ : L2.St} {H : Hp} {D : Ends} {ta tb te : TE} {tz : TS}
def rInsertN : V → List V → Hp → VK → Prop := fun x vs H Q => ∃ (l : Addr) (xs : List V) (i : Int) (y : V), x = .ref l ∧ vs = [.int i, y] ∧ H l = some (.lst xs) ∧ xs.length < sizeLine ∧ 0 ≤ i ∧ i < 2 ^ 63 ∧
    Q .non (upd H l (.lst (xs.take i.toNat ++ [y] ++ xs.drop i.toNat)))
theorem q_insL {l : Addr} {xs ys : List V} {i : Nat} (hl : H l = some (.lst xs)) (ha : Ev ta σ H (.ref l)) (hi : Ev tb σ H (.int (i : Int))) (h : EvL te σ H ys) (hz : xs.length < 100000) (hz2 : i < 100000)
    (k : ∀ p H1, H p = none → Ex H H1 → H1 p = some (.lst ys) → tz D σ (upd H1 l (.lst (xs.take i ++ [.ref p] ++ xs.drop i)))) : tSeq (tDrop (tBM K "list" rInsertN ta (tCons tb (tCons te tNil)))) tz D σ H :=
  ha H (Ex.refl H) _ fun H1 e1 => ⟨Or.inl ⟨rfl, xs, sq_of (e1 l _ hl)⟩, hi H1 e1 _ fun H2 e2 => h H2 (e1.trans e2) _ fun p H3 hp e3 h3 =>
    ⟨l, xs, (i : Int), .ref p, rfl, rfl, ((e1.trans e2).trans e3) l _ hl, sz_lt hz, by omega, by omega, k p H3 (fresh_back (e1.trans e2) hp) ((e1.trans e2).trans e3) h3⟩⟩
theorem s_popAt {l : Addr} {xs : List V} {i : Nat} (hl : H l = some (.lst xs)) (ha : Ev ta σ H (.ref l)) (hi : Ev tb σ H (.int (i : Int))) (hz : i < xs.length) (hz2 : i < 100000)
    (k : ∀ H1, Ex H H1 → D.nx σ (upd H1 l (.lst (xs.eraseIdx i)))) : tDrop (tBM K "list" rPopAt ta (tCons tb tNil)) D σ H :=
  ha H (Ex.refl H) _ fun H1 e1 => ⟨Or.inl ⟨rfl, xs, sq_of (e1 l _ hl)⟩, hi H1 e1 _ fun H2 e2 =>
    ⟨l, xs, (i : Int), i, xs[i], rfl, rfl, (e1.trans e2) l _ hl, by omega, by omega, (ixN_seq (ixN_nat hz)).1, List.getElem?_eq_getElem hz, k H2 (e1.trans e2)⟩⟩
end
section
variable {P : Program} {w : World} {K : PySem.W.Frag} {mg : Str → Option Value} {base : Heap} (T : Txt K mg)
variable {T}
theorem e_rows {i : Nat} {σ : L2.St} {B H : Hp} {t : Addr} {tb : Table} {dx ra : Addr} {rs : List Addr} (R : TabRaw T B H t tb dx ra rs) (h : σ[i]? = some (some (.ref t))) : Ev (tFld K (tVar i) "rows") σ H (.ref ra) := ev_fld (ev_var h) R.ins T.cl_Table T.n_Table_rows (l_Table_rows ..)
theorem e_cur {i : Nat} {σ : L2.St} {B H : Hp} {t : Addr} {tb : Table} {dx ra : Addr} {rs : List Addr} (R : TabRaw T B H t tb dx ra rs) (h : σ[i]? = some (some (.ref t))) : Ev (tFld K (tVar i) "cursor") σ H (.int tb.at_) := ev_fld (ev_var h) R.ins T.cl_Table T.n_Table_cursor (l_Table_cursor ..)
theorem e_clip {i : Nat} {σ : L2.St} {B H : Hp} {t : Addr} {tb : Table} {dx ra : Addr} {rs : List Addr} (R : TabRaw T B H t tb dx ra rs) (h : σ[i]? = some (some (.ref t))) : Ev (tFld K (tVar i) "clipboard") σ H (.int tb.clip) := ev_fld (ev_var h) R.ins T.cl_Table T.n_Table_clipboard (l_Table_clipboard ..)
theorem e_len {te : TE} {σ : L2.St} {B H : Hp} {t : Addr} {tb : Table} {dx ra : Addr} {rs : List Addr} (R : TabRaw T B H t tb dx ra rs) (h : Ev te σ H (.ref ra)) : Ev (tCB (rLenS K) (tCons te tNil)) σ H (.int ((tb.rows.length : Nat) : Int)) := ev_is (ev_len h (sq_of R.rows)) (by rw [List.length_map, R.len])
variable (T)
def spHere : Sp := fun vs H Q E => ∃ (B : Hp) (t : Addr) (tb : Table) (dx ra : Addr) (rs : List Addr) (r : Addr), vs = [.ref t] ∧ TabRaw T B H t tb dx ra rs ∧ rs[tb.at_]? = some r ∧ ∀ H', Ex H H' → Q (.ref r) H'
theorem ok_here : FnOk P w K mg base CX0 1 T.f_Table_here T.d_Table_here P_Table_here (spHere T) := by
  refine T.F_Table_here.ok sc_Table_here (fun vs H Q E h => ?_) (fun cdv A outer s H vs Q E hr h => ⟨_, ((pss_one (ps_ret (pe_ix ix_list (pe_fld (pv 0) rfl) (pe_fld (pv 0) rfl) (fun _ _ => rfl))))), ?_⟩)
  · obtain ⟨B, t, tb, dx, ra, rs, r, rfl, _⟩ := h
    rfl
  · obtain ⟨B, t, tb, dx, ra, rs, r, rfl, R, hr, k⟩ := h
    exact s_ret (ev_op (e_rows R rfl) (e_cur R rfl) (rv_ixL (sq_of R.rows) (atI_nat (by rw [List.getElem?_map, hr]; rfl)))) fun H1 e1 => k H1 e1
def spBehind : Sp := fun vs H Q E => ∃ (B : Hp) (t : Addr) (tb : Table), vs = [.ref t] ∧ TabAt T B H t tb ∧ TabOk tb ∧ ∀ H', Ex H H' → Q (.bl (isEnd tb)) H'
theorem ok_behind : FnOk P w K mg base CX0 1 T.f_Table_is_behind T.d_Table_is_behind P_Table_is_behind (spBehind T) := by
  refine T.F_Table_is_behind.ok sc_Table_is_behind (fun vs H Q E h => ?_) (fun cdv A outer s H vs Q E hr h => ⟨_, ((pss_one (ps_ret (pe_cmpR op_eq (pe_fld (pv 0) rfl) (pe_callB call_len_seq (by rfl) T.b_len PySem.boot_len (pa_cons (pe_fld (pv 0) rfl) pa_nil)) (nomark _))))), ?_⟩)
  · obtain ⟨B, t, tb, rfl, _⟩ := h
    rfl
  · obtain ⟨B, t, tb, rfl, ⟨dx, ra, rs, R⟩, ok, k⟩ := h
    refine s_ret (ev_is (ev_op (e_cur R rfl) (e_len R (e_rows R rfl)) (rv_eq rfl)) ?_) fun H1 e1 => k H1 e1
    rw [int_nat, isEnd_eq ok]
variable {T}
theorem ev_behind {te : TE} {σ : L2.St} {B H : Hp} {E : XK} {t : Addr} {tb : Table} (h : TabAt T B H t tb) (ok : TabOk tb) (hv : Ev te σ H (.ref t)) : Ev (tMeth T.c_Table "is_behind" (spBehind T) [] E te tNil) σ H (.bl (isEnd tb)) :=
  let ⟨dx, ra, rs, R⟩ := h
  ev_meth hv R.ins (no_Table_is_behind ..) ea_nil fun H1 e1 Q q E => ⟨B, t, tb, rfl, ⟨dx, ra, rs, R.mono e1⟩, ok, fun H2 e2 => q H2 e2⟩
theorem ev_here {te : TE} {σ : L2.St} {B H : Hp} {E : XK} {t : Addr} {tb : Table} {dx ra : Addr} {rs : List Addr} {r : Addr} (R : TabRaw T B H t tb dx ra rs) (hr : rs[tb.at_]? = some r) (hv : Ev te σ H (.ref t)) : Ev (tMeth T.c_Table "here" (spHere T) [] E te tNil) σ H (.ref r) :=
  ev_meth hv R.ins (no_Table_here ..) ea_nil fun H1 e1 Q q E => ⟨B, t, tb, dx, ra, rs, r, rfl, R.mono e1, hr, fun H2 e2 => q H2 e2⟩
variable (T)
def spFound : Sp := fun vs H Q E => ∃ (B : Hp) (t : Addr) (tb : Table) (f : Nat) (v : Int), vs = [.ref t, .int f, .int v] ∧ TabAt T B H t tb ∧ TabOk tb ∧ f ≤ 2 ∧ ∀ H', Ex H H' → Q (frV (fr tb f v)) H'
theorem ok_found : FnOk P w K mg base CX0 1 T.f_Table_found_row T.d_Table_found_row P_Table_found_row (spFound T) := by
  refine T.F_Table_found_row.ok sc_Table_found_row (fun vs H Q E h => ?_) (fun cdv A outer s H vs Q E hr h => ⟨_, ((pss_cons (ps_for PassesOwn.never rfl (pi_range2 (by rfl) T.b_range (pa_cons (pe_op op_add (pe_fld (pv 0) rfl) pe_int) (pa_cons (pe_callB call_len_seq (by rfl) T.b_len PySem.boot_len (pa_cons (pe_fld (pv 0) rfl) pa_nil)) pa_nil))) (pg_name (i := 3) sc_Table_found_row.nd rfl (Or.inl rfl)) (pss_one (ps_if (pt_cmpR op_eq (pe_ix ix_list (pe_ix ix_list (pe_fld (pv 0) rfl) (pv 3) (fun _ _ => rfl)) (pv 1) (fun _ _ => rfl)) (pv 2) (nomark _)) (pss_one (ps_ret (pv 3))) pss_nil))) (pss_one (ps_ret pe_non)))), ?_⟩)
  · obtain ⟨B, t, tb, f, v, rfl, _⟩ := h
    rfl
  · obtain ⟨B, t, tb, f, v, rfl, ⟨dx, ra, rs, R⟩, ok, hf, k⟩ := h
    have m := ok.many
    have cu := ok.cur
    refine q_forR2 (lo := (tb.at_ : Int) + 1) (n := (tb.rows.length : Int)) (ea_cons (ev_op (e_cur R rfl) ev_c rv_I0) (ea_cons (e_len R (e_rows R rfl)) ea_nil)) ⟨by omega, by omega, by omega, by omega⟩
      (fun i σ' H' => ∃ v', σ' = [some (.ref t), some (.int f), some (.int v), v'] ∧ Ex H H' ∧ ∀ j, tb.at_ < j → j < tb.at_ + 1 + i → hit tb f v j = false) (fun H1 e1 => ⟨none, rfl, e1, fun j a b => by omega⟩) ?_ ?_
    · rintro i σ' H' hi ⟨v', rfl, e, hno⟩
      have eI : (tb.at_ : Int) + 1 + (i : Int) = ((tb.at_ + 1 + i : Nat) : Int) := by omega
      rw [eI]
      have hk : tb.at_ + 1 + i < tb.rows.length := by omega
      generalize hkk : tb.at_ + 1 + i = kk at hk hno
      have R' := R.mono e
      obtain ⟨r, xs, h1, h2, h3, h4, h5⟩ := R'.row hk
      obtain ⟨z, hz⟩ := three_get (ok.three _ (List.mem_of_getElem? h2)) hf
      have hh : hit tb f v kk = decide (z = v) := by
        unfold hit
        rw [h2]
        show (xs[f]? == some v) = _
        rw [hz]
        by_cases c : z = v
        · rw [decide_eq_true c, c]; exact beq_self_eq_true _
        · rw [decide_eq_false c]; exact beq_eq_false_iff_ne.mpr fun q => c (Option.some.inj q)
      refine s_when (b := decide (z = v)) (et_test (ev_int (ev_op (ev_op (ev_op (e_rows R' rfl) (ev_var rfl) (rv_ixL (sq_of R'.rows) (atI_nat h5))) (ev_var rfl) (rv_ixL (sq_of h3) (atI_nat (by rw [List.getElem?_map, hz]; rfl)))) (ev_var rfl) (rv_eq rfl)))) (fun hb H1 e1 => ?_) (fun hb H1 e1 => ?_)
      · refine s_ret (ev_var rfl) fun H2 e2 => ?_
        have q := k H2 ((e.trans e1).trans e2)
        rw [fr_at (by omega) hk (by rw [hh]; exact hb) hno] at q
        exact q
      · refine ⟨_, rfl, e.trans e1, fun j a b => ?_⟩
        by_cases c : j < kk
        · exact hno j a c
        · have : j = kk := by omega
          rw [this, hh]
          exact hb
    · rintro σ' H' ⟨v', rfl, e, hno⟩
      refine s_ret ev_c fun H2 e2 => ?_
      have q := k H2 (e.trans e2)
      rw [fr_none fun j a b => hno j a (by omega)] at q
      exact q
/-- what a fault and a table behind it are for -/
def Aft (B : Hp) (t : Addr) (r : Int × Table) (Q : VK) : Prop := ∀ H', Ex B H' → TabAt T B H' t r.2 → Q (.int r.1) H'
def spPut : Sp := fun vs H Q E => ∃ (B : Hp) (t : Addr) (tb : Table) (f : Nat) (v : Int), vs = [.ref t, .int f, .int v] ∧ Ex B H ∧ TabAt T B H t tb ∧ TabOk tb ∧ isEnd tb = false ∧ f ≤ 2 ∧ Aft T B t (resT tb (written tb f v)) Q
theorem ok_put (G_Table_here : FnOk P w K mg base CX0 1 T.f_Table_here T.d_Table_here P_Table_here (spHere T)) : FnOk P w K mg base CX0 2 T.f_Table_put T.d_Table_put P_Table_put (spPut T) := by
  refine T.F_Table_put.ok sc_Table_put (fun vs H Q E h => ?_) (fun cdv A outer s H vs Q E hr h => ⟨_, ((pss_cons (ps_if (pt_not (pt_chain op_le op_le (pe_un un_neg (pe_glob (v := .int (999)) rfl T.k_GREATEST ⟨_, rfl⟩)) (pv 2) (pe_glob (v := .int (999)) rfl T.k_GREATEST ⟨_, rfl⟩))) (pss_one (ps_ret (pe_glob (v := .int (3)) rfl T.k_BEYOND ⟨_, rfl⟩))) pss_nil) (pss_cons (ps_set (i := 3) sc_Table_put.nd rfl (Or.inl rfl) (pe_meth0 (pv 0) T.cl_Table T.m_Table_here G_Table_here (hr.mono (by omega)) (b_Table_here T) .nil pass0)) (pss_cons (ps_asg (pv 2) (pg_sub (pv 3) (pv 1) set_list)) (pss_one (ps_ret (pe_glob (v := .int (0)) rfl T.k_WELL ⟨_, rfl⟩))))))), ?_⟩)
  · obtain ⟨B, t, tb, f, v, rfl, _⟩ := h
    rfl
  · obtain ⟨B, t, tb, f, v, rfl, eB, ⟨dx, ra, rs, R⟩, ok, he, hf, k⟩ := h
    have hlt := isEnd_lt he
    have w1 : written tb f v = if okValue v then .ok (setHere tb f v) else .error .great := by unfold written; rw [he]; rfl
    refine q_when (b := !okValue v) (et_not (et_test (ev_is (ev_chain (ev_un ev_c ru_neg) (ev_var rfl) ev_c) rfl))) (fun hb H1 e1 => ?_) (fun hb H1 e1 => ?_)
    · have hb : okValue v = false := by simpa using hb
      rw [w1, hb] at k
      exact s_ret ev_c fun H2 e2 => k H2 (eB.trans (e1.trans e2)) ⟨dx, ra, rs, R.mono (e1.trans e2)⟩
    · have hb : okValue v = true := by simpa using hb
      rw [w1, hb] at k
      obtain ⟨r, xs, h1, h2, h3, h4, h5⟩ := R.row hlt
      have hl := ok.three _ (List.mem_of_getElem? h2)
      refine q_asg (ev_here (R.mono e1) h1 (ev_var rfl)) fun H2 e2 => ?_
      refine q_setL (xs := xs.map V.int) ((e1.trans e2) _ _ h3) (ev_var rfl) (ev_var rfl) (ev_var rfl) (by rw [List.length_map]; omega) fun H3 e3 => ?_
      have e13 := (e1.trans e2).trans e3
      refine s_ret ev_c fun H4 e4 => k H4 ((Ex.mut (eB.trans e13) (R.br r h4)).trans e4) ⟨dx, ra, rs, ?_⟩
      have q := ((R.mono e13).put h1 (xs.set f v)).mono (show Ex _ H4 from by
        rw [List.map_set]
        exact e4)
      have es : setHere tb f v = { tb with rows := tb.rows.set tb.at_ (xs.set f v) } := by unfold setHere; rw [h2]
      show TabRaw T B H4 t (setHere tb f v) dx ra rs
      rw [es]
      exact q
def spDouble : Sp := fun vs H Q E => ∃ (B : Hp) (t : Addr) (tb : Table), vs = [.ref t] ∧ Ex B H ∧ TabAt T B H t tb ∧ TabOk tb ∧ isEnd tb = false ∧ Aft T B t (resT tb (doneBy tb .double)) Q
theorem ok_double (G_Table_here : FnOk P w K mg base CX0 1 T.f_Table_here T.d_Table_here P_Table_here (spHere T)) : FnOk P w K mg base CX0 2 T.f_Table_double T.d_Table_double P_Table_double (spDouble T) := by
  refine T.F_Table_double.ok sc_Table_double (fun vs H Q E h => ?_) (fun cdv A outer s H vs Q E hr h => ⟨_, ((pss_cons (ps_if (pt_cmpR op_eq (pe_callB call_len_seq (by rfl) T.b_len PySem.boot_len (pa_cons (pe_fld (pv 0) rfl) pa_nil)) (pe_glob (v := .int (8)) rfl T.k_MOST_ROWS ⟨_, rfl⟩) (nomark _)) (pss_one (ps_ret (pe_glob (v := .int (4)) rfl T.k_FULL ⟨_, rfl⟩))) pss_nil) (pss_cons (ps_expr (pe_bm PySem.F.plainAttrs_list PySem.F.slot_list_insert PySem.F.type_list_insert mt_insert (pe_fld (pv 0) rfl) (pa_cons (pe_fld (pv 0) rfl) (pa_cons (pe_callTy call_list_of (by rfl) T.b_list (by decide +kernel) (pa_cons (pe_meth0 (pv 0) T.cl_Table T.m_Table_here G_Table_here (hr.mono (by omega)) (b_Table_here T) .nil pass0) pa_nil)) pa_nil)))) (pss_one (ps_ret (pe_glob (v := .int (0)) rfl T.k_WELL ⟨_, rfl⟩)))))), ?_⟩)
  · obtain ⟨B, t, tb, rfl, _⟩ := h
    rfl
  · obtain ⟨B, t, tb, rfl, eB, ⟨dx, ra, rs, R⟩, ok, he, k⟩ := h
    have hlt := isEnd_lt he
    have m := ok.many
    have w1 : doneBy tb .double = if 8 ≤ tb.rows.length then .error .full else .ok { tb with rows := tb.rows.take (tb.at_ + 1) ++ tb.rows.drop tb.at_ } := by
      show (if isEnd tb = true then _ else _) = _
      rw [he]
      rfl
    refine q_when (b := decide (tb.rows.length = 8)) (et_test (ev_is (ev_op (e_len R (e_rows R rfl)) ev_c (rv_eq rfl)) (congrArg V.bl (int_nat _ 8)))) (fun hb H1 e1 => ?_) (fun hb H1 e1 => ?_)
    · have hb := of_decide_eq_true hb
      rw [w1, if_pos (by omega)] at k
      exact s_ret ev_c fun H2 e2 => k H2 (eB.trans (e1.trans e2)) ⟨dx, ra, rs, R.mono (e1.trans e2)⟩
    · have hb := of_decide_eq_false hb
      rw [w1, if_neg (by omega)] at k
      obtain ⟨r, xs, h1, h2, h3, h4, h5⟩ := R.row hlt
      have R1 := R.mono e1
      refine q_insL (i := tb.at_) R1.rows (e_rows R1 rfl) (e_cur R1 rfl) (el_list (ev_here R1 h1 (ev_var rfl)) (sq_of (e1 _ _ h3))) (by rw [List.length_map, R.len]; omega) (by omega) fun p H4 hp e4 h6 => ?_
      have R4 := R1.mono e4
      have e14 := e1.trans e4
      have np : p ∉ rs := fun z => by
        obtain ⟨i, hi, q⟩ := List.getElem_of_mem z
        obtain ⟨xs, _, q2⟩ := paired_at R1.each (show rs[i]? = some p by rw [List.getElem?_eq_getElem hi, q])
        rw [hp] at q2
        cases q2
      have pa : p ≠ ra := fun z => by
        have q := R1.rows
        rw [← z, hp] at q
        cases q
      have bp : B p = none := fresh_back (eB.trans e1) hp
      refine s_ret ev_c fun H5 e5 => k H5 ((Ex.mut (eB.trans e14) R.ba).trans e5) ⟨dx, ra, rs.take tb.at_ ++ [p] ++ rs.drop tb.at_, ?_⟩
      have q := (R4.ins1 (i := tb.at_) h6 np pa bp).mono e5
      rw [← double_rows h2] at q
      exact q
end
end Pe
set_option Elab.async false
set_option linter.all false
set_option maxRecDepth 100000
set_option maxHeartbeats 2000000
/-! Deeds done on tables. -/
namespace Pe
open PySem PySem.Spec PyProof.Rows L2 VamacBase Evl
section
variable {P : Program} {w : World} {K : PySem.W.Frag} {mg : Str → Option Value} {base : Heap} (T : Txt K mg)
variable {T}
theorem fault0 {f : Fault} {t tb : Table} (h : resT t (.error f) = (0, tb)) : False := by cases f <;> cases h
theorem e_sort {i : Nat} {σ : L2.St} {H : Hp} {da : Addr} {d : Deed} {s : Int} {dd : Addr} (h : H da = some (.ins T.c_Deed dd (f_Deed (.int (dSort d)) (.int (dField d : Int)) (.int (numberOf d)) (.int s)))) (hv : σ[i]? = some (some (.ref da))) :
    Ev (tFld K (tVar i) "sort_of") σ H (.int (dSort d)) := ev_fld (ev_var hv) h T.cl_Deed T.n_Deed_sort_of (l_Deed_sort_of ..)
theorem e_field {i : Nat} {σ : L2.St} {H : Hp} {da : Addr} {d : Deed} {s : Int} {dd : Addr} (h : H da = some (.ins T.c_Deed dd (f_Deed (.int (dSort d)) (.int (dField d : Int)) (.int (numberOf d)) (.int s)))) (hv : σ[i]? = some (some (.ref da))) :
    Ev (tFld K (tVar i) "field") σ H (.int (dField d : Int)) := ev_fld (ev_var hv) h T.cl_Deed T.n_Deed_field (l_Deed_field ..)
/-- whether a deed is of a sort -/
theorem et_sort {te : TE} {σ : L2.St} {H : Hp} {d : Deed} {c : Int} (h : Ev te σ H (.int (dSort d))) : EvT (tTest (tOp rEq te (tC (.int c)))) σ H (decide (dSort d = c)) := et_test (ev_int (ev_op h ev_c (rv_eq rfl)))
variable (T)
def moves (tb : Table) (d : Deed) : Bool := match d with
  | .top => true
  | .up => true
  | .find _ _ => true
  | .down => !isEnd tb
  | _ => false
def spMove : Sp := fun vs H Q E => ∃ (B : Hp) (t da : Addr) (tb : Table) (d : Deed) (s v : Int), vs = [.ref t, .ref da, .int v] ∧ Ex B H ∧ DeedAt T B da (rawOf d s) ∧ TabAt T B H t tb ∧ TabOk tb ∧ dField d ≤ 2 ∧ moves tb d = true ∧ Aft T B t (resT tb (doneBy tb (withNumber v d))) Q
theorem ok_move (G_Table_found_row : FnOk P w K mg base CX0 1 T.f_Table_found_row T.d_Table_found_row P_Table_found_row (spFound T)) : FnOk P w K mg base CX0 2 T.f_Table_move T.d_Table_move P_Table_move (spMove T) := by
  refine T.F_Table_move.ok sc_Table_move (fun vs H Q E h => ?_) (fun cdv A outer s H vs Q E hr h => ⟨_, ((pss_cut (ps_if (pt_cmpR op_eq (pe_fld (pv 1) rfl) (pe_glob (v := .int (2)) rfl T.k_TOP ⟨_, rfl⟩) (nomark _)) (pss_one (ps_fld (pv 0) pe_int rfl)) (pss_one (ps_if (pt_cmpR op_eq (pe_fld (pv 1) rfl) (pe_glob (v := .int (1)) rfl T.k_UP ⟨_, rfl⟩) (nomark _)) (pss_cons (ps_if (pt_cmpR op_eq (pe_fld (pv 0) rfl) pe_int (nomark _)) (pss_one (ps_ret (pe_glob (v := .int (2)) rfl T.k_AT_TOP ⟨_, rfl⟩))) pss_nil) (pss_one (ps_fldaug (pv 0) pe_int in_sub))) (pss_one (ps_if (pt_cmpR op_eq (pe_fld (pv 1) rfl) (pe_glob (v := .int (9)) rfl T.k_FIND ⟨_, rfl⟩) (nomark _)) (pss_cons (ps_set (i := 3) sc_Table_move.nd rfl (Or.inl rfl) (pe_meth (pv 0) T.cl_Table T.m_Table_found_row G_Table_found_row (hr.mono (by omega)) (b_Table_found_row T) .nil pass0 (pa_cons (pe_fld (pv 1) rfl) (pa_cons (pv 2) pa_nil)))) (pss_cons (ps_if (pt_cmpR op_isN (pv 3) pe_non (nomark _)) (pss_one (ps_ret (pe_glob (v := .int (5)) rfl T.k_NOT_FOUND ⟨_, rfl⟩))) pss_nil) (pss_one (ps_fld (pv 0) (pv 3) rfl)))) (pss_one (ps_fldaug (pv 0) pe_int in_add))))))) (pss_one (ps_ret (pe_glob (v := .int (0)) rfl T.k_WELL ⟨_, rfl⟩))))), ?_⟩)
  · obtain ⟨B, t, da, tb, d, s, v, rfl, _⟩ := h
    rfl
  · obtain ⟨B, t, da, tb, d, s, v, rfl, eB, ⟨dd, hd⟩, ⟨dx, ra, rs, R⟩, ok, hf, hm, k⟩ := h
    have hd := eB _ _ hd
    have m := ok.many
    have cu := ok.cur
    refine q_cut (M := fun σ' H' => ∃ tb', Ex B H' ∧ TabAt T B H' t tb' ∧ resT tb (doneBy tb (withNumber v d)) = (0, tb')) ?_ ?_
    · refine s_if (et_sort (c := 2) (e_sort hd rfl)) (fun hb H1 e1 => ?_) (fun hb H1 e1 => ?_)
      · cases sort_top (of_decide_eq_true hb)
        refine s_fld ev_c (ev_var rfl) (e1 _ _ R.ins) T.cl_Table T.n_Table_cursor (by show 3 < 1000; decide) fun H2 e2 => ?_
        rw [p_Table_cursor]
        exact ⟨_, Ex.mut (eB.trans (e1.trans e2)) R.bt, ⟨dx, ra, rs, (R.mono (e1.trans e2)).head 0 tb.clip⟩, rfl⟩
      · refine s_if (et_sort (c := 1) (e_sort (e1 _ _ hd) rfl)) (fun hb2 H2 e2 => ?_) (fun hb2 H2 e2 => ?_)
        · cases sort_up (of_decide_eq_true hb2)
          have e12 := e1.trans e2
          have w1 : doneBy tb (withNumber v .up) = if tb.at_ = 0 then .error .first else .ok { tb with at_ := tb.at_ - 1 } := rfl
          refine q_when (b := decide (tb.at_ = 0)) (et_test (ev_is (ev_op (e_cur (R.mono e12) rfl) ev_c (rv_eq rfl)) (congrArg V.bl (int_nat _ 0)))) (fun hc H3 e3 => ?_) (fun hc H3 e3 => ?_)
          · rw [w1, if_pos (of_decide_eq_true hc)] at k
            exact s_ret ev_c fun H4 e4 => k H4 (eB.trans ((e12.trans e3).trans e4)) ⟨dx, ra, rs, R.mono ((e12.trans e3).trans e4)⟩
          · have hc := of_decide_eq_false hc
            rw [w1, if_neg hc]
            refine s_fldaug (i := (tb.at_ : Int)) (j := 1) (z := ((tb.at_ - 1 : Nat) : Int)) (fun H Q q => ⟨_, _, rfl, rfl, ?_⟩) ev_c (ev_var rfl) ((e12.trans e3) _ _ R.ins) T.cl_Table T.n_Table_cursor (l_Table_cursor ..) (by show 3 < 1000; decide) fun H4 e4 => ?_
            · rw [show ((tb.at_ : Int) - 1) = ((tb.at_ - 1 : Nat) : Int) by omega]
              exact q
            · rw [p_Table_cursor]
              exact ⟨_, Ex.mut (eB.trans ((e12.trans e3).trans e4)) R.bt, ⟨dx, ra, rs, (R.mono ((e12.trans e3).trans e4)).head (tb.at_ - 1) tb.clip⟩, rfl⟩
        · refine s_if (et_sort (c := 9) (e_sort ((e1.trans e2) _ _ hd) rfl)) (fun hb3 H3 e3 => ?_) (fun hb3 H3 e3 => ?_)
          · have e13 := (e1.trans e2).trans e3
            obtain ⟨f, z, rfl⟩ := sort_find (of_decide_eq_true hb3)
            have w1 : doneBy tb (withNumber v (.find f z)) = match fr tb f v with | none => .error .missing | some i => .ok { tb with at_ := i } := rfl
            have R3 := R.mono e13
            refine qa_meth (ev_var rfl) R3.ins (no_Table_found_row ..) (ea_cons (e_field (d := .find f z) (e13 _ _ hd) rfl) (ea_cons (ev_var rfl) ea_nil)) fun H4 e4 => ⟨B, t, tb, f, v, rfl, ⟨dx, ra, rs, R3.mono e4⟩, ok, hf, fun H5 e5 => ?_⟩
            have e15 := (e13.trans e4).trans e5
            refine q_when (b := decide (frV (fr tb f v) = .non)) (et_test (ev_isN (ev_var rfl))) (fun hc H6 e6 => ?_) (fun hc H6 e6 => ?_)
            · have hn : fr tb f v = none := by
                cases e : fr tb f v with
                | none => rfl
                | some i => rw [e] at hc; exact absurd (of_decide_eq_true hc) (fun q => nomatch q)
              rw [w1, hn] at k
              exact s_ret ev_c fun H7 e7 => k H7 (eB.trans ((e15.trans e6).trans e7)) ⟨dx, ra, rs, R.mono ((e15.trans e6).trans e7)⟩
            · cases e : fr tb f v with
              | none => rw [e] at hc; exact absurd rfl (of_decide_eq_false hc)
              | some i =>
                rw [w1, e]
                refine s_fld (ev_var rfl) (ev_var rfl) ((e15.trans e6) _ _ R.ins) T.cl_Table T.n_Table_cursor (by show 3 < 1000; decide) fun H7 e7 => ?_
                rw [p_Table_cursor]
                exact ⟨_, Ex.mut (eB.trans ((e15.trans e6).trans e7)) R.bt, ⟨dx, ra, rs, (R.mono ((e15.trans e6).trans e7)).head i tb.clip⟩, rfl⟩
          · have e13 := (e1.trans e2).trans e3
            have hdn : d = .down := by
              cases d <;> first | rfl | (exact absurd rfl (of_decide_eq_false hb)) | (exact absurd rfl (of_decide_eq_false hb2)) | (exact absurd rfl (of_decide_eq_false hb3)) | (exact absurd hm Bool.false_ne_true)
            subst hdn
            have hm : isEnd tb = false := by simpa [moves] using hm
            have w1 : doneBy tb (withNumber v .down) = if isEnd tb = true then .error .norow else .ok { tb with at_ := tb.at_ + 1 } := rfl
            rw [w1, if_neg (by rw [hm]; exact Bool.false_ne_true)]
            refine s_fldaug (i := (tb.at_ : Int)) (j := 1) (z := ((tb.at_ + 1 : Nat) : Int)) (fun H Q q => ⟨_, _, rfl, rfl, q⟩) ev_c (ev_var rfl) (e13 _ _ R.ins) T.cl_Table T.n_Table_cursor (l_Table_cursor ..) (by show 3 < 1000; decide) fun H4 e4 => ?_
            rw [p_Table_cursor]
            exact ⟨_, Ex.mut (eB.trans (e13.trans e4)) R.bt, ⟨dx, ra, rs, (R.mono (e13.trans e4)).head (tb.at_ + 1) tb.clip⟩, rfl⟩
    · rintro σ' H1 ⟨tb', e1, h1, eq⟩
      rw [eq] at k
      exact s_ret ev_c fun H2 e2 => k H2 (e1.trans e2) (h1.mono e2)

def spDo : Sp := fun vs H Q E => ∃ (B : Hp) (t da : Addr) (tb : Table) (d : Deed) (s v : Int), vs = [.ref t, .ref da, .int v] ∧ Ex B H ∧ DeedAt T B da (rawOf d s) ∧ TabAt T B H t tb ∧ TabOk tb ∧ dField d ≤ 2 ∧ Aft T B t (resT tb (doneBy tb (withNumber v d))) Q
theorem ok_do (G_Table_move : FnOk P w K mg base CX0 2 T.f_Table_move T.d_Table_move P_Table_move (spMove T)) (G_Table_is_behind : FnOk P w K mg base CX0 1 T.f_Table_is_behind T.d_Table_is_behind P_Table_is_behind (spBehind T)) (G_Table_put : FnOk P w K mg base CX0 2 T.f_Table_put T.d_Table_put P_Table_put (spPut T))
    (G_Table_double : FnOk P w K mg base CX0 2 T.f_Table_double T.d_Table_double P_Table_double (spDouble T)) (G_Table_here : FnOk P w K mg base CX0 1 T.f_Table_here T.d_Table_here P_Table_here (spHere T)) : FnOk P w K mg base CX0 3 T.f_Table_do T.d_Table_do P_Table_do (spDo T) := by
  refine T.F_Table_do.ok sc_Table_do (fun vs H Q E h => ?_) (fun cdv A outer s H vs Q E hr h => ⟨_, ((pss_cons (ps_if (pt_cmpR op_in_seq (pe_fld (pv 1) rfl) (pe_tup (pa_cons (pe_glob (v := .int (2)) rfl T.k_TOP ⟨_, rfl⟩) (pa_cons (pe_glob (v := .int (1)) rfl T.k_UP ⟨_, rfl⟩) (pa_cons (pe_glob (v := .int (9)) rfl T.k_FIND ⟨_, rfl⟩) pa_nil)))) (by rfl)) (pss_one (ps_ret (pe_meth (pv 0) T.cl_Table T.m_Table_move G_Table_move (hr.mono (by omega)) (b_Table_move T) .nil pass0 (pa_cons (pv 1) (pa_cons (pv 2) pa_nil))))) pss_nil) (pss_cons (ps_if (pt_val (pe_meth0 (pv 0) T.cl_Table T.m_Table_is_behind G_Table_is_behind (hr.mono (by omega)) (b_Table_is_behind T) .nil pass0)) (pss_one (ps_ret (pe_glob (v := .int (1)) rfl T.k_NO_ROW ⟨_, rfl⟩))) pss_nil) (pss_cons (ps_if (pt_cmpR op_eq (pe_fld (pv 1) rfl) (pe_glob (v := .int (0)) rfl T.k_DOWN ⟨_, rfl⟩) (nomark _)) (pss_one (ps_ret (pe_meth (pv 0) T.cl_Table T.m_Table_move G_Table_move (hr.mono (by omega)) (b_Table_move T) .nil pass0 (pa_cons (pv 1) (pa_cons (pv 2) pa_nil))))) pss_nil) (pss_cons (ps_if (pt_cmpR op_eq (pe_fld (pv 1) rfl) (pe_glob (v := .int (3)) rfl T.k_WRITE ⟨_, rfl⟩) (nomark _)) (pss_one (ps_ret (pe_meth (pv 0) T.cl_Table T.m_Table_put G_Table_put (hr.mono (by omega)) (b_Table_put T) .nil pass0 (pa_cons (pe_fld (pv 1) rfl) (pa_cons (pv 2) pa_nil))))) pss_nil) (pss_cons (ps_if (pt_cmpR op_eq (pe_fld (pv 1) rfl) (pe_glob (v := .int (4)) rfl T.k_ADD ⟨_, rfl⟩) (nomark _)) (pss_one (ps_ret (pe_meth (pv 0) T.cl_Table T.m_Table_put G_Table_put (hr.mono (by omega)) (b_Table_put T) .nil pass0 (pa_cons (pe_fld (pv 1) rfl) (pa_cons (pe_op op_add (pe_ix ix_list (pe_meth0 (pv 0) T.cl_Table T.m_Table_here G_Table_here (hr.mono (by omega)) (b_Table_here T) .nil pass0) (pe_fld (pv 1) rfl) (fun _ _ => rfl)) (pv 2)) pa_nil))))) pss_nil) (pss_cons (ps_if (pt_cmpR op_eq (pe_fld (pv 1) rfl) (pe_glob (v := .int (6)) rfl T.k_PASTE ⟨_, rfl⟩) (nomark _)) (pss_one (ps_ret (pe_meth (pv 0) T.cl_Table T.m_Table_put G_Table_put (hr.mono (by omega)) (b_Table_put T) .nil pass0 (pa_cons (pe_fld (pv 1) rfl) (pa_cons (pe_fld (pv 0) rfl) pa_nil))))) pss_nil) (pss_cut (ps_if (pt_cmpR op_eq (pe_fld (pv 1) rfl) (pe_glob (v := .int (5)) rfl T.k_COPY ⟨_, rfl⟩) (nomark _)) (pss_one (ps_fld (pv 0) (pe_ix ix_list (pe_meth0 (pv 0) T.cl_Table T.m_Table_here G_Table_here (hr.mono (by omega)) (b_Table_here T) .nil pass0) (pe_fld (pv 1) rfl) (fun _ _ => rfl)) rfl)) (pss_one (ps_if (pt_cmpR op_eq (pe_fld (pv 1) rfl) (pe_glob (v := .int (7)) rfl T.k_DELETE ⟨_, rfl⟩) (nomark _)) (pss_one (ps_expr (pe_bm PySem.F.plainAttrs_list PySem.F.slot_list_pop PySem.F.type_list_pop mt_popAt (pe_fld (pv 0) rfl) (pa_cons (pe_fld (pv 0) rfl) pa_nil)))) (pss_one (ps_if (pt_cmpR op_eq (pe_fld (pv 1) rfl) (pe_glob (v := .int (8)) rfl T.k_DOUBLE ⟨_, rfl⟩) (nomark _)) (pss_one (ps_ret (pe_meth0 (pv 0) T.cl_Table T.m_Table_double G_Table_double (hr.mono (by omega)) (b_Table_double T) .nil pass0))) pss_nil))))) (pss_one (ps_ret (pe_glob (v := .int (0)) rfl T.k_WELL ⟨_, rfl⟩))))))))))), ?_⟩)
  · obtain ⟨B, t, da, tb, d, s, v, rfl, _⟩ := h
    rfl
  · obtain ⟨B, t, da, tb, d, s, v, rfl, eB, hD, ⟨dx, ra, rs, R⟩, ok, hf, k⟩ := h
    obtain ⟨dd, hd⟩ := id hD
    have hd := eB _ _ hd
    have m := ok.many
    have cu := ok.cur
    have er : EvT (tTest (tOp (rIn K false) (tFld K (tVar 1) "sort_of") (tTup (tCons (tC (.int 2)) (tCons (tC (.int 1)) (tCons (tC (.int 9)) tNil)))))) [some (.ref t), some (.ref da), some (.int v)] H (inV (.int (dSort d)) [.int 2, .int 1, .int 9]) :=
      et_test (ev_inU (e_sort hd rfl) (eu_tup (ea_cons ev_c (ea_cons ev_c (ea_cons ev_c ea_nil))) (by simp)) rfl rfl)
    refine q_when er (fun hb H1 e1 => ?_) (fun hb H1 e1 => ?_)
    · have hm : moves tb d = true := by cases d <;> first | rfl | (simp [inV, eqV, dSort] at hb)
      exact ra_meth (ev_var rfl) (e1 _ _ R.ins) (no_Table_move ..) (ea_cons (ev_var rfl) (ea_cons (ev_var rfl) ea_nil)) fun H2 e2 => ⟨B, t, da, tb, d, s, v, rfl, eB.trans (e1.trans e2), hD, ⟨dx, ra, rs, R.mono (e1.trans e2)⟩, ok, hf, hm, k⟩
    · have R1 := R.mono e1
      refine q_when (b := isEnd tb) (et_B (ev_behind ⟨dx, ra, rs, R1⟩ ok (ev_var rfl))) (fun he H2 e2 => ?_) (fun he H2 e2 => ?_)
      · have w1 : doneBy tb (withNumber v d) = .error .norow := by
          cases d <;> first | (simp [inV, eqV, dSort] at hb) | skip
          · show (if isEnd tb = true then _ else _) = _
            rw [if_pos he]
          · show (if isEnd tb = true then _ else _) = _
            rw [if_pos he]
          · show (if isEnd tb = true then _ else _) = _
            rw [if_pos he]
          · show (match here tb _ with | none => (.error .norow : Got Table) | some v => .ok { tb with clip := v }) = _
            have : here tb (by assumption) = none := by
              unfold here
              rw [List.getElem?_eq_none (of_decide_eq_true he)]
              rfl
            rw [this]
          · show (if isEnd tb = true then _ else _) = _
            rw [if_pos he]
          · show (if isEnd tb = true then _ else _) = _
            rw [if_pos he]
          · show (if isEnd tb = true then _ else _) = _
            rw [if_pos he]
        rw [w1] at k
        exact s_ret ev_c fun H3 e3 => k H3 (eB.trans ((e1.trans e2).trans e3)) ⟨dx, ra, rs, R.mono ((e1.trans e2).trans e3)⟩
      · have hlt := isEnd_lt he
        obtain ⟨r, xs, h1, h2, h3, h4, h5⟩ := R.row hlt
        obtain ⟨z0, hz⟩ := three_get (ok.three _ (List.mem_of_getElem? h2)) hf
        have hh : here tb (dField d) = some z0 := by
          unfold here
          rw [h2]
          exact hz
        have hzv : (xs.map V.int)[dField d]? = some (.int z0) := by rw [List.getElem?_map, hz]; rfl
        have hereF : ∀ {H3 : Hp} {E3 : XK}, Ex H H3 → Ev (tOp (rIxL K) (tMeth T.c_Table "here" (spHere T) [] E3 (tVar 0) tNil) (tFld K (tVar 1) "field")) [some (.ref t), some (.ref da), some (.int v)] H3 (.int z0) := fun {H3 E3} e =>
          ev_op (ev_here (R.mono e) h1 (ev_var rfl)) (e_field (e _ _ hd) rfl) (rv_ixL (sq_of (e _ _ h3)) (atI_nat hzv))
        have e12 := e1.trans e2
        refine q_when (et_sort (c := 0) (e_sort (e12 _ _ hd) rfl)) (fun hc H3 e3 => ?_) (fun hc0 H3 e3 => ?_)
        · cases sort_down (of_decide_eq_true hc)
          have e13 := e12.trans e3
          exact ra_meth (ev_var rfl) (e13 _ _ R.ins) (no_Table_move ..) (ea_cons (ev_var rfl) (ea_cons (ev_var rfl) ea_nil)) fun H4 e4 => ⟨B, t, da, tb, .down, s, v, rfl, eB.trans (e13.trans e4), hD, ⟨dx, ra, rs, R.mono (e13.trans e4)⟩, ok, hf, by show (!isEnd tb) = true; rw [he]; rfl, k⟩
        · have e13 := e12.trans e3
          refine q_when (et_sort (c := 3) (e_sort (e13 _ _ hd) rfl)) (fun hc H4 e4 => ?_) (fun hc3 H4 e4 => ?_)
          · obtain ⟨f, z, rfl⟩ := sort_write (of_decide_eq_true hc)
            have e14 := e13.trans e4
            exact ra_meth (ev_var rfl) (e14 _ _ R.ins) (no_Table_put ..) (ea_cons (e_field (d := .write f z) (e14 _ _ hd) rfl) (ea_cons (ev_var rfl) ea_nil)) fun H5 e5 => ⟨B, t, tb, f, v, rfl, eB.trans (e14.trans e5), ⟨dx, ra, rs, R.mono (e14.trans e5)⟩, ok, he, hf, k⟩
          · have e14 := e13.trans e4
            refine q_when (et_sort (c := 4) (e_sort (e14 _ _ hd) rfl)) (fun hc H5 e5 => ?_) (fun hc4 H5 e5 => ?_)
            · obtain ⟨f, z, rfl⟩ := sort_add (of_decide_eq_true hc)
              have e15 := e14.trans e5
              have w1 : doneBy tb (withNumber v (.add f z)) = written tb f (z0 + v) := by
                show written tb f (((here tb f).getD 0) + v) = _
                rw [show here tb f = some z0 from hh]
                rfl
              rw [w1] at k
              exact ra_meth (ev_var rfl) (e15 _ _ R.ins) (no_Table_put ..) (ea_cons (e_field (d := .add f z) (e15 _ _ hd) rfl) (ea_cons (ev_op (hereF e15) (ev_var rfl) rv_I0) ea_nil)) fun H6 e6 => ⟨B, t, tb, f, z0 + v, rfl, eB.trans (e15.trans e6), ⟨dx, ra, rs, R.mono (e15.trans e6)⟩, ok, he, hf, k⟩
            · have e15 := e14.trans e5
              refine q_when (et_sort (c := 6) (e_sort (e15 _ _ hd) rfl)) (fun hc H6 e6 => ?_) (fun hc6 H6 e6 => ?_)
              · obtain ⟨f, rfl⟩ := sort_paste (of_decide_eq_true hc)
                have e16 := e15.trans e6
                exact ra_meth (ev_var rfl) (e16 _ _ R.ins) (no_Table_put ..) (ea_cons (e_field (d := .paste f) (e16 _ _ hd) rfl) (ea_cons (e_clip (R.mono e16) rfl) ea_nil)) fun H7 e7 => ⟨B, t, tb, f, tb.clip, rfl, eB.trans (e16.trans e7), ⟨dx, ra, rs, R.mono (e16.trans e7)⟩, ok, he, hf, k⟩
              · have e16 := e15.trans e6
                refine q_cut (M := fun σ' H' => ∃ tb', Ex B H' ∧ TabAt T B H' t tb' ∧ resT tb (doneBy tb (withNumber v d)) = (0, tb')) ?_ ?_
                · refine s_if (et_sort (c := 5) (e_sort (e16 _ _ hd) rfl)) (fun hc H7 e7 => ?_) (fun hc5 H7 e7 => ?_)
                  · obtain ⟨f, rfl⟩ := sort_copy (of_decide_eq_true hc)
                    have e17 := e16.trans e7
                    refine s_fld (hereF e17) (ev_var rfl) (e17 _ _ R.ins) T.cl_Table T.n_Table_clipboard (by show 3 < 1000; decide) fun H8 e8 => ?_
                    rw [p_Table_clipboard]
                    have w1 : doneBy tb (withNumber v (.copy f)) = .ok { tb with clip := z0 } := by
                      show (match here tb f with | none => (.error .norow : Got Table) | some v => .ok { tb with clip := v }) = _
                      rw [show here tb f = some z0 from hh]
                    exact ⟨_, Ex.mut (eB.trans (e17.trans e8)) R.bt, ⟨dx, ra, rs, (R.mono (e17.trans e8)).head tb.at_ z0⟩, by rw [w1]; rfl⟩
                  · have e17 := e16.trans e7
                    refine s_if (et_sort (c := 7) (e_sort (e17 _ _ hd) rfl)) (fun hc H8 e8 => ?_) (fun hc7 H8 e8 => ?_)
                    · cases sort_delete (of_decide_eq_true hc)
                      have e18 := e17.trans e8
                      have R8 := R.mono e18
                      refine s_popAt (i := tb.at_) R8.rows (e_rows R8 rfl) (e_cur R8 rfl) (by rw [List.length_map, R.len]; exact hlt) (by omega) fun H9 e9 => ?_
                      have w1 : doneBy tb (withNumber v .delete) = .ok { tb with rows := tb.rows.eraseIdx tb.at_ } := by
                        show (if isEnd tb = true then _ else _) = _
                        rw [he]
                        rfl
                      exact ⟨_, Ex.mut (eB.trans (e18.trans e9)) R.ba, ⟨dx, ra, rs.eraseIdx tb.at_, (R8.mono e9).erase tb.at_⟩, by rw [w1]; rfl⟩
                    · have e18 := e17.trans e8
                      refine s_when (et_sort (c := 8) (e_sort (e18 _ _ hd) rfl)) (fun hc H9 e9 => ?_) (fun hc8 H9 e9 => ?_)
                      · cases sort_double (of_decide_eq_true hc)
                        have e19 := e18.trans e9
                        exact ra_meth (ev_var rfl) (e19 _ _ R.ins) (no_Table_double ..) ea_nil fun H10 e10 => ⟨B, t, tb, rfl, eB.trans (e19.trans e10), ⟨dx, ra, rs, R.mono (e19.trans e10)⟩, ok, he, k⟩
                      · exfalso
                        cases d <;> first | (simp [dSort] at hc0 hc3 hc4 hc6 hc5 hc7 hc8; done) | (simp [inV, eqV, dSort] at hb; done)
                · rintro σ' H7 ⟨tb', e7, h7, eq⟩
                  rw [eq] at k
                  exact s_ret ev_c fun H8 e8 => k H8 (e7.trans e8) (h7.mono e8)
end
end Pe
set_option Elab.async false
set_option linter.all false
set_option maxRecDepth 100000
set_option maxHeartbeats 2000000
/-! Tables copied, told, read. -/
namespace Pe
open PySem PySem.Spec PyProof.Rows L2 VamacBase Evl
theorem flat3 : ∀ l : List (List Int), (∀ r ∈ l, r.length = 3) → l.flatten.length = 3 * l.length
  | [], _ => rfl
  | a :: l, h => by
    rw [List.flatten_cons, List.length_append, h a (List.mem_cons_self ..), flat3 l fun r hr => h r (List.mem_cons_of_mem _ hr), List.length_cons]
    omega
theorem flat_snoc (l : List (List Int)) (a : List Int) : (l ++ [a]).flatten = l.flatten ++ a := by rw [List.flatten_append, List.flatten_cons, List.flatten_nil, List.append_nil]
structure RowsAt (B H : Hp) (ra : Addr) (rs : List Addr) (rows : List (List Int)) : Prop where
  lst : H ra = some (.lst (rs.map V.ref))
  each : Paired (fun r xs => H r = some (.lst (xs.map V.int))) rs rows
  nd : rs.Nodup
  ni : ra ∉ rs
  ba : B ra = none
  br : ∀ r ∈ rs, B r = none
theorem RowsAt.keep {B H H' : Hp} {ra : Addr} {rs : List Addr} {rows : List (List Int)} {l : List Addr} (h : RowsAt B H ra rs rows) (k : Keep l H H') (hl : ∀ b xs, H b = some (.lst xs) → b ∉ l) : RowsAt B H' ra rs rows :=
  ⟨k _ _ h.lst (hl _ _ h.lst), Paired.mapP h.each fun _ _ q => k _ _ q (hl _ _ q), h.nd, h.ni, h.ba, h.br⟩
theorem RowsAt.mono {B H H' : Hp} {ra : Addr} {rs : List Addr} {rows : List (List Int)} (h : RowsAt B H ra rs rows) (e : Ex H H') : RowsAt B H' ra rs rows := h.keep (l := []) (kp e) fun _ _ _ => List.not_mem_nil
theorem RowsAt.fresh {B H : Hp} {ra : Addr} {rs : List Addr} {rows : List (List Int)} (h : RowsAt B H ra rs rows) {l : Addr} (hl : H l = none) : l ∉ rs ∧ l ≠ ra := by
  refine ⟨fun z => ?_, fun z => ?_⟩
  · obtain ⟨i, hi, q⟩ := List.getElem_of_mem z
    obtain ⟨xs, _, q2⟩ := paired_at h.each (show rs[i]? = some l by rw [List.getElem?_eq_getElem hi, q])
    rw [hl] at q2
    cases q2
  · have q := h.lst
    rw [← z, hl] at q
    cases q
theorem RowsAt.snoc {B H : Hp} {ra : Addr} {rs : List Addr} {rows : List (List Int)} (h : RowsAt B H ra rs rows) {l : Addr} {ys : List Int} (hl : H l = some (.lst (ys.map V.int))) (nl : l ∉ rs) (na : l ≠ ra) (bl : B l = none) : RowsAt B (L2.upd H ra (.lst (rs.map V.ref ++ [.ref l]))) ra (rs ++ [l]) (rows ++ [ys]) := by
  have ne : ra ∉ rs ++ [l] := fun q => by
    rcases List.mem_append.mp q with q | q
    · exact h.ni q
    · exact na (List.mem_singleton.mp q).symm
  refine ⟨?_, ?_, ?_, ne, h.ba, fun r hr => ?_⟩
  · rw [upd_same, List.map_append]
    rfl
  · obtain ⟨l2, k⟩ := paired_iff.mp (paired_app h.each (.cons hl .nil))
    refine paired_iff.mpr ⟨l2, fun j x y hx hy => ?_⟩
    have xr : x ≠ ra := fun z => ne (by rw [← z]; exact List.mem_of_getElem? hx)
    exact (upd_ne xr).trans (k j x y hx hy)
  · rw [List.nodup_append]
    refine ⟨h.nd, List.nodup_cons.mpr ⟨List.not_mem_nil, List.nodup_nil⟩, fun a ha b hb z => ?_⟩
    rw [List.mem_singleton.mp hb] at z
    exact nl (by rw [← z]; exact ha)
  · rcases List.mem_append.mp hr with hr | hr
    · exact h.br r hr
    · rw [List.mem_singleton.mp hr]
      exact bl
section
variable {P : Program} {w : World} {K : PySem.W.Frag} {mg : Str → Option Value} {base : Heap} (T : Txt K mg)
def spCopied : Sp := fun vs H Q E => ∃ (B : Hp) (t : Addr) (tb : Table), vs = [.ref t] ∧ TabAt T B H t tb ∧ TabOk tb ∧ ∀ H' t', Ex H H' → TabAt T H H' t' tb → Q (.ref t') H'
theorem ok_copied (G_Table_init : FnOk P w K mg base CX0 1 T.f_Table_init T.d_Table_init P_Table_init (sp_Table_init T)) : FnOk P w K mg base CX0 3 T.f_Table_copied T.d_Table_copied P_Table_copied (spCopied T) := by
  refine T.F_Table_copied.ok sc_Table_copied (fun vs H Q E h => ?_) (fun cdv A outer s H vs Q E hr h => ⟨_, ((pss_one (ps_ret (pe_make T.mk_Table G_Table_init (hr.mono (by omega)) (by rfl) T.g_Table (b_Table_init T) .nil pass0 (pa_cons (pe_lc (own := [("row", 1)]) (g := gName 1) (tt := tYes) rfl sc_Table_copied.nd (pi_list (pe_fld (pv 0) rfl)) (blkOk_by (own := [("row", 1)]) (N := N_Table_copied) (sc := defScope s_Table_copied) (by decide +kernel)) (fun _ _ _ _ _ => pg_name (i := 1) sc_Table_copied.nd rfl (Or.inl rfl)) (fun _ _ _ _ _ => pts_nil) (fun _ _ _ _ _ => (pe_callTy (r := rListS K) call_list_of (by rfl) T.b_list (by decide +kernel) (pa_cons (pv 1) pa_nil)))) (pa_cons (pe_fld (pv 0) rfl) (pa_cons (pe_fld (pv 0) rfl) pa_nil))))))), ?_⟩)
  · obtain ⟨B, t, tb, rfl, _⟩ := h
    rfl
  · obtain ⟨B, t, tb, rfl, ⟨dx, ra, rs, R⟩, ok, k⟩ := h
    have m := ok.many
    have ev : Ev (tFld K (tVar 0) "rows") [some (.ref t), none] H (.ref ra) := e_rows R rfl
    unfold tRet tMake tCons tLc iList
    refine ev H (Ex.refl H) _ fun H1 e1 => ⟨ra, rfl, ⟨_, sq_of (e1 _ _ R.rows)⟩, fun D hD => lc_list (K := K) (a := ra) (xs := rs.map V.ref) (fun i H' => ∃ cs, Ex H1 H' ∧ cs.length = i ∧ RowsAt H H' D cs (tb.rows.take i)) ?_ (fun i H' _ ⟨cs, e, _⟩ => sq_of ((e1.trans e) _ _ R.rows)) ?_ ?_⟩
    · exact ⟨[], Ex.new hD, rfl, upd_same, .nil, List.nodup_nil, List.not_mem_nil, fresh_back e1 hD, fun r hr => absurd hr List.not_mem_nil⟩
    · rintro i x H2 hi ⟨cs, e2, hl, RW⟩
      have hir : i < tb.rows.length := by
        have q := (List.getElem?_eq_some_iff.mp hi).1
        rw [List.length_map, R.len] at q
        exact q
      obtain ⟨r, xs, h1, h2, h3, h4, h5⟩ := R.row hir
      rw [hi] at h5
      cases h5
      refine ⟨rfl, lc_yes ?_⟩
      refine ⟨_, rfl, r, xs.map V.int, rfl, Or.inl (sq_of ((e1.trans e2) _ _ h3)), fun l hl2 => ?_⟩
      obtain ⟨nl, na⟩ := RW.fresh hl2
      have RW2 := RW.mono (Ex.new (o := .lst (xs.map V.int)) hl2)
      refine ⟨cs.map V.ref, RW2.lst, sz_lt (by rw [List.length_map]; omega), cs ++ [l], Ex.mut (e2.trans (Ex.new hl2)) hD, by rw [List.length_append, hl]; rfl, ?_⟩
      have q := RW2.snoc upd_same nl na (fresh_back (e1.trans e2) hl2)
      rw [List.take_add_one, h2]
      exact q
    · rintro H2 ⟨cs, e2, hl, RW⟩
      have e12 := e1.trans e2
      rw [List.length_map, R.len, List.take_length] at RW
      refine (show Ev (tFld K (tVar 0) "cursor") [some (.ref t), none] H2 (.int tb.at_) from e_cur (R.mono e12) rfl) H2 (Ex.refl _) _ fun H3 e3 => ?_
      refine (show Ev (tFld K (tVar 0) "clipboard") [some (.ref t), none] H3 (.int tb.clip) from e_clip (R.mono (e12.trans e3)) rfl) H3 (Ex.refl _) _ fun H4 e4 => ?_
      intro x dx2 nx nd ne
      refine ⟨_, _, _, x, dx2, rfl, upd_same, fun H5 q1 q2 => ⟨rfl, ?_⟩⟩
      have e45 : Ex H4 H5 := Same.made nx nd q2
      have RW5 := RW.mono ((e3.trans e4).trans e45)
      exact k H5 x (((e12.trans e3).trans e4).trans e45) ⟨dx2, D, cs, q1, RW5.lst, RW5.each, RW5.nd, RW5.ni, fresh_back ((e12.trans e3).trans e4) nx, RW5.ba, RW5.br⟩

def spTabNums : Sp := fun vs H Q E => ∃ (B : Hp) (t : Addr) (tb : Table), vs = [.ref t] ∧ TabAt T B H t tb ∧ TabOk tb ∧ ∀ l H', H l = none → Ex H H' → H' l = some (.lst ((flatTable tb).map V.int)) → Q (.ref l) H'
theorem ok_Table_as_numbers : FnOk P w K mg base CX0 1 T.f_Table_as_numbers T.d_Table_as_numbers P_Table_as_numbers (spTabNums T) := by
  refine T.F_Table_as_numbers.ok sc_Table_as_numbers (fun vs H Q E h => ?_) (fun cdv A outer s H vs Q E hr h => ⟨_, ((pss_cons (ps_set (i := 1) sc_Table_as_numbers.nd rfl (Or.inl rfl) (pe_lst (pa_cons (pe_callB call_len_seq (by rfl) T.b_len PySem.boot_len (pa_cons (pe_fld (pv 0) rfl) pa_nil)) pa_nil))) (pss_cons (ps_for PassesOwn.never rfl (pi_list (pe_fld (pv 0) rfl)) (pg_name (i := 2) sc_Table_as_numbers.nd rfl (Or.inl rfl)) (pss_one (ps_expr (pe_bm PySem.F.plainAttrs_list PySem.F.slot_list_extend PySem.F.type_list_extend mt_extend (pv 1) (pa_cons (pv 2) pa_nil))))) (pss_one (ps_ret (pe_op op_cat (pv 1) (pe_lst (pa_cons (pe_fld (pv 0) rfl) (pa_cons (pe_fld (pv 0) rfl) pa_nil))))))))), ?_⟩)
  · obtain ⟨B, t, tb, rfl, _⟩ := h
    rfl
  · obtain ⟨B, t, tb, rfl, ⟨dx, ra, rs, R⟩, ok, k⟩ := h
    have m := ok.many
    refine q_asgL (el_lst (ea_cons (e_len R (e_rows R rfl)) ea_nil) (by simp)) fun f H1 hf e1 h1 => ?_
    have R1 := R.mono e1
    refine q_forLn (e_rows R1 rfl) (sq_of R1.rows) (fun i σ' H' => ∃ v, σ' = [some (.ref t), some (.ref f), v] ∧ Ex H H' ∧ H' f = some (.lst (((tb.rows.length : Int) :: (tb.rows.take i).flatten).map V.int)))
      (fun H2 e2 => ⟨none, rfl, e1.trans e2, e2 _ _ h1⟩) (fun i σ' H' _ ⟨v, _, e, _⟩ => sq_of (e _ _ R.rows)) ?_ ?_
    · rintro i x σ' H2 hi ⟨v, rfl, e2, h2⟩
      have hir : i < tb.rows.length := by
        have q := (List.getElem?_eq_some_iff.mp hi).1
        rw [List.length_map, R.len] at q
        exact q
      obtain ⟨r, xs, g1, g2, g3, g4, g5⟩ := R.row hir
      rw [hi] at g5
      cases g5
      have l1 := flat3 (tb.rows.take i) fun r hr => ok.three r (List.mem_of_mem_take hr)
      have l2 := ok.three _ (List.mem_of_getElem? g2)
      rw [List.length_take] at l1
      refine s_ext h2 (ev_var rfl) (ev_var rfl) (e2 _ _ g3) (by rw [List.length_map, List.length_cons, List.length_map]; omega) fun H3 e3 => ⟨_, rfl, Ex.mut (e2.trans e3) hf, ?_⟩
      rw [upd_same, List.take_add_one, g2, ← List.map_append]
      show some (HO.lst ((((tb.rows.length : Int) :: (tb.rows.take i).flatten) ++ xs).map V.int)) = some (HO.lst (((tb.rows.length : Int) :: (tb.rows.take i ++ [xs]).flatten).map V.int))
      rw [flat_snoc]
      rfl
    · rintro σ' H2 ⟨v, rfl, e2, h2⟩
      have l1 := flat3 tb.rows ok.three
      rw [List.length_map, R.len, List.take_length] at h2
      refine s_retL (el_catV (ys := [.int tb.at_, .int tb.clip]) (ev_var rfl) h2 (el_lst (ea_cons (e_cur (R.mono e2) rfl) (ea_cons (e_clip (R.mono e2) rfl) ea_nil)) (by simp)) (by rw [List.length_map, List.length_cons, l1]; show _ + 2 ≤ _; omega)) fun l H3 hl e3 h3 => k l H3 (fresh_back e2 hl) (e2.trans e3) ?_
      rw [h3]
      show some (HO.lst (V.int (tb.rows.length : Int) :: (tb.rows.flatten.map V.int ++ [V.int tb.at_, V.int tb.clip]))) = some (HO.lst (V.int _ :: (tb.rows.flatten ++ [int tb.at_, tb.clip]).map V.int))
      rw [List.map_append]
      rfl
end
end Pe
set_option Elab.async false
set_option linter.all false
set_option maxRecDepth 100000
set_option maxHeartbeats 2000000
/-! Tables read. -/
namespace Pe
open PySem PySem.Spec PyProof.Rows L2 VamacBase Evl
section
variable {P : Program} {w : World} {K : PySem.W.Frag} {mg : Str → Option Value} {base : Heap} (T : Txt K mg)
def spReadTab : Sp := fun vs H Q E => ∃ (a : Addr) (ns : List Int), vs = [.ref a] ∧ SqL K H a (ns.map V.int) ∧ (fin (tabR ns) = none → ∀ H', Ex H H' → E (.ref T.c_NoProgram) none H') ∧
  (∀ tb, fin (tabR ns) = some tb → ∀ H' t, Ex H H' → TabAt T H H' t tb → Q (.ref t) H')
theorem ok_read_table (G_Reader_init : FnOk P w K mg base CX0 1 T.f_Reader_init T.d_Reader_init P_Reader_init (sp_Reader_init T)) (G_Reader_take : FnOk P w K mg base (L2.CX P w) 2 T.f_Reader_take T.d_Reader_take P_Reader_take (spTake T))
    (G_Reader_must_end : FnOk P w K mg base (L2.CX P w) 2 T.f_Reader_must_end T.d_Reader_must_end P_Reader_must_end (spMustEnd T)) (G_Table_init : FnOk P w K mg base CX0 1 T.f_Table_init T.d_Table_init P_Table_init (sp_Table_init T)) : FnOk P w K mg base (L2.CX P w) 5 T.f_read_table T.d_read_table P_read_table (spReadTab T) := by
  refine T.F_read_table.okX sc_read_table (fun vs H Q E h => ?_) (fun cdv A outer s H vs Q E hr h => ⟨_, ((pss_cons (ps_set (i := 1) sc_read_table.nd rfl (Or.inr rfl) (pe_make T.mk_Reader G_Reader_init (hr.mono (by omega)) (by rfl) T.g_Reader (b_Reader_init T) .nil pass0 (pa_cons (pv 0) pa_nil))) (pss_cons (ps_set (i := 2) sc_read_table.nd rfl (Or.inl rfl) (pe_meth (pv 1) T.cl_Reader T.m_Reader_take G_Reader_take (hr.mono (by omega)) (b_Reader_take T) .nil (passes_call (takes_of rfl rfl rfl rfl) (fun _ _ _ _ h => h)) (pa_cons pe_int (pa_cons (pe_glob (v := .int (8)) rfl T.k_MOST_ROWS ⟨_, rfl⟩) pa_nil)))) (pss_cons (ps_set (i := 3) sc_read_table.nd rfl (Or.inl rfl) (pe_lst pa_nil)) (pss_cons (ps_for (passes_of rfl) rfl (pi_range1 (by rfl) T.b_range (pa_cons (pv 2) pa_nil)) (pg_name (i := 4) sc_read_table.nd rfl (Or.inl rfl)) (pss_one (ps_expr (pe_bm PySem.F.plainAttrs_list PySem.F.slot_list_append PySem.F.type_list_append mt_append (pv 3) (pa_cons (pe_lcX (own := [("field", 7)]) (g := gName 7) (takes_of rfl rfl rfl rfl) rfl rfl rfl sc_read_table.nd (pi_range1 (by rfl) T.b_range (pa_cons (pe_glob (v := .int (3)) rfl T.k_FIELDS ⟨_, rfl⟩) pa_nil)) (blkOk_by (own := [("field", 7)]) (N := N_read_table) (sc := defScope s_read_table) (by decide +kernel)) (fun _ _ _ _ _ => pg_name (i := 7) sc_read_table.nd rfl (Or.inl rfl)) (fun _ _ _ _ _ => (pe_meth (pv 1) T.cl_Reader T.m_Reader_take G_Reader_take (hr.mono (by omega)) (b_Reader_take T) .nil passB (pa_cons (pe_un un_neg (pe_glob (v := .int (999)) rfl T.k_GREATEST ⟨_, rfl⟩)) (pa_cons (pe_glob (v := .int (999)) rfl T.k_GREATEST ⟨_, rfl⟩) pa_nil))))) pa_nil))))) (pss_cons (ps_set (i := 5) sc_read_table.nd rfl (Or.inl rfl) (pe_meth (pv 1) T.cl_Reader T.m_Reader_take G_Reader_take (hr.mono (by omega)) (b_Reader_take T) .nil (passes_call (takes_of rfl rfl rfl rfl) (fun _ _ _ _ h => h)) (pa_cons pe_int (pa_cons (pv 2) pa_nil)))) (pss_cons (ps_set (i := 6) sc_read_table.nd rfl (Or.inl rfl) (pe_meth (pv 1) T.cl_Reader T.m_Reader_take G_Reader_take (hr.mono (by omega)) (b_Reader_take T) .nil (passes_call (takes_of rfl rfl rfl rfl) (fun _ _ _ _ h => h)) (pa_cons (pe_un un_neg (pe_glob (v := .int (999)) rfl T.k_GREATEST ⟨_, rfl⟩)) (pa_cons (pe_glob (v := .int (999)) rfl T.k_GREATEST ⟨_, rfl⟩) pa_nil)))) (pss_cons (ps_expr (pe_meth0 (pv 1) T.cl_Reader T.m_Reader_must_end G_Reader_must_end (hr.mono (by omega)) (b_Reader_must_end T) .nil (passes_call (takes_of rfl rfl rfl rfl) (fun _ _ _ _ h => h)))) (pss_one (ps_ret (pe_make T.mk_Table G_Table_init (hr.mono (by omega)) (by rfl) T.g_Table (b_Table_init T) .nil pass0 (pa_cons (pv 3) (pa_cons (pv 5) (pa_cons (pv 6) pa_nil)))))))))))))), ?_⟩)
  · obtain ⟨a, ns, rfl, _⟩ := h
    rfl
  · obtain ⟨a, ns, rfl, hs, kE, kQ⟩ := h
    refine q_asgI (ei_make (ea_cons (ev_var rfl) ea_nil) fun vs H Q E h => ⟨_, h⟩) fun r H1 hr1 e1 ⟨dx, h1⟩ => ?_
    have R1 : RdAt T H1 r (a, ns) ns := ⟨dx, 0, h1, ex_l e1 hs, Nat.zero_le _, rfl⟩
    have ek : ∀ {H2 : Hp}, Keep [r] H1 H2 → Ex H H2 := fun {H2} k => ex_keep e1 hr1 k
    refine rd_take T (ev_var rfl) ev_c ev_c R1 (fun c H2 k2 => kE (by unfold tabR; rw [c]; rfl) H2 (ek k2)) fun n x1 c1 H2 k2 R2 => ?_
    have hn := (takeR_some c1).2
    have hn : 0 ≤ n ∧ n ≤ 8 := hn
    have eD : tabR ns = (rowsN n.toNat x1).bind fun v => (takeR 0 n v.2).bind fun c => (takeR (-999) 999 c.2).map fun b => (⟨v.1, c.1.toNat, b.1⟩, b.2) := by
      unfold tabR
      rw [c1]
      rfl
    rw [eD] at kE kQ
    refine q_asgL (el_lst ea_nil (by simp)) fun R H3 hR e3 h3 => ?_
    have k13 : Keep [r] H1 H3 := k2.trans (kp e3)
    have hR0 : H R = none := none_ex e1 (nbk k2 R2 hR)
    have Rr : R ≠ r := fun q => R2.there (by rw [← q]; exact hR)
    refine q_forR1 (n := n) (ea_cons (ev_var rfl) ea_nil) ⟨by omega, by omega⟩ (fun i σ' H' => ∃ v rs rows y, σ' = [some (.ref a), some (.ref r), some (.int n), some (.ref R), v, none, none, none] ∧ Keep [r] H2 H' ∧ RowsAt H H' R rs rows ∧ rows.length = i ∧ RdAt T H' r (a, ns) y ∧
      rowsN n.toNat x1 = (rowsN (n.toNat - i) y).map fun v => (rows ++ v.1, v.2)) (fun H4 e4 => ⟨none, [], [], x1, rfl, kp (e3.trans e4), ⟨e4 _ _ h3, .nil, List.nodup_nil, List.not_mem_nil, hR0, fun r hr => absurd hr List.not_mem_nil⟩, rfl, R2.mono (e3.trans e4), ?_⟩) ?_ ?_
    · rw [Nat.sub_zero]
      cases rowsN n.toNat x1 <;> rfl
    · rintro i σ' H4 hi ⟨v, rs, rows, y, rfl, k4, RW, hl, R4, eq⟩
      have hsub : n.toNat - i = (n.toNat - (i + 1)) + 1 := by omega
      rw [hsub] at eq
      have eq2 : rowsN n.toNat x1 = (((takeN (-999) 999 3 y).bind fun u => (rowsN (n.toNat - (i + 1)) u.2).map fun v => (u.1 :: v.1, v.2)).map fun v => (rows ++ v.1, v.2)) := eq
      obtain ⟨dx4, j4, q1, q2⟩ := id R4
      have kR : ∀ {H5 : Hp}, Keep [r] H4 H5 → RowsAt H H5 R rs rows := fun {H5} k => RW.keep k fun b xs h z => by
        rw [List.mem_singleton.mp z, q1] at h
        cases h
      unfold tDrop tBM
      refine ⟨_, rfl, Or.inl ⟨rfl, _, sq_of RW.lst⟩, ?_⟩
      refine ⟨3, rfl, by omega, by omega, fun D hD => lc_range (lo := 0) (n := 3) (fun i H' => ∃ us y', Keep [r] H4 H' ∧ H' D = some (.lst (us.map V.int)) ∧ us.length = i ∧ RdAt T H' r (a, ns) y' ∧ takeN (-999) 999 3 y = (takeN (-999) 999 (3 - i) y').map fun v => (us ++ v.1, v.2)) ?_ ?_ ?_⟩
      · refine ⟨[], y, kp (Ex.new hD), upd_same, rfl, R4.mono (Ex.new hD), ?_⟩
        rw [Nat.sub_zero]
        cases takeN (-999) 999 3 y <;> rfl
      · rintro j H5 hj ⟨us, y', k5, hD5, hl5, R5, eqj⟩
        have hsubj : 3 - j = (3 - (j + 1)) + 1 := by omega
        rw [hsubj] at eqj
        have rD : D ≠ r := fun q => R4.there (by rw [← q]; exact hD)
        have eqj2 : takeN (-999) 999 3 y = (((takeR (-999) 999 y').bind fun u => (takeN (-999) 999 (3 - (j + 1)) u.2).map fun v => (u.1 :: v.1, v.2)).map fun v => (us ++ v.1, v.2)) := eqj
        refine ⟨rfl, lc_yes ?_⟩
        refine rd_take T (ev_var rfl) (ev_un ev_c ru_neg) ev_c R5 (fun c H6 k6 => kE (by rw [eq2, eqj2, show takeR (-999) 999 y' = none from c]; rfl) H6 (ek (((k2.trans k4).trans k5).trans k6))) fun q y2 c H6 k6 R6 => ?_
        have hD6 : H6 D = some (.lst (us.map V.int)) := k6 D _ hD5 fun q => rD (List.mem_singleton.mp q)
        refine ⟨us.map V.int, hD6, sz_lt (by rw [List.length_map]; omega), us ++ [q], y2, fun b o e nb => ?_, ?_, by rw [List.length_append, hl5]; rfl, R4.updN hD R6, ?_⟩
        · rw [upd_ne (ne_of_none e hD)]
          exact (k5.trans k6) b o e nb
        · rw [upd_same, List.map_append]
          rfl
        · rw [eqj2, show takeR (-999) 999 y' = some (q, y2) from c]
          simp only [Option.bind_some]
          rw [Option.map_map]
          congr 1
          funext v
          show (us ++ (q :: v.1), v.2) = ((us ++ [q]) ++ v.1, v.2)
          rw [List.append_assoc]
          rfl
      · rintro H5 ⟨us, y', k5, hD5, hl5, R5, eqj⟩
        have eqj : takeN (-999) 999 3 y = some (us ++ [], y') := eqj
        rw [List.append_nil] at eqj
        rw [eqj] at eq2
        obtain ⟨nl, na⟩ := RW.fresh hD
        have RW5 := kR k5
        have hD0 : H D = none := none_ex e1 (nbk (k2.trans k4) R4 hD)
        refine ⟨R, rs.map V.ref, .ref D, rfl, rfl, RW5.lst, sz_lt ?_, _, rs ++ [D], rows ++ [us], y', rfl, ?_, RW5.snoc hD5 nl na hD0, by rw [List.length_append, hl]; rfl, R2.updN hR R5, ?_⟩
        · rw [List.length_map, Paired.length RW5.each]
          omega
        · exact fun b o e nb => by
            rw [upd_ne (ne_of_none e hR)]
            exact (k4.trans k5) b o e nb
        · rw [eq2]
          simp only [Option.bind_some]
          rw [Option.map_map]
          congr 1
          funext v
          show (rows ++ (us :: v.1), v.2) = ((rows ++ [us]) ++ v.1, v.2)
          rw [List.append_assoc]
          rfl
    · rintro σ' H4 ⟨v, rs, rows, y, rfl, k4, RW, hl, R4, eq⟩
      rw [Nat.sub_self] at eq
      have eq : rowsN n.toNat x1 = some (rows ++ [], y) := eq
      rw [List.append_nil] at eq
      rw [eq] at kE kQ
      simp only [Option.bind_some] at kE kQ
      have k14 := k2.trans k4
      have kR : ∀ {H5 : Hp}, Keep [r] H4 H5 → RowsAt H H5 R rs rows := fun {H5} k => RW.keep k fun b xs h z => by
        obtain ⟨dx4, j4, q1, q2⟩ := id R4
        rw [List.mem_singleton.mp z, q1] at h
        cases h
      refine rd_take T (ev_var rfl) ev_c (ev_var rfl) R4 (fun c H5 k5 => kE (by rw [c]; rfl) H5 (ek (k14.trans k5))) fun cu y1 c2 H5 k5 R5 => ?_
      rw [c2] at kE kQ
      simp only [Option.bind_some] at kE kQ
      refine rd_take T (ev_var rfl) (ev_un ev_c ru_neg) ev_c R5 (fun c H6 k6 => kE (by rw [show takeR (-999) 999 y1 = none from c]; rfl) H6 (ek ((k14.trans k5).trans k6))) fun cl y2 c3 H6 k6 R6 => ?_
      rw [show takeR (-999) 999 y1 = some (cl, y2) from c3] at kE kQ
      have k16 := (k14.trans k5).trans k6
      have hcu := (takeR_some c2).2
      have hcu : 0 ≤ cu ∧ cu ≤ n := hcu
      obtain ⟨dx6, j6, q1, q2⟩ := id R6
      refine qd_meth (ev_var rfl) q1 (no_Reader_must_end ..) ea_nil fun H7 e7 => ⟨r, (a, ns), y2, rfl, R6.mono e7, fun c H8 e8 => kE ?_ H8 (ek (k16.trans (kp (e7.trans e8)))), fun c H8 e8 => ?_⟩
      · cases y2 with
        | nil => exact absurd rfl c
        | cons _ _ => rfl
      · subst c
        refine s_retI (ei_make (ws := [.ref R, .int cu, .int cl]) (fs := f_Table (.ref R) (.int cu) (.int cl)) (ea_cons (ev_var rfl) (ea_cons (ev_var rfl) (ea_cons (ev_var rfl) ea_nil))) fun vs H Q E h => ⟨_, _, _, h⟩) fun t H9 ht e9 ⟨dt, h9⟩ => ?_
        have e69 := (e7.trans e8).trans e9
        have RW9 := (kR (k5.trans k6)).mono e69
        refine kQ ⟨rows, cu.toNat, cl⟩ rfl H9 t (ek (k16.trans (kp e69))) ⟨dt, R, rs, ?_, RW9.lst, RW9.each, RW9.nd, RW9.ni, ?_, RW9.ba, RW9.br⟩
        · have ecu : ((cu.toNat : Nat) : Int) = cu := Int.toNat_of_nonneg hcu.1
          show H9 t = some (.ins T.c_Table dt (f_Table (.ref R) (.int ((cu.toNat : Nat) : Int)) (.int cl)))
          rw [ecu]
          exact h9
        · exact none_ex e1 (nbk k16 R6 (none_ex (e7.trans e8) ht))
end
end Pe
set_option Elab.async false
set_option linter.all false
set_option maxRecDepth 100000
set_option maxHeartbeats 2000000
/-! Runs. -/
namespace Pe
open PySem PySem.Spec PyProof.Rows L2 VamacBase Evl
/-- B, and what H has at u -/
def Add (B : Hp) (u : Addr) (H : Hp) : Hp := fun b => if b = u then H u else B b
theorem Add.le {B H : Hp} {u : Addr} (h : B u = none) : Ex B (Add B u H) := fun b o e => by
  have n : b ≠ u := fun z => by
    rw [z, h] at e
    cases e
  unfold Add
  rw [if_neg n]
  exact e
theorem Add.ex {B H H' : Hp} {u : Addr} (e : Ex B H') (h : H' u = H u) : Ex (Add B u H) H' := fun b o q => by
  unfold Add at q
  split at q
  · rename_i z
    rw [z, h, q]
  · exact e _ _ q
theorem Add.at {B H : Hp} {u : Addr} {o : HO} (h : H u = some o) : Add B u H u = some o := by
  unfold Add
  rw [if_pos rfl, h]
theorem Add.none {B H : Hp} {u b : Addr} (n : b ≠ u) (h : B b = none) : Add B u H b = none := by
  unfold Add
  rw [if_neg n, h]
section
variable {P : Program} {w : World} {K : PySem.W.Frag} {mg : Str → Option Value} {base : Heap} (T : Txt K mg)
abbrev fRun (t : Addr) (x : VamacBase.Run) : List (Str × V) := f_Run (.ref t) (.int (x.trace.length : Nat)) (.int (badNumber x.bad))
def RunAt (B H : Hp) (u : Addr) (x : VamacBase.Run) : Prop := ∃ du t, H u = some (.ins T.c_Run du (fRun t x)) ∧ TabAt T B H t x.table ∧ B u = none ∧ TabOk x.table ∧ x.trace.length ≤ 60
variable {T}
theorem RunAt.mono {B H H' : Hp} (e : Ex H H') {u : Addr} {x : VamacBase.Run} (h : RunAt T B H u x) : RunAt T B H' u x :=
  let ⟨du, t, h1, h2, h3, h4, h5⟩ := h
  ⟨du, t, e _ _ h1, h2.mono e, h3, h4, h5⟩
theorem run_ne {H : Hp} {t u C C' dx dx' : Addr} {a b c a' b' c' : V} (h : H t = some (.ins C dx (f_Table a b c))) (h' : H u = some (.ins C' dx' (f_Run a' b' c'))) : t ≠ u := fun z => by
  rw [z, h'] at h
  injection h with h
  injection h with _ _ h
  injection h with h _
  injection h with h _
  exact absurd h (by decide +kernel)
theorem TabRaw.ne {B H : Hp} {t u C dx' : Addr} {a b c : V} {tb : Table} {dx ra : Addr} {rs : List Addr} (h : TabRaw T B H t tb dx ra rs) (hu : H u = some (.ins C dx' (f_Run a b c))) : t ≠ u ∧ ra ≠ u ∧ ∀ r ∈ rs, r ≠ u := by
  refine ⟨run_ne h.ins hu, fun z => ?_, fun r hr z => ?_⟩
  · have q := h.rows
    rw [z, hu] at q
    cases q
  · obtain ⟨i, hi, q⟩ := List.getElem_of_mem hr
    obtain ⟨xs, _, q2⟩ := paired_at h.each (show rs[i]? = some r by rw [List.getElem?_eq_getElem hi, q])
    rw [z, hu] at q2
    cases q2
theorem TabRaw.add {B H : Hp} {t u C dx' : Addr} {a b c : V} {tb : Table} {dx ra : Addr} {rs : List Addr} (h : TabRaw T B H t tb dx ra rs) (hu : H u = some (.ins C dx' (f_Run a b c))) : TabRaw T (Add B u H) H t tb dx ra rs := by
  obtain ⟨n1, n2, n3⟩ := h.ne hu
  exact ⟨h.ins, h.rows, h.each, h.nd, h.ni, Add.none n1 h.bt, Add.none n2 h.ba, fun r hr => Add.none (n3 r hr) (h.br r hr)⟩
theorem TabRaw.updU {B H : Hp} {t u C dx' : Addr} {a b c : V} {tb : Table} {dx ra : Addr} {rs : List Addr} {o : HO} (h : TabRaw T B H t tb dx ra rs) (hu : H u = some (.ins C dx' (f_Run a b c))) : TabRaw T B (L2.upd H u o) t tb dx ra rs := by
  obtain ⟨n1, n2, n3⟩ := h.ne hu
  obtain ⟨l, k⟩ := paired_iff.mp h.each
  exact ⟨(upd_ne n1).trans h.ins, (upd_ne n2).trans h.rows, paired_iff.mpr ⟨l, fun i x y hx hy => (upd_ne (n3 x (List.mem_of_getElem? hx))).trans (k i x y hx hy)⟩, h.nd, h.ni, h.bt, h.ba, h.br⟩
theorem e_table {i : Nat} {σ : L2.St} {H : Hp} {u du t : Addr} {b c : V} (h : H u = some (.ins T.c_Run du (f_Run (.ref t) b c))) (hv : σ[i]? = some (some (.ref u))) : Ev (tFld K (tVar i) "table") σ H (.ref t) := ev_fld (ev_var hv) h T.cl_Run T.n_Run_table (l_Run_table ..)
variable (T)
def spOver : Sp := fun vs H Q E => ∃ (u du : Addr) (a c : V) (b : Option Bad), vs = [.ref u] ∧ H u = some (.ins T.c_Run du (f_Run a c (.int (badNumber b)))) ∧ ∀ H', Ex H H' → Q (.bl b.isSome) H'
theorem ok_over : FnOk P w K mg base CX0 1 T.f_Run_is_over T.d_Run_is_over P_Run_is_over (spOver T) := by
  refine T.F_Run_is_over.ok sc_Run_is_over (fun vs H Q E h => ?_) (fun cdv A outer s H vs Q E hr h => ⟨_, ((pss_one (ps_ret (pe_cmpR op_ne (pe_fld (pv 0) rfl) (pe_glob (v := .int (0)) rfl T.k_WELL ⟨_, rfl⟩) (nomark _))))), ?_⟩)
  · obtain ⟨u, du, a, c, b, rfl, _⟩ := h
    rfl
  · obtain ⟨u, du, a, c, b, rfl, hu, k⟩ := h
    refine s_ret (ev_is (ev_op (ev_fld (ev_var rfl) hu T.cl_Run T.n_Run_word (l_Run_word ..)) ev_c (rv_ne rfl)) ?_) fun H1 e1 => k H1 e1
    rw [int_eq, over_eq]
variable {T}
theorem ev_over {te : TE} {σ : L2.St} {H : Hp} {E : XK} {u du : Addr} {a c : V} {b : Option Bad} (h : H u = some (.ins T.c_Run du (f_Run a c (.int (badNumber b))))) (hv : Ev te σ H (.ref u)) : Ev (tMeth T.c_Run "is_over" (spOver T) [] E te tNil) σ H (.bl b.isSome) :=
  ev_meth hv h (no_Run_is_over ..) ea_nil fun H1 e1 Q q E => ⟨u, du, a, c, b, rfl, e1 _ _ h, fun H2 e2 => q H2 e2⟩
variable (T)
def spDoDeed : Sp := fun vs H Q E => ∃ (B : Hp) (u da : Addr) (x : VamacBase.Run) (d : Deed) (s : Int) (i : Nat), vs = [.ref u, .ref da, .int i] ∧ Ex B H ∧ DeedAt T B da (rawOf d s) ∧ dField d ≤ 2 ∧ RunAt T B H u x ∧ x.bad = none ∧ i ≤ 1000 ∧
  ∀ H', Ex B H' → RunAt T B H' u (doDeed x (withNumber (numberOf d + s * (i : Int)) d)) → Q .non H'
theorem ok_do_deed (G_Table_do : FnOk P w K mg base CX0 3 T.f_Table_do T.d_Table_do P_Table_do (spDo T)) (G_Run_is_over : FnOk P w K mg base CX0 1 T.f_Run_is_over T.d_Run_is_over P_Run_is_over (spOver T)) : FnOk P w K mg base CX0 4 T.f_Run_do_deed T.d_Run_do_deed P_Run_do_deed (spDoDeed T) := by
  refine T.F_Run_do_deed.ok sc_Run_do_deed (fun vs H Q E h => ?_) (fun cdv A outer s H vs Q E hr h => ⟨_, ((pss_cons (ps_if (pt_cmpR op_eq (pe_fld (pv 0) rfl) (pe_glob (v := .int (60)) rfl T.k_MOST_DEEDS_running ⟨_, rfl⟩) (nomark _)) (pss_cons (ps_fld (pv 0) (pe_glob (v := .int (6)) rfl T.k_TOO_LONG ⟨_, rfl⟩) rfl) (pss_one ps_retN)) pss_nil) (pss_cons (ps_fld (pv 0) (pe_meth (pe_fld (pv 0) rfl) T.cl_Table T.m_Table_do G_Table_do (hr.mono (by omega)) (b_Table_do T) .nil pass0 (pa_cons (pv 1) (pa_cons (pe_op op_add (pe_fld (pv 1) rfl) (pe_op op_mul (pe_fld (pv 1) rfl) (pv 2))) pa_nil))) rfl) (pss_one (ps_if (pt_not (pt_val (pe_meth0 (pv 0) T.cl_Run T.m_Run_is_over G_Run_is_over (hr.mono (by omega)) (b_Run_is_over T) .nil pass0))) (pss_one (ps_fldaug (pv 0) pe_int in_add)) pss_nil))))), ?_⟩)
  · obtain ⟨B, u, da, x, d, s, i, rfl, _⟩ := h
    rfl
  · obtain ⟨B, u, da, x, d, s, i, rfl, eB, hD, hf, ⟨du, t, hu, ⟨dx, ra, rs, R⟩, bu, ok, lt⟩, hb, hi, k⟩ := h
    obtain ⟨dd, hd⟩ := id hD
    have hd := eB _ _ hd
    refine q_when (b := decide (x.trace.length = 60)) (et_test (ev_is (ev_op (ev_fld (ev_var rfl) hu T.cl_Run T.n_Run_done (l_Run_done ..)) ev_c (rv_eq rfl)) (congrArg V.bl (int_nat _ 60)))) (fun hc H1 e1 => ?_) (fun hc H1 e1 => ?_)
    · have hc := of_decide_eq_true hc
      rw [doDeed_long hb (by omega)] at k
      refine q_fld ev_c (ev_var rfl) (e1 _ _ hu) T.cl_Run T.n_Run_word (by show 3 < 1000; decide) fun H2 e2 => ?_
      have e12 := e1.trans e2
      refine k _ (Ex.mut (eB.trans e12) bu) ⟨du, t, ?_, ⟨dx, ra, rs, (R.mono e12).updU (e12 _ _ hu)⟩, bu, ok, lt⟩
      rw [upd_same, p_Run_word]
      rfl
    · have hc := of_decide_eq_false hc
      rw [doDeed_does hb (by omega)] at k
      have R1 := R.mono e1
      have hu1 := e1 _ _ hu
      have hd1 := e1 _ _ hd
      have en : Ev (tOp (rI0 fun i j => V.int (i + j)) (tFld K (tVar 1) "number") (tOp (rI CMul fun i j => V.int (i * j)) (tFld K (tVar 1) "step") (tVar 2))) [some (.ref u), some (.ref da), some (.int i)] H1 (.int (numberOf d + s * (i : Int))) :=
        ev_op (ev_fld (ev_var rfl) hd1 T.cl_Deed T.n_Deed_number (l_Deed_number ..)) (ev_op (ev_fld (ev_var rfl) hd1 T.cl_Deed T.n_Deed_step (l_Deed_step ..)) (ev_var rfl) (rv_I (Or.inr ⟨by omega, by omega⟩))) rv_I0
      unfold tSeq sFld
      refine ra_meth (ev_fld (ev_var rfl) hu1 T.cl_Run T.n_Run_table (l_Run_table ..)) R1.ins (no_Table_do ..) (ea_cons (ev_var rfl) (ea_cons en ea_nil)) fun H2 e2 => ?_
      have R2 := R1.mono e2
      have hu2 := e2 _ _ hu1
      have eB2 := eB.trans (e1.trans e2)
      refine ⟨Add B u H2, t, da, x.table, d, s, numberOf d + s * (i : Int), rfl, Add.ex eB2 rfl, hD.mono (Add.le bu), ⟨dx, ra, rs, R2.add hu2⟩, ok, hf, fun H3 e3 tab3 => ?_⟩
      have hu3 : H3 u = some (.ins T.c_Run du (fRun t x)) := e3 _ _ (Add.at hu2)
      have eB3 : Ex B H3 := (Add.le bu).trans e3
      obtain ⟨dx3, ra3, rs3, R3⟩ := tab3.base (Add.le bu)
      generalize hg : doneBy x.table (withNumber (numberOf d + s * (i : Int)) d) = g at k R3
      refine (show Ev (tVar 0) [some (.ref u), some (.ref da), some (.int i)] H3 (.ref u) from ev_var rfl) H3 (Ex.refl H3) _ fun H4 e4 => ?_
      refine ⟨u, T.c_Run, du, fRun t x, rfl, e4 _ _ hu3, T.cl_Run, T.n_Run_word, by show 3 < 1000; decide, ?_⟩
      rw [p_Run_word]
      have R4 := (R3.mono e4).updU (o := .ins T.c_Run du (f_Run (.ref t) (.int (x.trace.length : Nat)) (.int (resT x.table g).1))) (e4 _ _ hu3)
      have eB4 : Ex B (L2.upd H4 u (.ins T.c_Run du (f_Run (.ref t) (.int (x.trace.length : Nat)) (.int (resT x.table g).1)))) := Ex.mut (eB3.trans e4) bu
      cases g with
      | error f =>
        have hu4 : L2.upd H4 u (.ins T.c_Run du (f_Run (.ref t) (.int (x.trace.length : Nat)) (.int (faultNumber f)))) u = some (.ins T.c_Run du (f_Run (.ref t) (.int (x.trace.length : Nat)) (.int (badNumber (some (.fault f)))))) := upd_same
        refine s_when (b := !true) (et_not (et_B (ev_over hu4 (ev_var rfl)))) (fun hh => by cases hh) (fun _ H5 e5 => k H5 (eB4.trans e5) ⟨du, t, e5 _ _ hu4, ⟨dx3, ra3, rs3, R4.mono e5⟩, bu, ok, lt⟩)
      | ok tb2 =>
        have hu4 : L2.upd H4 u (.ins T.c_Run du (f_Run (.ref t) (.int (x.trace.length : Nat)) (.int 0))) u = some (.ins T.c_Run du (f_Run (.ref t) (.int (x.trace.length : Nat)) (.int (badNumber none)))) := upd_same
        refine s_when (b := !false) (et_not (et_B (ev_over hu4 (ev_var rfl)))) (fun _ H5 e5 => ?_) (fun hh => by cases hh)
        refine s_fldaug (i := ((x.trace.length : Nat) : Int)) (j := 1) (z := ((x.trace.length + 1 : Nat) : Int)) (fun H Q q => ⟨_, _, rfl, rfl, q⟩) ev_c (ev_var rfl) (e5 _ _ hu4) T.cl_Run T.n_Run_done (l_Run_done ..) (by show 3 < 1000; decide) fun H6 e6 => ?_
        rw [p_Run_done]
        have hu6 := e6 _ _ (e5 _ _ hu4)
        refine k _ (Ex.mut (eB4.trans (e5.trans e6)) bu) ⟨du, t, ?_, ⟨dx3, ra3, rs3, (R4.mono (e5.trans e6)).updU hu6⟩, bu, doneBy_ok ok hg, ?_⟩
        · rw [upd_same]
          show _ = some (HO.ins T.c_Run du (f_Run (.ref t) (.int ((x.trace ++ [_]).length : Nat)) (.int (badNumber none))))
          rw [List.length_append]
          rfl
        · show (x.trace ++ [_]).length ≤ 60
          rw [List.length_append, List.length_singleton]
          omega
end
end Pe
set_option Elab.async false
set_option linter.all false
set_option maxRecDepth 100000
set_option maxHeartbeats 2000000
/-! Runs of rows. -/
namespace Pe
open PySem PySem.Spec PyProof.Rows L2 VamacBase Evl
section
variable {P : Program} {w : World} {K : PySem.W.Frag} {mg : Str → Option Value} {base : Heap} (T : Txt K mg)
def spRunRow (h : Nat) : Sp := fun vs H Q E => ∃ (B : Hp) (u a : Addr) (p : Prog) (x : VamacBase.Run) (i : Nat), vs = [.ref u, .ref a, .int i] ∧ Ex B H ∧ Row T B a p ∧ RP p = true ∧ hgt p < h ∧ RunAt T B H u x ∧ i ≤ 1000 ∧ ∀ H', Ex B H' → RunAt T B H' u (runFrom p i x) → Q .non H'
def spRunPiece (h : Nat) : Sp := fun vs H Q E => ∃ (B : Hp) (u a : Addr) (q : Prog) (x : VamacBase.Run) (i : Nat), vs = [.ref u, .ref a, .int i] ∧ Ex B H ∧ One q ∧ PcAt T B a q ∧ RP q = true ∧ hgt (inner q) < h ∧ RunAt T B H u x ∧ x.bad = none ∧ i ≤ 1000 ∧ ∀ H', Ex B H' → RunAt T B H' u (runFrom q i x) → Q .non H'
def spToEnd (h : Nat) : Sp := fun vs H Q E => ∃ (B : Hp) (u a : Addr) (p : Prog) (x : VamacBase.Run), vs = [.ref u, .ref a] ∧ Ex B H ∧ Row T B a p ∧ RP p = true ∧ hgt p < h ∧ RunAt T B H u x ∧ ∀ H', Ex B H' → RunAt T B H' u (toEndRounds (runFrom p) 60 0 x) → Q .non H'
def spHolds : Sp := fun vs H Q E => ∃ (B : Hp) (u nl : Addr) (x : VamacBase.Run) (f : Nat) (v : Int), vs = [.ref u, .ref nl] ∧ RunAt T B H u x ∧ H nl = some (.lst [.int f, .int v]) ∧ f ≤ 2 ∧ ∀ H', Ex H H' → Q (.bl (here x.table f == some v)) H'
theorem ok_holds (G_Table_is_behind : FnOk P w K mg base CX0 1 T.f_Table_is_behind T.d_Table_is_behind P_Table_is_behind (spBehind T)) (G_Table_here : FnOk P w K mg base CX0 1 T.f_Table_here T.d_Table_here P_Table_here (spHere T)) : FnOk P w K mg base CX0 2 T.f_Run_holds T.d_Run_holds P_Run_holds (spHolds T) := by
  refine T.F_Run_holds.ok sc_Run_holds (fun vs H Q E h => ?_) (fun cdv A outer s H vs Q E hr h => ⟨_, ((pss_one (ps_ret (pe_and (pe_not (pe_meth0 (pe_fld (pv 0) rfl) T.cl_Table T.m_Table_is_behind G_Table_is_behind (hr.mono (by omega)) (b_Table_is_behind T) .nil pass0)) (pe_one (pe_cmpR op_eq (pe_ix ix_list (pe_meth0 (pe_fld (pv 0) rfl) T.cl_Table T.m_Table_here G_Table_here (hr.mono (by omega)) (b_Table_here T) .nil pass0) (pe_ix ix_list (pv 1) pe_int (fun _ _ => rfl)) (fun _ _ => rfl)) (pe_ix ix_list (pv 1) pe_int (fun _ _ => rfl)) (nomark _))))))), ?_⟩)
  · obtain ⟨B, u, nl, x, f, v, rfl, _⟩ := h
    rfl
  · obtain ⟨B, u, nl, x, f, v, rfl, ⟨du, t, hu, ⟨dx, ra, rs, R⟩, bu, ok, lt⟩, hnl, hf, k⟩ := h
    cases he : isEnd x.table with
    | true =>
      have hn : here x.table f = none := by
        unfold here
        rw [List.getElem?_eq_none (of_decide_eq_true he)]
        rfl
      rw [hn] at k
      refine s_ret (ev_is (ev_andV (a := !isEnd x.table) (b := false) (ev_notV (ev_behind ⟨dx, ra, rs, R⟩ ok (e_table hu rfl))) (fun h => by rw [he] at h; cases h)) (by rw [he]; rfl)) fun H1 e1 => k H1 e1
    | false =>
      obtain ⟨r, xs, h1, h2, h3, h4, h5⟩ := R.row (isEnd_lt he)
      obtain ⟨z, hz⟩ := three_get (ok.three _ (List.mem_of_getElem? h2)) hf
      have hn : here x.table f = some z := by
        unfold here
        rw [h2]
        exact hz
      refine s_ret (ev_is (ev_andV (a := !isEnd x.table) (b := decide (z = v)) (ev_notV (ev_behind ⟨dx, ra, rs, R⟩ ok (e_table hu rfl))) (fun _ => ev_int (ev_op (ev_op (ev_here R h1 (e_table hu rfl)) (ev_op (ev_var rfl) ev_c (rv_ixL (sq_of hnl) rfl)) (rv_ixL (sq_of h3) (atI_nat (by rw [List.getElem?_map, hz]; rfl)))) (ev_op (ev_var rfl) ev_c (rv_ixL (sq_of hnl) rfl)) (rv_eq rfl)))) ?_) fun H1 e1 => k H1 e1
      rw [he, hn]
      by_cases c : z = v
      · rw [decide_eq_true c, c, beq_self_eq_true]; rfl
      · rw [decide_eq_false c, beq_eq_false_iff_ne.mpr fun q => c (Option.some.inj q)]; rfl
theorem ok_to_end {h : Nat} (G_Run_is_over : FnOk P w K mg base CX0 1 T.f_Run_is_over T.d_Run_is_over P_Run_is_over (spOver T)) (G_Table_is_behind : FnOk P w K mg base CX0 1 T.f_Table_is_behind T.d_Table_is_behind P_Table_is_behind (spBehind T))
    (G_Run_do_row : FnOk P w K mg base CX0 (3 * h + 5) T.f_Run_do_row T.d_Run_do_row P_Run_do_row (spRunRow T h)) : FnOk P w K mg base CX0 (3 * h + 6) T.f_Run_do_to_end T.d_Run_do_to_end P_Run_do_to_end (spToEnd T h) := by
  refine T.F_Run_do_to_end.ok sc_Run_do_to_end (fun vs H Q E h => ?_) (fun cdv A outer s H vs Q E hr h => ⟨_, ((pss_cons (ps_set (i := 2) sc_Run_do_to_end.nd rfl (Or.inl rfl) pe_int) (pss_one (ps_while PassesOwn.never (PW.pt (pw_and (pt_not (pt_val (pe_meth0 (pv 0) T.cl_Run T.m_Run_is_over G_Run_is_over (hr.mono (by omega)) (b_Run_is_over T) .nil pass0))) (pw_and1 (pt_not (pt_val (pe_meth0 (pe_fld (pv 0) rfl) T.cl_Table T.m_Table_is_behind G_Table_is_behind (hr.mono (by omega)) (b_Table_is_behind T) .nil pass0)))))) (pss_one (ps_if (pt_cmpR op_eq (pv 2) (pe_glob (v := .int (60)) rfl T.k_MOST_ROUNDS_running ⟨_, rfl⟩) (nomark _)) (pss_one (ps_fld (pv 0) (pe_glob (v := .int (6)) rfl T.k_TOO_LONG ⟨_, rfl⟩) rfl)) (pss_cons (ps_expr (pe_meth (pv 0) T.cl_Run T.m_Run_do_row G_Run_do_row (hr.mono (by omega)) (b_Run_do_row T) .nil pass0 (pa_cons (pv 1) (pa_cons (pv 2) pa_nil)))) (pss_one (ps_aug (i := 2) sc_Run_do_to_end.nd rfl (Or.inl rfl) pe_int ip_add))))))))), ?_⟩)
  · obtain ⟨B, u, a, p, x, rfl, _⟩ := h
    rfl
  · obtain ⟨B, u, a, p, x, rfl, eB, hp, okp, hg, hR, k⟩ := h
    refine q_asg ev_c fun H1 e1 => ?_
    refine s_while (fun m σ' H' => ∃ (r : Nat) (y : VamacBase.Run), σ' = [some (.ref u), some (.ref a), some (.int r)] ∧ r ≤ 60 ∧ Ex B H' ∧ RunAt T B H' u y ∧ toEndRounds (runFrom p) (60 - r) r y = toEndRounds (runFrom p) 60 0 x ∧ m = if y.bad.isSome = true then 0 else 61 - r)
      (if x.bad.isSome = true then 0 else 61) ⟨0, x, rfl, by omega, eB.trans e1, hR.mono e1, rfl, rfl⟩ ?_
    rintro m σ' H2 ⟨r, y, rfl, hr60, e2, ⟨du, t, hu, ⟨dx, ra, rs, R⟩, bu, ok, lt⟩, eq, rfl⟩
    refine ⟨!y.bad.isSome && !isEnd y.table, et_and (et_not (et_B (ev_over hu (ev_var rfl)))) fun _ => et_not (et_B (ev_behind ⟨dx, ra, rs, R⟩ ok (e_table hu rfl))), fun hb H3 e3 => ?_, fun hb H3 e3 => k H3 (e2.trans e3) ?_⟩
    · obtain ⟨hb1, hb2⟩ := Bool.and_eq_true_iff.mp hb
      have hb1 : y.bad = none := by
        cases hy : y.bad with
        | none => rfl
        | some _ => rw [hy] at hb1; cases hb1
      have hb2 : isEnd y.table = false := by simpa using hb2
      refine ⟨fun σ2 H4 => ∃ (r2 : Nat) (y2 : VamacBase.Run), σ2 = [some (.ref u), some (.ref a), some (.int r2)] ∧ r2 ≤ 60 ∧ Ex B H4 ∧ RunAt T B H4 u y2 ∧ toEndRounds (runFrom p) (60 - r2) r2 y2 = toEndRounds (runFrom p) 60 0 x ∧ (if y2.bad.isSome = true then 0 else 61 - r2) < (if y.bad.isSome = true then 0 else 61 - r),
        fun σ2 H4 ⟨r2, y2, q1, q2, q3, q4, q5, q6⟩ => ⟨_, q6, r2, y2, q1, q2, q3, q4, q5, rfl⟩, ?_⟩
      rw [hb1]
      refine s_if (b := decide (r = 60)) (et_test (ev_is (ev_op (ev_var rfl) ev_c (rv_eq rfl)) (congrArg V.bl (int_nat _ 60)))) (fun hc H4 e4 => ?_) (fun hc H4 e4 => ?_)
      · have hc := of_decide_eq_true hc
        subst hc
        have e34 := e3.trans e4
        refine s_fld ev_c (ev_var rfl) (e34 _ _ hu) T.cl_Run T.n_Run_word (by show 3 < 1000; decide) fun H5 e5 => ?_
        have e35 := e34.trans e5
        rw [p_Run_word]
        refine ⟨60, { y with bad := some .long }, rfl, by omega, Ex.mut (e2.trans e35) bu, ⟨du, t, upd_same, ⟨dx, ra, rs, (R.mono e35).updU (e35 _ _ hu)⟩, bu, ok, lt⟩, ?_, by show 0 < 61 - 60; decide⟩
        rw [bad_toEnd rfl, ← eq]
        exact (last_toEnd hb1 hb2).symm
      · have hc := of_decide_eq_false hc
        have e34 := e3.trans e4
        refine qd_meth (ev_var rfl) (e34 _ _ hu) (no_Run_do_row ..) (ea_cons (ev_var rfl) (ea_cons (ev_var rfl) ea_nil)) fun H5 e5 => ?_
        have e35 := e34.trans e5
        refine ⟨B, u, a, p, y, r, rfl, e2.trans e35, hp, okp, hg, ⟨du, t, e35 _ _ hu, ⟨dx, ra, rs, R.mono e35⟩, bu, ok, lt⟩, by omega, fun H6 e6 hR6 => ?_⟩
        refine s_aug (f := fun i j => i + j) (a := (r : Int)) (b := 1) rfl ev_c fun H7 e7 => ?_
        refine ⟨r + 1, runFrom p r y, rfl, by omega, e6.trans e7, hR6.mono e7, ?_, ?_⟩
        · rw [← eq, show 60 - r = (60 - (r + 1)) + 1 by omega, go_toEnd hb1 hb2]
        · show _ < 61 - r
          split <;> omega
    · have hh : toEndRounds (runFrom p) (60 - r) r y = y := by
        cases hy : y.bad.isSome with
        | true => exact bad_toEnd hy
        | false =>
          rw [hy] at hb
          exact end_toEnd (by simpa using hb)
      rw [← eq, hh]
      exact ⟨du, t, e3 _ _ hu, ⟨dx, ra, rs, R.mono e3⟩, bu, ok, lt⟩
theorem ok_do_piece {h : Nat} (G_Run_do_deed : FnOk P w K mg base CX0 4 T.f_Run_do_deed T.d_Run_do_deed P_Run_do_deed (spDoDeed T)) (G_Run_holds : FnOk P w K mg base CX0 2 T.f_Run_holds T.d_Run_holds P_Run_holds (spHolds T))
    (G_Run_do_row : FnOk P w K mg base CX0 (3 * h + 5) T.f_Run_do_row T.d_Run_do_row P_Run_do_row (spRunRow T h)) (G_Run_do_to_end : FnOk P w K mg base CX0 (3 * h + 6) T.f_Run_do_to_end T.d_Run_do_to_end P_Run_do_to_end (spToEnd T h)) : FnOk P w K mg base CX0 (3 * h + 7) T.f_Run_do_piece T.d_Run_do_piece P_Run_do_piece (spRunPiece T h) := by
  refine T.F_Run_do_piece.ok sc_Run_do_piece (fun vs H Q E h => ?_) (fun cdv A outer s H vs Q E hr h => ⟨_, ((pss_one (ps_if (pt_cmpR op_eq (pe_fld (pv 1) rfl) (pe_glob (v := .int (0)) rfl T.k_A_DEED ⟨_, rfl⟩) (nomark _)) (pss_one (ps_expr (pe_meth (pv 0) T.cl_Run T.m_Run_do_deed G_Run_do_deed (hr.mono (by omega)) (b_Run_do_deed T) .nil pass0 (pa_cons (pe_fld (pv 1) rfl) (pa_cons (pv 2) pa_nil))))) (pss_one (ps_if (pt_cmpR op_eq (pe_fld (pv 1) rfl) (pe_glob (v := .int (1)) rfl T.k_ROUNDS ⟨_, rfl⟩) (nomark _)) (pss_one (ps_for PassesOwn.never rfl (pi_range1 (by rfl) T.b_range (pa_cons (pe_ix ix_list (pe_fld (pv 1) rfl) pe_int (fun _ _ => rfl)) pa_nil)) (pg_name (i := 3) sc_Run_do_piece.nd rfl (Or.inl rfl)) (pss_one (ps_expr (pe_meth (pv 0) T.cl_Run T.m_Run_do_row G_Run_do_row (hr.mono (by omega)) (b_Run_do_row T) .nil pass0 (pa_cons (pe_fld (pv 1) rfl) (pa_cons (pv 3) pa_nil))))))) (pss_one (ps_if (pt_cmpR op_eq (pe_fld (pv 1) rfl) (pe_glob (v := .int (3)) rfl T.k_PART ⟨_, rfl⟩) (nomark _)) (pss_one (ps_if (pt_val (pe_meth (pv 0) T.cl_Run T.m_Run_holds G_Run_holds (hr.mono (by omega)) (b_Run_holds T) .nil pass0 (pa_cons (pe_fld (pv 1) rfl) pa_nil))) (pss_one (ps_expr (pe_meth (pv 0) T.cl_Run T.m_Run_do_row G_Run_do_row (hr.mono (by omega)) (b_Run_do_row T) .nil pass0 (pa_cons (pe_fld (pv 1) rfl) (pa_cons (pv 2) pa_nil))))) pss_nil)) (pss_one (ps_expr (pe_meth (pv 0) T.cl_Run T.m_Run_do_to_end G_Run_do_to_end (hr.mono (by omega)) (b_Run_do_to_end T) .nil pass0 (pa_cons (pe_fld (pv 1) rfl) pa_nil))))))))))), ?_⟩)
  · obtain ⟨B, u, a, q, x, i, rfl, _⟩ := h
    rfl
  · obtain ⟨B, u, a, q, x, i, rfl, eB, o1, hq, okq, hg, hR, hb, hi, k⟩ := h
    obtain ⟨dx, nl, dv, il, Rd⟩ := hq.read
    obtain ⟨du, t, hu, _⟩ := id hR
    have Rp := Rd.mono eB
    have kd : ∀ {H1 : Hp} {c : Int}, Ex H H1 → EvT (tTest (tOp rEq (tFld K (tVar 1) "kind") (tC (.int c)))) (L2.start N_Run_do_piece [.ref u, .ref a, .int i]) H1 (decide (kindN q = c)) := fun {H1 c} e => et_test (ev_int (ev_op (ev_fld (ev_var rfl) (e _ _ Rp.ins) T.cl_Piece T.n_Piece_kind (l_Piece_kind ..)) ev_c (rv_eq rfl)))
    refine s_if (kd (Ex.refl H)) (fun hc H1 e1 => ?_) (fun hc H1 e1 => ?_)
    · have hc := of_decide_eq_true hc
      cases o1 with
      | deed d s =>
        obtain ⟨da, rfl, hD⟩ := Rd.dv
        refine ra_meth (ev_var rfl) (e1 _ _ hu) (no_Run_do_deed ..) (ea_cons (ev_fld (ev_var rfl) (e1 _ _ Rp.ins) T.cl_Piece T.n_Piece_deed (l_Piece_deed ..)) (ea_cons (ev_var rfl) ea_nil)) fun H2 e2 => ?_
        exact ⟨B, u, da, x, d, s, i, rfl, eB.trans (e1.trans e2), hD, rp_deed okq, hR.mono (e1.trans e2), hb, hi, fun H3 e3 hR3 => k H3 e3 hR3⟩
      | _ => cases hc
    · refine s_if (kd e1) (fun hc1 H2 e2 => ?_) (fun hc1 H2 e2 => ?_)
      · have hc1 := of_decide_eq_true hc1
        have e12 := e1.trans e2
        cases o1 with
        | times n b =>
          obtain ⟨n9, okb⟩ := rp_times okq
          have k : ∀ H', Ex B H' → RunAt T B H' u (rounds (runFrom b) n 0 x) → Q .non H' := k
          refine s_forR1 (n := (n : Int)) (ea_cons (ev_op (ev_fld (ev_var rfl) (e12 _ _ Rp.ins) T.cl_Piece T.n_Piece_numbers (l_Piece_numbers ..)) ev_c (rv_ixL (sq_of (e12 _ _ Rp.nums)) rfl)) ea_nil) ⟨by omega, by omega⟩
            (fun j σ' H' => ∃ v, σ' = [some (.ref u), some (.ref a), some (.int i), v] ∧ Ex B H' ∧ RunAt T B H' u (rounds (runFrom b) j 0 x)) (fun H3 e3 => ⟨none, rfl, eB.trans (e12.trans e3), hR.mono (e12.trans e3)⟩) ?_ ?_
          · rintro j σ' H3 hj ⟨v, rfl, e3, hR3⟩
            obtain ⟨du3, t3, hu3, _⟩ := id hR3
            refine ra_meth (ev_var rfl) hu3 (no_Run_do_row ..) (ea_cons (ev_fld (ev_var rfl) (e3 _ _ Rd.ins) T.cl_Piece T.n_Piece_inner (l_Piece_inner ..)) (ea_cons (ev_var rfl) ea_nil)) fun H4 e4 => ?_
            refine ⟨B, u, il, b, _, j, rfl, e3.trans e4, Rd.row, okb, hg, hR3.mono e4, by omega, fun H5 e5 hR5 => ⟨_, rfl, e5, ?_⟩⟩
            rw [rounds_snoc, Nat.zero_add]
            exact hR5
          · rintro σ' H3 ⟨v, rfl, e3, hR3⟩
            exact k H3 e3 hR3
        | _ => cases hc1
      · have e12 := e1.trans e2
        refine s_if (kd e12) (fun hc3 H3 e3 => ?_) (fun hc3 H3 e3 => ?_)
        · have hc3 := of_decide_eq_true hc3
          have e13 := e12.trans e3
          cases o1 with
          | when f v b =>
            obtain ⟨f2, okb⟩ := rp_when okq
            have k : ∀ H', Ex B H' → RunAt T B H' u (if x.bad.isNone && here x.table f == some v then runFrom b i x else x) → Q .non H' := k
            rw [hb] at k
            have ht : EvT (tB (tMeth T.c_Run "holds" (spHolds T) [] E0 (tVar 0) (tCons (tFld K (tVar 1) "numbers") tNil))) (L2.start N_Run_do_piece [.ref u, .ref a, .int i]) H3 (here x.table f == some v) :=
              et_B (ev_meth (ev_var rfl) (e13 _ _ hu) (no_Run_holds ..) (ea_cons (ev_fld (ev_var rfl) (e13 _ _ Rp.ins) T.cl_Piece T.n_Piece_numbers (l_Piece_numbers ..)) ea_nil) fun H4 e4 Q q E => ⟨B, u, nl, x, f, v, rfl, hR.mono (e13.trans e4), (e13.trans e4) _ _ Rp.nums, f2, fun H5 e5 => q H5 e5⟩)
            refine s_when ht (fun hh H4 e4 => ?_) (fun hh H4 e4 => ?_)
            · rw [hh] at k
              refine ra_meth (ev_var rfl) ((e13.trans e4) _ _ hu) (no_Run_do_row ..) (ea_cons (ev_fld (ev_var rfl) ((e13.trans e4) _ _ Rp.ins) T.cl_Piece T.n_Piece_inner (l_Piece_inner ..)) (ea_cons (ev_var rfl) ea_nil)) fun H5 e5 => ?_
              exact ⟨B, u, il, b, x, i, rfl, eB.trans ((e13.trans e4).trans e5), Rd.row, okb, hg, hR.mono ((e13.trans e4).trans e5), hi, fun H6 e6 hR6 => k H6 e6 hR6⟩
            · rw [hh] at k
              exact k H4 (eB.trans (e13.trans e4)) (hR.mono (e13.trans e4))
          | _ => cases hc3
        · have e13 := e12.trans e3
          cases o1 with
          | toEnd b =>
            have okb := rp_toEnd okq
            refine ra_meth (ev_var rfl) (e13 _ _ hu) (no_Run_do_to_end ..) (ea_cons (ev_fld (ev_var rfl) (e13 _ _ Rp.ins) T.cl_Piece T.n_Piece_inner (l_Piece_inner ..)) ea_nil) fun H4 e4 => ?_
            exact ⟨B, u, il, b, x, rfl, eB.trans (e13.trans e4), Rd.row, okb, hg, hR.mono (e13.trans e4), fun H5 e5 hR5 => k H5 e5 hR5⟩
          | deed d s => exact absurd rfl (of_decide_eq_false hc)
          | times n b => exact absurd rfl (of_decide_eq_false hc1)
          | when f v b => exact absurd rfl (of_decide_eq_false hc3)
theorem ok_do_row1 {h : Nat} (G_Run_is_over : FnOk P w K mg base CX0 1 T.f_Run_is_over T.d_Run_is_over P_Run_is_over (spOver T)) (G_Run_do_piece : FnOk P w K mg base CX0 (3 * h + 7) T.f_Run_do_piece T.d_Run_do_piece P_Run_do_piece (spRunPiece T h)) : FnOk P w K mg base CX0 (3 * h + 8) T.f_Run_do_row T.d_Run_do_row P_Run_do_row (spRunRow T (h + 1)) := by
  refine T.F_Run_do_row.ok sc_Run_do_row (fun vs H Q E h => ?_) (fun cdv A outer s H vs Q E hr h => ⟨_, ((pss_one (ps_for PassesOwn.never rfl (pi_list (pv 1)) (pg_name (i := 3) sc_Run_do_row.nd rfl (Or.inl rfl)) (pss_one (ps_if (pt_not (pt_val (pe_meth0 (pv 0) T.cl_Run T.m_Run_is_over G_Run_is_over (hr.mono (by omega)) (b_Run_is_over T) .nil pass0))) (pss_one (ps_expr (pe_meth (pv 0) T.cl_Run T.m_Run_do_piece G_Run_do_piece (hr.mono (by omega)) (b_Run_do_piece T) .nil pass0 (pa_cons (pv 3) (pa_cons (pv 2) pa_nil))))) pss_nil))))), ?_⟩)
  · obtain ⟨B, u, a, p, x, i, rfl, _⟩ := h
    rfl
  · obtain ⟨B, u, a, p, x, i, rfl, eB, ⟨xs, hx, hp⟩, okp, hg, hR, hi, k⟩ := h
    refine ⟨_, rfl, a, rfl, ⟨xs, sq_of (eB _ _ hx)⟩, for_row (K := K) (a := a) hp (fun j q σ' H' => ∃ (y : VamacBase.Run) (v : Option V), σ' = [some (.ref u), some (.ref a), some (.int i), v] ∧ Ex B H' ∧ RunAt T B H' u y ∧ runFrom q i y = runFrom p i x ∧ RP q = true ∧ hgt q < h + 1)
      ⟨x, none, rfl, eB, hR, rfl, okp, hg⟩ (fun j q σ' H' ⟨y, v, _, e, _⟩ => sq_of (e _ _ hx)) ?_ ?_⟩
    · rintro j b q r σ' H' Nx o1 hb hj ⟨y, v, rfl, e, hRy, eq, okq, hg'⟩ nx
      rw [rp_then] at okq
      obtain ⟨ok1, ok2⟩ := Bool.and_eq_true_iff.mp okq
      have hq : hgt (inner q) + 1 ≤ hgt (q.andThen r) := by rw [hgt_cons o1]; exact Nat.le_max_left ..
      have hr2 : hgt r ≤ hgt (q.andThen r) := by rw [hgt_cons o1]; exact Nat.le_max_right ..
      obtain ⟨du, t, hu, _⟩ := id hRy
      rw [run_then o1] at eq
      refine s_when (b := !y.bad.isSome) (et_not (et_B (ev_over hu (ev_var rfl)))) (fun hc H2 e2 => ?_) (fun hc H2 e2 => ?_)
      · have hb1 : y.bad = none := by
          cases hy : y.bad with
          | none => rfl
          | some _ => rw [hy] at hc; cases hc
        refine ra_meth (ev_var rfl) (e2 _ _ hu) (no_Run_do_piece ..) (ea_cons (ev_var rfl) (ea_cons (ev_var rfl) ea_nil)) fun H3 e3 => ?_
        exact ⟨B, u, b, q, y, i, rfl, e.trans (e2.trans e3), o1, hb, ok1, by omega, hRy.mono (e2.trans e3), hb1, hi, fun H4 e4 hR4 => nx _ _ ⟨_, _, rfl, e4, hR4, eq, ok2, by omega⟩⟩
      · have hs : y.bad.isSome = true := by
          cases hy : y.bad.isSome with
          | true => rfl
          | false => rw [hy] at hc; cases hc
        rw [run_bad q i y hs] at eq
        exact nx _ _ ⟨y, _, rfl, e.trans e2, hRy.mono e2, eq, ok2, by omega⟩
    · rintro σ' H' ⟨y, v, rfl, e, hRy, eq, _⟩
      rw [← eq] at k
      exact k H' e hRy
theorem ok_do_row (G_Run_is_over : FnOk P w K mg base CX0 1 T.f_Run_is_over T.d_Run_is_over P_Run_is_over (spOver T)) (G_Table_is_behind : FnOk P w K mg base CX0 1 T.f_Table_is_behind T.d_Table_is_behind P_Table_is_behind (spBehind T))
    (G_Run_do_deed : FnOk P w K mg base CX0 4 T.f_Run_do_deed T.d_Run_do_deed P_Run_do_deed (spDoDeed T)) (G_Run_holds : FnOk P w K mg base CX0 2 T.f_Run_holds T.d_Run_holds P_Run_holds (spHolds T)) : ∀ h : Nat, FnOk P w K mg base CX0 (3 * h + 5) T.f_Run_do_row T.d_Run_do_row P_Run_do_row (spRunRow T h)
  | 0 => fn_no fun vs H Q E ⟨_, _, _, _, _, _, _, _, _, _, h, _⟩ => absurd h (Nat.not_lt_zero _)
  | h + 1 => ok_do_row1 T G_Run_is_over (ok_do_piece T G_Run_do_deed G_Run_holds (ok_do_row G_Run_is_over G_Table_is_behind G_Run_do_deed G_Run_holds h) (ok_to_end T G_Run_is_over G_Table_is_behind (ok_do_row G_Run_is_over G_Table_is_behind G_Run_do_deed G_Run_holds h)))

def spRunOf : Sp := fun vs H Q E => ∃ (B : Hp) (a t : Addr) (p : Prog) (tb : Table), vs = [.ref a, .ref t] ∧ Row T H a p ∧ RP p = true ∧ hgt p < 5 ∧ TabAt T B H t tb ∧ TabOk tb ∧ ∀ H' u, Ex H H' → RunAt T H H' u (VamacBase.run p tb) → Q (.ref u) H'
theorem ok_run_of (G_Run_init : FnOk P w K mg base CX0 1 T.f_Run_init T.d_Run_init P_Run_init (sp_Run_init T)) (G_Table_copied : FnOk P w K mg base CX0 3 T.f_Table_copied T.d_Table_copied P_Table_copied (spCopied T))
    (G_Run_do_row : FnOk P w K mg base CX0 20 T.f_Run_do_row T.d_Run_do_row P_Run_do_row (spRunRow T 5)) : FnOk P w K mg base CX0 21 T.f_run_of T.d_run_of P_run_of (spRunOf T) := by
  refine T.F_run_of.ok sc_run_of (fun vs H Q E h => ?_) (fun cdv A outer s H vs Q E hr h => ⟨_, ((pss_cons (ps_set (i := 2) sc_run_of.nd rfl (Or.inl rfl) (pe_make T.mk_Run G_Run_init (hr.mono (by omega)) (by rfl) T.g_Run (b_Run_init T) .nil pass0 (pa_cons (pe_meth0 (pv 1) T.cl_Table T.m_Table_copied G_Table_copied (hr.mono (by omega)) (b_Table_copied T) .nil pass0) pa_nil))) (pss_cons (ps_expr (pe_meth (pv 2) T.cl_Run T.m_Run_do_row G_Run_do_row (hr.mono (by omega)) (b_Run_do_row T) .nil pass0 (pa_cons (pv 0) (pa_cons pe_int pa_nil)))) (pss_one (ps_ret (pv 2)))))), ?_⟩)
  · obtain ⟨B, a, t, p, tb, rfl, _⟩ := h
    rfl
  · obtain ⟨B, a, t, p, tb, rfl, hp, okp, hg, ⟨dx, ra, rs, R⟩, ok, k⟩ := h
    unfold tSeq tAsg tMake tCons
    refine ra_meth (ev_var rfl) R.ins (no_Table_copied ..) ea_nil fun H1 e1 => ⟨B, t, tb, rfl, ⟨dx, ra, rs, R.mono e1⟩, ok, fun H2 t2 e2 tab2 => ?_⟩
    intro x dx nx nd ne
    refine ⟨_, x, dx, rfl, upd_same, fun H3 q1 q2 => ⟨rfl, ?_⟩⟩
    have e23 : Ex H2 H3 := Same.made nx nd q2
    have e12 := e1.trans e2
    have e13 := e12.trans e23
    have tab3 := (tab2.base e1).mono e23
    have hR3 : RunAt T H H3 x (begin_ tb) := ⟨dx, t2, q1, tab3, none_ex e12 nx, ok, Nat.zero_le _⟩
    refine qd_meth (ev_var rfl) q1 (no_Run_do_row ..) (ea_cons (ev_var rfl) (ea_cons ev_c ea_nil)) fun H4 e4 => ⟨H, x, a, p, begin_ tb, 0, rfl, e13.trans e4, hp, okp, hg, hR3.mono e4, by omega, fun H5 e5 hR5 => ?_⟩
    exact s_ret (ev_var rfl) fun H6 e6 => k H6 x (e5.trans e6) (hR5.mono e6)
end
end Pe
set_option linter.all false
/-! What is told of programs: plain facts with values. -/
namespace Pe
open VamacBase Vamacf L2
theorem inV_int (f : Int) (l : List Int) : inV (.int f) (l.map V.int) = l.any (fun g => decide (f = g)) := by
  unfold inV
  rw [List.any_map]
  congr 1
  funext g
  show eqV (.int g) (.int f) = decide (f = g)
  simp only [eqV]
  by_cases c : f = g
  · rw [decide_eq_true c, c]; exact beq_self_eq_true _
  · rw [decide_eq_false c]; exact beq_eq_false_iff_ne.mpr fun z => c z.symm
theorem inV_app (x : V) (a b : List V) : inV x (a ++ b) = (inV x a || inV x b) := by unfold inV; rw [List.any_append]
def sortP : Prog → Int
  | .deed d _ _ => dSort d
  | _ => -1
def fieldP : Prog → Int
  | .deed d _ _ => (dField d : Int)
  | .when f _ _ _ => (f : Int)
  | _ => 0
def isPart : Prog → Bool
  | .when _ _ _ _ => true
  | _ => false
def kW (q : Prog) : Bool := inV (.int (sortP q)) [.int 3, .int 4, .int 6]
def kR (q : Prog) : Bool := inV (.int (sortP q)) [.int 4, .int 5, .int 9]
def kC (q : Prog) : Bool := inV (.int (sortP q)) [.int 7, .int 8]
theorem dec_nat (f g : Nat) : decide ((f : Int) = (g : Int)) = [g].contains f := by
  by_cases c : f = g
  · rw [decide_eq_true (by omega), c]
    simp
  · rw [decide_eq_false (by omega)]
    simp [c]
theorem any_congr' {α : Type} {l : List α} {f g : α → Bool} (h : ∀ x ∈ l, f x = g x) : l.any f = l.any g := by
  induction l with
  | nil => rfl
  | cons a l ih => rw [List.any_cons, List.any_cons, h a (List.mem_cons_self ..), ih fun x hx => h x (List.mem_cons_of_mem _ hx)]
theorem hasW_eq (p : Prog) (f : Nat) : inV (.int f) (((((flat p).filter isDeed).filter kW).map fieldP).map V.int) = hasW p f := by
  rw [inV_int, List.any_map, List.any_filter, List.any_filter]
  unfold hasW
  refine any_congr' fun q _ => ?_
  cases q with
  | deed d s r =>
    show (true && (kW (.deed d s r) && decide ((f : Int) = (dField d : Int)))) = (writesOf d).contains f
    cases d <;> first | rfl | (exact dec_nat _ _)
  | _ => rfl
theorem hasR_eq (p : Prog) (f : Nat) : (inV (.int f) (((((flat p).filter isDeed).filter kR).map fieldP).map V.int) || inV (.int f) ((((flat p).filter isPart).map fieldP).map V.int)) = hasRd p f := by
  rw [inV_int, inV_int, List.any_map, List.any_filter, List.any_filter, List.any_map, List.any_filter]
  unfold hasRd
  have e : ∀ (l : List Prog) (g h k : Prog → Bool), (∀ q ∈ l, (g q || h q) = k q) → (l.any g || l.any h) = l.any k := by
    intro l g h k
    induction l with
    | nil => intro _; rfl
    | cons a l ih =>
      intro hh
      rw [List.any_cons, List.any_cons, List.any_cons, ← hh a (List.mem_cons_self ..), ← ih fun x hx => hh x (List.mem_cons_of_mem _ hx)]
      cases g a <;> cases h a <;> cases l.any g <;> rfl
  refine e _ _ _ _ fun q _ => ?_
  cases q with
  | deed d s r =>
    show ((true && (kR (.deed d s r) && decide ((f : Int) = (dField d : Int)))) || false) = (readsOf d).contains f
    rw [Bool.or_false]
    cases d <;> first | rfl | (exact dec_nat _ _)
  | when g v b r => exact dec_nat _ _
  | _ => rfl
theorem hasC_eq (p : Prog) : decide ((0 : Int) < ((((flat p).filter isDeed).filter kC).length : Int)) = reshapes p := by
  rw [reshapes_flat]
  have e : ∀ l : List Prog, decide ((0 : Int) < (((l.filter isDeed).filter kC).length : Int)) = l.any chOf := by
    intro l
    induction l with
    | nil => rfl
    | cons a l ih =>
      rw [List.any_cons, List.filter_cons]
      cases a with
      | deed d s r =>
        rw [if_pos (show isDeed (.deed d s r) = true from rfl), List.filter_cons]
        cases d <;> first | (rw [if_pos (by rfl), List.length_cons]; show decide _ = true; exact decide_eq_true (by omega)) | (rw [if_neg (by simp [kC, sortP, inV, eqV, dSort])]; rw [ih]; rfl)
      | _ => rw [if_neg (by simp [isDeed]), ih]; rfl
  exact e _
end Pe
set_option Elab.async false
set_option linter.all false
set_option maxRecDepth 100000
set_option maxHeartbeats 2000000
/-! What is told of programs: deeds, fields. -/
namespace Pe
open PySem PySem.Spec PyProof.Rows L2 VamacBase Vamacf Evl
theorem paired_take' {α β : Type} {F : α → β → Prop} {a : List α} {b : List β} {i : Nat} {x : α} (h : Paired F a b) (e : a[i]? = some x) : ∃ y, b.take (i + 1) = b.take i ++ [y] ∧ F x y ∧ b[i]? = some y := by
  obtain ⟨y, h1, h2⟩ := paired_at h e
  exact ⟨y, by rw [List.take_add_one, h1]; rfl, h2, h1⟩
theorem paired_map {α : Type} {f : α → V} : ∀ {xs : List V} {l : List α}, Paired (fun v d => v = f d) xs l → xs = l.map f
  | _, _, .nil => rfl
  | _, _, .cons r t => by rw [r, List.map_cons, paired_map t]
section
variable {K : PySem.W.Frag}
/-- a comprehension over a list that is known, item by item -/
theorem lc_keepG {α : Type} {F G : V → α → Prop} {zs : List V} {ds : List α} (hp : Paired F zs ds) (keep : α → Bool) {l : Addr} {j : Nat} {vs : List Nat} {σ : L2.St} {H1 : Hp} {D : Addr} {Qd : Hp → Prop} {tt : TT} {te : TE} (hl : H1 l = some (.lst zs)) (hz : zs.length ≤ 40000) (hD : H1 D = none)
    (hw : ∀ x, wipe ((wipe σ vs).set j (some x)) vs = wipe σ vs)
    (ht : ∀ x d H2, F x d → d ∈ ds → Ex H1 H2 → EvT tt ((wipe σ vs).set j (some x)) H2 (keep d))
    (he : ∀ x d H2, F x d → d ∈ ds → keep d = true → Ex H1 H2 → ∃ v, G v d ∧ Ev te ((wipe σ vs).set j (some x)) H2 v)
    (hd : ∀ H' ys, Ex H1 H' → H' D = some (.lst ys) → Paired G ys (ds.filter keep) → Qd H') :
    ∃ W : Nat → Nat → Hp → Prop, (∃ m, W 0 m (upd H1 D (.lst []))) ∧ ∀ i m H, W i m H →
      ((Itl K l).stop i H ∧ Qd H) ∨ ((Itl K l).go i H ∧ ∃ Nx : Hp → Prop, (∀ H', Nx H' → ∃ m', m' < m ∧ W (i + 1) m' H') ∧ ∀ x H', (Itl K l).yld i H x H' → gName j x (wipe σ vs) H' fun σ2 H2 => wipe σ2 vs = wipe σ vs ∧ tt σ2 H2 fun b H3 =>
        if b = true then te σ2 H3 fun y H4 => ∃ acc, H4 D = some (.lst acc) ∧ acc.length < sizeLine ∧ Nx (upd H4 D (.lst (acc ++ [y]))) else Nx H3) := by
  refine lc_list (K := K) (xs := zs) (fun i H' => ∃ ys, Ex H1 H' ∧ H' D = some (.lst ys) ∧ ys.length ≤ i ∧ Paired G ys ((ds.take i).filter keep)) ⟨[], Ex.new hD, upd_same, Nat.le_refl _, .nil⟩ (fun i H' _ ⟨ys, e, _⟩ => sq_of (e _ _ hl)) ?_ ?_
  · rintro i x H2 hi ⟨ys, e2, hD2, hly, hG⟩
    obtain ⟨d, ht1, hF, hdi⟩ := paired_take' hp hi
    have hm := List.mem_of_getElem? hdi
    have hiz := (List.getElem?_eq_some_iff.mp hi).1
    refine ⟨hw x, ht x d H2 hF hm e2 H2 (Ex.refl _) _ fun H3 e3 => ?_⟩
    cases hk : keep d with
    | true =>
      obtain ⟨v, g, ev⟩ := he x d H3 hF hm hk (e2.trans e3)
      show te _ H3 _
      refine ev H3 (Ex.refl _) _ fun H4 e4 => ⟨ys, e4 _ _ (e3 _ _ hD2), sz_lt (by omega), ys ++ [v], Ex.mut ((e2.trans e3).trans e4) hD, upd_same, by rw [List.length_append, List.length_singleton]; omega, ?_⟩
      rw [ht1, List.filter_append, List.filter_cons, if_pos hk]
      exact paired_app hG (.cons g .nil)
    | false =>
      refine ⟨ys, e2.trans e3, e3 _ _ hD2, by omega, ?_⟩
      rw [ht1, List.filter_append, List.filter_cons, if_neg (by rw [hk]; exact Bool.false_ne_true), List.filter_nil, List.append_nil]
      exact hG
  · rintro H2 ⟨ys, e2, hD2, hly, hG⟩
    rw [Paired.length hp, List.take_length] at hG
    exact hd H2 ys e2 hD2 hG
end
section
variable {P : Program} {w : World} {K : PySem.W.Frag} {mg : Str → Option Value} {base : Heap} (T : Txt K mg)
/-- deeds, each told by its piece -/
def DpAt (B : Hp) (v : V) (q : Prog) : Prop := ∃ d s da, q = .deed d s .done ∧ v = .ref da ∧ DeedAt T B da (rawOf d s)
abbrev deedsIn (p : Prog) : List Prog := (flat p).filter isDeed
variable {T}
theorem FlatAt.one {B : Hp} {xs : List V} {p : Prog} (h : FlatAt T B xs (flat p)) : Paired (fun x q => ∃ a, x = .ref a ∧ PcAt T B a q ∧ One q) xs (flat p) := by
  obtain ⟨l, k⟩ := paired_iff.mp h
  refine paired_iff.mpr ⟨l, fun i x y hx hy => ?_⟩
  obtain ⟨a, h1, h2⟩ := k i x y hx hy
  exact ⟨a, h1, h2, flat_one p y (List.mem_of_getElem? hy)⟩
variable (T)
def spDeedsOf : Sp := fun vs H Q E => ∃ (B : Hp) (a : Addr) (p : Prog), vs = [.ref a] ∧ Ex B H ∧ Row T B a p ∧ hgt p < 5 ∧ p.size ≤ 1000 ∧ ∀ l H' zs, H l = none → Ex H H' → H' l = some (.lst zs) → Paired (DpAt T B) zs (deedsIn p) → Q (.ref l) H'
theorem ok_deeds_of (G_in_order : FnOk P w K mg base CX0 5 T.f_in_order T.d_in_order P_in_order (spOrder T 5)) : FnOk P w K mg base CX0 6 T.f_deeds_of T.d_deeds_of P_deeds_of (spDeedsOf T) := by
  refine T.F_deeds_of.ok sc_deeds_of (fun vs H Q E h => ?_) (fun cdv A outer s H vs Q E hr h => ⟨_, ((pss_one (ps_ret (pe_lc (own := [("piece", 1)]) (g := gName 1) rfl sc_deeds_of.nd (pi_list (pe_call G_in_order (hr.mono (by omega)) (by rfl) T.g_in_order T.F_in_order.kp (b_in_order T) .nil pass0 (pa_cons (pv 0) pa_nil))) (blkOk_by (own := [("piece", 1)]) (N := N_deeds_of) (sc := defScope s_deeds_of) (by decide +kernel)) (fun _ _ _ _ _ => pg_name (i := 1) sc_deeds_of.nd rfl (Or.inl rfl)) (fun _ _ _ _ _ => pts_one (pt_cmpR op_eq (pe_fldK (K := K) rfl (pv 1) rfl) (pe_glob (v := .int (0)) rfl T.k_A_DEED ⟨_, rfl⟩) (nomark _))) (fun _ _ _ _ _ => (pe_fldK (K := K) rfl (pv 1) rfl)))))), ?_⟩)
  · obtain ⟨B, a, p, rfl, _⟩ := h
    rfl
  · obtain ⟨B, a, p, rfl, eB, hp, hg, hz, k⟩ := h
    unfold tRet tLc iList
    refine ra_call (ea_cons (ev_var rfl) ea_nil) fun H1 e1 => ⟨B, a, p, rfl, eB.trans e1, hp, hg, hz, fun l H2 ys hl e2 h2 hF => ?_⟩
    have e12 := e1.trans e2
    have hF1 := hF.one
    have hlen := Paired.length hF1
    rw [flat_length] at hlen
    have kd : ∀ {H3 : Hp} {b : Addr} {q : Prog} {v : V}, Ex H2 H3 → PcAt T B b q → Ev (tFld K (tVar 1) "kind") [some (.ref a), some (.ref b)] H3 (.int (kindN q)) := fun {H3 b q v} e hq => by
      obtain ⟨dx, nl, dv, il, R⟩ := hq.read
      exact ev_fld (ev_var rfl) ((eB.trans (e12.trans e)) _ _ R.ins) T.cl_Piece T.n_Piece_kind (l_Piece_kind ..)
    refine ⟨l, rfl, ⟨ys, sq_of h2⟩, fun D hD => lc_keepG (K := K) (G := DpAt T B) hF1 isDeed h2 (by omega) hD (fun x => rfl) ?_ ?_ ?_⟩
    · rintro x q H3 ⟨b, rfl, hb, o1⟩ _ e3
      refine et_is (et_test (ev_int (ev_op (kd (v := .non) e3 hb) ev_c (rv_eq rfl)))) ?_
      cases o1 <;> rfl
    · rintro x q H3 ⟨b, rfl, hb, o1⟩ _ hk e3
      cases o1 with
      | deed d s =>
        obtain ⟨dx, nl, dv, il, R⟩ := hb.read
        obtain ⟨da, rfl, hd⟩ := R.dv
        exact ⟨.ref da, ⟨d, s, da, rfl, rfl, hd⟩, ev_fld (ev_var rfl) ((eB.trans (e12.trans e3)) _ _ R.ins) T.cl_Piece T.n_Piece_deed (l_Piece_deed ..)⟩
      | _ => cases hk
    · intro H3 zs e3 h3 hG
      exact k D H3 zs (none_ex e12 hD) (e12.trans e3) h3 hG
theorem canon_vals (g : Nat → Bool) : given 3 g (fun i => .int (i : Int)) = (canon g).map fun n : Nat => V.int (n : Int) := rfl
def spWritten : Sp := fun vs H Q E => ∃ (B : Hp) (a : Addr) (p : Prog), vs = [.ref a] ∧ Ex B H ∧ Row T B a p ∧ okPieces p = true ∧ hgt p < 5 ∧ p.size ≤ 1000 ∧ ∀ l H', H l = none → Ex H H' → H' l = some (.lst ((writes p).map fun n : Nat => V.int (n : Int))) → Q (.ref l) H'
theorem dp_sort {σ : L2.St} {B H : Hp} {i : Nat} {x : V} {q : Prog} (h : DpAt T B x q) (e : Ex B H) (hv : σ[i]? = some (some x)) : Ev (tFld K (tVar i) "sort_of") σ H (.int (sortP q)) := by
  obtain ⟨d, s, da, rfl, rfl, dd, hd⟩ := h
  exact ev_fld (ev_var hv) (e _ _ hd) T.cl_Deed T.n_Deed_sort_of (l_Deed_sort_of ..)
theorem dp_field {σ : L2.St} {B H : Hp} {i : Nat} {x : V} {q : Prog} (h : DpAt T B x q) (e : Ex B H) (hv : σ[i]? = some (some x)) : Ev (tFld K (tVar i) "field") σ H (.int (fieldP q)) := by
  obtain ⟨d, s, da, rfl, rfl, dd, hd⟩ := h
  exact ev_fld (ev_var hv) (e _ _ hd) T.cl_Deed T.n_Deed_field (l_Deed_field ..)
theorem deeds_len (p : Prog) : (deedsIn p).length ≤ p.size := by
  rw [← flat_length p]
  exact List.length_filter_le ..
theorem ok_written (G_deeds_of : FnOk P w K mg base CX0 6 T.f_deeds_of T.d_deeds_of P_deeds_of (spDeedsOf T)) : FnOk P w K mg base CX0 7 T.f_written T.d_written P_written (spWritten T) := by
  refine T.F_written.ok sc_written (fun vs H Q E h => ?_) (fun cdv A outer s H vs Q E hr h => ⟨_, ((pss_cons (ps_set (i := 1) sc_written.nd rfl (Or.inr rfl) (pe_lc (own := [("deed", 2)]) (g := gName 2) rfl sc_written.nd (pi_list (pe_call G_deeds_of (hr.mono (by omega)) (by rfl) T.g_deeds_of T.F_deeds_of.kp (b_deeds_of T) .nil pass0 (pa_cons (pv 0) pa_nil))) (blkOk_by (own := [("deed", 2)]) (N := N_written) (sc := defScope s_written) (by decide +kernel)) (fun _ _ _ _ _ => pg_name (i := 2) sc_written.nd rfl (Or.inl rfl)) (fun _ _ _ _ _ => pts_one (pt_cmpR (r := rIn K false) op_in_seq (pe_fldK (K := K) rfl (pv 2) rfl) (pe_glob (v := .ref T.a_WRITING) rfl T.k_WRITING rfl) (by rfl))) (fun _ _ _ _ _ => (pe_fldK (K := K) rfl (pv 2) rfl)))) (pss_one (ps_ret (pe_lc (own := [("field", 3)]) (g := gName 3) rfl sc_written.nd (pi_range1 (by rfl) T.b_range (pa_cons (pe_glob (v := .int (3)) rfl T.k_FIELDS ⟨_, rfl⟩) pa_nil)) (blkOk_by (own := [("field", 3)]) (N := N_written) (sc := defScope s_written) (by decide +kernel)) (fun _ _ _ _ _ => pg_name (i := 3) sc_written.nd rfl (Or.inl rfl)) (fun _ _ _ _ _ => pts_one (pt_cmpR (r := rIn K false) op_in_seq (pv 3) (pv 1) (by rfl))) (fun _ _ _ _ _ => (pv 3))))))), ?_⟩)
  · obtain ⟨B, a, p, rfl, _⟩ := h
    rfl
  · obtain ⟨B, a, p, rfl, eB, hp, okp, hg, hz, k⟩ := h
    unfold tSeq tAsg tLc iList
    refine ra_call (ea_cons (ev_var rfl) ea_nil) fun H1 e1 => ⟨B, a, p, rfl, eB.trans e1, hp, hg, hz, fun l H2 zs hl e2 h2 hF => ?_⟩
    have e12 := e1.trans e2
    have hlen := Paired.length hF
    have dl := deeds_len p
    refine ⟨l, rfl, ⟨zs, sq_of h2⟩, fun D hD => lc_keepG (K := K) (G := fun v q => v = .int (fieldP q)) hF kW h2 (by omega) hD (fun x => rfl) ?_ ?_ ?_⟩
    · rintro x q H3 hx _ e3
      exact et_test (ev_op (dp_sort T hx (eB.trans (e12.trans e3)) rfl) ev_c (rv_isT (T.t_WRITING _) rfl rfl))
    · rintro x q H3 hx _ hk e3
      exact ⟨_, rfl, dp_field T hx (eB.trans (e12.trans e3)) rfl⟩
    · intro H3 ys e3 h3 hG
      rw [paired_map hG] at h3
      refine s_retL (el_lcR1 (n := 3) (fun i => hasW p i) (fun i => .int (i : Int)) (ea_cons ev_c ea_nil) ⟨by omega, by omega⟩ (fun x => rfl) (fun i H4 e4 hi => ?_) (fun i H4 e4 hi _ => ev_var rfl)) fun r H4 hr e4 h4 => k r H4 (none_ex (e12.trans e3) hr) ((e12.trans e3).trans e4) ?_
      · refine et_is (et_test (ev_op (ev_var rfl) (ev_var rfl) (rv_isL (sq_of (e4 _ _ h3)) rfl (List.all_eq_true.mpr fun x hx => ?_)))) ?_
        · obtain ⟨q, _, rfl⟩ := List.mem_map.mp hx
          rfl
        · rw [← hasW_eq, List.map_map]
          rfl
      · rw [h4, writes_canon p okp]
        rfl
def spLooked : Sp := fun vs H Q E => ∃ (B : Hp) (a : Addr) (p : Prog), vs = [.ref a] ∧ Ex B H ∧ Row T B a p ∧ okPieces p = true ∧ hgt p < 5 ∧ p.size ≤ 1000 ∧ ∀ l H', H l = none → Ex H H' → H' l = some (.lst ((reads p).map fun n : Nat => V.int (n : Int))) → Q (.ref l) H'
theorem ok_looked_at (G_deeds_of : FnOk P w K mg base CX0 6 T.f_deeds_of T.d_deeds_of P_deeds_of (spDeedsOf T)) (G_in_order : FnOk P w K mg base CX0 5 T.f_in_order T.d_in_order P_in_order (spOrder T 5)) : FnOk P w K mg base CX0 7 T.f_looked_at T.d_looked_at P_looked_at (spLooked T) := by
  refine T.F_looked_at.ok sc_looked_at (fun vs H Q E h => ?_) (fun cdv A outer s H vs Q E hr h => ⟨_, ((pss_cons (ps_set (i := 1) sc_looked_at.nd rfl (Or.inr rfl) (pe_lc (own := [("deed", 2)]) (g := gName 2) rfl sc_looked_at.nd (pi_list (pe_call G_deeds_of (hr.mono (by omega)) (by rfl) T.g_deeds_of T.F_deeds_of.kp (b_deeds_of T) .nil pass0 (pa_cons (pv 0) pa_nil))) (blkOk_by (own := [("deed", 2)]) (N := N_looked_at) (sc := defScope s_looked_at) (by decide +kernel)) (fun _ _ _ _ _ => pg_name (i := 2) sc_looked_at.nd rfl (Or.inl rfl)) (fun _ _ _ _ _ => pts_one (pt_cmpR (r := rIn K false) op_in_seq (pe_fldK (K := K) rfl (pv 2) rfl) (pe_glob (v := .ref T.a_READING) rfl T.k_READING rfl) (by rfl))) (fun _ _ _ _ _ => (pe_fldK (K := K) rfl (pv 2) rfl)))) (pss_cons (ps_expr (pe_bm PySem.F.plainAttrs_list PySem.F.slot_list_extend PySem.F.type_list_extend mt_extend (pv 1) (pa_cons (pe_lc (own := [("piece", 4)]) (g := gName 4) rfl sc_looked_at.nd (pi_list (pe_call G_in_order (hr.mono (by omega)) (by rfl) T.g_in_order T.F_in_order.kp (b_in_order T) .nil pass0 (pa_cons (pv 0) pa_nil))) (blkOk_by (own := [("piece", 4)]) (N := N_looked_at) (sc := defScope s_looked_at) (by decide +kernel)) (fun _ _ _ _ _ => pg_name (i := 4) sc_looked_at.nd rfl (Or.inl rfl)) (fun _ _ _ _ _ => pts_one (pt_cmpR op_eq (pe_fldK (K := K) rfl (pv 4) rfl) (pe_glob (v := .int (3)) rfl T.k_PART ⟨_, rfl⟩) (nomark _))) (fun _ _ _ _ _ => (pe_ix (r := rIxL K) ix_list (pe_fldK (K := K) rfl (pv 4) rfl) pe_int (fun _ _ => rfl)))) pa_nil))) (pss_one (ps_ret (pe_lc (own := [("field", 3)]) (g := gName 3) rfl sc_looked_at.nd (pi_range1 (by rfl) T.b_range (pa_cons (pe_glob (v := .int (3)) rfl T.k_FIELDS ⟨_, rfl⟩) pa_nil)) (blkOk_by (own := [("field", 3)]) (N := N_looked_at) (sc := defScope s_looked_at) (by decide +kernel)) (fun _ _ _ _ _ => pg_name (i := 3) sc_looked_at.nd rfl (Or.inl rfl)) (fun _ _ _ _ _ => pts_one (pt_cmpR (r := rIn K false) op_in_seq (pv 3) (pv 1) (by rfl))) (fun _ _ _ _ _ => (pv 3)))))))), ?_⟩)
  · obtain ⟨B, a, p, rfl, _⟩ := h
    rfl
  · obtain ⟨B, a, p, rfl, eB, hp, okp, hg, hz, k⟩ := h
    unfold tSeq tAsg tLc iList
    refine ra_call (ea_cons (ev_var rfl) ea_nil) fun H1 e1 => ⟨B, a, p, rfl, eB.trans e1, hp, hg, hz, fun l H2 zs hl e2 h2 hF => ?_⟩
    have e12 := e1.trans e2
    have hlen := Paired.length hF
    have dl := deeds_len p
    refine ⟨l, rfl, ⟨zs, sq_of h2⟩, fun D hD => lc_keepG (K := K) (G := fun v q => v = .int (fieldP q)) hF kR h2 (by omega) hD (fun x => rfl) ?_ ?_ ?_⟩
    · rintro x q H3 hx _ e3
      exact et_test (ev_op (dp_sort T hx (eB.trans (e12.trans e3)) rfl) ev_c (rv_isT (T.t_READING _) rfl rfl))
    · rintro x q H3 hx _ hk e3
      exact ⟨_, rfl, dp_field T hx (eB.trans (e12.trans e3)) rfl⟩
    · intro H3 ys e3 h3 hG
      have e13 := e12.trans e3
      have ly : ys.length ≤ p.size := by
        have q := Paired.length hG
        have q2 := List.length_filter_le kR (deedsIn p)
        omega
      rw [paired_map hG] at h3 ly
      have hD0 : H D = none := none_ex e12 hD
      unfold tDrop tBM tCons
      refine ⟨_, rfl, Or.inl ⟨rfl, _, sq_of h3⟩, ?_⟩
      refine ra_call (ea_cons (ev_var rfl) ea_nil) fun H4 e4 => ⟨B, a, p, rfl, eB.trans (e13.trans e4), hp, hg, hz, fun l2 H5 zs2 hl2 e5 h5 hF2 => ?_⟩
      have e15 := (e13.trans e4).trans e5
      have hF3 := hF2.one
      have hlen2 := Paired.length hF3
      rw [flat_length] at hlen2
      refine ⟨l2, rfl, ⟨zs2, sq_of h5⟩, fun D2 hD2 => lc_keepG (K := K) (G := fun v q => v = .int (fieldP q)) hF3 isPart h5 (by omega) hD2 (fun x => rfl) ?_ ?_ ?_⟩
      · rintro x q H6 ⟨b, rfl, hb, o1⟩ _ e6
        obtain ⟨dx, nl, dv, il, R⟩ := hb.read
        refine et_is (et_test (ev_int (ev_op (ev_fld (ev_var rfl) ((eB.trans (e15.trans e6)) _ _ R.ins) T.cl_Piece T.n_Piece_kind (l_Piece_kind ..)) ev_c (rv_eq rfl)))) ?_
        cases o1 <;> rfl
      · rintro x q H6 ⟨b, rfl, hb, o1⟩ _ hk e6
        obtain ⟨dx, nl, dv, il, R⟩ := hb.read
        have e := eB.trans (e15.trans e6)
        cases o1 with
        | when f v b => exact ⟨_, rfl, ev_op (ev_fld (ev_var rfl) (e _ _ R.ins) T.cl_Piece T.n_Piece_numbers (l_Piece_numbers ..)) ev_c (rv_ixL (sq_of (e _ _ R.nums)) rfl)⟩
        | _ => cases hk
      · intro H6 ys2 e6 h6 hG2
        have l2 : ys2.length ≤ p.size := by
          have q := Paired.length hG2
          have q2 := List.length_filter_le isPart (flat p)
          rw [flat_length] at q2
          omega
        rw [paired_map hG2] at h6 l2
        have e36 := (e4.trans e5).trans e6
        refine ⟨D, D2, _, _, rfl, rfl, e36 _ _ h3, h6, sz_of (by omega), ?_⟩
        refine s_retL (el_lcR1 (n := 3) (fun i => hasRd p i) (fun i => .int (i : Int)) (ea_cons ev_c ea_nil) ⟨by omega, by omega⟩ (fun x => rfl) (fun i H7 e7 hi => ?_) (fun i H7 e7 hi _ => ev_var rfl)) fun r H7 hr e7 h7 => ?_
        · refine et_is (et_test (ev_op (ev_var rfl) (ev_var rfl) (rv_isL (sq_of (e7 _ _ upd_same)) rfl (List.all_eq_true.mpr fun x hx => ?_)))) ?_
          · rcases List.mem_append.mp hx with hx | hx
            · obtain ⟨q, _, rfl⟩ := List.mem_map.mp hx
              rfl
            · obtain ⟨q, _, rfl⟩ := List.mem_map.mp hx
              rfl
          · rw [← hasR_eq, inV_app, List.map_map, List.map_map]
            rfl
        · have eE : Ex H (L2.upd H6 D (.lst (List.map (fun q => V.int (fieldP q)) (List.filter kR (deedsIn p)) ++ List.map (fun q => V.int (fieldP q)) (List.filter isPart (flat p))))) := Ex.mut (e13.trans e36) hD0
          refine k r H7 (none_ex eE hr) (eE.trans e7) ?_
          rw [h7, reads_canon p okp]
          rfl
def spReshapes : Sp := fun vs H Q E => ∃ (B : Hp) (a : Addr) (p : Prog), vs = [.ref a] ∧ Ex B H ∧ Row T B a p ∧ hgt p < 5 ∧ p.size ≤ 1000 ∧ ∀ H', Ex H H' → Q (.bl (reshapes p)) H'
theorem ok_may_change_rows (G_deeds_of : FnOk P w K mg base CX0 6 T.f_deeds_of T.d_deeds_of P_deeds_of (spDeedsOf T)) : FnOk P w K mg base CX0 7 T.f_may_change_rows T.d_may_change_rows P_may_change_rows (spReshapes T) := by
  refine T.F_may_change_rows.ok sc_may_change_rows (fun vs H Q E h => ?_) (fun cdv A outer s H vs Q E hr h => ⟨_, ((pss_one (ps_ret (pe_cmpR op_gt (pe_callB call_len_seq (by rfl) T.b_len PySem.boot_len (pa_cons (pe_lc (own := [("deed", 1)]) (g := gName 1) rfl sc_may_change_rows.nd (pi_list (pe_call G_deeds_of (hr.mono (by omega)) (by rfl) T.g_deeds_of T.F_deeds_of.kp (b_deeds_of T) .nil pass0 (pa_cons (pv 0) pa_nil))) (blkOk_by (own := [("deed", 1)]) (N := N_may_change_rows) (sc := defScope s_may_change_rows) (by decide +kernel)) (fun _ _ _ _ _ => pg_name (i := 1) sc_may_change_rows.nd rfl (Or.inl rfl)) (fun _ _ _ _ _ => pts_one (pt_cmpR (r := rIn K false) op_in_seq (pe_fldK (K := K) rfl (pv 1) rfl) (pe_glob (v := .ref T.a_CHANGING) rfl T.k_CHANGING rfl) (by rfl))) (fun _ _ _ _ _ => (pv 1))) pa_nil)) pe_int (nomark _))))), ?_⟩)
  · obtain ⟨B, a, p, rfl, _⟩ := h
    rfl
  · obtain ⟨B, a, p, rfl, eB, hp, hg, hz, k⟩ := h
    unfold tRet tOp tCB tCons tLc iList
    refine ra_call (ea_cons (ev_var rfl) ea_nil) fun H1 e1 => ⟨B, a, p, rfl, eB.trans e1, hp, hg, hz, fun l H2 zs hl e2 h2 hF => ?_⟩
    have e12 := e1.trans e2
    have hlen := Paired.length hF
    have dl := deeds_len p
    refine ⟨l, rfl, ⟨zs, sq_of h2⟩, fun D hD => lc_keepG (K := K) (G := fun _ _ => True) hF kC h2 (by omega) hD (fun x => rfl) ?_ ?_ ?_⟩
    · rintro x q H3 hx _ e3
      exact et_test (ev_op (dp_sort T hx (eB.trans (e12.trans e3)) rfl) ev_c (rv_isT (T.t_CHANGING _) rfl rfl))
    · rintro x q H3 hx _ hk e3
      exact ⟨x, trivial, ev_var rfl⟩
    · intro H3 ys e3 h3 hG
      refine ⟨D, ys, rfl, Or.inl (sq_of h3), ?_⟩
      refine ⟨_, 0, rfl, rfl, ?_⟩
      have q := k H3 (e12.trans e3)
      rw [← hasC_eq, ← Paired.length hG] at q
      exact q
end
end Pe
set_option Elab.async false
set_option linter.all false
set_option maxRecDepth 100000
set_option maxHeartbeats 2000000
/-! What is told of programs: the clipboard, ends. -/
namespace Pe
open PySem PySem.Spec PyProof.Rows L2 VamacBase Vamacf Evl
theorem for_enum {K : PySem.W.Frag} {a : Addr} {xs : List V} {g : TG} {tb : TS} {D : Ends} {σ : L2.St} {H : Hp} (Pv : Nat → L2.St → Hp → Prop) (h0 : Pv 0 σ H) (hl : ∀ i σ H, Pv i σ H → SqL K H a xs)
    (hs : ∀ i x σ H t, xs[i]? = some x → Pv i σ H → H t = none → g (.ref t) σ (L2.upd H t (.tup [.int (i : Nat), x])) fun σ2 H2 => tb { D with nx := Pv (i + 1), ct := Pv (i + 1), bk := D.nx } σ2 H2) (hd : ∀ σ H, Pv xs.length σ H → D.nx σ H) :
    ∃ W : Nat → Nat → L2.St → Hp → Prop, (∃ m, W 0 m σ H) ∧ ∀ i m σ H, W i m σ H →
      ((Ite K a).stop i H ∧ D.nx σ H) ∨ ((Ite K a).go i H ∧ ∃ N : L2.St → Hp → Prop, (∀ σ' H', N σ' H' → ∃ m', m' < m ∧ W (i + 1) m' σ' H') ∧ ∀ x H', (Ite K a).yld i H x H' → g x σ H' fun σ2 H2 => tb { D with nx := N, ct := N, bk := D.nx } σ2 H2) := by
  refine ⟨fun i m σ H => m = xs.length - i ∧ i ≤ xs.length ∧ Pv i σ H, ⟨xs.length, by simp, Nat.zero_le _, h0⟩, ?_⟩
  rintro i m σ H ⟨rfl, hi, p⟩
  have q := hl i σ H p
  by_cases hlt : i < xs.length
  · refine .inr ⟨⟨xs, xs[i], q, by simp [hlt]⟩, Pv (i + 1), fun σ' H' p' => ⟨xs.length - (i + 1), by omega, rfl, hlt, p'⟩, fun x H' y => ?_⟩
    obtain ⟨t, x, rfl, ht, rfl, hx⟩ := y
    exact hs i x σ H t (hx xs q) p ht
  · have e : i = xs.length := by omega
    subst e
    exact .inl ⟨⟨xs, q, Nat.le_refl _⟩, hd σ H p⟩
theorem flat_hgt : ∀ (p : Prog), ∀ q ∈ flat p, hgt (inner q) + 1 ≤ hgt p ∧ q.size ≤ p.size
  | .done, q, h => by cases h
  | .deed d s r, q, h => by
    have e : hgt (.deed d s r) = max 1 (hgt r) := rfl
    rcases List.mem_cons.mp h with rfl | h
    · exact ⟨by rw [e]; show 0 + 1 ≤ _; omega, by show 0 + 1 ≤ r.size + 1; omega⟩
    · have := flat_hgt r q h
      exact ⟨by rw [e]; omega, by show q.size ≤ r.size + 1; omega⟩
  | .times n b r, q, h => by
    have e : hgt (.times n b r) = max (hgt b + 1) (hgt r) := rfl
    rcases List.mem_cons.mp h with rfl | h
    · exact ⟨by rw [e]; show hgt b + 1 ≤ _; omega, by show b.size + 0 + 1 ≤ b.size + r.size + 1; omega⟩
    · rcases List.mem_append.mp h with h | h
      · have := flat_hgt b q h
        exact ⟨by rw [e]; omega, by show q.size ≤ b.size + r.size + 1; omega⟩
      · have := flat_hgt r q h
        exact ⟨by rw [e]; omega, by show q.size ≤ b.size + r.size + 1; omega⟩
  | .toEnd b r, q, h => by
    have e : hgt (.toEnd b r) = max (hgt b + 1) (hgt r) := rfl
    rcases List.mem_cons.mp h with rfl | h
    · exact ⟨by rw [e]; show hgt b + 1 ≤ _; omega, by show b.size + 0 + 1 ≤ b.size + r.size + 1; omega⟩
    · rcases List.mem_append.mp h with h | h
      · have := flat_hgt b q h
        exact ⟨by rw [e]; omega, by show q.size ≤ b.size + r.size + 1; omega⟩
      · have := flat_hgt r q h
        exact ⟨by rw [e]; omega, by show q.size ≤ b.size + r.size + 1; omega⟩
  | .when f v b r, q, h => by
    have e : hgt (.when f v b r) = max (hgt b + 1) (hgt r) := rfl
    rcases List.mem_cons.mp h with rfl | h
    · exact ⟨by rw [e]; show hgt b + 1 ≤ _; omega, by show b.size + 0 + 1 ≤ b.size + r.size + 1; omega⟩
    · rcases List.mem_append.mp h with h | h
      · have := flat_hgt b q h
        exact ⟨by rw [e]; omega, by show q.size ≤ b.size + r.size + 1; omega⟩
      · have := flat_hgt r q h
        exact ⟨by rw [e]; omega, by show q.size ≤ b.size + r.size + 1; omega⟩
/-! ### by how much the rest is greater -/
def optV : Option Int → V
  | none => .non
  | some i => .int i
theorem opt_flat (o : Option Int) : flatV (optV o) = true := by cases o <;> rfl
theorem opts_flat (l : List (Option Int)) : (l.map optV).all flatV = true := List.all_eq_true.mpr fun x hx => by
  obtain ⟨o, _, rfl⟩ := List.mem_map.mp hx
  exact opt_flat o
theorem in_none (l : List (Option Int)) : inV .non (l.map optV) = true ↔ none ∈ l := by
  unfold inV
  rw [List.any_map, List.any_eq_true]
  refine ⟨fun ⟨o, h1, h2⟩ => ?_, fun h => ⟨none, h, rfl⟩⟩
  cases o with
  | none => exact h1
  | some i => cases h2
section
variable {P : Program} {w : World} {K : PySem.W.Frag} {mg : Str → Option Value} {base : Heap} (T : Txt K mg)
def spRestDeed : Sp := fun vs H Q E => ∃ (a : Addr) (d : Deed) (s : Int), vs = [.ref a] ∧ DeedAt T H a (rawOf d s) ∧ ∀ H', Ex H H' → Q (optV (moreOf d)) H'
theorem ok_rest_of_deed : FnOk P w K mg base CX0 1 T.f_rest_of_deed T.d_rest_of_deed P_rest_of_deed (spRestDeed T) := by
  refine T.F_rest_of_deed.ok sc_rest_of_deed (fun vs H Q E h => ?_) (fun cdv A outer s H vs Q E hr h => ⟨_, ((pss_cons (ps_if (pt_cmpR op_eq (pe_fld (pv 0) rfl) (pe_glob (v := .int (2)) rfl T.k_TOP ⟨_, rfl⟩) (nomark _)) (pss_one (ps_ret pe_non)) pss_nil) (pss_cons (ps_if (pt_cmpR op_in_seq (pe_fld (pv 0) rfl) (pe_tup (pa_cons (pe_glob (v := .int (0)) rfl T.k_DOWN ⟨_, rfl⟩) (pa_cons (pe_glob (v := .int (7)) rfl T.k_DELETE ⟨_, rfl⟩) (pa_cons (pe_glob (v := .int (9)) rfl T.k_FIND ⟨_, rfl⟩) pa_nil)))) (by rfl)) (pss_one (ps_ret (pe_un un_neg pe_int))) pss_nil) (pss_one (ps_ret (pe_callTy call_int1 (by rfl) T.b_int (by decide +kernel) (pa_cons (pe_cmpR op_in_seq (pe_fld (pv 0) rfl) (pe_tup (pa_cons (pe_glob (v := .int (1)) rfl T.k_UP ⟨_, rfl⟩) (pa_cons (pe_glob (v := .int (8)) rfl T.k_DOUBLE ⟨_, rfl⟩) pa_nil))) (by rfl)) pa_nil))))))), ?_⟩)
  · obtain ⟨a, d, s, rfl, _⟩ := h
    rfl
  · obtain ⟨a, d, s, rfl, ⟨dd, hd⟩, k⟩ := h
    have es : ∀ {H1 : Hp}, Ex H H1 → Ev (tFld K (tVar 0) "sort_of") (L2.start N_rest_of_deed [.ref a]) H1 (.int (dSort d)) := fun e => e_sort (e _ _ hd) rfl
    refine q_when (et_sort (c := 2) (es (Ex.refl H))) (fun hc H1 e1 => ?_) (fun hc H1 e1 => ?_)
    · cases sort_top (of_decide_eq_true hc)
      exact s_ret ev_c fun H2 e2 => k H2 (e1.trans e2)
    · refine q_when (et_test (ev_inU (es e1) (eu_tup (ea_cons ev_c (ea_cons ev_c (ea_cons ev_c ea_nil))) (by simp)) rfl rfl)) (fun hb H2 e2 => ?_) (fun hb H2 e2 => ?_)
      · have em : moreOf d = some (-1) := by cases d <;> first | rfl | (simp [inV, eqV, dSort] at hb)
        rw [em] at k
        exact s_ret (ev_un ev_c ru_neg) fun H3 e3 => k H3 ((e1.trans e2).trans e3)
      · have em : moreOf d = some (if inV (.int (dSort d)) [.int 1, .int 8] = true then 1 else 0) := by
          cases d <;> first | rfl | (simp [inV, eqV, dSort] at hb; done) | (exact absurd rfl (of_decide_eq_false hc))
        rw [em] at k
        exact s_ret (ev_cb (ea_cons (ev_inU (es (e1.trans e2)) (eu_tup (ea_cons ev_c (ea_cons ev_c ea_nil)) (by simp)) rfl rfl) ea_nil) fun H3 _ Q q => Or.inr ⟨_, rfl, q H3 (Ex.refl H3)⟩) fun H3 e3 => k H3 ((e1.trans e2).trans e3)
def spRestRow (h : Nat) : Sp := fun vs H Q E => ∃ (a : Addr) (p : Prog), vs = [.ref a] ∧ Row T H a p ∧ okPieces p = true ∧ hgt p < h ∧ p.size ≤ 1000 ∧ ∀ H', Ex H H' → Q (optV (more p)) H'
def spRestPiece (h : Nat) : Sp := fun vs H Q E => ∃ (a : Addr) (q : Prog), vs = [.ref a] ∧ One q ∧ PcAt T H a q ∧ okPieces q = true ∧ hgt (inner q) < h ∧ q.size ≤ 1000 ∧ ∀ H', Ex H H' → Q (optV (more q)) H'
theorem ok_heads {p : Prog} : okPieces p = true → ∀ q ∈ heads p, okPieces q = true := by
  induction p using prog_ind with
  | h0 => intro _ q h; cases h
  | h1 q r hq ih =>
    intro ok z hz
    rw [ok_then] at ok
    obtain ⟨o1, o2⟩ := Bool.and_eq_true_iff.mp ok
    rw [heads_step hq] at hz
    rcases List.mem_cons.mp hz with rfl | hz
    · exact o1
    · exact ih o2 z hz
theorem ok_rest_row {h : Nat} (G_rest_of : FnOk P w K mg base CX0 (2 * h + 2) T.f_rest_of T.d_rest_of P_rest_of (spRestPiece T h)) : FnOk P w K mg base CX0 (2 * h + 3) T.f_rest_of_row T.d_rest_of_row P_rest_of_row (spRestRow T (h + 1)) := by
  refine T.F_rest_of_row.ok sc_rest_of_row (fun vs H Q E h => ?_) (fun cdv A outer s H vs Q E hr h => ⟨_, ((pss_cons (ps_setLc (i := 1) (own := [("piece", 2)]) (g := gName 2) (tt := tYes) rfl sc_rest_of_row.nd rfl rfl (sw_true rfl rfl rfl (by decide +kernel)) (pi_list (pv 0)) (blkOk_by (own := [("piece", 2)]) (N := N_rest_of_row) (sc := defScope s_rest_of_row) (by decide +kernel)) (fun _ _ _ _ _ => pg_name (i := 2) sc_rest_of_row.nd rfl (Or.inl rfl)) (fun _ _ _ _ _ => pts_nil) (fun _ _ _ _ _ => (pe_call G_rest_of (hr.mono (by omega)) (by rfl) T.g_rest_of T.F_rest_of.kp (b_rest_of T) .nil pass0 (pa_cons (pv 2) pa_nil)))) (pss_cons (ps_if (pt_cmpR op_in_seq pe_non (pv 1) (by rfl)) (pss_one (ps_ret pe_non)) pss_nil) (pss_one (ps_ret (pe_callB (cr_sum rfl) (by rfl) T.b_sum (by decide +kernel) (pa_cons (pv 1) pa_nil))))))), ?_⟩)
  · obtain ⟨a, p, rfl, _⟩ := h
    rfl
  · obtain ⟨a, p, rfl, ⟨xs, hx, hp⟩, okp, hg, hz, k⟩ := h
    have hl := hp.len
    have rl := row_le p
    have hh := hp.heads
    refine ⟨_, rfl, a, rfl, ⟨xs, sq_of hx⟩, fun D hD => lc_keepG (K := K) (G := fun v q => v = optV (more q)) hh (fun _ => true) hx (by omega) hD (fun x => rfl) (fun x q H2 _ _ e2 => et_yes) ?_ ?_⟩
    · rintro x q H2 ⟨b, rfl, hb⟩ hm _ e2
      have := hgt_heads q hm
      have := size_mem q hm
      exact ⟨_, rfl, ev_call (ea_cons (ev_var rfl) ea_nil) fun H3 e3 Q q' E => ⟨b, q, rfl, heads_one p q hm, hb.mono (e2.trans e3), ok_heads okp q hm, by omega, by omega, fun H4 e4 => q' H4 e4⟩⟩
    · intro H2 ys e2 h2 hG
      have ft : (heads p).filter (fun _ => true) = heads p := List.filter_eq_self.mpr fun _ _ => rfl
      rw [ft] at hG
      have ey : ys = ((heads p).map more).map optV := by rw [paired_map hG, List.map_map]; rfl
      rw [ey] at h2
      rw [more_heads] at k
      generalize hL : (heads p).map more = L at h2 k
      refine q_when (b := inV .non (L.map optV)) (et_test (ev_op ev_c (ev_var rfl) (rv_isL (sq_of h2) rfl (opts_flat L)))) (fun hb H3 e3 => ?_) (fun hb H3 e3 => ?_)
      · rw [sumO_none ((in_none L).mp hb)] at k
        exact s_ret ev_c fun H4 e4 => k H4 ((e2.trans e3).trans e4)
      · rcases opt_split L with hn | ⟨ns, rfl⟩
        · rw [(in_none L).mpr hn] at hb
          cases hb
        · rw [sumO_some rfl] at k
          rw [List.map_map] at h2
          refine s_ret (v := .int ns.sum) (fun H4 e4 Q q => ⟨_, rfl, D, ns, rfl, sq_of (e4 _ _ (e3 _ _ h2)), q H4 (Ex.refl H4)⟩) fun H4 e4 => k H4 ((e2.trans e3).trans e4)
theorem max_zero (x : Int) : (if x > 0 then x else 0) = if x < 0 then 0 else x := by split <;> split <;> omega
theorem ok_rest_piece {h : Nat} (G_rest_of_deed : FnOk P w K mg base CX0 1 T.f_rest_of_deed T.d_rest_of_deed P_rest_of_deed (spRestDeed T)) (G_rest_of_row : FnOk P w K mg base CX0 (2 * h + 1) T.f_rest_of_row T.d_rest_of_row P_rest_of_row (spRestRow T h)) : FnOk P w K mg base CX0 (2 * h + 2) T.f_rest_of T.d_rest_of P_rest_of (spRestPiece T h) := by
  refine T.F_rest_of.ok sc_rest_of (fun vs H Q E h => ?_) (fun cdv A outer s H vs Q E hr h => ⟨_, ((pss_cons (ps_if (pt_cmpR op_eq (pe_fld (pv 0) rfl) (pe_glob (v := .int (0)) rfl T.k_A_DEED ⟨_, rfl⟩) (nomark _)) (pss_one (ps_ret (pe_call G_rest_of_deed (hr.mono (by omega)) (by rfl) T.g_rest_of_deed T.F_rest_of_deed.kp (b_rest_of_deed T) .nil pass0 (pa_cons (pe_fld (pv 0) rfl) pa_nil)))) pss_nil) (pss_cons (ps_if (pt_cmpR op_eq (pe_fld (pv 0) rfl) (pe_glob (v := .int (2)) rfl T.k_TO_END ⟨_, rfl⟩) (nomark _)) (pss_one (ps_ret pe_int)) pss_nil) (pss_cons (ps_set (i := 1) sc_rest_of.nd rfl (Or.inl rfl) (pe_call G_rest_of_row (hr.mono (by omega)) (by rfl) T.g_rest_of_row T.F_rest_of_row.kp (b_rest_of_row T) .nil pass0 (pa_cons (pe_fld (pv 0) rfl) pa_nil))) (pss_cons (ps_if (pt_cmpR op_isN (pv 1) pe_non (nomark _)) (pss_one (ps_ret pe_non)) pss_nil) (pss_cons (ps_if (pt_cmpR op_eq (pe_fld (pv 0) rfl) (pe_glob (v := .int (1)) rfl T.k_ROUNDS ⟨_, rfl⟩) (nomark _)) (pss_one (ps_ret (pe_op op_mul (pe_ix ix_list (pe_fld (pv 0) rfl) pe_int (fun _ _ => rfl)) (pv 1)))) pss_nil) (pss_one (ps_ret (pe_callB (call_max2 rfl) (by rfl) T.b_max (by decide +kernel) (pa_cons pe_int (pa_cons (pv 1) pa_nil))))))))))), ?_⟩)
  · obtain ⟨a, q, rfl, _⟩ := h
    rfl
  · obtain ⟨a, q, rfl, o1, hq, okq, hg, hz, k⟩ := h
    obtain ⟨dx, nl, dv, il, R⟩ := hq.read
    have s1 := size_one o1
    have kd : ∀ {σ : L2.St} {H1 : Hp} {c : Int}, σ[0]? = some (some (.ref a)) → Ex H H1 → EvT (tTest (tOp rEq (tFld K (tVar 0) "kind") (tC (.int c)))) σ H1 (decide (kindN q = c)) := fun {σ H1 c} h e => et_test (ev_int (ev_op (ev_fld (ev_var h) (e _ _ R.ins) T.cl_Piece T.n_Piece_kind (l_Piece_kind ..)) ev_c (rv_eq rfl)))
    refine q_when (kd rfl (Ex.refl H)) (fun hc H1 e1 => ?_) (fun hc H1 e1 => ?_)
    · have hc := of_decide_eq_true hc
      cases o1 with
      | deed d s =>
        obtain ⟨da, rfl, hD⟩ := R.dv
        rw [more_deed] at k
        exact s_ret (ev_call (ea_cons (ev_fld (ev_var rfl) (e1 _ _ R.ins) T.cl_Piece T.n_Piece_deed (l_Piece_deed ..)) ea_nil) fun H2 e2 Q q' E => ⟨da, d, s, rfl, hD.mono (e1.trans e2), fun H3 e3 => q' H3 e3⟩) fun H2 e2 => k H2 (e1.trans e2)
      | _ => cases hc
    · have hc := of_decide_eq_false hc
      refine q_when (kd rfl e1) (fun hc2 H2 e2 => ?_) (fun hc2 H2 e2 => ?_)
      · have hc2 := of_decide_eq_true hc2
        cases o1 with
        | toEnd b =>
          rw [more_toEnd] at k
          exact s_ret ev_c fun H3 e3 => k H3 ((e1.trans e2).trans e3)
        | _ => cases hc2
      · have hc2 := of_decide_eq_false hc2
        have e12 := e1.trans e2
        have oki : okPieces (inner q) = true := by
          cases o1 with
          | deed d s => rfl
          | times n b => exact (ok_times okq).2.2.1
          | toEnd b => exact (ok_toEnd okq).1
          | when f v b => exact (ok_when okq).2.2.1
        refine q_asg (v := optV (more (inner q))) (ev_call (ea_cons (ev_fld (ev_var rfl) (e12 _ _ R.ins) T.cl_Piece T.n_Piece_inner (l_Piece_inner ..)) ea_nil) fun H3 e3 Q q' E => ⟨il, inner q, rfl, R.row.mono (e12.trans e3), oki, hg, by omega, fun H4 e4 => q' H4 e4⟩) fun H3 e3 => ?_
        have e13 := e12.trans e3
        generalize hm : more (inner q) = o
        refine q_when (b := decide (optV o = .non)) (et_test (ev_isN (ev_var rfl))) (fun hn H4 e4 => ?_) (fun hn H4 e4 => ?_)
        · have hn := of_decide_eq_true hn
          cases o with
          | some i => cases hn
          | none =>
            have em : more q = none := by
              cases o1 with
              | deed d s => exact absurd rfl hc
              | times n b => rw [more_times, show more b = none from hm]; rfl
              | toEnd b => exact absurd rfl hc2
              | when f v b => rw [more_when, show more b = none from hm]; rfl
            rw [em] at k
            exact s_ret ev_c fun H5 e5 => k H5 ((e13.trans e4).trans e5)
        · have hn := of_decide_eq_false hn
          cases o with
          | none => exact absurd rfl hn
          | some i =>
            have e14 := e13.trans e4
            refine q_when (kd rfl e14) (fun hc3 H5 e5 => ?_) (fun hc3 H5 e5 => ?_)
            · have hc3 := of_decide_eq_true hc3
              cases o1 with
              | times n b =>
                rw [more_times, show more b = some i from hm] at k
                obtain ⟨n1, n9, _⟩ := ok_times okq
                exact s_ret (ev_op (ev_op (ev_fld (ev_var rfl) ((e14.trans e5) _ _ R.ins) T.cl_Piece T.n_Piece_numbers (l_Piece_numbers ..)) ev_c (rv_ixL (sq_of ((e14.trans e5) _ _ R.nums)) rfl)) (ev_var rfl) (rv_I (i := (n : Int)) (j := i) (Or.inl ⟨by omega, by omega⟩))) fun H6 e6 => k H6 ((e14.trans e5).trans e6)
              | _ => cases hc3
            · have hc3 := of_decide_eq_false hc3
              cases o1 with
              | when f v b =>
                rw [more_when, show more b = some i from hm] at k
                have k : ∀ H', Ex H H' → Q (.int (if i < 0 then 0 else i)) H' := k
                rw [← max_zero] at k
                exact s_ret (ev_max2 ev_c (ev_var rfl)) fun H6 e6 => k H6 ((e14.trans e5).trans e6)
              | deed d s => exact absurd rfl hc
              | times n b => exact absurd rfl hc3
              | toEnd b => exact absurd rfl hc2
theorem ok_rest (G_rest_of_deed : FnOk P w K mg base CX0 1 T.f_rest_of_deed T.d_rest_of_deed P_rest_of_deed (spRestDeed T)) : ∀ h : Nat, FnOk P w K mg base CX0 (2 * h + 1) T.f_rest_of_row T.d_rest_of_row P_rest_of_row (spRestRow T h)
  | 0 => fn_no fun vs H Q E ⟨_, _, _, _, _, h, _⟩ => absurd h (Nat.not_lt_zero _)
  | h + 1 => ok_rest_row T (ok_rest_piece T G_rest_of_deed (ok_rest G_rest_of_deed h))
end
end Pe
set_option Elab.async false
set_option linter.all false
set_option maxRecDepth 100000
set_option maxHeartbeats 2000000
/-! What is told of programs: ends, what is against them, the clipboard. -/
namespace Pe
open PySem PySem.Spec PyProof.Rows L2 VamacBase Vamacf Evl
theorem ok_inner {q : Prog} (h : One q) (ok : okPieces q = true) : okPieces (inner q) = true := by
  cases h with
  | deed d s => rfl
  | times n b => exact (ok_times ok).2.2.1
  | toEnd b => exact (ok_toEnd ok).1
  | when f v b => exact (ok_when ok).2.2.1
theorem flat_ok : ∀ (p : Prog), okPieces p = true → ∀ q ∈ flat p, okPieces q = true
  | .done, _, q, h => by cases h
  | .deed d s r, ok, q, h => by
    have o : okPieces ((Prog.deed d s .done).andThen r) = true := ok
    rw [ok_then] at o
    obtain ⟨o1, o2⟩ := Bool.and_eq_true_iff.mp o
    rcases List.mem_cons.mp h with rfl | h
    · exact o1
    · exact flat_ok r o2 q h
  | .times n b r, ok, q, h => by
    have o : okPieces ((Prog.times n b .done).andThen r) = true := ok
    rw [ok_then] at o
    obtain ⟨o1, o2⟩ := Bool.and_eq_true_iff.mp o
    rcases List.mem_cons.mp h with rfl | h
    · exact o1
    · rcases List.mem_append.mp h with h | h
      · exact flat_ok b (ok_times ok).2.2.1 q h
      · exact flat_ok r o2 q h
  | .toEnd b r, ok, q, h => by
    have o : okPieces ((Prog.toEnd b .done).andThen r) = true := ok
    rw [ok_then] at o
    obtain ⟨o1, o2⟩ := Bool.and_eq_true_iff.mp o
    rcases List.mem_cons.mp h with rfl | h
    · exact o1
    · rcases List.mem_append.mp h with h | h
      · exact flat_ok b (ok_toEnd ok).1 q h
      · exact flat_ok r o2 q h
  | .when f v b r, ok, q, h => by
    have o : okPieces ((Prog.when f v b .done).andThen r) = true := ok
    rw [ok_then] at o
    obtain ⟨o1, o2⟩ := Bool.and_eq_true_iff.mp o
    rcases List.mem_cons.mp h with rfl | h
    · exact o1
    · rcases List.mem_append.mp h with h | h
      · exact flat_ok b (ok_when ok).2.2.1 q h
      · exact flat_ok r o2 q h
theorem most_cons {q r : Prog} (h : One q) : most (q.andThen r) = most q + most r := by
  cases h with
  | deed d s => show most r + 1 = (0 + 1) + most r; omega
  | times n b => show n * most b + most r = (n * most b + 0) + most r; omega
  | toEnd b => show 8 * most b + most r = (8 * most b + 0) + most r; omega
  | when f v b => show most b + most r = (most b + 0) + most r; omega
section
variable {P : Program} {w : World} {K : PySem.W.Frag} {mg : Str → Option Value} {base : Heap} (T : Txt K mg)
def spNearer : Sp := fun vs H Q E => ∃ (b : Addr) (q : Prog), vs = [.ref b] ∧ One q ∧ PcAt T H b q ∧ okPieces q = true ∧ hgt (inner q) < 5 ∧ q.size ≤ 1000 ∧ ∀ H', Ex H H' → Q (.bl (nearer (inner q))) H'
theorem ok_comes_nearer (G_rest_of_row : FnOk P w K mg base CX0 11 T.f_rest_of_row T.d_rest_of_row P_rest_of_row (spRestRow T 5)) : FnOk P w K mg base CX0 12 T.f_comes_nearer T.d_comes_nearer P_comes_nearer (spNearer T) := by
  refine T.F_comes_nearer.ok sc_comes_nearer (fun vs H Q E h => ?_) (fun cdv A outer s H vs Q E hr h => ⟨_, ((pss_cons (ps_set (i := 1) sc_comes_nearer.nd rfl (Or.inl rfl) (pe_call G_rest_of_row (hr.mono (by omega)) (by rfl) T.g_rest_of_row T.F_rest_of_row.kp (b_rest_of_row T) .nil pass0 (pa_cons (pe_fld (pv 0) rfl) pa_nil))) (pss_one (ps_ret (pe_and (pe_cmpR op_notN (pv 1) pe_non (nomark _)) (pe_one (pe_cmpR op_le (pv 1) (pe_un un_neg pe_int) (nomark _)))))))), ?_⟩)
  · obtain ⟨b, q, rfl, _⟩ := h
    rfl
  · obtain ⟨b, q, rfl, o1, hq, okq, hg, hz, k⟩ := h
    obtain ⟨dx, nl, dv, il, R⟩ := hq.read
    have s1 := size_one o1
    refine q_asg (v := optV (more (inner q))) (ev_call (ea_cons (ev_fld (ev_var rfl) R.ins T.cl_Piece T.n_Piece_inner (l_Piece_inner ..)) ea_nil) fun H3 e3 Q q' E => ⟨il, inner q, rfl, R.row.mono e3, ok_inner o1 okq, hg, by omega, fun H4 e4 => q' H4 e4⟩) fun H1 e1 => ?_
    rw [nearer_eq] at k
    generalize more (inner q) = o at k
    cases o with
    | none => exact s_ret (ev_andV (a := !decide (V.non = V.non)) (b := false) (ev_notN (ev_var rfl)) (fun h => by cases h)) fun H2 e2 => k H2 (e1.trans e2)
    | some i =>
      refine s_ret (ev_is (ev_andV (a := !decide (V.int i = V.non)) (b := decide (i ≤ -1)) (ev_notN (ev_var rfl)) (fun _ => ev_op (ev_var rfl) (ev_un ev_c ru_neg) rv_I0)) ?_) fun H2 e2 => k H2 (e1.trans e2)
      rw [decide_eq_false fun z => by cases z]
      rfl
def spFirst : Sp := fun vs H Q E => ∃ (B : Hp) (a : Addr) (p : Prog), vs = [.ref a] ∧ Ex B H ∧ Row T B a p ∧ okPieces p = true ∧ hgt p < 5 ∧ p.size ≤ 1000 ∧ ∀ H', Ex H H' → Q (frV (loose 0 p)) H'
theorem ok_first_not_nearer (G_in_order : FnOk P w K mg base CX0 5 T.f_in_order T.d_in_order P_in_order (spOrder T 5)) (G_comes_nearer : FnOk P w K mg base CX0 12 T.f_comes_nearer T.d_comes_nearer P_comes_nearer (spNearer T)) : FnOk P w K mg base CX0 13 T.f_first_not_nearer T.d_first_not_nearer P_first_not_nearer (spFirst T) := by
  refine T.F_first_not_nearer.ok sc_first_not_nearer (fun vs H Q E h => ?_) (fun cdv A outer s H vs Q E hr h => ⟨_, ((pss_cons (ps_for PassesOwn.never rfl (pi_enum (by rfl) T.b_enumerate (pa_cons (pe_call G_in_order (hr.mono (by omega)) (by rfl) T.g_in_order T.F_in_order.kp (b_in_order T) .nil pass0 (pa_cons (pv 0) pa_nil)) pa_nil)) (pg_tup rfl (pgs_cons (pg_name (i := 1) sc_first_not_nearer.nd rfl (Or.inl rfl)) (pgs_cons (pg_name (i := 2) sc_first_not_nearer.nd rfl (Or.inl rfl)) pgs_nil))) (pss_one (ps_if (PW.pt (pw_and (pt_cmpR op_eq (pe_fld (pv 2) rfl) (pe_glob (v := .int (2)) rfl T.k_TO_END ⟨_, rfl⟩) (nomark _)) (pw_and1 (pt_not (pt_val (pe_call G_comes_nearer (hr.mono (by omega)) (by rfl) T.g_comes_nearer T.F_comes_nearer.kp (b_comes_nearer T) .nil pass0 (pa_cons (pv 2) pa_nil))))))) (pss_one (ps_ret (pv 1))) pss_nil))) (pss_one (ps_ret pe_non)))), ?_⟩)
  · obtain ⟨B, a, p, rfl, _⟩ := h
    rfl
  · obtain ⟨B, a, p, rfl, eB, hp, okp, hg, hz, k⟩ := h
    rw [loose_zero] at k
    unfold tSeq tFor iEnum
    refine ra_call (ea_cons (ev_var rfl) ea_nil) fun H1 e1 => ⟨B, a, p, rfl, eB.trans e1, hp, hg, hz, fun l H2 ys hl e2 h2 hF => ?_⟩
    have e12 := e1.trans e2
    have hF1 := hF.one
    refine ⟨l, ys, rfl, sq_of h2, for_enum (K := K) (a := l) (xs := ys) (fun i σ' H' => ∃ v1 v2, σ' = [some (.ref a), v1, v2] ∧ Ex H2 H' ∧ ∀ j q, j < i → (flat p)[j]? = some q → endless q = false) ⟨none, none, rfl, Ex.refl _, fun j q h => absurd h (Nat.not_lt_zero _)⟩
      (fun i σ' H' ⟨_, _, _, e, _⟩ => sq_of (e _ _ h2)) ?_ ?_⟩
    · rintro i x σ' H3 t hi ⟨v1, v2, rfl, e3, hno⟩ ht
      obtain ⟨q, hq, b, rfl, hb, o1⟩ := paired_at hF1 hi
      obtain ⟨hq1, hq2⟩ := flat_hgt p q (List.mem_of_getElem? hq)
      have okq := flat_ok p okp q (List.mem_of_getElem? hq)
      have e4 : Ex H2 (L2.upd H3 t (.tup [.int (i : Nat), .ref b])) := e3.trans (Ex.new ht)
      have eB4 := eB.trans (e12.trans e4)
      have hb4 := hb.mono eB4
      obtain ⟨dx, nl, dv, il, R⟩ := hb4.read
      refine ⟨t, [.int (i : Nat), .ref b], rfl, st_of upd_same, rfl, .int (i : Nat), [.ref b], rfl, .ref b, [], rfl, rfl, ?_⟩
      have he : endless q = (decide (kindN q = 2) && !nearer (inner q)) := by cases o1 <;> rfl
      refine s_when (b := endless q) (et_is (et_and (et_test (ev_int (ev_op (ev_fld (ev_var rfl) R.ins T.cl_Piece T.n_Piece_kind (l_Piece_kind ..)) ev_c (rv_eq rfl)))) fun _ => et_not (et_B (ev_call (z := .bl (nearer (inner q))) (ea_cons (ev_var rfl) ea_nil) fun H5 e5 Q q' E => ⟨b, q, rfl, o1, hb4.mono e5, okq, by omega, by omega, fun H6 e6 => q' H6 e6⟩))) he.symm) (fun hb H5 e5 => ?_) (fun hb H5 e5 => ?_)
      · refine s_ret (ev_var rfl) fun H6 e6 => ?_
        have z := k H6 (e12.trans (e4.trans (e5.trans e6)))
        rw [findIdx_at hno hq hb] at z
        exact z
      · refine ⟨_, _, rfl, e4.trans e5, fun j q2 hj hq2 => ?_⟩
        by_cases c : j < i
        · exact hno j q2 c hq2
        · have : j = i := by omega
          rw [this, hq] at hq2
          cases hq2
          exact hb
    · rintro σ' H3 ⟨v1, v2, rfl, e3, hno⟩
      dsimp only
      refine s_ret ev_c fun H4 e4 => ?_
      have z := k H4 (e12.trans (e3.trans e4))
      rw [findIdx_no fun j q hj hq => hno j q (by rw [Paired.length hF1]; exact hj) hq] at z
      exact z
def spMost (h : Nat) : Sp := fun vs H Q E => ∃ (B : Hp) (a : Addr) (p : Prog), vs = [.ref a] ∧ Ex B H ∧ Row T B a p ∧ okPieces p = true ∧ hgt p < h ∧ ∀ H', Ex H H' → Q (.int (most p : Nat)) H'
theorem ok_most1 {h : Nat} (G_most_deeds : FnOk P w K mg base CX0 h T.f_most_deeds T.d_most_deeds P_most_deeds (spMost T h)) : FnOk P w K mg base CX0 (h + 1) T.f_most_deeds T.d_most_deeds P_most_deeds (spMost T (h + 1)) := by
  refine T.F_most_deeds.ok sc_most_deeds (fun vs H Q E h => ?_) (fun cdv A outer s H vs Q E hr hh => ⟨_, ((pss_cons (ps_set (i := 1) sc_most_deeds.nd rfl (Or.inl rfl) pe_int) (pss_cons (ps_for PassesOwn.never rfl (pi_list (pv 0)) (pg_name (i := 2) sc_most_deeds.nd rfl (Or.inl rfl)) (pss_one (ps_if (pt_cmpR op_eq (pe_fld (pv 2) rfl) (pe_glob (v := .int (0)) rfl T.k_A_DEED ⟨_, rfl⟩) (nomark _)) (pss_one (ps_aug (i := 1) sc_most_deeds.nd rfl (Or.inl rfl) pe_int ip_add)) (pss_one (ps_if (pt_cmpR op_eq (pe_fld (pv 2) rfl) (pe_glob (v := .int (1)) rfl T.k_ROUNDS ⟨_, rfl⟩) (nomark _)) (pss_one (ps_aug (i := 1) sc_most_deeds.nd rfl (Or.inl rfl) (pe_op op_mul (pe_ix ix_list (pe_fld (pv 2) rfl) pe_int (fun _ _ => rfl)) (pe_call G_most_deeds (hr.mono (by omega)) (by rfl) T.g_most_deeds T.F_most_deeds.kp (b_most_deeds T) .nil pass0 (pa_cons (pe_fld (pv 2) rfl) pa_nil))) ip_add)) (pss_one (ps_if (pt_cmpR op_eq (pe_fld (pv 2) rfl) (pe_glob (v := .int (2)) rfl T.k_TO_END ⟨_, rfl⟩) (nomark _)) (pss_one (ps_aug (i := 1) sc_most_deeds.nd rfl (Or.inl rfl) (pe_op op_mul (pe_glob (v := .int (8)) rfl T.k_ROWS_TO_END ⟨_, rfl⟩) (pe_call G_most_deeds (hr.mono (by omega)) (by rfl) T.g_most_deeds T.F_most_deeds.kp (b_most_deeds T) .nil pass0 (pa_cons (pe_fld (pv 2) rfl) pa_nil))) ip_add)) (pss_one (ps_aug (i := 1) sc_most_deeds.nd rfl (Or.inl rfl) (pe_call G_most_deeds (hr.mono (by omega)) (by rfl) T.g_most_deeds T.F_most_deeds.kp (b_most_deeds T) .nil pass0 (pa_cons (pe_fld (pv 2) rfl) pa_nil)) ip_add))))))))) (pss_one (ps_ret (pv 1)))))), ?_⟩)
  · obtain ⟨B, a, p, rfl, _⟩ := h
    rfl
  · obtain ⟨B, a, p, rfl, eB, ⟨xs, hx, hp⟩, okp, hg, k⟩ := hh
    refine q_asg ev_c fun H1 e1 => ?_
    refine ⟨_, rfl, a, rfl, ⟨xs, sq_of ((eB.trans e1) _ _ hx)⟩, for_row (K := K) (a := a) hp (fun j q σ' H' => ∃ (n : Nat) (v : Option V), σ' = [some (.ref a), some (.int (n : Int)), v] ∧ Ex H H' ∧ n + most q = most p ∧ okPieces q = true ∧ hgt q < h + 1)
      ⟨0, none, rfl, e1, Nat.zero_add _, okp, hg⟩ (fun j q σ' H' ⟨n, v, _, e, _⟩ => sq_of ((eB.trans e) _ _ hx)) ?_ ?_⟩
    · rintro j b q r σ' H' Nx o1 hb hj ⟨n, v, rfl, e, eq, okq, hg'⟩ nx
      rw [ok_then] at okq
      obtain ⟨ok1, ok2⟩ := Bool.and_eq_true_iff.mp okq
      have hq : hgt (inner q) + 1 ≤ hgt (q.andThen r) := by rw [hgt_cons o1]; exact Nat.le_max_left ..
      have hr2 : hgt r ≤ hgt (q.andThen r) := by rw [hgt_cons o1]; exact Nat.le_max_right ..
      rw [most_cons o1] at eq
      have eBH := eB.trans e
      obtain ⟨dx, nl, dv, il, Rd⟩ := hb.read
      have R := Rd.mono eBH
      have kd : ∀ {H1 : Hp} {c : Int}, Ex H' H1 → EvT (tTest (tOp rEq (tFld K (tVar 2) "kind") (tC (.int c)))) [some (.ref a), some (.int (n : Int)), some (.ref b)] H1 (decide (kindN q = c)) := fun {H1 c} e => et_test (ev_int (ev_op (ev_fld (ev_var rfl) (e _ _ R.ins) T.cl_Piece T.n_Piece_kind (l_Piece_kind ..)) ev_c (rv_eq rfl)))
      have inn : ∀ {H1 : Hp}, Ex H' H1 → Ev (tCall (spMost T h) [] E0 (tCons (tFld K (tVar 2) "inner") tNil)) [some (.ref a), some (.int (n : Int)), some (.ref b)] H1 (.int (most (inner q) : Nat)) := fun {H1} e =>
        ev_call (ea_cons (ev_fld (ev_var rfl) (e _ _ R.ins) T.cl_Piece T.n_Piece_inner (l_Piece_inner ..)) ea_nil) fun H2 e2 Q q' E => ⟨B, il, inner q, rfl, eBH.trans (e.trans e2), Rd.row, ok_inner o1 ok1, by omega, fun H3 e3 => q' H3 e3⟩
      have fin : ∀ (m : Nat) (H1 : Hp), Ex H' H1 → m = most q → Nx [some (.ref a), some (.int ((n : Int) + (m : Int))), some (.ref b)] H1 := fun m H1 e1 hm => nx _ _ ⟨n + m, some (.ref b), rfl, e.trans e1, by omega, ok2, by omega⟩
      refine s_if (kd (Ex.refl H')) (fun hc H1 e1 => ?_) (fun hc H1 e1 => ?_)
      · have hc := of_decide_eq_true hc
        cases o1 with
        | deed d s => exact s_aug (f := fun i j => i + j) (a := (n : Int)) (b := 1) rfl ev_c fun H2 e2 => fin 1 H2 (e1.trans e2) rfl
        | _ => cases hc
      · refine s_if (kd e1) (fun hc1 H2 e2 => ?_) (fun hc1 H2 e2 => ?_)
        · have hc1 := of_decide_eq_true hc1
          have e12 := e1.trans e2
          cases o1 with
          | times k b2 =>
            obtain ⟨n1, n9, _⟩ := ok_times ok1
            refine s_aug (f := fun i j => i + j) (a := (n : Int)) (b := (k : Int) * (most b2 : Nat)) rfl (ev_op (ev_op (ev_fld (ev_var rfl) (e12 _ _ R.ins) T.cl_Piece T.n_Piece_numbers (l_Piece_numbers ..)) ev_c (rv_ixL (sq_of (e12 _ _ R.nums)) rfl)) (inn e12) (rv_I (i := (k : Int)) (Or.inl ⟨by omega, by omega⟩))) fun H3 e3 => ?_
            have f := fin (k * most b2) H3 (e12.trans e3) rfl
            rw [Int.natCast_mul] at f
            exact f
          | _ => cases hc1
        · have e12 := e1.trans e2
          refine s_if (kd e12) (fun hc2 H3 e3 => ?_) (fun hc2 H3 e3 => ?_)
          · have hc2 := of_decide_eq_true hc2
            have e13 := e12.trans e3
            cases o1 with
            | toEnd b2 =>
              refine s_aug (f := fun i j => i + j) (a := (n : Int)) (b := 8 * ((most b2 : Nat) : Int)) rfl (ev_op ev_c (inn e13) (rv_I (i := 8) (Or.inl ⟨by omega, by omega⟩))) fun H4 e4 => ?_
              have f := fin (8 * most b2) H4 (e13.trans e4) rfl
              rw [Int.natCast_mul] at f
              exact f
            | _ => cases hc2
          · have e13 := e12.trans e3
            cases o1 with
            | when f v b2 => exact s_aug (f := fun i j => i + j) (a := (n : Int)) (b := ((most b2 : Nat) : Int)) rfl (inn e13) fun H4 e4 => fin (most b2) H4 (e13.trans e4) rfl
            | deed d s => exact absurd rfl (of_decide_eq_false hc)
            | times n b => exact absurd rfl (of_decide_eq_false hc1)
            | toEnd b => exact absurd rfl (of_decide_eq_false hc2)
    · rintro σ' H' ⟨n, v, rfl, e, eq, _⟩
      have eq : n = most p := eq
      subst eq
      exact s_ret (ev_var rfl) fun H2 e2 => k H2 (e.trans e2)
theorem ok_most : ∀ h : Nat, FnOk P w K mg base CX0 h T.f_most_deeds T.d_most_deeds P_most_deeds (spMost T h)
  | 0 => fn_no fun vs H Q E ⟨_, _, _, _, _, _, _, h, _⟩ => absurd h (Nat.not_lt_zero _)
  | h + 1 => ok_most1 T (ok_most h)
def spAccepted : Sp := fun vs H Q E => ∃ (B : Hp) (a : Addr) (p : Prog), vs = [.ref a] ∧ Ex B H ∧ Row T B a p ∧ okPieces p = true ∧ hgt p < 5 ∧ p.size ≤ 1000 ∧ ∀ H', Ex H H' → Q (.bl (accepted p)) H'
theorem ok_is_accepted (G_first_not_nearer : FnOk P w K mg base CX0 13 T.f_first_not_nearer T.d_first_not_nearer P_first_not_nearer (spFirst T)) (G_most_deeds : FnOk P w K mg base CX0 5 T.f_most_deeds T.d_most_deeds P_most_deeds (spMost T 5)) : FnOk P w K mg base CX0 14 T.f_is_accepted T.d_is_accepted P_is_accepted (spAccepted T) := by
  refine T.F_is_accepted.ok sc_is_accepted (fun vs H Q E h => ?_) (fun cdv A outer s H vs Q E hr h => ⟨_, ((pss_one (ps_ret (pe_and (pe_cmpR op_isN (pe_call G_first_not_nearer (hr.mono (by omega)) (by rfl) T.g_first_not_nearer T.F_first_not_nearer.kp (b_first_not_nearer T) .nil pass0 (pa_cons (pv 0) pa_nil)) pe_non (nomark _)) (pe_one (pe_cmpR op_le (pe_call G_most_deeds (hr.mono (by omega)) (by rfl) T.g_most_deeds T.F_most_deeds.kp (b_most_deeds T) .nil pass0 (pa_cons (pv 0) pa_nil)) (pe_glob (v := .int (60)) rfl T.k_MOST_DEEDS_judging ⟨_, rfl⟩) (nomark _))))))), ?_⟩)
  · obtain ⟨B, a, p, rfl, _⟩ := h
    rfl
  · obtain ⟨B, a, p, rfl, eB, hp, okp, hg, hz, k⟩ := h
    refine s_ret (ev_is (ev_andV (a := decide (frV (loose 0 p) = .non)) (b := decide ((most p : Int) ≤ 60)) (ev_isN (ev_call (ea_cons (ev_var rfl) ea_nil) fun H1 e1 Q q' E => ⟨B, a, p, rfl, eB.trans e1, hp, okp, hg, hz, fun H2 e2 => q' H2 e2⟩))
      fun _ => ev_op (ev_call (ea_cons (ev_var rfl) ea_nil) fun H1 e1 Q q' E => ⟨B, a, p, rfl, eB.trans e1, hp, okp, hg, fun H2 e2 => q' H2 e2⟩) ev_c rv_I0) ?_) fun H1 e1 => k H1 e1
    rw [accepted_eq]
    congr 2
    · cases loose 0 p <;> rfl
    · by_cases c : most p ≤ 60
      · rw [decide_eq_true c, decide_eq_true (by omega)]
      · rw [decide_eq_false c, decide_eq_false (by omega)]
end
end Pe
set_option Elab.async false
set_option linter.all false
set_option maxRecDepth 100000
set_option maxHeartbeats 2000000
/-! What is told of programs: what is against them, the clipboard. -/
namespace Pe
open PySem PySem.Spec PyProof.Rows L2 VamacBase Vamacf Evl
theorem has_field {us : List Int} (h : ∀ z ∈ us, 0 ≤ z ∧ z ≤ 2) (f : Nat) : inV (.int f) (us.map V.int) = (us.map Int.toNat).contains f := by
  rw [inV_int, List.contains_eq_any_beq, List.any_map]
  refine any_congr' fun z hz => ?_
  obtain ⟨h1, h2⟩ := h z hz
  show decide ((f : Int) = z) = (f == z.toNat)
  by_cases c : (f : Int) = z
  · rw [decide_eq_true c]
    exact (beq_iff_eq.mpr (by omega)).symm
  · rw [decide_eq_false c]
    exact (beq_eq_false_iff_ne.mpr (by omega)).symm
theorem against_deed {fs : List Nat} {rows : Bool} {d : Deed} {s : Int} : against fs rows (.deed d s .done) = ((kW (.deed d s .done) && !fs.contains (dField d)) || (kC (.deed d s .done) && !rows)) := by
  show (!((writesOf d).all fs.contains && (rows || !changesRows d))) = _
  have e : ∀ f, [f].all fs.contains = fs.contains f := fun f => by rw [List.all_cons, List.all_nil, Bool.and_true]
  cases d with
  | write f v => show (!([f].all fs.contains && (rows || true))) = ((true && !fs.contains f) || (false && !rows)); rw [e]; cases fs.contains f <;> cases rows <;> rfl
  | add f v => show (!([f].all fs.contains && (rows || true))) = ((true && !fs.contains f) || (false && !rows)); rw [e]; cases fs.contains f <;> cases rows <;> rfl
  | paste f => show (!([f].all fs.contains && (rows || true))) = ((true && !fs.contains f) || (false && !rows)); rw [e]; cases fs.contains f <;> cases rows <;> rfl
  | delete => show (!(true && (rows || false))) = ((false && !fs.contains 0) || (true && !rows)); cases fs.contains 0 <;> cases rows <;> rfl
  | double => show (!(true && (rows || false))) = ((false && !fs.contains 0) || (true && !rows)); cases fs.contains 0 <;> cases rows <;> rfl
  | down => show (!(true && (rows || true))) = ((false && !fs.contains 0) || (false && !rows)); cases fs.contains 0 <;> cases rows <;> rfl
  | up => show (!(true && (rows || true))) = ((false && !fs.contains 0) || (false && !rows)); cases fs.contains 0 <;> cases rows <;> rfl
  | top => show (!(true && (rows || true))) = ((false && !fs.contains 0) || (false && !rows)); cases fs.contains 0 <;> cases rows <;> rfl
  | copy f => show (!(true && (rows || true))) = ((false && !fs.contains f) || (false && !rows)); cases fs.contains f <;> cases rows <;> rfl
  | find f v => show (!(true && (rows || true))) = ((false && !fs.contains f) || (false && !rows)); cases fs.contains f <;> cases rows <;> rfl
/-- the clipboard ahead of a row of pieces -/
theorem clip_copy {f : Nat} {s : Int} {r : Prog} {c : Bool} : clipFrom ((Prog.deed (.copy f) s .done).andThen r) c = clipFrom r true := rfl
theorem clip_paste {f : Nat} {s : Int} {r : Prog} {c : Bool} : clipFrom ((Prog.deed (.paste f) s .done).andThen r) c = ⟨!c || (clipFrom r c).old, (clipFrom r c).copied⟩ := rfl
theorem clip_deed {d : Deed} {s : Int} {r : Prog} {c : Bool} (h5 : dSort d ≠ 5) (h6 : dSort d ≠ 6) : clipFrom ((Prog.deed d s .done).andThen r) c = clipFrom r c := by
  cases d with
  | copy f => exact absurd rfl h5
  | paste f => exact absurd rfl h6
  | _ => rfl
theorem clip_other {q r : Prog} (o : One q) (h : kindN q ≠ 0) {c : Bool} : clipFrom (q.andThen r) c = ⟨(clipFrom (inner q) c).old || (clipFrom r (if kindN q = 1 then (clipFrom (inner q) c).copied else c)).old, (clipFrom r (if kindN q = 1 then (clipFrom (inner q) c).copied else c)).copied⟩ := by
  cases o with
  | deed d s => exact absurd rfl h
  | times n b => rfl
  | toEnd b => rfl
  | when f v b => rfl
section
variable {P : Program} {w : World} {K : PySem.W.Frag} {mg : Str → Option Value} {base : Heap} (T : Txt K mg)
def spAgainst : Sp := fun vs H Q E => ∃ (B : Hp) (a fl : Addr) (p : Prog) (rows : Bool) (us : List Int), vs = [.ref a, .bl rows, .ref fl] ∧ Ex B H ∧ Row T B a p ∧ hgt p < 5 ∧ p.size ≤ 1000 ∧ H fl = some (.lst (us.map V.int)) ∧ (∀ z ∈ us, 0 ≤ z ∧ z ≤ 2) ∧ ∀ H', Ex H H' → Q (frV (outside (us.map Int.toNat) rows 0 p)) H'
theorem ok_first_against (G_in_order : FnOk P w K mg base CX0 5 T.f_in_order T.d_in_order P_in_order (spOrder T 5)) : FnOk P w K mg base CX0 6 T.f_first_against T.d_first_against P_first_against (spAgainst T) := by
  refine T.F_first_against.ok sc_first_against (fun vs H Q E h => ?_) (fun cdv A outer s H vs Q E hr h => ⟨_, ((pss_cons (ps_for PassesOwn.never rfl (pi_enum (by rfl) T.b_enumerate (pa_cons (pe_call G_in_order (hr.mono (by omega)) (by rfl) T.g_in_order T.F_in_order.kp (b_in_order T) .nil pass0 (pa_cons (pv 0) pa_nil)) pa_nil)) (pg_tup rfl (pgs_cons (pg_name (i := 3) sc_first_against.nd rfl (Or.inl rfl)) (pgs_cons (pg_name (i := 4) sc_first_against.nd rfl (Or.inl rfl)) pgs_nil))) (pss_one (ps_if (pt_cmpR op_eq (pe_fld (pv 4) rfl) (pe_glob (v := .int (0)) rfl T.k_A_DEED ⟨_, rfl⟩) (nomark _)) (pss_cons (ps_if (PW.pt (pw_and (pt_cmpR op_in_seq (pe_fld (pe_fld (pv 4) rfl) rfl) (pe_glob (v := .ref T.a_WRITING) rfl T.k_WRITING rfl) (by rfl)) (pw_and1 (pt_cmpR op_notIn_seq (pe_fld (pe_fld (pv 4) rfl) rfl) (pv 2) (by rfl))))) (pss_one (ps_ret (pv 3))) pss_nil) (pss_one (ps_if (PW.pt (pw_and (pt_cmpR op_in_seq (pe_fld (pe_fld (pv 4) rfl) rfl) (pe_glob (v := .ref T.a_CHANGING) rfl T.k_CHANGING rfl) (by rfl)) (pw_and1 (pt_not (pt_val (pv 1)))))) (pss_one (ps_ret (pv 3))) pss_nil))) pss_nil))) (pss_one (ps_ret pe_non)))), ?_⟩)
  · obtain ⟨B, a, fl, p, rows, us, rfl, _⟩ := h
    rfl
  · obtain ⟨B, a, fl, p, rows, us, rfl, eB, hp, hg, hz, hfl, hus, k⟩ := h
    rw [outside_zero] at k
    unfold tSeq tFor iEnum
    refine ra_call (ea_cons (ev_var rfl) ea_nil) fun H1 e1 => ⟨B, a, p, rfl, eB.trans e1, hp, hg, hz, fun l H2 ys hl e2 h2 hF => ?_⟩
    have e12 := e1.trans e2
    have hF1 := hF.one
    refine ⟨l, ys, rfl, sq_of h2, for_enum (K := K) (a := l) (xs := ys) (fun i σ' H' => ∃ v1 v2, σ' = [some (.ref a), some (.bl rows), some (.ref fl), v1, v2] ∧ Ex H2 H' ∧ ∀ j q, j < i → (flat p)[j]? = some q → against (us.map Int.toNat) rows q = false) ⟨none, none, rfl, Ex.refl _, fun j q h => absurd h (Nat.not_lt_zero _)⟩
      (fun i σ' H' ⟨_, _, _, e, _⟩ => sq_of (e _ _ h2)) ?_ ?_⟩
    · rintro i x σ' H3 t hi ⟨v1, v2, rfl, e3, hno⟩ ht
      obtain ⟨q, hq, b, rfl, hb, o1⟩ := paired_at hF1 hi
      have e4 : Ex H2 (L2.upd H3 t (.tup [.int (i : Nat), .ref b])) := e3.trans (Ex.new ht)
      have hb4 := hb.mono (eB.trans (e12.trans e4))
      obtain ⟨dx, nl, dv, il, R⟩ := hb4.read
      refine ⟨t, [.int (i : Nat), .ref b], rfl, st_of upd_same, rfl, .int (i : Nat), [.ref b], rfl, .ref b, [], rfl, rfl, ?_⟩
      have on : ∀ {v1 v2 H'}, against (us.map Int.toNat) rows q = false → Ex H2 H' → ∃ w1 w2, [some (.ref a), some (.bl rows), some (.ref fl), v1, v2] = [some (V.ref a), some (.bl rows), some (.ref fl), w1, w2] ∧ Ex H2 H' ∧ ∀ j q, j < i + 1 → (flat p)[j]? = some q → against (us.map Int.toNat) rows q = false := fun {v1 v2 H'} hb e => ⟨_, _, rfl, e, fun j q2 hj hq2 => by
        by_cases c : j < i
        · exact hno j q2 c hq2
        · have : j = i := by omega
          rw [this, hq] at hq2
          cases hq2
          exact hb⟩
      have off : ∀ {H5 : Hp}, against (us.map Int.toNat) rows q = true → Ex H2 H5 → Q (.int (i : Nat)) H5 := fun {H5} hb e5 => by
        have z := k H5 (e12.trans e5)
        rw [findIdx_at hno hq hb] at z
        exact z
      refine s_when (et_test (ev_int (ev_op (ev_fld (ev_var rfl) R.ins T.cl_Piece T.n_Piece_kind (l_Piece_kind ..)) ev_c (rv_eq rfl)))) (fun hc H5 e5 => ?_) (fun hc H5 e5 => ?_)
      · have hc := of_decide_eq_true hc
        cases o1 with
        | deed d s =>
          obtain ⟨da, rfl, dd, hd⟩ := R.dv
          have hi5 := e5 _ _ R.ins
          have hd5 := e5 _ _ hd
          have es : ∀ {σ : L2.St} {H6 : Hp} (_ : σ[4]? = some (some (.ref b))) (e : Ex H5 H6), Ev (tFld K (tFld K (tVar 4) "deed") "sort_of") σ H6 (.int (dSort d)) := fun {σ H6} h e => ev_fld (ev_fld (ev_var h) (e _ _ hi5) T.cl_Piece T.n_Piece_deed (l_Piece_deed ..)) (e _ _ hd5) T.cl_Deed T.n_Deed_sort_of (l_Deed_sort_of ..)
          have ef : ∀ {σ : L2.St} {H6 : Hp} (_ : σ[4]? = some (some (.ref b))) (e : Ex H5 H6), Ev (tFld K (tFld K (tVar 4) "deed") "field") σ H6 (.int (dField d : Int)) := fun {σ H6} h e => ev_fld (ev_fld (ev_var h) (e _ _ hi5) T.cl_Piece T.n_Piece_deed (l_Piece_deed ..)) (e _ _ hd5) T.cl_Deed T.n_Deed_field (l_Deed_field ..)
          have hfl5 : H5 fl = some (.lst (us.map V.int)) := e5 _ _ (e4 _ _ (e12 _ _ hfl))
          have fa : (us.map V.int).all flatV = true := List.all_eq_true.mpr fun x hx => by
            obtain ⟨z, _, rfl⟩ := List.mem_map.mp hx
            rfl
          have ea := against_deed (fs := us.map Int.toNat) (rows := rows) (d := d) (s := s)
          refine q_when (b := kW (.deed d s .done) && !(us.map Int.toNat).contains (dField d)) (et_is (et_and (et_test (ev_op (es rfl (Ex.refl _)) ev_c (rv_isT (T.t_WRITING _) rfl rfl))) fun _ => et_test (ev_op (ef rfl (Ex.refl _)) (ev_var rfl) (rv_niL (sq_of hfl5) rfl fa))) (by rw [has_field hus]; rfl)) (fun h1 H6 e6 => ?_) (fun h1 H6 e6 => ?_)
          · exact s_ret (ev_var rfl) fun H7 e7 => off (by rw [ea, h1]; rfl) (e4.trans (e5.trans (e6.trans e7)))
          · refine s_when (b := kC (.deed d s .done) && !rows) (et_and (et_test (ev_op (es rfl e6) ev_c (rv_isT (T.t_CHANGING _) rfl rfl))) fun _ => et_not (et_B (ev_var rfl))) (fun h2 H7 e7 => ?_) (fun h2 H7 e7 => ?_)
            · exact s_ret (ev_var rfl) fun H8 e8 => off (by rw [ea, h2, Bool.or_true]) (e4.trans (e5.trans (e6.trans (e7.trans e8))))
            · exact on (by rw [ea, h1, h2]; rfl) (e4.trans (e5.trans (e6.trans e7)))
        | _ => cases hc
      · have hc := of_decide_eq_false hc
        refine on ?_ (e4.trans e5)
        cases o1 with
        | deed d s => exact absurd rfl hc
        | _ => rfl
    · rintro σ' H3 ⟨v1, v2, rfl, e3, hno⟩
      dsimp only
      refine s_ret ev_c fun H4 e4 => ?_
      have z := k H4 (e12.trans (e3.trans e4))
      rw [findIdx_no fun j q hj hq => hno j q (by rw [Paired.length hF1]; exact hj) hq] at z
      exact z
/-! ### the clipboard -/
def ClAt (B H : Hp) (c : Addr) (old : Bool) : Prop := (∃ dx, H c = some (.ins T.c_Clipboard dx (f_Clipboard (.bl old)))) ∧ B c = none
variable {T}
theorem ClAt.mono {B H H' : Hp} {c : Addr} {old : Bool} (e : Ex H H') (h : ClAt T B H c old) : ClAt T B H' c old := ⟨let ⟨dx, q⟩ := h.1; ⟨dx, e _ _ q⟩, h.2⟩
variable (T)
def spGo (h : Nat) : Sp := fun vs H Q E => ∃ (B : Hp) (c a : Addr) (p : Prog) (sure old : Bool), vs = [.ref c, .ref a, .bl sure] ∧ Ex B H ∧ Row T B a p ∧ hgt p < h ∧ ClAt T B H c old ∧ ∀ H', Ex B H' → ClAt T B H' c (old || (clipFrom p sure).old) → Q (.bl (clipFrom p sure).copied) H'
theorem ok_go1 {h : Nat} (G_Clipboard_go_through : FnOk P w K mg base CX0 h T.f_Clipboard_go_through T.d_Clipboard_go_through P_Clipboard_go_through (spGo T h)) : FnOk P w K mg base CX0 (h + 1) T.f_Clipboard_go_through T.d_Clipboard_go_through P_Clipboard_go_through (spGo T (h + 1)) := by
  refine T.F_Clipboard_go_through.ok sc_Clipboard_go_through (fun vs H Q E h => ?_) (fun cdv A outer s H vs Q E hr hh => ⟨_, ((pss_cons (ps_for PassesOwn.never rfl (pi_list (pv 1)) (pg_name (i := 3) sc_Clipboard_go_through.nd rfl (Or.inl rfl)) (pss_one (ps_if (pt_cmpR op_eq (pe_fld (pv 3) rfl) (pe_glob (v := .int (0)) rfl T.k_A_DEED ⟨_, rfl⟩) (nomark _)) (pss_cut (ps_if (pt_cmpR op_eq (pe_fld (pe_fld (pv 3) rfl) rfl) (pe_glob (v := .int (5)) rfl T.k_COPY ⟨_, rfl⟩) (nomark _)) (pss_one (ps_set (i := 2) sc_Clipboard_go_through.nd rfl (Or.inl rfl) pe_bl)) pss_nil) (pss_one (ps_if (PW.pt (pw_and (pt_cmpR op_eq (pe_fld (pe_fld (pv 3) rfl) rfl) (pe_glob (v := .int (6)) rfl T.k_PASTE ⟨_, rfl⟩) (nomark _)) (pw_and1 (pt_not (pt_val (pv 2)))))) (pss_one (ps_fld (pv 0) pe_bl rfl)) pss_nil))) (pss_cons (ps_set (i := 4) sc_Clipboard_go_through.nd rfl (Or.inl rfl) (pe_meth (pv 0) T.cl_Clipboard T.m_Clipboard_go_through G_Clipboard_go_through (hr.mono (by omega)) (b_Clipboard_go_through T) .nil pass0 (pa_cons (pe_fld (pv 3) rfl) (pa_cons (pv 2) pa_nil)))) (pss_one (ps_if (pt_cmpR op_eq (pe_fld (pv 3) rfl) (pe_glob (v := .int (1)) rfl T.k_ROUNDS ⟨_, rfl⟩) (nomark _)) (pss_one (ps_set (i := 2) sc_Clipboard_go_through.nd rfl (Or.inl rfl) (pv 4))) pss_nil)))))) (pss_one (ps_ret (pv 2))))), ?_⟩)
  · obtain ⟨B, c, a, p, sure, old, rfl, _⟩ := h
    rfl
  · obtain ⟨B, c, a, p, sure, old, rfl, eB, ⟨xs, hx, hp⟩, hg, hC, k⟩ := hh
    refine ⟨_, rfl, a, rfl, ⟨xs, sq_of (eB _ _ hx)⟩, for_row (K := K) (a := a) hp (fun j q σ' H' => ∃ (su ol : Bool) (v1 v2 : Option V), σ' = [some (.ref c), some (.ref a), some (.bl su), v1, v2] ∧ Ex B H' ∧ ClAt T B H' c ol ∧ (ol || (clipFrom q su).old) = (old || (clipFrom p sure).old) ∧ (clipFrom q su).copied = (clipFrom p sure).copied ∧ hgt q < h + 1)
      ⟨sure, old, none, none, rfl, eB, hC, rfl, rfl, hg⟩ (fun j q σ' H' ⟨_, _, _, _, _, e, _⟩ => sq_of (e _ _ hx)) ?_ ?_⟩
    · rintro j b q r σ' H' Nx o1 hb hj ⟨su, ol, v1, v2, rfl, e, hC1, eq1, eq2, hg'⟩ nx
      have hq : hgt (inner q) + 1 ≤ hgt (q.andThen r) := by rw [hgt_cons o1]; exact Nat.le_max_left ..
      have hr2 : hgt r ≤ hgt (q.andThen r) := by rw [hgt_cons o1]; exact Nat.le_max_right ..
      obtain ⟨dx, nl, dv, il, Rd⟩ := hb.read
      have R := Rd.mono e
      obtain ⟨⟨dc, hc⟩, bc⟩ := id hC1
      refine s_if (et_test (ev_int (ev_op (ev_fld (ev_var rfl) R.ins T.cl_Piece T.n_Piece_kind (l_Piece_kind ..)) ev_c (rv_eq rfl)))) (fun hk H1 e1 => ?_) (fun hk H1 e1 => ?_)
      · have hk := of_decide_eq_true hk
        cases o1 with
        | deed d s =>
          obtain ⟨da, rfl, dd, hd⟩ := R.dv
          have es : ∀ {σ : L2.St} {H6 : Hp} (_ : σ[3]? = some (some (.ref b))) (e : Ex H' H6), Ev (tFld K (tFld K (tVar 3) "deed") "sort_of") σ H6 (.int (dSort d)) := fun {σ H6} h e => ev_fld (ev_fld (ev_var h) (e _ _ R.ins) T.cl_Piece T.n_Piece_deed (l_Piece_deed ..)) (e _ _ hd) T.cl_Deed T.n_Deed_sort_of (l_Deed_sort_of ..)
          refine q_cut (M := fun σ2 H2 => σ2 = [some (.ref c), some (.ref a), some (.bl (su || decide (dSort d = 5))), some (.ref b), v2] ∧ Ex H' H2) ?_ ?_
          · refine s_ifAsg (v := .bl (su || decide (dSort d = 5))) (et_test (ev_int (ev_op (es rfl e1) ev_c (rv_eq rfl)))) (fun h5 => ?_) (fun h5 => ?_) fun H2 e2 => ⟨rfl, e1.trans e2⟩
            · rw [h5, Bool.or_true]
              exact ev_c
            · rw [h5, Bool.or_false]
              rfl
          · rintro σ2 H2 ⟨rfl, e2⟩
            refine s_when (b := decide (dSort d = 6) && !(su || decide (dSort d = 5))) (et_and (et_test (ev_int (ev_op (es rfl e2) ev_c (rv_eq rfl)))) fun _ => et_not (et_B (ev_var rfl))) (fun h6 H3 e3 => ?_) (fun h6 H3 e3 => ?_)
            · obtain ⟨h61, h62⟩ := Bool.and_eq_true_iff.mp h6
              obtain ⟨f, rfl⟩ := sort_paste (of_decide_eq_true h61)
              have hsu : su = false := by
                cases su with
                | false => rfl
                | true => cases h62
              subst hsu
              rw [clip_paste] at eq1 eq2
              refine s_fld ev_c (ev_var rfl) (e3 _ _ (e2 _ _ hc)) T.cl_Clipboard T.n_Clipboard_is_old (by show 1 < 1000; decide) fun H4 e4 => ?_
              rw [p_Clipboard_is_old]
              exact nx _ _ ⟨false, true, _, _, rfl, Ex.mut (e.trans (e2.trans (e3.trans e4))) bc, ⟨⟨dc, upd_same⟩, bc⟩, by rw [← eq1]; cases ol <;> rfl, eq2, by omega⟩
            · by_cases c5 : dSort d = 5
              · obtain ⟨f, rfl⟩ := sort_copy c5
                rw [clip_copy] at eq1 eq2
                have es : (su || decide (dSort (.copy f) = 5)) = true := by rw [Bool.or_eq_true]; exact Or.inr rfl
                rw [es]
                exact nx _ _ ⟨true, ol, _, _, rfl, e.trans (e2.trans e3), hC1.mono (e2.trans e3), eq1, eq2, by omega⟩
              · have es : (su || decide (dSort d = 5)) = su := by rw [decide_eq_false c5, Bool.or_false]
                rw [es] at h6 ⊢
                by_cases c6 : dSort d = 6
                · obtain ⟨f, rfl⟩ := sort_paste c6
                  have hsu : su = true := by
                    cases su with
                    | true => rfl
                    | false => cases h6
                  subst hsu
                  rw [clip_paste] at eq1 eq2
                  exact nx _ _ ⟨true, ol, _, _, rfl, e.trans (e2.trans e3), hC1.mono (e2.trans e3), eq1, eq2, by omega⟩
                · rw [clip_deed c5 c6] at eq1 eq2
                  exact nx _ _ ⟨su, ol, _, _, rfl, e.trans (e2.trans e3), hC1.mono (e2.trans e3), eq1, eq2, by omega⟩
        | _ => cases hk
      · have hk := of_decide_eq_false hk
        rw [clip_other o1 hk] at eq1 eq2
        refine qa_meth (ev_var rfl) (e1 _ _ hc) (no_Clipboard_go_through ..) (ea_cons (ev_fld (ev_var rfl) (e1 _ _ R.ins) T.cl_Piece T.n_Piece_inner (l_Piece_inner ..)) (ea_cons (ev_var rfl) ea_nil)) fun H2 e2 => ⟨B, c, il, inner q, su, ol, rfl, e.trans (e1.trans e2), Rd.row, by omega, hC1.mono (e1.trans e2), fun H3 e3 hC3 => ?_⟩
        refine s_ifAsg (b := decide (kindN q = 1)) (v := .bl (if kindN q = 1 then (clipFrom (inner q) su).copied else su)) (et_test (ev_int (ev_op (ev_fld (ev_var rfl) (e3 _ _ Rd.ins) T.cl_Piece T.n_Piece_kind (l_Piece_kind ..)) ev_c (rv_eq rfl)))) (fun h1 => ?_) (fun h1 => ?_) fun H4 e4 => ?_
        · rw [if_pos (of_decide_eq_true h1)]
          exact ev_var rfl
        · rw [if_neg (of_decide_eq_false h1)]
          rfl
        · refine nx _ _ ⟨_, _, _, _, rfl, e3.trans e4, hC3.mono e4, ?_, eq2, by omega⟩
          rw [← eq1, Bool.or_assoc]
    · rintro σ' H' ⟨su, ol, v1, v2, rfl, e, hC1, eq1, eq2, _⟩
      have eq1 : (ol || false) = _ := eq1
      have eq2 : su = _ := eq2
      rw [Bool.or_false] at eq1
      rw [eq1] at hC1
      rw [← eq2] at k
      exact s_ret (ev_var rfl) fun H2 e2 => k H2 (e.trans e2) (hC1.mono e2)
theorem ok_go : ∀ h : Nat, FnOk P w K mg base CX0 h T.f_Clipboard_go_through T.d_Clipboard_go_through P_Clipboard_go_through (spGo T h)
  | 0 => fn_no fun vs H Q E ⟨_, _, _, _, _, _, _, _, _, h, _⟩ => absurd h (Nat.not_lt_zero _)
  | h + 1 => ok_go1 T (ok_go h)
def spOld : Sp := fun vs H Q E => ∃ (a : Addr) (p : Prog), vs = [.ref a] ∧ Row T H a p ∧ hgt p < 5 ∧ ∀ H', Ex H H' → Q (.bl (readsClip p)) H'
theorem ok_may_read_old (G_Clipboard_init : FnOk P w K mg base CX0 1 T.f_Clipboard_init T.d_Clipboard_init P_Clipboard_init (sp_Clipboard_init T)) (G_Clipboard_go_through : FnOk P w K mg base CX0 5 T.f_Clipboard_go_through T.d_Clipboard_go_through P_Clipboard_go_through (spGo T 5)) : FnOk P w K mg base CX0 6 T.f_may_read_old T.d_may_read_old P_may_read_old (spOld T) := by
  refine T.F_may_read_old.ok sc_may_read_old (fun vs H Q E h => ?_) (fun cdv A outer s H vs Q E hr h => ⟨_, ((pss_cons (ps_set (i := 1) sc_may_read_old.nd rfl (Or.inl rfl) (pe_make0 T.mk_Clipboard G_Clipboard_init (hr.mono (by omega)) (by rfl) T.g_Clipboard (b_Clipboard_init T) .nil pass0)) (pss_cons (ps_expr (pe_meth (pv 1) T.cl_Clipboard T.m_Clipboard_go_through G_Clipboard_go_through (hr.mono (by omega)) (b_Clipboard_go_through T) .nil pass0 (pa_cons (pv 0) (pa_cons pe_bl pa_nil)))) (pss_one (ps_ret (pe_fld (pv 1) rfl)))))), ?_⟩)
  · obtain ⟨a, p, rfl, _⟩ := h
    rfl
  · obtain ⟨a, p, rfl, hp, hg, k⟩ := h
    refine q_asgI (ei_make ea_nil fun vs H Q E h => h) fun c H1 hc e1 ⟨dx, h1⟩ => ?_
    refine qd_meth (ev_var rfl) h1 (no_Clipboard_go_through ..) (ea_cons (ev_var rfl) (ea_cons ev_c ea_nil)) fun H2 e2 => ⟨H, c, a, p, false, false, rfl, e1.trans e2, hp, hg, ⟨⟨dx, e2 _ _ h1⟩, hc⟩, fun H3 e3 hC3 => ?_⟩
    obtain ⟨⟨dx3, h3⟩, _⟩ := hC3
    exact s_ret (ev_fld (ev_var rfl) h3 T.cl_Clipboard T.n_Clipboard_is_old (l_Clipboard_is_old ..)) fun H4 e4 => k H4 (e3.trans e4)
end
end Pe
set_option linter.all false
/-! Slips: plain facts. -/
namespace Pe
open VamacBase Vamacf L2
def inP (l : List (Int × Int)) (i j : Int) : Bool := l.any fun z => decide (z.1 = i) && decide (z.2 = j)
def UND : List (Int × Int) := [(0, 1), (1, 0), (8, 7)]
def LOS : List (Int × Int) := [(0, 2), (1, 2), (9, 2), (2, 2), (5, 5)]
def LIF : List (Int × Int) := [(3, 3), (4, 3), (6, 3), (3, 6), (4, 6), (6, 6)]
def TOG : List (Int × Int) := [(4, 4), (3, 4)]
/-- two deeds become one -/
def joined (d e : Deed) : Deed := withNumber (numberOf d + numberOf e) d
def fewerS (d e : Deed) : Option (List Deed) :=
  if inP UND (dSort d) (dSort e) = true then some [] else if inP LOS (dSort d) (dSort e) = true then some [e] else if dField d ≠ dField e then none
  else if inP LIF (dSort d) (dSort e) = true then some [e] else if inP TOG (dSort d) (dSort e) = true then (if dSort d = 4 ∧ numberOf d + numberOf e = 0 then some [] else some [joined d e]) else none
theorem slip_eq (d e : Deed) : slip d e = fewerS d e := by
  cases d <;> cases e <;> simp [slip, fewerS, inP, UND, LOS, LIF, TOG, dSort, dField, numberOf, joined, withNumber]
  all_goals (split <;> simp_all <;> split <;> rfl)
theorem tog_number {d e : Deed} (h : inP TOG (dSort d) (dSort e) = true) : hasNumber d = true := by
  cases d <;> first | rfl | (simp [inP, TOG, dSort] at h)
theorem joined_raw {d e : Deed} (h : hasNumber d = true) : dSort (joined d e) = dSort d ∧ dField (joined d e) = dField d ∧ numberOf (joined d e) = numberOf d + numberOf e := by
  cases d <;> first | exact ⟨rfl, rfl, rfl⟩ | cases h
def pd (z : Int × Int) : PySem.PyData := .tuple [.int z.1, .int z.2]
theorem pd_any (l : List (Int × Int)) (i j : Int) : (l.map pd).any (fun z => PySem.PyData.eqv z (pd (i, j))) = inP l i j := by
  unfold inP
  rw [List.any_map]
  congr 1
  funext z
  show PySem.PyData.eqv (pd z) (pd (i, j)) = _
  simp only [pd, PySem.PyData.eqv, PySem.PyData.eqvAll, Bool.and_true]
  by_cases c : z.1 = i <;> by_cases c2 : z.2 = j <;> simp [c, c2]
/-! ### the first two -/
theorem cleaner_at : ∀ (l : List Deed) (m : Nat) (a b : Deed) (x : List Deed), (∀ j a b, j < m → l[j]? = some a → l[j + 1]? = some b → slip a b = none) → l[m]? = some a → l[m + 1]? = some b → slip a b = some x → cleaner l = some (l.take m ++ x ++ l.drop (m + 2))
  | [], m, a, b, x, _, h1, _, _ => by simp at h1
  | [c], m, a, b, x, _, _, h2, _ => by simp at h2
  | c :: d :: l, 0, a, b, x, _, h1, h2, h3 => by
    have e1 : c = a := by simpa using h1
    have e2 : d = b := by simpa using h2
    subst e1 e2
    unfold cleaner
    rw [h3]
    rfl
  | c :: d :: l, m + 1, a, b, x, h0, h1, h2, h3 => by
    have s := h0 0 c d (Nat.zero_lt_succ _) rfl rfl
    have ih := cleaner_at (d :: l) m a b x (fun j a b hj q1 q2 => h0 (j + 1) a b (by omega) (by simpa using q1) (by simpa using q2)) (by simpa using h1) (by simpa using h2) h3
    unfold cleaner
    rw [s]
    show (cleaner (d :: l)).map _ = _
    rw [ih]
    rfl
theorem cleaner_no : ∀ (l : List Deed), (∀ (j : Nat) a b, l[j]? = some a → l[j + 1]? = some b → slip a b = none) → cleaner l = none
  | [], _ => rfl
  | [c], _ => rfl
  | c :: d :: l, h => by
    unfold cleaner
    rw [h 0 c d rfl rfl]
    show (cleaner (d :: l)).map _ = _
    rw [cleaner_no (d :: l) fun j a b q1 q2 => h (j + 1) a b (by simpa using q1) (by simpa using q2)]
    rfl
theorem slip_len {a b : Deed} {x : List Deed} (h : slip a b = some x) : x.length ≤ 1 := by
  rw [slip_eq] at h
  unfold fewerS at h
  split at h
  · cases h; exact Nat.zero_le _
  · split at h
    · cases h; exact Nat.le_refl _
    · split at h
      · cases h
      · split at h
        · cases h; exact Nat.le_refl _
        · split at h
          · split at h
            · cases h; exact Nat.zero_le _
            · cases h; exact Nat.le_refl _
          · cases h
theorem cleaner_len : ∀ (l : List Deed) (m : List Deed), cleaner l = some m → m.length < l.length
  | [], m, h => by cases h
  | [c], m, h => by cases h
  | c :: d :: l, m, h => by
    unfold cleaner at h
    split at h
    · rename_i x hs
      cases h
      have := slip_len hs
      rw [List.length_append, List.length_cons, List.length_cons]
      omega
    · cases hc : cleaner (d :: l) with
      | none => rw [hc] at h; cases h
      | some y =>
        rw [hc] at h
        cases h
        have := cleaner_len (d :: l) y hc
        rw [List.length_cons, List.length_cons]
        omega
theorem clean_fuel : ∀ (n : Nat) (l : List Deed), l.length ≤ n → clean n l = clean l.length l
  | 0, l, h => by
    have : l.length = 0 := by omega
    rw [this]
  | n + 1, l, h => by
    cases hl : cleaner l with
    | none =>
      unfold clean
      rw [hl]
      cases l.length <;> simp only
      rw [hl]
    | some m =>
      have q := cleaner_len l m hl
      cases hk : l.length with
      | zero => omega
      | succ k =>
        show (match cleaner l with | none => l | some m => clean n m) = (match cleaner l with | none => l | some m => clean k m)
        rw [hl]
        show clean n m = clean k m
        rw [clean_fuel n m (by omega), clean_fuel k m (by omega)]
theorem clean_none {l : List Deed} (h : cleaner l = none) : clean l.length l = l := by
  cases l.length with
  | zero => rfl
  | succ n => unfold clean; rw [h]
theorem clean_some {l m : List Deed} (h : cleaner l = some m) : clean l.length l = clean m.length m := by
  have q := cleaner_len l m h
  cases hk : l.length with
  | zero => omega
  | succ n =>
    show (match cleaner l with | none => l | some m => clean n m) = _
    rw [h]
    exact clean_fuel n m (by omega)
theorem clean_len : ∀ (n : Nat) (l : List Deed), (clean n l).length ≤ l.length
  | 0, l => Nat.le_refl _
  | n + 1, l => by
    unfold clean
    split
    · exact Nat.le_refl _
    · rename_i m h
      have := cleaner_len l m h
      have := clean_len n m
      omega
end Pe
set_option Elab.async false
set_option linter.all false
set_option maxRecDepth 100000
set_option maxHeartbeats 2000000
/-! Recordings cleaned. -/
namespace Pe
open PySem PySem.Spec PyProof.Rows L2 VamacBase Vamacf Evl
theorem cut_take {xs : List V} {k : Nat} (h : k ≤ xs.length) : cutV xs none (some (k : Int)) = xs.take k := by
  unfold cutV
  rw [HT.sIx_none, HT.sIx_nat, Nat.min_eq_left h, List.drop_zero, Nat.sub_zero]
theorem cut_drop {xs : List V} {k : Nat} (h : k ≤ xs.length) : cutV xs (some (k : Int)) none = xs.drop k := by
  unfold cutV
  rw [HT.sIx_none, HT.sIx_nat, Nat.min_eq_left h]
  exact List.take_of_length_le (by rw [List.length_drop]; exact Nat.le_refl _)
section
variable {K : PySem.W.Frag} {σ : L2.St} {H : Hp} {ta tb : TE}
theorem ev_inTD {p : Addr} {i j : Int} {l : List (Int × Int)} {y : V} (ha : Ev ta σ H (.ref p)) (hp : H p = some (.tup [.int i, .int j])) (hb : Ev tb σ H y) (hy : ∀ H : Hp, Dp K H y (.tuple (l.map pd))) (hs : SeqAt.shaped (.tuple (l.map pd)) = true) : Ev (tOp (rInTD K) ta tb) σ H (.bl (inP l i j)) := fun H1 e Q q =>
  ha H1 e _ fun H2 e2 => hb H2 (e.trans e2) _ fun H3 e3 => ⟨pd (i, j), l.map pd, .tup (st_of (((e.trans e2).trans e3) _ _ hp)) (.cons (.int i) (.cons (.int j) .nil)), hy H3, rfl, hs, by
    rw [pd_any]
    exact q H3 (e2.trans e3)⟩
end
section
variable {P : Program} {w : World} {K : PySem.W.Frag} {mg : Str → Option Value} {base : Heap} (T : Txt K mg)
def RetRec (o : Option (List Deed)) (H : Hp) (Q : VK) : Prop := match o with
  | none => ∀ H', Ex H H' → Q .non H'
  | some ds => ∀ H' l xs, H l = none → Ex H H' → H' l = some (.lst xs) → RecAt T H' xs ds → Q (.ref l) H'
def spFewer : Sp := fun vs H Q E => ∃ (a b : Addr) (d e : Deed), vs = [.ref a, .ref b] ∧ DeedAt T H a (rawOf d 0) ∧ DeedAt T H b (rawOf e 0) ∧ RetRec T (slip d e) H Q
theorem ok_fewer (G_Deed_init : FnOk P w K mg base CX0 1 T.f_Deed_init T.d_Deed_init P_Deed_init (sp_Deed_init T)) : FnOk P w K mg base CX0 3 T.f_fewer T.d_fewer P_fewer (spFewer T) := by
  refine T.F_fewer.ok sc_fewer (fun vs H Q E h => ?_) (fun cdv A outer s H vs Q E hr h => ⟨_, ((pss_cons (ps_set (i := 2) sc_fewer.nd rfl (Or.inl rfl) (pe_tup (pa_cons (pe_fld (pv 0) rfl) (pa_cons (pe_fld (pv 1) rfl) pa_nil)))) (pss_cons (ps_if (pt_cmpR (op_inTD (room65 hr)) (pv 2) (pe_glob (v := .ref T.a_UNDONE) rfl T.k_UNDONE rfl) (by rfl)) (pss_one (ps_ret (pe_lst pa_nil))) pss_nil) (pss_cons (ps_if (pt_cmpR (op_inTD (room65 hr)) (pv 2) (pe_glob (v := .ref T.a_LOST) rfl T.k_LOST rfl) (by rfl)) (pss_one (ps_ret (pe_lst (pa_cons (pv 1) pa_nil)))) pss_nil) (pss_cons (ps_if (pt_cmpR op_ne (pe_fld (pv 0) rfl) (pe_fld (pv 1) rfl) (nomark _)) (pss_one (ps_ret pe_non)) pss_nil) (pss_cons (ps_if (pt_cmpR (op_inTD (room65 hr)) (pv 2) (pe_glob (v := .ref T.a_LOST_IN_FIELD) rfl T.k_LOST_IN_FIELD rfl) (by rfl)) (pss_one (ps_ret (pe_lst (pa_cons (pv 1) pa_nil)))) pss_nil) (pss_cons (ps_if (pt_cmpR (op_inTD (room65 hr)) (pv 2) (pe_glob (v := .ref T.a_TOGETHER) rfl T.k_TOGETHER rfl) (by rfl)) (pss_cons (ps_set (i := 3) sc_fewer.nd rfl (Or.inl rfl) (pe_op op_add (pe_fld (pv 0) rfl) (pe_fld (pv 1) rfl))) (pss_cons (ps_if (PW.pt (pw_and (pt_cmpR op_eq (pe_fld (pv 0) rfl) (pe_glob (v := .int (4)) rfl T.k_ADD ⟨_, rfl⟩) (nomark _)) (pw_and1 (pt_cmpR op_eq (pv 3) pe_int (nomark _))))) (pss_one (ps_ret (pe_lst pa_nil))) pss_nil) (pss_one (ps_ret (pe_lst (pa_cons (pe_make T.mk_Deed G_Deed_init (hr.mono (by omega)) (by rfl) T.g_Deed (b_Deed_init T) .nil pass0 (pa_cons (pe_fld (pv 0) rfl) (pa_cons (pe_fld (pv 0) rfl) (pa_cons (pv 3) (pa_cons pe_int pa_nil))))) pa_nil)))))) pss_nil) (pss_one (ps_ret pe_non))))))))), ?_⟩)
  · obtain ⟨a, b, d, e, rfl, _⟩ := h
    rfl
  · obtain ⟨a, b, d, e, rfl, hA, hB, k⟩ := h
    obtain ⟨da, ha⟩ := id hA
    obtain ⟨db, hb⟩ := id hB
    rw [slip_eq] at k
    unfold fewerS at k
    refine q_asgU (eu_tup (ea_cons (e_sort ha rfl) (ea_cons (e_sort hb rfl) ea_nil)) (by simp)) fun p H1 hp e1 h1 => ?_
    refine q_when (et_test (ev_inTD (l := UND) (ev_var rfl) h1 ev_c T.t_UNDONE rfl)) (fun c H2 e2 => ?_) (fun c H2 e2 => ?_)
    · rw [if_pos c] at k
      exact s_retL (el_lst ea_nil (by simp)) fun l H3 hl e3 h3 => k H3 l [] (none_ex (e1.trans e2) hl) ((e1.trans e2).trans e3) h3 .nil
    · rw [if_neg (by rw [c]; exact Bool.false_ne_true)] at k
      have e12 := e1.trans e2
      refine q_when (et_test (ev_inTD (l := LOS) (ev_var rfl) (e2 _ _ h1) ev_c T.t_LOST rfl)) (fun c H3 e3 => ?_) (fun c H3 e3 => ?_)
      · rw [if_pos c] at k
        exact s_retL (el_lst (ea_cons (ev_var rfl) ea_nil) (by simp)) fun l H4 hl e4 h4 => k H4 l [.ref b] (none_ex (e12.trans e3) hl) ((e12.trans e3).trans e4) h4 (.cons ⟨b, rfl, hB.mono ((e12.trans e3).trans e4)⟩ .nil)
      · rw [if_neg (by rw [c]; exact Bool.false_ne_true)] at k
        have e13 := e12.trans e3
        refine q_when (b := !decide (dField d = dField e)) (et_test (ev_is (ev_op (e_field (e13 _ _ ha) rfl) (e_field (e13 _ _ hb) rfl) (rv_ne rfl)) (by rw [int_nat]))) (fun c H4 e4 => ?_) (fun c H4 e4 => ?_)
        · have c : dField d ≠ dField e := by simpa using c
          rw [if_pos c] at k
          exact s_ret ev_c fun H5 e5 => k H5 ((e13.trans e4).trans e5)
        · have c : dField d = dField e := by simpa using c
          rw [if_neg (fun z => z c)] at k
          have e14 := e13.trans e4
          refine q_when (et_test (ev_inTD (l := LIF) (ev_var rfl) ((e2.trans (e3.trans e4)) _ _ h1) ev_c T.t_LOST_IN_FIELD rfl)) (fun c H5 e5 => ?_) (fun c H5 e5 => ?_)
          · rw [if_pos c] at k
            exact s_retL (el_lst (ea_cons (ev_var rfl) ea_nil) (by simp)) fun l H6 hl e6 h6 => k H6 l [.ref b] (none_ex (e14.trans e5) hl) ((e14.trans e5).trans e6) h6 (.cons ⟨b, rfl, hB.mono ((e14.trans e5).trans e6)⟩ .nil)
          · rw [if_neg (by rw [c]; exact Bool.false_ne_true)] at k
            have e15 := e14.trans e5
            refine q_when (et_test (ev_inTD (l := TOG) (ev_var rfl) ((e2.trans (e3.trans (e4.trans e5))) _ _ h1) ev_c T.t_TOGETHER rfl)) (fun c H6 e6 => ?_) (fun c H6 e6 => ?_)
            · rw [if_pos c] at k
              have e16 := e15.trans e6
              have hn := tog_number c
              obtain ⟨j1, j2, j3⟩ := joined_raw (e := e) hn
              refine q_asg (v := .int (numberOf d + numberOf e)) (ev_op (ev_fld (ev_var rfl) (e16 _ _ ha) T.cl_Deed T.n_Deed_number (l_Deed_number ..)) (ev_fld (ev_var rfl) (e16 _ _ hb) T.cl_Deed T.n_Deed_number (l_Deed_number ..)) rv_I0) fun H7 e7 => ?_
              have e17 := e16.trans e7
              refine q_when (et_and (et_sort (c := 4) (e_sort (e17 _ _ ha) rfl)) fun _ => et_test (ev_int (ev_op (ev_var rfl) ev_c (rv_eq rfl)))) (fun c H8 e8 => ?_) (fun c H8 e8 => ?_)
              · obtain ⟨c1, c2⟩ := Bool.and_eq_true_iff.mp c
                rw [if_pos ⟨of_decide_eq_true c1, of_decide_eq_true c2⟩] at k
                exact s_retL (el_lst ea_nil (by simp)) fun l H9 hl e9 h9 => k H9 l [] (none_ex (e17.trans e8) hl) ((e17.trans e8).trans e9) h9 .nil
              · rw [if_neg (fun z => by rw [decide_eq_true z.1, decide_eq_true z.2] at c; cases c)] at k
                have e18 := e17.trans e8
                unfold tRet tLst tCons
                refine (ei_make (fs := f_Deed (.int (dSort d)) (.int (dField d : Int)) (.int (numberOf d + numberOf e)) (.int 0)) (ea_cons (e_sort (e18 _ _ ha) rfl) (ea_cons (e_field (e18 _ _ ha) rfl) (ea_cons (ev_var rfl) (ea_cons ev_c ea_nil)))) fun vs H Q E h => ⟨_, _, _, _, h⟩) H8 (Ex.refl _) _ fun x H9 hx e9 ⟨dx, h9⟩ => ?_
                refine ⟨sz_of (by simp), fun l hl => k _ l [.ref x] (none_ex (e18.trans e9) hl) ((e18.trans e9).trans (Ex.new hl)) upd_same (.cons ⟨x, rfl, dx, ?_⟩ .nil)⟩
                rw [upd_ne (ne_of_none h9 hl), h9]
                show _ = some (HO.ins T.c_Deed dx (f_Deed (.int (dSort (joined d e))) (.int (dField (joined d e) : Int)) (.int (numberOf (joined d e))) (.int 0)))
                rw [j1, j2, j3]
            · rw [if_neg (by rw [c]; exact Bool.false_ne_true)] at k
              exact s_ret ev_c fun H7 e7 => k H7 ((e15.trans e6).trans e7)
def spOnce : Sp := fun vs H Q E => ∃ (a : Addr) (xs : List V) (ds : List Deed), vs = [.ref a] ∧ H a = some (.lst xs) ∧ RecAt T H xs ds ∧ ds.length ≤ 1000 ∧ RetRec T (cleaner ds) H Q
theorem RecAt.take {H : Hp} {xs : List V} {ds : List Deed} (h : RecAt T H xs ds) (n : Nat) : RecAt T H (xs.take n) (ds.take n) := paired_take n h
theorem RecAt.drop {H : Hp} {xs : List V} {ds : List Deed} (h : RecAt T H xs ds) (n : Nat) : RecAt T H (xs.drop n) (ds.drop n) := paired_drop n h
theorem ok_once (G_fewer : FnOk P w K mg base CX0 3 T.f_fewer T.d_fewer P_fewer (spFewer T)) : FnOk P w K mg base CX0 4 T.f_cleaned_once T.d_cleaned_once P_cleaned_once (spOnce T) := by
  refine T.F_cleaned_once.ok sc_cleaned_once (fun vs H Q E h => ?_) (fun cdv A outer s H vs Q E hr h => ⟨_, ((pss_cons (ps_for PassesOwn.never rfl (pi_range2 (by rfl) T.b_range (pa_cons pe_int (pa_cons (pe_callB call_len_seq (by rfl) T.b_len PySem.boot_len (pa_cons (pv 0) pa_nil)) pa_nil))) (pg_name (i := 1) sc_cleaned_once.nd rfl (Or.inl rfl)) (pss_cons (ps_set (i := 2) sc_cleaned_once.nd rfl (Or.inl rfl) (pe_call G_fewer (hr.mono (by omega)) (by rfl) T.g_fewer T.F_fewer.kp (b_fewer T) .nil pass0 (pa_cons (pe_ix ix_list (pv 0) (pe_op op_sub (pv 1) pe_int) (fun _ _ => rfl)) (pa_cons (pe_ix ix_list (pv 0) (pv 1) (fun _ _ => rfl)) pa_nil)))) (pss_one (ps_if (pt_cmpR op_notN (pv 2) pe_non (nomark _)) (pss_one (ps_ret (pe_op op_cat (pe_op op_cat (pe_slice sl_list (pv 0) po_none (po_some (pe_op op_sub (pv 1) pe_int))) (pv 2)) (pe_slice sl_list (pv 0) (po_some (pe_op op_add (pv 1) pe_int)) po_none)))) pss_nil)))) (pss_one (ps_ret pe_non)))), ?_⟩)
  · obtain ⟨a, xs, ds, rfl, _⟩ := h
    rfl
  · obtain ⟨a, xs, ds, rfl, hx, hR, hz, k⟩ := h
    have hl : xs.length = ds.length := Paired.length hR
    refine q_forR2 (lo := 1) (n := (xs.length : Int)) (ea_cons ev_c (ea_cons (ev_len (ev_var rfl) (sq_of hx)) ea_nil)) ⟨by omega, by omega, by omega, by omega⟩
      (fun i σ' H' => ∃ v1 v2, σ' = [some (.ref a), v1, v2] ∧ Ex H H' ∧ ∀ j d e, j < i → ds[j]? = some d → ds[j + 1]? = some e → slip d e = none) (fun H1 e1 => ⟨none, none, rfl, e1, fun j d e h => absurd h (Nat.not_lt_zero _)⟩) ?_ ?_
    · rintro i σ' H1 hi ⟨v1, v2, rfl, e1, hno⟩
      have eI : (1 : Int) + (i : Int) = ((i + 1 : Nat) : Int) := by omega
      rw [eI]
      have i1 : i + 1 < xs.length := by omega
      have hx1 := e1 _ _ hx
      have hR1 := hR.mono e1
      obtain ⟨d, hd, b1, hb1, hD⟩ := paired_at hR1 (List.getElem?_eq_getElem (show i < xs.length by omega))
      obtain ⟨e, he, b2, hb2, hE⟩ := paired_at hR1 (List.getElem?_eq_getElem i1)
      have g1 : xs[i]? = some (.ref b1) := by rw [List.getElem?_eq_getElem (show i < xs.length by omega), hb1]
      have g2 : xs[i + 1]? = some (.ref b2) := by rw [List.getElem?_eq_getElem i1, hb2]
      have eJ : ((i + 1 : Nat) : Int) - 1 = (i : Int) := by omega
      unfold tSeq tAsg
      refine ra_call (vs := [.ref b1, .ref b2]) (ea_cons (ev_op (ev_var rfl) (ev_is (v := .int (((i + 1 : Nat) : Int) - 1)) (w := .int (i : Int)) (ev_op (ev_var rfl) ev_c rv_I0) (by rw [eJ])) (rv_ixL (sq_of hx1) (atI_nat g1))) (ea_cons (ev_op (ev_var rfl) (ev_var rfl) (rv_ixL (sq_of hx1) (atI_nat g2))) ea_nil)) fun H2 e2 => ?_
      refine ⟨b1, b2, d, e, rfl, hD.mono e2, hE.mono e2, ?_⟩
      have e12 := e1.trans e2
      cases hs : slip d e with
      | none =>
        intro H3 e3
        refine s_when (b := !decide (V.non = V.non)) (et_test (ev_notN (ev_var rfl))) (fun c => by cases c) (fun c H4 e4 => ⟨_, _, rfl, (e12.trans e3).trans e4, fun j d2 e5 hj q1 q2 => ?_⟩)
        by_cases c : j < i
        · exact hno j d2 e5 c q1 q2
        · have : j = i := by omega
          subst this
          rw [hd] at q1
          rw [he] at q2
          cases q1
          cases q2
          exact hs
      | some x =>
        intro H3 l zs hln e3 hzs hZ
        rw [cleaner_at ds i d e x (fun j a b h => hno j a b h) hd he hs] at k
        have e13 := e12.trans e3
        refine s_when (b := !decide (V.ref l = V.non)) (et_test (ev_notN (ev_var rfl))) (fun c H4 e4 => ?_) (fun c => by rw [decide_eq_false (fun z => by cases z)] at c; cases c)
        have e14 := e13.trans e4
        have lx := slip_len hs
        have lz := Paired.length hZ
        have hx4 := e14 _ _ hx
        have eK : ((i + 1 : Nat) : Int) + 1 = ((i + 2 : Nat) : Int) := by omega
        have lo : EvO (tPart (tOp (rI0 fun i j => V.int (i - j)) (tVar 1) (tC (.int 1)))) [some (.ref a), some (.int ((i + 1 : Nat) : Int)), some (.ref l)] H4 (some (i : Int)) := eo_some (ev_is (ev_op (ev_var rfl) ev_c rv_I0) (by rw [eJ]))
        have hi : EvO (tPart (tOp (rI0 fun i j => V.int (i + j)) (tVar 1) (tC (.int 1)))) [some (.ref a), some (.int ((i + 1 : Nat) : Int)), some (.ref l)] H4 (some ((i + 2 : Nat) : Int)) := eo_some (ev_is (ev_op (ev_var rfl) ev_c rv_I0) (by rw [eK]))
        refine s_retL (el_cat (xs := cutV xs none (some (i : Int)) ++ zs) (ys := cutV xs (some ((i + 2 : Nat) : Int)) none) (el_catW (el_sl (ev_var rfl) eo_none lo (sq_of hx4)) (ev_var rfl) (e4 _ _ hzs) ?_) (el_sl (ev_var rfl) hi eo_none (sq_of hx4)) ?_) fun r H5 hr e5 h5 => ?_
        · have := cutV_length xs none (some (i : Int))
          omega
        · have := cutV_length xs none (some (i : Int))
          have := cutV_length xs (some ((i + 2 : Nat) : Int)) none
          rw [List.length_append]
          omega
        · rw [cut_take (by omega), cut_drop (by omega)] at h5
          refine k H5 r _ (none_ex e14 hr) (e14.trans e5) h5 ?_
          have hR5 := hR.mono (e14.trans e5)
          exact paired_app (paired_app (hR5.take T i) (hZ.mono (e4.trans e5))) (hR5.drop T (i + 2))
    · rintro σ' H1 ⟨v1, v2, rfl, e1, hno⟩
      rw [cleaner_no ds fun j a b q1 q2 => hno j a b (by have := (List.getElem?_eq_some_iff.mp q2).1; omega) q1 q2] at k
      exact s_ret ev_c fun H2 e2 => k H2 (e1.trans e2)
def spCleaned : Sp := fun vs H Q E => ∃ (a : Addr) (xs : List V) (ds : List Deed), vs = [.ref a] ∧ H a = some (.lst xs) ∧ RecAt T H xs ds ∧ ds.length ≤ 1000 ∧ ∀ H' l ys, Ex H H' → H' l = some (.lst ys) → RecAt T H' ys (clean ds.length ds) → Q (.ref l) H'
/-- what stands after one turn -/
def Once (H : Hp) (v : V) (ds : List Deed) : Prop := match cleaner ds with
  | none => v = .non
  | some m => ∃ l xs, v = .ref l ∧ H l = some (.lst xs) ∧ RecAt T H xs m
theorem ok_cleaned (G_cleaned_once : FnOk P w K mg base CX0 4 T.f_cleaned_once T.d_cleaned_once P_cleaned_once (spOnce T)) : FnOk P w K mg base CX0 5 T.f_cleaned T.d_cleaned P_cleaned (spCleaned T) := by
  refine T.F_cleaned.ok sc_cleaned (fun vs H Q E h => ?_) (fun cdv A outer s H vs Q E hr h => ⟨_, ((pss_cons (ps_set (i := 1) sc_cleaned.nd rfl (Or.inl rfl) (pe_call G_cleaned_once (hr.mono (by omega)) (by rfl) T.g_cleaned_once T.F_cleaned_once.kp (b_cleaned_once T) .nil pass0 (pa_cons (pv 0) pa_nil))) (pss_cons (ps_while PassesOwn.never (pt_cmpR op_notN (pv 1) pe_non (nomark _)) (pss_cons (ps_set (i := 0) sc_cleaned.nd rfl (Or.inl rfl) (pv 1)) (pss_one (ps_set (i := 1) sc_cleaned.nd rfl (Or.inl rfl) (pe_call G_cleaned_once (hr.mono (by omega)) (by rfl) T.g_cleaned_once T.F_cleaned_once.kp (b_cleaned_once T) .nil pass0 (pa_cons (pv 0) pa_nil)))))) (pss_one (ps_ret (pv 0)))))), ?_⟩)
  · obtain ⟨a, xs, ds, rfl, _⟩ := h
    rfl
  · obtain ⟨a, xs, ds, rfl, hx, hR, hz, k⟩ := h
    have once : ∀ {H1 H0 : Hp} {ds1 : List Deed} {Q1 : VK}, Ex H0 H1 → (∀ H2 v, Ex H1 H2 → Once T H2 v ds1 → Q1 v H2) → RetRec T (cleaner ds1) H1 Q1 := fun {H1 H0 ds1 Q1} e q => by
      unfold RetRec
      unfold Once at q
      cases hc : cleaner ds1 with
      | none =>
        rw [hc] at q
        exact fun H2 e2 => q H2 .non e2 rfl
      | some m =>
        rw [hc] at q
        exact fun H2 l ys _ e2 h2 hR2 => q H2 (.ref l) e2 ⟨l, ys, rfl, h2, hR2⟩
    refine qa_call (ea_cons (ev_var rfl) ea_nil) fun H1 e1 => ⟨a, xs, ds, rfl, e1 _ _ hx, hR.mono e1, hz, once e1 fun H2 v e2 ho => ?_⟩
    refine q_while (fun m σ' H' => ∃ b ys ds1 v, σ' = [some (.ref b), some v] ∧ Ex H H' ∧ H' b = some (.lst ys) ∧ RecAt T H' ys ds1 ∧ Once T H' v ds1 ∧ ds1.length ≤ 1000 ∧ clean ds1.length ds1 = clean ds.length ds ∧ m = ds1.length) ds.length ⟨a, xs, ds, v, rfl, e1.trans e2, (e1.trans e2) _ _ hx, hR.mono (e1.trans e2), ho, hz, rfl, rfl⟩ ?_
    rintro m σ' H3 ⟨b, ys, ds1, v1, rfl, e3, h3, hR3, ho3, hz3, eq, rfl⟩
    refine ⟨!decide (v1 = .non), et_test (ev_notN (ev_var rfl)), fun c H4 e4 => ?_, fun c H4 e4 => ?_⟩
    · unfold Once at ho3
      cases hc : cleaner ds1 with
      | none =>
        rw [hc] at ho3
        have ho3 : v1 = .non := ho3
        rw [ho3] at c
        cases c
      | some m =>
        rw [hc] at ho3
        obtain ⟨l, zs, rfl, hl, hZ⟩ := ho3
        have ml := cleaner_len ds1 m hc
        refine ⟨fun σ2 H5 => ∃ b ys ds2 v, σ2 = [some (.ref b), some v] ∧ Ex H H5 ∧ H5 b = some (.lst ys) ∧ RecAt T H5 ys ds2 ∧ Once T H5 v ds2 ∧ ds2.length ≤ 1000 ∧ clean ds2.length ds2 = clean ds.length ds ∧ ds2.length < ds1.length,
          fun σ2 H5 ⟨b, ys, ds2, v, q1, q2, q3, q4, q5, q6, q7, q8⟩ => ⟨ds2.length, q8, b, ys, ds2, v, q1, q2, q3, q4, q5, q6, q7, rfl⟩, ?_⟩
        refine q_asg (ev_var rfl) fun H5 e5 => ?_
        have e45 := e4.trans e5
        unfold tAsg
        refine ra_call (ea_cons (ev_var rfl) ea_nil) fun H6 e6 => ⟨l, zs, m, rfl, (e45.trans e6) _ _ hl, hZ.mono (e45.trans e6), by omega, once e6 fun H7 v e7 ho7 => ?_⟩
        have e47 := (e45.trans e6).trans e7
        exact ⟨l, zs, m, v, rfl, e3.trans e47, e47 _ _ hl, hZ.mono e47, ho7, by omega, by rw [← eq]; exact (clean_some hc).symm, ml⟩
    · unfold Once at ho3
      cases hc : cleaner ds1 with
      | some m =>
        rw [hc] at ho3
        obtain ⟨l, zs, rfl, _⟩ := ho3
        rw [decide_eq_false (fun z => by cases z)] at c
        cases c
      | none =>
        rw [clean_none hc] at eq
        rw [← eq] at k
        exact s_ret (ev_var rfl) fun H5 e5 => k H5 b ys ((e3.trans e4).trans e5) ((e4.trans e5) _ _ h3) (hR3.mono (e4.trans e5))
def spTold : Sp := fun vs H Q E => ∃ (a : Addr) (xs : List V) (ds : List Deed), vs = [.ref a] ∧ H a = some (.lst xs) ∧ RecAt T H xs ds ∧ ds.length ≤ 1000 ∧ ∀ l H', H l = none → Ex H H' → H' l = some (.lst ((flatDeeds ds).map V.int)) → Q (.ref l) H'
theorem flatDeeds_len : ∀ ds : List Deed, (ds.flatMap flatDeed).length ≤ 3 * ds.length
  | [] => Nat.le_refl _
  | d :: ds => by
    have h1 := flatDeed_len d
    have h2 := flatDeeds_len ds
    rw [List.flatMap_cons, List.length_append, List.length_cons]
    omega
theorem ok_told (G_Deed_as_numbers : FnOk P w K mg base CX0 1 T.f_Deed_as_numbers T.d_Deed_as_numbers P_Deed_as_numbers (spDeedNums T)) : FnOk P w K mg base CX0 2 T.f_told T.d_told P_told (spTold T) := by
  refine T.F_told.ok sc_told (fun vs H Q E h => ?_) (fun cdv A outer s H vs Q E hr h => ⟨_, ((pss_cons (ps_set (i := 1) sc_told.nd rfl (Or.inl rfl) (pe_lst (pa_cons (pe_callB call_len_seq (by rfl) T.b_len PySem.boot_len (pa_cons (pv 0) pa_nil)) pa_nil))) (pss_cons (ps_for PassesOwn.never rfl (pi_list (pv 0)) (pg_name (i := 2) sc_told.nd rfl (Or.inl rfl)) (pss_one (ps_expr (pe_bm PySem.F.plainAttrs_list PySem.F.slot_list_extend PySem.F.type_list_extend mt_extend (pv 1) (pa_cons (pe_meth0 (pv 2) T.cl_Deed T.m_Deed_as_numbers G_Deed_as_numbers (hr.mono (by omega)) (b_Deed_as_numbers T) .nil pass0) pa_nil))))) (pss_one (ps_ret (pv 1)))))), ?_⟩)
  · obtain ⟨a, xs, ds, rfl, _⟩ := h
    rfl
  · obtain ⟨a, xs, ds, rfl, hx, hR, hz, k⟩ := h
    have hl : xs.length = ds.length := Paired.length hR
    refine q_asgL (el_lst (ea_cons (ev_len (ev_var rfl) (sq_of hx)) ea_nil) (by simp)) fun f H1 hf e1 h1 => ?_
    refine q_forLn (ev_var rfl) (sq_of (e1 _ _ hx)) (fun i σ' H' => ∃ v, σ' = [some (.ref a), some (.ref f), v] ∧ Ex H H' ∧ H' f = some (.lst (((ds.length : Int) :: (ds.take i).flatMap flatDeed).map V.int)))
      (fun H2 e2 => ⟨none, rfl, e1.trans e2, by rw [e2 _ _ h1, hl]; rfl⟩) (fun i σ' H' _ ⟨v, _, e, _⟩ => sq_of (e _ _ hx)) ?_ ?_
    · rintro i x σ' H2 hi ⟨v, rfl, e2, h2⟩
      obtain ⟨d, ht, ⟨b, rfl, hD⟩, hdi⟩ := paired_take' hR hi
      obtain ⟨dd, hd⟩ := id (hD.mono e2)
      have l1 := flatDeeds_len (ds.take i)
      have l2 := flatDeed_len d
      rw [List.length_take] at l1
      have iz := (List.getElem?_eq_some_iff.mp hdi).1
      refine s_extL h2 (ev_var rfl) (el_meth (xs := (flatDeed d).map V.int) (ev_var rfl) hd (no_Deed_as_numbers ..) ea_nil fun H3 e3 Q q' E => ⟨b, rawOf d 0, rfl, hD.mono (e2.trans e3), fun l H4 hl e4 h4 => q' l H4 hl e4 (by rw [h4, dnums_flat])⟩) (by rw [List.length_map, List.length_map, List.length_cons]; omega) fun l H3 hl e3 h3 => ⟨_, rfl, Ex.mut (e2.trans e3) hf, ?_⟩
      rw [upd_same, ← List.map_append, ht, List.flatMap_append, List.flatMap_cons, List.flatMap_nil, List.append_nil]
      rfl
    · rintro σ' H2 ⟨v, rfl, e2, h2⟩
      rw [hl, List.take_length] at h2
      exact s_ret (ev_var rfl) fun H3 e3 => k f H3 hf (e2.trans e3) (e3 _ _ h2)
end
end Pe
set_option linter.all false
/-! The desk: plain facts. -/
namespace Pe
open VamacBase Vamacf
theorem slip_field {a b : Deed} {x : List Deed} (h : slip a b = some x) (ha : dField a ≤ 2) (hb : dField b ≤ 2) : ∀ d ∈ x, dField d ≤ 2 := by
  rw [slip_eq] at h
  unfold fewerS at h
  split at h
  · cases h; intro d hd; cases hd
  · split at h
    · cases h; intro d hd; rw [List.mem_singleton.mp hd]; exact hb
    · split at h
      · cases h
      · split at h
        · cases h; intro d hd; rw [List.mem_singleton.mp hd]; exact hb
        · split at h
          · rename_i ht
            split at h
            · cases h; intro d hd; cases hd
            · cases h
              intro d hd
              rw [List.mem_singleton.mp hd, (joined_raw (tog_number ht)).2.1]
              exact ha
          · cases h
theorem cleaner_field : ∀ (l m : List Deed), cleaner l = some m → (∀ d ∈ l, dField d ≤ 2) → ∀ d ∈ m, dField d ≤ 2
  | [], m, h, _ => by cases h
  | [c], m, h, _ => by cases h
  | c :: d :: l, m, h, hl => by
    unfold cleaner at h
    split at h
    · rename_i x hs
      cases h
      intro z hz
      rcases List.mem_append.mp hz with hz | hz
      · exact slip_field hs (hl c (by simp)) (hl d (by simp)) z hz
      · exact hl z (by simp [hz])
    · cases hc : cleaner (d :: l) with
      | none => rw [hc] at h; cases h
      | some y =>
        rw [hc] at h
        cases h
        intro z hz
        rcases List.mem_cons.mp hz with rfl | hz
        · exact hl _ (by simp)
        · exact cleaner_field (d :: l) y hc (fun q hq => hl q (List.mem_cons_of_mem _ hq)) z hz
theorem clean_field : ∀ (n : Nat) (l : List Deed), (∀ d ∈ l, dField d ≤ 2) → ∀ d ∈ clean n l, dField d ≤ 2
  | 0, l, h => h
  | n + 1, l, h => by
    unfold clean
    split
    · exact h
    · rename_i m hm
      exact clean_field n m (cleaner_field l m hm h)
theorem raw_field {a : Raw} (h : RawOk a) : dField (toDeed a) ≤ 2 := by
  obtain ⟨ro, _⟩ := deedOf_ok h
  have e := ro.field
  have f := h.f
  have e : a.2.1 = (dField (toDeed a) : Int) := e
  omega
theorem flatten3 : ∀ (a b : List (List Int)) (x y : List Int), (∀ r ∈ a, r.length = 3) → (∀ r ∈ b, r.length = 3) → a.length = b.length → a.flatten ++ x = b.flatten ++ y → a = b ∧ x = y
  | [], [], x, y, _, _, _, h => ⟨rfl, h⟩
  | [], _ :: _, x, y, _, _, h, _ => by cases h
  | _ :: _, [], x, y, _, _, h, _ => by cases h
  | r :: a, s :: b, x, y, ha, hb, hl, h => by
    rw [List.flatten_cons, List.flatten_cons, List.append_assoc, List.append_assoc] at h
    have l1 := ha r (List.mem_cons_self ..)
    have l2 := hb s (List.mem_cons_self ..)
    obtain ⟨e1, e2⟩ := List.append_inj h (by omega)
    obtain ⟨e3, e4⟩ := flatten3 a b x y (fun z hz => ha z (List.mem_cons_of_mem _ hz)) (fun z hz => hb z (List.mem_cons_of_mem _ hz)) (by simpa using hl) e2
    exact ⟨by rw [e1, e3], e4⟩
theorem flatTable_inj {a b : Table} (ha : TabOk a) (hb : TabOk b) : decide (flatTable a = flatTable b) = (a == b) := by
  by_cases c : a = b
  · rw [c, decide_eq_true rfl]
    exact (beq_iff_eq.mpr rfl).symm
  · rw [decide_eq_false]
    · exact (beq_eq_false_iff_ne.mpr c).symm
    · intro h
      have h : ((a.rows.length : Nat) : Int) :: (a.rows.flatten ++ [((a.at_ : Nat) : Int), a.clip]) = ((b.rows.length : Nat) : Int) :: (b.rows.flatten ++ [((b.at_ : Nat) : Int), b.clip]) := h
      injection h with h1 h2
      obtain ⟨e1, e2⟩ := flatten3 a.rows b.rows _ _ ha.three hb.three (by omega) h2
      injection e2 with e2 e3
      injection e3 with e3 _
      apply c
      cases a
      cases b
      simp only at e1 e2 e3
      rw [e1, e3, show _ = _ from Int.ofNat.inj e2]
theorem eqv_ints : ∀ a b : List Int, PySem.PyData.eqvAll (a.map PySem.PyData.int) (b.map PySem.PyData.int) = decide (a = b)
  | [], [] => rfl
  | [], _ :: _ => rfl
  | _ :: _, [] => rfl
  | x :: a, y :: b => by
    show PySem.PyData.eqvAll (.int x :: a.map PySem.PyData.int) (.int y :: b.map PySem.PyData.int) = _
    simp only [PySem.PyData.eqvAll, PySem.PyData.eqv]
    rw [eqv_ints a b]
    by_cases c : x = y <;> by_cases c2 : a = b <;> simp [c, c2]
theorem lay_ints : ∀ a : List Int, PySem.PyData.canLayAll0 (a.map PySem.PyData.int) = true
  | [] => rfl
  | x :: a => by
    show PySem.PyData.canLayAll0 (.int x :: a.map PySem.PyData.int) = true
    simp only [PySem.PyData.canLayAll0, PySem.PyData.canLay0, lay_ints a, Bool.and_self]
theorem depth_ints : ∀ a : List Int, PySem.PyData.depthAll (a.map PySem.PyData.int) ≤ 1
  | [] => by simp [PySem.PyData.depthAll]
  | x :: a => by
    have := depth_ints a
    show PySem.PyData.depthAll (.int x :: a.map PySem.PyData.int) ≤ 1
    simp only [PySem.PyData.depthAll, PySem.PyData.depth]
    omega
theorem shaped_ints (a : List Int) : PySem.SeqAt.shaped (.list (a.map PySem.PyData.int)) = true := by
  have := depth_ints a
  unfold PySem.SeqAt.shaped
  rw [Bool.and_eq_true]
  refine ⟨by simp only [PySem.PyData.canLay0]; exact lay_ints a, decide_eq_true ?_⟩
  simp only [PySem.PyData.depth]
  omega
end Pe
set_option Elab.async false
set_option linter.all false
set_option maxRecDepth 100000
set_option maxHeartbeats 2000000
/-! The desk: one call. -/
namespace Pe
open PySem PySem.Spec PyProof.Rows L2 VamacBase Vamacf Evl
section
variable {σ : L2.St} {H : Hp} {te : TE}
theorem el_callL {sp : Sp} {E : XK} {xs ys : List V} (h : EvL te σ H xs) (hs : ∀ p H1, H1 p = some (.lst xs) → Ex H H1 → SpL sp [.ref p] H1 ys) : EvL (tCall sp [] E (tCons te tNil)) σ H ys := fun H1 e Q q =>
  h H1 e _ fun p H2 hp e2 h2 => hs p H2 h2 (e.trans e2) H2 (Ex.refl H2) Q (fun l H3 hl e3 h3 => q l H3 (fresh_back e2 hl) (e2.trans e3) h3) E
theorem rc_int {b : Bool} : RC (fun xs H Q => (∃ i, xs = [.int i] ∧ Q (.int i) H) ∨ ∃ k, xs = [.bl k] ∧ Q (.int (if k then 1 else 0)) H) [.bl b] H (.int (Vamacf.bool b)) := fun H1 _ _ q => Or.inr ⟨b, rfl, q H1 (Ex.refl H1)⟩
end
theorem ok_hgt {p : Prog} (h : okProg p = true) : okPieces p = true ∧ p.size ≤ 16 ∧ hgt p < 5 := by
  obtain ⟨h1, h2, h3⟩ := okProg_iff.mp h
  have := hgt_depth p
  exact ⟨h1, h2, by omega⟩
/-- both -/
def Un (B N : Hp) : Hp := fun b => match B b with
  | some o => some o
  | none => N b
theorem Un.l {B N : Hp} : Ex B (Un B N) := fun b o h => by unfold Un; rw [h]
theorem Un.r {B N : Hp} (h : ∀ b o, N b = some o → B b = none) : Ex N (Un B N) := fun b o e => by unfold Un; rw [h b o e]; exact e
theorem Un.ex {B N H : Hp} (h1 : Ex B H) (h2 : Ex N H) : Ex (Un B N) H := fun b o e => by
  unfold Un at e
  cases hb : B b with
  | some u => rw [hb] at e; cases e; exact h1 _ _ hb
  | none => rw [hb] at e; exact h2 _ _ e
theorem Un.of {B N : Hp} {b : Addr} {o : HO} (e : Un B N b = some o) : B b = some o ∨ N b = some o := by
  unfold Un at e
  cases hb : B b with
  | some u => rw [hb] at e; exact Or.inl e
  | none => rw [hb] at e; exact Or.inr e
section
variable {P : Program} {w : World} {K : PySem.W.Frag} {mg : Str → Option Value} {base : Heap} (T : Txt K mg)
def DeskAt (B H : Hp) (D : Addr) (p : Prog) : Prop := ∃ dx a, H D = some (.ins T.c_Desk dx (f_Desk (.ref a))) ∧ Ex B H ∧ Row T B a p ∧ B D = none ∧ okProg p = true
variable {T}
theorem DeskAt.mono {B H H' : Hp} {D : Addr} {p : Prog} (e : Ex H H') (h : DeskAt T B H D p) : DeskAt T B H' D p := let ⟨dx, a, h1, h2, h3, h4, h5⟩ := h; ⟨dx, a, e _ _ h1, h2.trans e, h3, h4, h5⟩
variable (T)
/-- what comes of a call -/
structure Does (st : State) (c : Call) (B H : Hp) (D : Addr) (Q : VK) (E : XK) : Prop where
  no : ∀ H', Ex H H' → Vamacf.step st c = (st, [-1]) → E (.ref T.c_NoProgram) none H'
  ref : ∀ H' d n, Ex H H' → Vamacf.step st c = (st, [n]) → H' d = some (.xd [(("refusal" : Str), .int n)]) → E (.ref T.c_Refused) (some d) H'
  yes : ∀ B' H' l p' ans, Vamacf.step st c = (⟨p'⟩, ans) → Keep [D] H H' → DeskAt T B' H' D p' → (∀ b o, B' b = some o → B b = some o ∨ H b = none) → H l = none → H' l = some (.lst (ans.map V.int)) → Q (.ref l) H'
variable {T}
theorem Does.same {p : Prog} {c : Call} {B H : Hp} {D : Addr} {Q : VK} {E : XK} (k : Does T ⟨p⟩ c B H D Q E) (hD : DeskAt T B H D p) {ans : List Int} (hs : Vamacf.step ⟨p⟩ c = (⟨p⟩, ans)) : ∀ l H', H l = none → Ex H H' → H' l = some (.lst (ans.map V.int)) → Q (.ref l) H' := fun l H' hl e h =>
  k.yes B H' l p ans hs (kp e) (hD.mono e) (fun b o h => Or.inl h) hl h
variable (T)
def spAsk : Sp := fun vs H Q E => ∃ (g : Bool) (n : Int), vs = [.bl g, .int n] ∧ (g = false → ∀ H' d, Ex H H' → H' d = some (.xd [(("refusal" : Str), .int n)]) → E (.ref T.c_Refused) (some d) H') ∧ (g = true → ∀ H', Ex H H' → Q .non H')
theorem ok_ask : FnOk P w K mg base (L2.CX P w) 1 T.f_ask T.d_ask P_ask (spAsk T) := by
  refine T.F_ask.okX sc_ask (fun vs H Q E h => ?_) (fun cdv A outer s H vs Q E hr h => ⟨_, ((pss_one (ps_if (pt_not (pt_val (pv 0))) (pss_one (ps_raiseRef rfl T.ref hr (takes_of rfl rfl rfl rfl) (by exact (pa_cons (pv 1) pa_nil)))) pss_nil))), ?_⟩)
  · obtain ⟨g, n, rfl, _⟩ := h
    rfl
  · obtain ⟨g, n, rfl, kE, kQ⟩ := h
    refine s_when (b := !g) (et_not (et_B (ev_var rfl))) (fun hb H1 e1 => ?_) (fun hb H1 e1 => kQ (by simpa using hb) H1 e1)
    have hg : g = false := by simpa using hb
    have ea : EvA (tCons (tVar 1) tNil) [some (.bl g), some (.int n)] H1 [.int n] := ea_cons (ev_var rfl) ea_nil
    unfold tRaiseRef tMkRef
    refine ea H1 (Ex.refl _) _ fun H2 e2 => ⟨.int n, rfl, fun d hd => kE hg _ d ((e1.trans e2).trans (Ex.new hd)) upd_same⟩
def spCounted : Sp := fun vs H Q E => ∃ (a : Addr) (xs : List V), vs = [.ref a] ∧ H a = some (.lst xs) ∧ xs.length ≤ 1000 ∧ ∀ l H', H l = none → Ex H H' → H' l = some (.lst (.int (xs.length : Nat) :: xs)) → Q (.ref l) H'
theorem ok_counted : FnOk P w K mg base CX0 1 T.f_counted T.d_counted P_counted spCounted := by
  refine T.F_counted.ok sc_counted (fun vs H Q E h => ?_) (fun cdv A outer s H vs Q E hr h => ⟨_, ((pss_one (ps_ret (pe_op op_cat (pe_lst (pa_cons (pe_callB call_len_seq (by rfl) T.b_len PySem.boot_len (pa_cons (pv 0) pa_nil)) pa_nil)) (pv 0))))), ?_⟩)
  · obtain ⟨a, xs, rfl, _⟩ := h
    rfl
  · obtain ⟨a, xs, rfl, hx, hz, k⟩ := h
    exact s_retL (el_catW (xs := [.int (xs.length : Nat)]) (el_lst (ea_cons (ev_len (ev_var rfl) (sq_of hx)) ea_nil) (by simp)) (ev_var rfl) hx (by simp; omega)) fun l H1 hl e1 h1 => k l H1 hl e1 h1

def spLoad : Sp := fun vs H Q E => ∃ (B : Hp) (D a : Addr) (p : Prog) (ns : List Int), vs = [.ref D, .ref a] ∧ DeskAt T B H D p ∧ SqL K H a (ns.map V.int) ∧ ns.length ≤ 1000 ∧ Does T ⟨p⟩ (.program ns) B H D Q E
theorem ok_load (G_read_program : FnOk P w K mg base (L2.CX P w) 12 T.f_read_program T.d_read_program P_read_program (spReadProg T)) (G_many_pieces : FnOk P w K mg base CX0 10 T.f_many_pieces T.d_many_pieces P_many_pieces (spMany T 5)) (G_deepest : FnOk P w K mg base CX0 10 T.f_deepest T.d_deepest P_deepest (spDeep T 5)) : FnOk P w K mg base (L2.CX P w) 13 T.f_Desk_load T.d_Desk_load P_Desk_load (spLoad T) := by
  refine T.F_Desk_load.okX sc_Desk_load (fun vs H Q E h => ?_) (fun cdv A outer s H vs Q E hr h => ⟨_, ((pss_cons (ps_fld (pv 0) (pe_call G_read_program (hr.mono (by omega)) (by rfl) T.g_read_program T.F_read_program.kp (b_read_program T) .nil (passes_call (takes_of rfl rfl rfl rfl) (fun _ _ _ _ h => h)) (pa_cons (pv 1) pa_nil)) rfl) (pss_one (ps_ret (pe_lst (pa_cons (pe_call G_many_pieces (hr.mono (by omega)) (by rfl) T.g_many_pieces T.F_many_pieces.kp (b_many_pieces T) .nil pass0 (pa_cons (pe_fld (pv 0) rfl) pa_nil)) (pa_cons (pe_call G_deepest (hr.mono (by omega)) (by rfl) T.g_deepest T.F_deepest.kp (b_deepest T) .nil pass0 (pa_cons (pe_fld (pv 0) rfl) pa_nil)) pa_nil))))))), ?_⟩)
  · obtain ⟨B, D, a, p, ns, rfl, _⟩ := h
    rfl
  · obtain ⟨B, D, a, p, ns, rfl, ⟨dx, pa, hD, eB, hp, bD, okp⟩, hs, hz, k⟩ := h
    have st : Vamacf.step ⟨p⟩ (.program ns) = match readP ns with | none => (⟨p⟩, [-1]) | some q => (⟨q⟩, [(q.size : Int), (q.depth : Int)]) := by
      show (match whole readProg ns with | none => (State.mk p, [-1]) | some p => (⟨p⟩, [Vamacf.int p.size, Vamacf.int p.depth])) = _
      rw [readP_spec]
      rfl
    unfold tSeq sFld
    refine ra_call (ea_cons (ev_var rfl) ea_nil) fun H1 e1 => ⟨a, ns, rfl, ex_l e1 hs, hz, fun c H2 e2 => k.no H2 (e1.trans e2) (by rw [st, c]), fun q c H2 l e2 hl hq => ?_⟩
    have e12 := e1.trans e2
    obtain ⟨okq, _⟩ := readP_ok c
    obtain ⟨ok1, ok2, ok3⟩ := ok_hgt okq
    refine (show Ev (tVar 0) [some (.ref D), some (.ref a)] H2 (.ref D) from ev_var rfl) H2 (Ex.refl H2) _ fun H3 e3 => ?_
    have e13 := e12.trans e3
    refine ⟨D, T.c_Desk, dx, _, rfl, e13 _ _ hD, T.cl_Desk, T.n_Desk_program, by show 1 < 1000; decide, ?_⟩
    rw [p_Desk_program]
    have nD : New H1 H2 D = none := by
      unfold New
      rw [e1 _ _ hD]
    have eN : Ex (New H1 H2) (L2.upd H3 D (.ins T.c_Desk dx (f_Desk (.ref l)))) := Ex.mut ((New.le).trans e3) nD
    have hD4 : (L2.upd H3 D (.ins T.c_Desk dx (f_Desk (.ref l)))) D = some (.ins T.c_Desk dx (f_Desk (.ref l))) := upd_same
    refine s_retL (xs := [.int (q.size : Nat), .int (q.depth : Nat)]) (el_lst (ea_cons (ev_call (ea_cons (ev_fld (ev_var rfl) hD4 T.cl_Desk T.n_Desk_program (l_Desk_program ..)) ea_nil) fun H5 e5 Q q' E => ⟨l, q, rfl, hq.mono (eN.trans e5), ok3, by omega, fun H6 e6 => q' H6 e6⟩)
      (ea_cons (ev_call (ea_cons (ev_fld (ev_var rfl) hD4 T.cl_Desk T.n_Desk_program (l_Desk_program ..)) ea_nil) fun H5 e5 Q q' E => ⟨l, q, rfl, hq.mono (eN.trans e5), ok3, by omega, fun H6 e6 => q' H6 e6⟩) ea_nil)) (by simp)) fun r H5 hr e5 h5 => ?_
    have kD : Keep [D] H H5 := ((kp e13).upd).trans (kp e5)
    refine k.yes (New H1 H2) H5 r q [(q.size : Int), (q.depth : Int)] (by rw [st, c]) kD ⟨dx, l, e5 _ _ hD4, eN.trans e5, hq, nD, okq⟩ (fun b o hb => Or.inr (none_ex e1 (New.of hb).1)) ?_ h5
    cases hh : H r with
    | none => rfl
    | some o =>
      by_cases cD : r = D
      · rw [cD, hD4] at hr
        cases hr
      · rw [upd_ne cD, e13 _ _ hh] at hr
        cases hr
def spTouches : Sp := fun vs H Q E => ∃ (B : Hp) (D : Addr) (p : Prog), vs = [.ref D] ∧ DeskAt T B H D p ∧ ∀ l H', H l = none → Ex H H' → H' l = some (.lst ((Vamacf.step ⟨p⟩ .touches).2.map V.int)) → Q (.ref l) H'
theorem canon_len (g : Nat → Bool) : (canon g).length ≤ 3 := by
  have := List.length_filter_le g (List.range 3)
  rw [List.length_range] at this
  exact this
theorem ok_touches (G_counted : FnOk P w K mg base CX0 1 T.f_counted T.d_counted P_counted spCounted) (G_written : FnOk P w K mg base CX0 7 T.f_written T.d_written P_written (spWritten T)) (G_looked_at : FnOk P w K mg base CX0 7 T.f_looked_at T.d_looked_at P_looked_at (spLooked T))
    (G_may_change_rows : FnOk P w K mg base CX0 7 T.f_may_change_rows T.d_may_change_rows P_may_change_rows (spReshapes T)) (G_may_read_old : FnOk P w K mg base CX0 6 T.f_may_read_old T.d_may_read_old P_may_read_old (spOld T)) : FnOk P w K mg base CX0 8 T.f_Desk_touches T.d_Desk_touches P_Desk_touches (spTouches T) := by
  refine T.F_Desk_touches.ok sc_Desk_touches (fun vs H Q E h => ?_) (fun cdv A outer s H vs Q E hr h => ⟨_, ((pss_cons (ps_set (i := 1) sc_Desk_touches.nd rfl (Or.inl rfl) (pe_op op_cat (pe_call G_counted (hr.mono (by omega)) (by rfl) T.g_counted T.F_counted.kp (b_counted T) .nil pass0 (pa_cons (pe_call G_written (hr.mono (by omega)) (by rfl) T.g_written T.F_written.kp (b_written T) .nil pass0 (pa_cons (pe_fld (pv 0) rfl) pa_nil)) pa_nil)) (pe_call G_counted (hr.mono (by omega)) (by rfl) T.g_counted T.F_counted.kp (b_counted T) .nil pass0 (pa_cons (pe_call G_looked_at (hr.mono (by omega)) (by rfl) T.g_looked_at T.F_looked_at.kp (b_looked_at T) .nil pass0 (pa_cons (pe_fld (pv 0) rfl) pa_nil)) pa_nil)))) (pss_one (ps_ret (pe_op op_cat (pv 1) (pe_lst (pa_cons (pe_callTy call_int1 (by rfl) T.b_int (by decide +kernel) (pa_cons (pe_call G_may_change_rows (hr.mono (by omega)) (by rfl) T.g_may_change_rows T.F_may_change_rows.kp (b_may_change_rows T) .nil pass0 (pa_cons (pe_fld (pv 0) rfl) pa_nil)) pa_nil)) (pa_cons (pe_callTy call_int1 (by rfl) T.b_int (by decide +kernel) (pa_cons (pe_call G_may_read_old (hr.mono (by omega)) (by rfl) T.g_may_read_old T.F_may_read_old.kp (b_may_read_old T) .nil pass0 (pa_cons (pe_fld (pv 0) rfl) pa_nil)) pa_nil)) pa_nil)))))))), ?_⟩)
  · obtain ⟨B, D, p, rfl, _⟩ := h
    rfl
  · obtain ⟨B, D, p, rfl, ⟨dx, a, hD, eB, hp, bD, okp⟩, k⟩ := h
    obtain ⟨ok1, ok2, ok3⟩ := ok_hgt okp
    have lw : (writes p).length ≤ 3 := by rw [writes_canon p ok1]; exact canon_len _
    have lr : (reads p).length ≤ 3 := by rw [reads_canon p ok1]; exact canon_len _
    have ep : ∀ {σ : L2.St} {H1 : Hp}, σ[0]? = some (some (.ref D)) → Ex H H1 → Ev (tFld K (tVar 0) "program") σ H1 (.ref a) := fun h e => ev_fld (ev_var h) (e _ _ hD) T.cl_Desk T.n_Desk_program (l_Desk_program ..)
    refine q_asgL (el_cat (el_callL (el_call (xs := (writes p).map fun n : Nat => V.int (n : Int)) (ea_cons (ep rfl (Ex.refl _)) ea_nil) fun H1 e1 Q q' E => ⟨B, a, p, rfl, eB.trans e1, hp, ok1, ok3, by omega, fun l H2 hl e2 h2 => q' l H2 hl e2 h2⟩) fun l H1 h1 e1 H2 e2 Q q' E => ⟨l, _, rfl, e2 _ _ h1, by rw [List.length_map]; omega, fun r H3 hr e3 h3 => q' r H3 hr e3 h3⟩)
      (el_callL (el_call (xs := (reads p).map fun n : Nat => V.int (n : Int)) (ea_cons (ep rfl (Ex.refl _)) ea_nil) fun H1 e1 Q q' E => ⟨B, a, p, rfl, eB.trans e1, hp, ok1, ok3, by omega, fun l H2 hl e2 h2 => q' l H2 hl e2 h2⟩) fun l H1 h1 e1 H2 e2 Q q' E => ⟨l, _, rfl, e2 _ _ h1, by rw [List.length_map]; omega, fun r H3 hr e3 h3 => q' r H3 hr e3 h3⟩) (by simp; omega)) fun f H1 hf e1 h1 => ?_
    refine s_retL (el_catV (ys := [.int (Vamacf.bool (reshapes p)), .int (Vamacf.bool (readsClip p))]) (ev_var rfl) h1 (el_lst (ea_cons (ev_cb (ea_cons (ev_call (ea_cons (ep rfl e1) ea_nil) fun H2 e2 Q q' E => ⟨B, a, p, rfl, eB.trans (e1.trans e2), hp, ok3, by omega, fun H3 e3 => q' H3 e3⟩) ea_nil) rc_int)
      (ea_cons (ev_cb (ea_cons (ev_call (ea_cons (ep rfl e1) ea_nil) fun H2 e2 Q q' E => ⟨a, p, rfl, hp.mono (eB.trans (e1.trans e2)), ok3, fun H3 e3 => q' H3 e3⟩) ea_nil) rc_int) ea_nil)) (by show 2 ≤ 100000; omega)) (by rw [List.length_append, List.length_cons, List.length_cons, List.length_map, List.length_map]; show _ + 2 ≤ _; omega)) fun l H2 hl e2 h2 => k l H2 (none_ex e1 hl) (e1.trans e2) ?_
    rw [h2]
    show _ = some (HO.lst ((listed (writes p) ++ (listed (reads p) ++ [Vamacf.bool (reshapes p), Vamacf.bool (readsClip p)])).map V.int))
    unfold listed
    simp only [List.map_append, List.map_cons, List.map_map, List.map_nil, List.length_map, List.append_assoc, List.cons_append, VamacBase.int]
    rfl
def spEnds : Sp := fun vs H Q E => ∃ (B : Hp) (D : Addr) (p : Prog), vs = [.ref D] ∧ DeskAt T B H D p ∧ ∀ l H', H l = none → Ex H H' → H' l = some (.lst ((Vamacf.step ⟨p⟩ .ends).2.map V.int)) → Q (.ref l) H'
theorem ok_ends (G_first_not_nearer : FnOk P w K mg base CX0 13 T.f_first_not_nearer T.d_first_not_nearer P_first_not_nearer (spFirst T)) (G_most_deeds : FnOk P w K mg base CX0 5 T.f_most_deeds T.d_most_deeds P_most_deeds (spMost T 5)) : FnOk P w K mg base CX0 14 T.f_Desk_ends T.d_Desk_ends P_Desk_ends (spEnds T) := by
  refine T.F_Desk_ends.ok sc_Desk_ends (fun vs H Q E h => ?_) (fun cdv A outer s H vs Q E hr h => ⟨_, ((pss_cons (ps_set (i := 1) sc_Desk_ends.nd rfl (Or.inl rfl) (pe_call G_first_not_nearer (hr.mono (by omega)) (by rfl) T.g_first_not_nearer T.F_first_not_nearer.kp (b_first_not_nearer T) .nil pass0 (pa_cons (pe_fld (pv 0) rfl) pa_nil))) (pss_cons (ps_if (pt_cmpR op_notN (pv 1) pe_non (nomark _)) (pss_one (ps_ret (pe_lst (pa_cons pe_int (pa_cons (pv 1) pa_nil))))) pss_nil) (pss_one (ps_ret (pe_lst (pa_cons pe_int (pa_cons (pe_call G_most_deeds (hr.mono (by omega)) (by rfl) T.g_most_deeds T.F_most_deeds.kp (b_most_deeds T) .nil pass0 (pa_cons (pe_fld (pv 0) rfl) pa_nil)) pa_nil)))))))), ?_⟩)
  · obtain ⟨B, D, p, rfl, _⟩ := h
    rfl
  · obtain ⟨B, D, p, rfl, ⟨dx, a, hD, eB, hp, bD, okp⟩, k⟩ := h
    obtain ⟨ok1, ok2, ok3⟩ := ok_hgt okp
    have st : (Vamacf.step ⟨p⟩ .ends).2 = match loose 0 p with | some k => [0, (k : Int)] | none => [1, (most p : Int)] := rfl
    rw [st] at k
    refine q_asg (v := frV (loose 0 p)) (ev_call (ea_cons (ev_fld (ev_var rfl) hD T.cl_Desk T.n_Desk_program (l_Desk_program ..)) ea_nil) fun H1 e1 Q q' E => ⟨B, a, p, rfl, eB.trans e1, hp, ok1, ok3, by omega, fun H2 e2 => q' H2 e2⟩) fun H1 e1 => ?_
    generalize loose 0 p = o at k
    refine q_when (b := !decide (frV o = .non)) (et_test (ev_notN (ev_var rfl))) (fun hb H2 e2 => ?_) (fun hb H2 e2 => ?_)
    · cases o with
      | none => cases hb
      | some i => exact s_retL (el_lst (ea_cons ev_c (ea_cons (ev_var rfl) ea_nil)) (by simp)) fun l H3 hl e3 h3 => k l H3 (none_ex (e1.trans e2) hl) ((e1.trans e2).trans e3) h3
    · cases o with
      | some i => rw [decide_eq_false (fun z => by cases z)] at hb; cases hb
      | none =>
        have e12 := e1.trans e2
        exact s_retL (el_lst (ea_cons ev_c (ea_cons (ev_call (ea_cons (ev_fld (ev_var rfl) (e12 _ _ hD) T.cl_Desk T.n_Desk_program (l_Desk_program ..)) ea_nil) fun H3 e3 Q q' E => ⟨B, a, p, rfl, eB.trans (e12.trans e3), hp, ok1, ok3, fun H4 e4 => q' H4 e4⟩) ea_nil)) (by simp)) fun l H3 hl e3 h3 => k l H3 (none_ex e12 hl) (e12.trans e3) h3
end
end Pe
set_option Elab.async false
set_option linter.all false
set_option maxRecDepth 100000
set_option maxHeartbeats 2000000
/-! The desk: more calls. -/
namespace Pe
open PySem PySem.Spec PyProof.Rows L2 VamacBase Vamacf Evl
section
variable {P : Program} {w : World} {K : PySem.W.Frag} {mg : Str → Option Value} {base : Heap} (T : Txt K mg)
def spAllowed : Sp := fun vs H Q E => ∃ (B : Hp) (D a : Addr) (p : Prog) (rows : Int) (ns : List Int), vs = [.ref D, .int rows, .ref a] ∧ DeskAt T B H D p ∧ SqL K H a (ns.map V.int) ∧ Does T ⟨p⟩ (.allowed rows ns) B H D Q E
theorem ok_allowed (G_ask : FnOk P w K mg base (L2.CX P w) 1 T.f_ask T.d_ask P_ask (spAsk T)) (G_first_against : FnOk P w K mg base CX0 6 T.f_first_against T.d_first_against P_first_against (spAgainst T)) (G_fields_of : FnOk P w K mg base (L2.CX P w) 4 T.f_fields_of T.d_fields_of P_fields_of (spFields T)) : FnOk P w K mg base (L2.CX P w) 7 T.f_Desk_allowed T.d_Desk_allowed P_Desk_allowed (spAllowed T) := by
  refine T.F_Desk_allowed.okX sc_Desk_allowed (fun vs H Q E h => ?_) (fun cdv A outer s H vs Q E hr h => ⟨_, ((pss_cons (ps_expr (pe_call G_ask (hr.mono (by omega)) (by rfl) T.g_ask T.F_ask.kp (b_ask T) .nil (passes_call (takes_of rfl rfl rfl rfl) (fun _ _ _ _ h => h)) (pa_cons (pe_chain op_le op_le pe_int (pv 1) pe_int) (pa_cons (pe_glob (v := .int (-1)) rfl T.k_WRONG ⟨_, rfl⟩) pa_nil)))) (pss_cons (ps_set (i := 3) sc_Desk_allowed.nd rfl (Or.inl rfl) (pe_call G_first_against (hr.mono (by omega)) (by rfl) T.g_first_against T.F_first_against.kp (b_first_against T) .nil pass0 (pa_cons (pe_fld (pv 0) rfl) (pa_cons (pe_cmpR op_eq (pv 1) pe_int (nomark _)) (pa_cons (pe_call G_fields_of (hr.mono (by omega)) (by rfl) T.g_fields_of T.F_fields_of.kp (b_fields_of T) .nil (passes_call (takes_of rfl rfl rfl rfl) (fun _ _ _ _ h => h)) (pa_cons (pv 2) pa_nil)) pa_nil))))) (pss_cons (ps_if (pt_cmpR op_notN (pv 3) pe_non (nomark _)) (pss_one (ps_ret (pe_lst (pa_cons pe_int (pa_cons (pv 3) pa_nil))))) pss_nil) (pss_one (ps_ret (pe_lst (pa_cons pe_int pa_nil)))))))), ?_⟩)
  · obtain ⟨B, D, a, p, rows, ns, rfl, _⟩ := h
    rfl
  · obtain ⟨B, D, a, p, rows, ns, rfl, hDk, hs, k⟩ := h
    obtain ⟨dx, pa, hD, eB, hp, bD, okp⟩ := id hDk
    obtain ⟨ok1, ok2, ok3⟩ := ok_hgt okp
    have st : ∀ z, Vamacf.step ⟨p⟩ (.allowed rows ns) = z → (State.mk p, match (fin (fieldsR ns)).map (List.map Int.toNat), readNat 0 1 [rows] with | some fs, some q => (match outside fs (q.1 == 1) 0 p with | none => [1] | some k => [0, (k : Int)]) | _, _ => [-1]) = z := fun z h => by
      rw [← fields_spec]
      exact h
    have st : Vamacf.step ⟨p⟩ (.allowed rows ns) = (State.mk p, match (fin (fieldsR ns)).map (List.map Int.toNat), readNat 0 1 [rows] with | some fs, some q => (match outside fs (q.1 == 1) 0 p with | none => [1] | some k => [0, (k : Int)]) | _, _ => [-1]) := (st _ rfl).symm
    refine qd_call (ea_cons (ev_chain ev_c (ev_var rfl) ev_c) (ea_cons ev_c ea_nil)) fun H1 e1 => ⟨_, _, rfl, fun g H2 d e2 hd => k.ref H2 d (-1) (e1.trans e2) ?_ hd, fun g H2 e2 => ?_⟩
    · have hn : readNat 0 1 [rows] = none := by
        show (if VamacBase.int 0 ≤ rows ∧ rows ≤ VamacBase.int 1 then some (rows.toNat, ([] : List Int)) else none) = none
        rw [if_neg]
        rintro ⟨h1, h2⟩
        rw [show (decide (0 ≤ rows)) = true from decide_eq_true h1, show (decide (rows ≤ 1)) = true from decide_eq_true h2] at g
        cases g
      rw [st, hn]
      cases (fin (fieldsR ns)).map (List.map Int.toNat) <;> rfl
    · obtain ⟨g1, g2⟩ := Bool.and_eq_true_iff.mp g
      have g1 := of_decide_eq_true g1
      have g2 := of_decide_eq_true g2
      have hn : readNat 0 1 [rows] = some (rows.toNat, []) := by
        show (if VamacBase.int 0 ≤ rows ∧ rows ≤ VamacBase.int 1 then some (rows.toNat, ([] : List Int)) else none) = _
        rw [if_pos ⟨g1, g2⟩]
      rw [hn] at st
      have e12 := e1.trans e2
      unfold tSeq tAsg tCall tCons
      have ep : Ev (tFld K (tVar 0) "program") [some (.ref D), some (.int rows), some (.ref a), none] H2 (.ref pa) := ev_fld (ev_var rfl) (e12 _ _ hD) T.cl_Desk T.n_Desk_program (l_Desk_program ..)
      refine ep H2 (Ex.refl _) _ fun H3 e3 => ?_
      refine (show Ev (tOp rEq (tVar 1) (tC (.int 1))) [some (.ref D), some (.int rows), some (.ref a), none] H3 (.bl (decide (rows = 1))) from ev_int (ev_op (ev_var rfl) ev_c (rv_eq rfl))) H3 (Ex.refl _) _ fun H4 e4 => ?_
      refine ⟨_, rfl, ?_⟩
      have e14 := e12.trans (e3.trans e4)
      refine ⟨a, ns, rfl, ex_l e14 hs, fun c H5 e5 => k.no H5 (e14.trans e5) (by rw [st, c]; rfl), fun us c H5 l e5 hl h5 => ?_⟩
      have e15 := e14.trans e5
      have fo := fieldsR_ok (fin_some c)
      rw [c] at st
      refine ⟨B, pa, l, p, decide (rows = 1), us, rfl, eB.trans e15, hp, ok3, by omega, h5, fo.2, fun H6 e6 => ?_⟩
      have e16 := e15.trans e6
      have er : (rows.toNat == 1) = decide (rows = 1) := by
        by_cases cr : rows = 1
        · rw [decide_eq_true cr, cr]; rfl
        · rw [decide_eq_false cr]; exact beq_eq_false_iff_ne.mpr (by omega)
      have st : Vamacf.step ⟨p⟩ (.allowed rows ns) = (State.mk p, match outside (us.map Int.toNat) (rows.toNat == 1) 0 p with | none => [1] | some k => [0, (k : Int)]) := st
      rw [er] at st
      generalize outside (us.map Int.toNat) (decide (rows = 1)) 0 p = o at st
      refine q_when (b := !decide (frV o = .non)) (et_test (ev_notN (ev_var rfl))) (fun hb H7 e7 => ?_) (fun hb H7 e7 => ?_)
      · cases o with
        | none => cases hb
        | some i => exact s_retL (el_lst (ea_cons ev_c (ea_cons (ev_var rfl) ea_nil)) (by simp)) fun r H8 hr e8 h8 => k.same hDk (ans := [0, (i : Int)]) st r H8 (none_ex (e16.trans e7) hr) ((e16.trans e7).trans e8) h8
      · cases o with
        | some i => rw [decide_eq_false (fun z => by cases z)] at hb; cases hb
        | none => exact s_retL (el_lst (ea_cons ev_c ea_nil) (by simp)) fun r H8 hr e8 h8 => k.same hDk (ans := [1]) st r H8 (none_ex (e16.trans e7) hr) ((e16.trans e7).trans e8) h8
def spRunCall : Sp := fun vs H Q E => ∃ (B : Hp) (D a : Addr) (p : Prog) (ns : List Int), vs = [.ref D, .ref a] ∧ DeskAt T B H D p ∧ SqL K H a (ns.map V.int) ∧ Does T ⟨p⟩ (.run ns) B H D Q E
theorem ok_run_call (G_run_of : FnOk P w K mg base CX0 21 T.f_run_of T.d_run_of P_run_of (spRunOf T)) (G_read_table : FnOk P w K mg base (L2.CX P w) 5 T.f_read_table T.d_read_table P_read_table (spReadTab T)) (G_Table_as_numbers : FnOk P w K mg base CX0 1 T.f_Table_as_numbers T.d_Table_as_numbers P_Table_as_numbers (spTabNums T)) : FnOk P w K mg base (L2.CX P w) 22 T.f_Desk_run T.d_Desk_run P_Desk_run (spRunCall T) := by
  refine T.F_Desk_run.okX sc_Desk_run (fun vs H Q E h => ?_) (fun cdv A outer s H vs Q E hr h => ⟨_, ((pss_cons (ps_set (i := 2) sc_Desk_run.nd rfl (Or.inl rfl) (pe_call G_run_of (hr.mono (by omega)) (by rfl) T.g_run_of T.F_run_of.kp (b_run_of T) .nil pass0 (pa_cons (pe_fld (pv 0) rfl) (pa_cons (pe_call G_read_table (hr.mono (by omega)) (by rfl) T.g_read_table T.F_read_table.kp (b_read_table T) .nil (passes_call (takes_of rfl rfl rfl rfl) (fun _ _ _ _ h => h)) (pa_cons (pv 1) pa_nil)) pa_nil)))) (pss_one (ps_ret (pe_op op_cat (pe_lst (pa_cons (pe_fld (pv 2) rfl) (pa_cons (pe_fld (pv 2) rfl) pa_nil))) (pe_meth0 (pe_fld (pv 2) rfl) T.cl_Table T.m_Table_as_numbers G_Table_as_numbers (hr.mono (by omega)) (b_Table_as_numbers T) .nil pass0)))))), ?_⟩)
  · obtain ⟨B, D, a, p, ns, rfl, _⟩ := h
    rfl
  · obtain ⟨B, D, a, p, ns, rfl, hDk, hs, k⟩ := h
    obtain ⟨dx, pa, hD, eB, hp, bD, okp⟩ := id hDk
    obtain ⟨ok1, ok2, ok3⟩ := ok_hgt okp
    have st : Vamacf.step ⟨p⟩ (.run ns) = (State.mk p, match fin (tabR ns) with | none => [-1] | some x => ranTold (VamacBase.run p x)) := by
      rw [← table_spec]
      rfl
    unfold tSeq tAsg tCall tCons
    refine (show Ev (tFld K (tVar 0) "program") [some (.ref D), some (.ref a), none] H (.ref pa) from ev_fld (ev_var rfl) hD T.cl_Desk T.n_Desk_program (l_Desk_program ..)) H (Ex.refl _) _ fun H1 e1 => ?_
    refine ⟨_, rfl, ⟨a, ns, rfl, ex_l e1 hs, fun c H2 e2 => k.no H2 (e1.trans e2) (by rw [st, c]), fun tb c H2 t e2 htab => ?_⟩⟩
    have e12 := e1.trans e2
    have ok := tabR_ok (fin_some c)
    rw [c] at st
    refine ⟨H1, pa, t, p, tb, rfl, hp.mono (eB.trans e12), rp_of_ok p ok1, ok3, htab, ok, fun H3 u e3 hR => ?_⟩
    have e13 := e12.trans e3
    obtain ⟨du, t2, hu, ⟨dt, ra, rs, R⟩, bu, ok2, lt⟩ := hR
    have fl := flat3 _ ok2.three
    have mr := ok2.many
    refine s_retL (el_cat (xs := [.int ((VamacBase.run p tb).trace.length : Nat), .int (badNumber (VamacBase.run p tb).bad)]) (ys := (flatTable (VamacBase.run p tb).table).map V.int) (el_lst (ea_cons (ev_fld (ev_var rfl) hu T.cl_Run T.n_Run_done (l_Run_done ..)) (ea_cons (ev_fld (ev_var rfl) hu T.cl_Run T.n_Run_word (l_Run_word ..)) ea_nil)) (by simp))
      (el_meth (e_table hu rfl) R.ins (no_Table_as_numbers ..) ea_nil fun H4 e4 Q q' E => ⟨H2, t2, _, rfl, ⟨dt, ra, rs, R.mono e4⟩, ok2, fun l H5 hl e5 h5 => q' l H5 hl e5 h5⟩) ?_) fun l H4 hl e4 h4 => k.same hDk (ans := ranTold (VamacBase.run p tb)) st l H4 (none_ex e13 hl) (e13.trans e4) h4
    rw [List.length_map]
    show 2 + (_ :: (_ ++ [_, _])).length ≤ 100000
    rw [List.length_cons, List.length_append, fl]
    show 2 + (_ + 2 + 1) ≤ 100000
    omega
def spJoin : Sp := fun vs H Q E => ∃ (B : Hp) (D a : Addr) (p : Prog) (ns : List Int), vs = [.ref D, .ref a] ∧ DeskAt T B H D p ∧ SqL K H a (ns.map V.int) ∧ ns.length ≤ 1000 ∧ Does T ⟨p⟩ (.join ns) B H D Q E
theorem ok_join (G_read_program : FnOk P w K mg base (L2.CX P w) 12 T.f_read_program T.d_read_program P_read_program (spReadProg T)) (G_many_pieces : FnOk P w K mg base CX0 10 T.f_many_pieces T.d_many_pieces P_many_pieces (spMany T 5)) (G_ask : FnOk P w K mg base (L2.CX P w) 1 T.f_ask T.d_ask P_ask (spAsk T))
    (G_is_accepted : FnOk P w K mg base CX0 14 T.f_is_accepted T.d_is_accepted P_is_accepted (spAccepted T)) : FnOk P w K mg base (L2.CX P w) 15 T.f_Desk_join T.d_Desk_join P_Desk_join (spJoin T) := by
  refine T.F_Desk_join.okX sc_Desk_join (fun vs H Q E h => ?_) (fun cdv A outer s H vs Q E hr h => ⟨_, ((pss_cons (ps_set (i := 2) sc_Desk_join.nd rfl (Or.inl rfl) (pe_op op_cat (pe_fld (pv 0) rfl) (pe_call G_read_program (hr.mono (by omega)) (by rfl) T.g_read_program T.F_read_program.kp (b_read_program T) .nil (passes_call (takes_of rfl rfl rfl rfl) (fun _ _ _ _ h => h)) (pa_cons (pv 1) pa_nil)))) (pss_cons (ps_expr (pe_call G_ask (hr.mono (by omega)) (by rfl) T.g_ask T.F_ask.kp (b_ask T) .nil (passes_call (takes_of rfl rfl rfl rfl) (fun _ _ _ _ h => h)) (pa_cons (pe_cmpR op_le (pe_call G_many_pieces (hr.mono (by omega)) (by rfl) T.g_many_pieces T.F_many_pieces.kp (b_many_pieces T) .nil pass0 (pa_cons (pv 2) pa_nil)) (pe_glob (v := .int (16)) rfl T.k_MOST_PIECES ⟨_, rfl⟩) (nomark _)) (pa_cons (pe_glob (v := .int (-6)) rfl T.k_TOO_MANY ⟨_, rfl⟩) pa_nil)))) (pss_cons (ps_fld (pv 0) (pv 2) rfl) (pss_one (ps_ret (pe_lst (pa_cons (pe_call G_many_pieces (hr.mono (by omega)) (by rfl) T.g_many_pieces T.F_many_pieces.kp (b_many_pieces T) .nil pass0 (pa_cons (pv 2) pa_nil)) (pa_cons (pe_callTy call_int1 (by rfl) T.b_int (by decide +kernel) (pa_cons (pe_call G_is_accepted (hr.mono (by omega)) (by rfl) T.g_is_accepted T.F_is_accepted.kp (b_is_accepted T) .nil pass0 (pa_cons (pv 2) pa_nil)) pa_nil)) pa_nil))))))))), ?_⟩)
  · obtain ⟨B, D, a, p, ns, rfl, _⟩ := h
    rfl
  · obtain ⟨B, D, a, p, ns, rfl, hDk, hs, hz, k⟩ := h
    obtain ⟨dx, pa, hD, eB, ⟨xs, hxs, hps⟩, bD, okp⟩ := id hDk
    obtain ⟨ok1, ok2, ok3⟩ := ok_hgt okp
    have st : Vamacf.step ⟨p⟩ (.join ns) = match readP ns with | none => (State.mk p, [-1]) | some q => if okProg (p.andThen q) = true then (⟨p.andThen q⟩, [((p.andThen q).size : Int), Vamacf.bool (accepted (p.andThen q))]) else (⟨p⟩, [-6]) := by
      rw [← readP_spec]
      rfl
    unfold tSeq tAsg tOp
    refine (show Ev (tFld K (tVar 0) "program") [some (.ref D), some (.ref a), none] H (.ref pa) from ev_fld (ev_var rfl) hD T.cl_Desk T.n_Desk_program (l_Desk_program ..)) H (Ex.refl _) _ fun H1 e1 => ?_
    refine ra_call (ea_cons (ev_var rfl) ea_nil) fun H2 e2 => ⟨a, ns, rfl, ex_l (e1.trans e2) hs, hz, fun c H3 e3 => k.no H3 ((e1.trans e2).trans e3) (by rw [st, c]), fun q c H3 l e3 hl ⟨ys, hys, hqs⟩ => ?_⟩
    have e13 := (e1.trans e2).trans e3
    obtain ⟨okq, _⟩ := readP_ok c
    obtain ⟨q1, q2, q3⟩ := ok_hgt okq
    have l1 := hps.len
    have l2 := hqs.len
    have r1 := row_le p
    have r2 := row_le q
    rw [c] at st
    have st : Vamacf.step ⟨p⟩ (.join ns) = if okProg (p.andThen q) = true then (⟨p.andThen q⟩, [((p.andThen q).size : Int), Vamacf.bool (accepted (p.andThen q))]) else (⟨p⟩, [-6]) := st
    rw [okProg_then okp okq] at st
    refine ⟨pa, l, xs, ys, rfl, rfl, e13 _ _ (eB _ _ hxs), (New.of hys).2, sz_of (by omega), fun f hf => ?_⟩
    have e14 : Ex H (L2.upd H3 f (.lst (xs ++ ys))) := e13.trans (Ex.new hf)
    have dis : ∀ b o, New H2 H3 b = some o → B b = none := fun b o hb => fresh_back (eB.trans (e1.trans e2)) (New.of hb).1
    have eU : Ex (Un B (New H2 H3)) H3 := Un.ex (eB.trans e13) New.le
    have bf : Un B (New H2 H3) f = none := fresh_back eU hf
    -- what is the program's from here
    have eUf : Ex (Add (Un B (New H2 H3)) f (L2.upd H3 f (.lst (xs ++ ys)))) (L2.upd H3 f (.lst (xs ++ ys))) := Add.ex (Ex.mut eU bf) rfl
    have hrow : Row T (Add (Un B (New H2 H3)) f (L2.upd H3 f (.lst (xs ++ ys)))) f (p.andThen q) := ⟨xs ++ ys, Add.at upd_same, PsAt.app (hps.mono (Un.l.trans (Add.le bf))) (hqs.mono ((Un.r dis).trans (Add.le bf)))⟩
    generalize hB2 : Add (Un B (New H2 H3)) f (L2.upd H3 f (.lst (xs ++ ys))) = B2 at eUf hrow
    generalize hH4 : L2.upd H3 f (.lst (xs ++ ys)) = H4 at eUf hrow e14
    have hf0 : H f = none := none_ex e13 hf
    have sz := size_then p q
    have okb : okPieces (p.andThen q) = true := by rw [ok_then, ok1, q1]; rfl
    have hgb : hgt (p.andThen q) < 5 := by
      have d := depth_then p q
      obtain ⟨_, _, d1⟩ := okProg_iff.mp okp
      obtain ⟨_, _, d2⟩ := okProg_iff.mp okq
      have h := hgt_depth (p.andThen q)
      have d3 : (p.andThen q).depth ≤ 3 := by rw [d]; exact Nat.max_le.mpr ⟨d1, d2⟩
      omega
    have em : ∀ {σ : L2.St} {H5 : Hp} {E5 : XK}, σ[2]? = some (some (.ref f)) → Ex H4 H5 → Ev (tCall (spMany T 5) [] E5 (tCons (tVar 2) tNil)) σ H5 (.int ((p.andThen q).size : Nat)) := fun {σ H5 E5} h e => ev_call (ea_cons (ev_var h) ea_nil) fun H6 e6 Q q' E => ⟨f, _, rfl, hrow.mono (eUf.trans (e.trans e6)), hgb, by omega, fun H7 e7 => q' H7 e7⟩
    refine qd_call (ea_cons (ev_op (em rfl (Ex.refl _)) ev_c rv_I0) (ea_cons ev_c ea_nil)) fun H5 e5 => ⟨_, _, rfl, fun g H6 d e6 hd => k.ref H6 d (-6) ((e14.trans e5).trans e6) ?_ hd, fun g H6 e6 => ?_⟩
    · have g := of_decide_eq_false g
      rw [st, if_neg]
      intro h
      have h := of_decide_eq_true h
      omega
    · have g := of_decide_eq_true g
      have g16 : (p.andThen q).size ≤ 16 := by omega
      rw [if_pos (decide_eq_true g16)] at st
      have okb2 : okProg (p.andThen q) = true := by rw [okProg_then okp okq]; exact decide_eq_true g16
      have e46 := e5.trans e6
      have hD6 := (e14.trans e46) _ _ hD
      refine q_fld (ev_var rfl) (ev_var rfl) hD6 T.cl_Desk T.n_Desk_program (by show 1 < 1000; decide) fun H7 e7 => ?_
      rw [p_Desk_program]
      have bD2 : B2 D = none := by
        rw [← hB2]
        refine Add.none (fun z => ?_) ?_
        · rw [← z, hD] at hf0
          cases hf0
        · unfold Un
          rw [bD]
          show New H2 H3 D = none
          unfold New
          rw [(e1.trans e2) _ _ hD]
      have e47 := e46.trans e7
      have eB7 : Ex B2 (L2.upd H7 D (.ins T.c_Desk dx (f_Desk (.ref f)))) := Ex.mut (eUf.trans e47) bD2
      have hD8 : (L2.upd H7 D (.ins T.c_Desk dx (f_Desk (.ref f)))) D = some (.ins T.c_Desk dx (f_Desk (.ref f))) := upd_same
      refine s_retL (xs := [.int ((p.andThen q).size : Nat), .int (Vamacf.bool (accepted (p.andThen q)))]) (el_lst (ea_cons (ev_call (ea_cons (ev_var rfl) ea_nil) fun H9 e9 Q q' E => ⟨f, _, rfl, hrow.mono (eB7.trans e9), hgb, by omega, fun H10 e10 => q' H10 e10⟩)
        (ea_cons (ev_cb (ea_cons (ev_call (ea_cons (ev_var rfl) ea_nil) fun H9 e9 Q q' E => ⟨B2, f, _, rfl, eB7.trans e9, hrow, okb, hgb, by omega, fun H10 e10 => q' H10 e10⟩) ea_nil) rc_int) ea_nil)) (by simp)) fun r H9 hr e9 h9 => ?_
      have kD : Keep [D] H H9 := ((kp (e14.trans e47)).upd).trans (kp e9)
      refine k.yes B2 H9 r _ [((p.andThen q).size : Int), Vamacf.bool (accepted (p.andThen q))] st kD ⟨dx, f, e9 _ _ hD8, eB7.trans e9, hrow, bD2, okb2⟩ (fun b o hb => ?_) ?_ h9
      · rw [← hB2] at hb
        unfold Add at hb
        split at hb
        · rename_i z
          exact Or.inr (by rw [z]; exact hf0)
        · rcases Un.of hb with hb | hb
          · exact Or.inl hb
          · exact Or.inr (none_ex (e1.trans e2) (New.of hb).1)
      · cases hh : H r with
        | none => rfl
        | some o =>
          by_cases cD : r = D
          · rw [cD, hD8] at hr
            cases hr
          · rw [upd_ne cD, (e14.trans e47) _ _ hh] at hr
            cases hr
def spClean : Sp := fun vs H Q E => ∃ (B : Hp) (D a : Addr) (p : Prog) (ns : List Int), vs = [.ref D, .ref a] ∧ DeskAt T B H D p ∧ SqL K H a (ns.map V.int) ∧ Does T ⟨p⟩ (.clean ns) B H D Q E
theorem ok_clean (G_read_deeds : FnOk P w K mg base (L2.CX P w) 4 T.f_read_deeds T.d_read_deeds P_read_deeds (spReadDeeds T)) (G_cleaned : FnOk P w K mg base CX0 5 T.f_cleaned T.d_cleaned P_cleaned (spCleaned T)) (G_told : FnOk P w K mg base CX0 2 T.f_told T.d_told P_told (spTold T)) : FnOk P w K mg base (L2.CX P w) 6 T.f_Desk_clean T.d_Desk_clean P_Desk_clean (spClean T) := by
  refine T.F_Desk_clean.okX sc_Desk_clean (fun vs H Q E h => ?_) (fun cdv A outer s H vs Q E hr h => ⟨_, ((pss_cons (ps_set (i := 2) sc_Desk_clean.nd rfl (Or.inl rfl) (pe_call G_read_deeds (hr.mono (by omega)) (by rfl) T.g_read_deeds T.F_read_deeds.kp (b_read_deeds T) .nil (passes_call (takes_of rfl rfl rfl rfl) (fun _ _ _ _ h => h)) (pa_cons (pv 1) pa_nil))) (pss_cons (ps_set (i := 3) sc_Desk_clean.nd rfl (Or.inl rfl) (pe_call G_cleaned (hr.mono (by omega)) (by rfl) T.g_cleaned T.F_cleaned.kp (b_cleaned T) .nil pass0 (pa_cons (pv 2) pa_nil))) (pss_one (ps_ret (pe_op op_cat (pe_lst (pa_cons (pe_op op_sub (pe_callB call_len_seq (by rfl) T.b_len PySem.boot_len (pa_cons (pv 2) pa_nil)) (pe_callB call_len_seq (by rfl) T.b_len PySem.boot_len (pa_cons (pv 3) pa_nil))) pa_nil)) (pe_call G_told (hr.mono (by omega)) (by rfl) T.g_told T.F_told.kp (b_told T) .nil pass0 (pa_cons (pv 3) pa_nil)))))))), ?_⟩)
  · obtain ⟨B, D, a, p, ns, rfl, _⟩ := h
    rfl
  · obtain ⟨B, D, a, p, ns, rfl, hDk, hs, k⟩ := h
    have st : Vamacf.step ⟨p⟩ (.clean ns) = (State.mk p, match (fin (deedsR ns)).map (List.map toDeed) with | none => [-1] | some d => ((d.length - (Vamacf.clean d.length d).length : Nat) : Int) :: flatDeeds (Vamacf.clean d.length d)) := by
      rw [← deeds_spec]
      rfl
    refine qa_call (ea_cons (ev_var rfl) ea_nil) fun H1 e1 => ⟨a, ns, rfl, ex_l e1 hs, fun c H2 e2 => k.no H2 (e1.trans e2) (by rw [st, c]; rfl), fun rs c H2 l xs e2 hl hx hR => ?_⟩
    have e12 := e1.trans e2
    have l20 := (deedsR_ok (fin_some c)).1
    have lz : (rs.map toDeed).length ≤ 20 := by rw [List.length_map]; exact l20
    rw [c] at st
    have st : Vamacf.step ⟨p⟩ (.clean ns) = (State.mk p, (((rs.map toDeed).length - (Vamacf.clean (rs.map toDeed).length (rs.map toDeed)).length : Nat) : Int) :: flatDeeds (Vamacf.clean (rs.map toDeed).length (rs.map toDeed))) := st
    generalize rs.map toDeed = ds at st hR lz
    have lx := Paired.length hR
    refine qa_call (ea_cons (ev_var rfl) ea_nil) fun H3 e3 => ⟨l, xs, ds, rfl, e3 _ _ hx, hR.mono e3, by omega, fun H4 l2 ys e4 hy hR2 => ?_⟩
    have e34 := e3.trans e4
    have e14 := e12.trans e34
    have cl := clean_len ds.length ds
    have ly := Paired.length hR2
    have fl := flatDeeds_len (Vamacf.clean ds.length ds)
    refine s_retL (el_cat (xs := [.int ((ds.length - (Vamacf.clean ds.length ds).length : Nat) : Int)]) (ys := (flatDeeds (Vamacf.clean ds.length ds)).map V.int) (el_lst (ea_cons (ev_is (ev_op (ev_len (ev_var rfl) (sq_of (e34 _ _ hx))) (ev_len (ev_var rfl) (sq_of hy)) rv_I0) ?_) ea_nil) (by simp))
      (el_call (ea_cons (ev_var rfl) ea_nil) fun H5 e5 Q q' E => ⟨l2, ys, _, rfl, e5 _ _ hy, hR2.mono e5, by omega, fun r H6 hr e6 h6 => q' r H6 hr e6 h6⟩) ?_) fun r H5 hr e5 h5 => k.same hDk (ans := (((ds.length - (Vamacf.clean ds.length ds).length : Nat) : Int)) :: flatDeeds (Vamacf.clean ds.length ds)) st r H5 (none_ex e14 hr) (e14.trans e5) h5
    · rw [lx, ly]
      congr 1
      omega
    · rw [List.length_map]
      show 1 + (_ :: _).length ≤ 100000
      rw [List.length_cons]
      omega
end
end Pe
set_option Elab.async false
set_option linter.all false
set_option maxRecDepth 100000
set_option maxHeartbeats 2000000
/-! The desk: recordings on tables, places that change. -/
namespace Pe
open PySem PySem.Spec PyProof.Rows L2 VamacBase Vamacf Evl
theorem hgt_plain : ∀ ds : List Deed, hgt (plain ds) ≤ 1
  | [] => Nat.zero_le _
  | d :: ds => Nat.max_le.mpr ⟨Nat.le_refl _, hgt_plain ds⟩
theorem dp_ints {K : PySem.W.Frag} {H : Hp} : ∀ ns : List Int, DpAll K H (ns.map V.int) (ns.map PyData.int)
  | [] => .nil
  | n :: ns => .cons (.int n) (dp_ints ns)
theorem rv_eqInts {K : PySem.W.Frag} {H : Hp} {p q : Addr} {ns ms : List Int} (hp : H p = some (.lst (ns.map V.int))) (hq : H q = some (.lst (ms.map V.int))) : RV (rEqD K) (.ref p) (.ref q) H (.bl (decide (ns = ms))) := fun H1 e Q k =>
  ⟨.list (ns.map PyData.int), .list (ms.map PyData.int), .lst (sq_of (e _ _ hp)) (dp_ints ns), .lst (sq_of (e _ _ hq)) (dp_ints ms), shaped_ints ns, shaped_ints ms, by
    simp only [PyData.eqv]
    rw [eqv_ints]
    exact k H1 (Ex.refl _)⟩
section
variable {K : PySem.W.Frag} {σ : L2.St} {H : Hp} {D : Ends} {ta t1 t2 : TE} {tz : TS} {sp : Sp} {E : XK} {Q : VK} {x : V}
theorem q_asgF {i : Nat} {f : Str} (h : ta σ H fun x H' => ∃ a C dx fs v, x = .ref a ∧ H' a = some (.ins C dx fs) ∧ Cls K C ∧ NoAttr K C f ∧ fs.lookup f = some v ∧ tz D (σ.set i (some v)) H') : tSeq (tAsg (tFld K ta f) (gName i)) tz D σ H := h
theorem ra_call2 (h1 : Ev t1 σ H x) (k : ∀ H1, Ex H H1 → t2 σ H1 fun y H2 => sp [x, y] H2 Q E) : tCall sp [] E (tCons t1 (tCons t2 tNil)) σ H Q := h1 H (Ex.refl H) _ fun H1 e1 => k H1 e1
theorem q_asgE {i : Nat} (h : ta σ H fun v H' => tz D (σ.set i (some v)) H') : tSeq (tAsg ta (gName i)) tz D σ H := h
theorem ra_callN1 (h : t1 σ H fun x H1 => sp [x] H1 Q E) : tCall sp [] E (tCons t1 tNil) σ H Q := h
theorem ra_callN2 (h : t1 σ H fun x H1 => t2 σ H1 fun y H2 => sp [x, y] H2 Q E) : tCall sp [] E (tCons t1 (tCons t2 tNil)) σ H Q := h
end
/-- the fields that are another -/
def getF (t : Table) (i f : Nat) : Option Int := (t.rows[i]?).bind fun r => r[f]?
def diffs (a b : Table) (i : Nat) : List Nat := (List.range 3).filter fun f => getF a i f != getF b i f
theorem changedIn_eq (a b : Table) : changedIn a b = (List.range a.rows.length).flatMap fun i => (diffs a b i).map fun f => (i, f) := rfl
theorem changed_len : ∀ (l : List Nat) (g : Nat → List Nat), (∀ i, (g i).length ≤ 3) → (l.flatMap fun i => (g i).map fun f => (i, f)).length ≤ 3 * l.length
  | [], g, _ => Nat.le_refl _
  | i :: l, g, h => by
    rw [List.flatMap_cons, List.length_append, List.length_map, List.length_cons]
    have := changed_len l g h
    have := h i
    omega
theorem diffs_len (a b : Table) (i : Nat) : (diffs a b i).length ≤ 3 := by
  have := List.length_filter_le (fun f => getF a i f != getF b i f) (List.range 3)
  rw [List.length_range] at this
  exact this
def twoOf (l : List (Nat × Nat)) : List Int := l.flatMap fun p => [(p.1 : Int), (p.2 : Int)]
theorem two_len : ∀ l, (twoOf l).length = 2 * l.length
  | [] => rfl
  | p :: l => by
    have := two_len l
    show ([(p.1 : Int), (p.2 : Int)] ++ twoOf l).length = _
    simp only [List.length_append, List.length_cons, List.length_nil, this]
    omega
/-- places, each a new pair -/
def PlAt (H : Hp) : List V → List (Nat × Nat) → Prop := Paired fun v p => ∃ q, v = .ref q ∧ H q = some (.tup [.int (p.1 : Int), .int (p.2 : Int)])
theorem PlAt.mono {H H' : Hp} (e : Ex H H') {xs : List V} {l : List (Nat × Nat)} (h : PlAt H xs l) : PlAt H' xs l := Paired.mapP h fun _ _ ⟨q, h1, h2⟩ => ⟨q, h1, e _ _ h2⟩
section
variable {P : Program} {w : World} {K : PySem.W.Frag} {mg : Str → Option Value} {base : Heap} (T : Txt K mg)
def spSame : Sp := fun vs H Q E => ∃ (B : Hp) (D a b : Addr) (p : Prog) (ns ms : List Int), vs = [.ref D, .ref a, .ref b] ∧ DeskAt T B H D p ∧ SqL K H a (ns.map V.int) ∧ SqL K H b (ms.map V.int) ∧ Does T ⟨p⟩ (.same ns ms) B H D Q E
theorem ok_same (G_read_deeds : FnOk P w K mg base (L2.CX P w) 4 T.f_read_deeds T.d_read_deeds P_read_deeds (spReadDeeds T)) (G_read_table : FnOk P w K mg base (L2.CX P w) 5 T.f_read_table T.d_read_table P_read_table (spReadTab T)) (G_run_of : FnOk P w K mg base CX0 21 T.f_run_of T.d_run_of P_run_of (spRunOf T))
    (G_as_program : FnOk P w K mg base CX0 3 T.f_as_program T.d_as_program P_as_program (spAsProg T)) (G_cleaned : FnOk P w K mg base CX0 5 T.f_cleaned T.d_cleaned P_cleaned (spCleaned T)) (G_Table_as_numbers : FnOk P w K mg base CX0 1 T.f_Table_as_numbers T.d_Table_as_numbers P_Table_as_numbers (spTabNums T)) : FnOk P w K mg base (L2.CX P w) 22 T.f_Desk_same T.d_Desk_same P_Desk_same (spSame T) := by
  refine T.F_Desk_same.okX sc_Desk_same (fun vs H Q E h => ?_) (fun cdv A outer s H vs Q E hr h => ⟨_, ((pss_cons (ps_set (i := 3) sc_Desk_same.nd rfl (Or.inl rfl) (pe_call G_read_deeds (hr.mono (by omega)) (by rfl) T.g_read_deeds T.F_read_deeds.kp (b_read_deeds T) .nil (passes_call (takes_of rfl rfl rfl rfl) (fun _ _ _ _ h => h)) (pa_cons (pv 1) pa_nil))) (pss_cons (ps_set (i := 4) sc_Desk_same.nd rfl (Or.inl rfl) (pe_call G_read_table (hr.mono (by omega)) (by rfl) T.g_read_table T.F_read_table.kp (b_read_table T) .nil (passes_call (takes_of rfl rfl rfl rfl) (fun _ _ _ _ h => h)) (pa_cons (pv 2) pa_nil))) (pss_cons (ps_set (i := 5) sc_Desk_same.nd rfl (Or.inl rfl) (pe_call G_run_of (hr.mono (by omega)) (by rfl) T.g_run_of T.F_run_of.kp (b_run_of T) .nil pass0 (pa_cons (pe_call G_as_program (hr.mono (by omega)) (by rfl) T.g_as_program T.F_as_program.kp (b_as_program T) .nil pass0 (pa_cons (pv 3) pa_nil)) (pa_cons (pv 4) pa_nil)))) (pss_cons (ps_set (i := 6) sc_Desk_same.nd rfl (Or.inl rfl) (pe_call G_run_of (hr.mono (by omega)) (by rfl) T.g_run_of T.F_run_of.kp (b_run_of T) .nil pass0 (pa_cons (pe_call G_as_program (hr.mono (by omega)) (by rfl) T.g_as_program T.F_as_program.kp (b_as_program T) .nil pass0 (pa_cons (pe_call G_cleaned (hr.mono (by omega)) (by rfl) T.g_cleaned T.F_cleaned.kp (b_cleaned T) .nil pass0 (pa_cons (pv 3) pa_nil)) pa_nil)) (pa_cons (pv 4) pa_nil)))) (pss_one (ps_ret (pe_lst (pa_cons (pe_fld (pv 5) rfl) (pa_cons (pe_fld (pv 6) rfl) (pa_cons (pe_callTy call_int1 (by rfl) T.b_int (by decide +kernel) (pa_cons (pe_cmpR (op_eqD hr.units) (pe_meth0 (pe_fld (pv 5) rfl) T.cl_Table T.m_Table_as_numbers G_Table_as_numbers (hr.mono (by omega)) (b_Table_as_numbers T) .nil pass0) (pe_meth0 (pe_fld (pv 6) rfl) T.cl_Table T.m_Table_as_numbers G_Table_as_numbers (hr.mono (by omega)) (b_Table_as_numbers T) .nil pass0) (nomark _)) pa_nil)) pa_nil))))))))))), ?_⟩)
  · obtain ⟨B, D, a, b, p, ns, ms, rfl, _⟩ := h
    rfl
  · obtain ⟨B, D, a, b, p, ns, ms, rfl, hDk, hs, hs2, k⟩ := h
    have st : Vamacf.step ⟨p⟩ (.same ns ms) = match (fin (deedsR ns)).map (List.map toDeed) with
        | none => (State.mk p, [-1])
        | some d => (State.mk p, match fin (tabR ms) with
          | none => [-1]
          | some x => [badNumber (VamacBase.run (plain d) x).bad, badNumber (VamacBase.run (plain (Vamacf.clean d.length d)) x).bad, Vamacf.bool ((VamacBase.run (plain d) x).table == (VamacBase.run (plain (Vamacf.clean d.length d)) x).table)]) := by
      rw [← deeds_spec, ← table_spec]
      rfl
    refine qa_call (ea_cons (ev_var rfl) ea_nil) fun H1 e1 => ⟨a, ns, rfl, ex_l e1 hs, fun c H2 e2 => k.no H2 (e1.trans e2) (by rw [st, c]; rfl), fun rs c H2 l xs e2 hl hx hR => ?_⟩
    have e12 := e1.trans e2
    obtain ⟨l20, hraw⟩ := deedsR_ok (fin_some c)
    have lz : (rs.map toDeed).length ≤ 20 := by rw [List.length_map]; exact l20
    have hfd : ∀ d ∈ rs.map toDeed, dField d ≤ 2 := fun d hd => by
      obtain ⟨r, hr, rfl⟩ := List.mem_map.mp hd
      exact raw_field (hraw r hr).1
    rw [c] at st
    have st : Vamacf.step ⟨p⟩ (.same ns ms) = (State.mk p, match fin (tabR ms) with
          | none => [-1]
          | some x => [badNumber (VamacBase.run (plain (rs.map toDeed)) x).bad, badNumber (VamacBase.run (plain (Vamacf.clean (rs.map toDeed).length (rs.map toDeed))) x).bad, Vamacf.bool ((VamacBase.run (plain (rs.map toDeed)) x).table == (VamacBase.run (plain (Vamacf.clean (rs.map toDeed).length (rs.map toDeed))) x).table)]) := st
    generalize rs.map toDeed = ds at st hR lz hfd
    have cl := clean_len ds.length ds
    have hfc := clean_field ds.length ds hfd
    refine qa_call (ea_cons (ev_var rfl) ea_nil) fun H3 e3 => ⟨b, ms, rfl, ex_l (e12.trans e3) hs2, fun c2 H4 e4 => k.no H4 ((e12.trans e3).trans e4) (by rw [st, c2]), fun tb c2 H4 t e4 htab => ?_⟩
    have e14 := (e12.trans e3).trans e4
    have ok := tabR_ok (fin_some c2)
    rw [c2] at st
    have hx4 := (e3.trans e4) _ _ hx
    have hR4 := hR.mono (e3.trans e4)
    refine q_asgE (ra_callN2 ?_)
    refine ra_call (ea_cons (ev_var rfl) ea_nil) fun H5 e5 => ⟨l, xs, ds, rfl, e5 _ _ hx4, hR4.mono e5, by omega, fun l1 H6 hl1 e6 hrow1 => ?_⟩
    have e46 := e5.trans e6
    refine ⟨_, rfl, H3, l1, t, plain ds, tb, rfl, hrow1, rp_plain ds hfd, by have := hgt_plain ds; omega, htab.mono e46, ok, fun H7 u1 e7 hR1 => ?_⟩
    have e47 := e46.trans e7
    refine q_asgE (ra_callN2 (ra_callN1 ?_))
    refine ra_call (ea_cons (ev_var rfl) ea_nil) fun H8 e8 => ⟨l, xs, ds, rfl, (e47.trans e8) _ _ hx4, hR4.mono (e47.trans e8), by omega, fun H9 l2 ys e9 hy hRc => ?_⟩
    have lyc := Paired.length hRc
    refine ⟨l2, ys, _, rfl, hy, hRc, by omega, fun l3 H10 hl3 e10 hrow2 => ?_⟩
    have e410 := ((e47.trans e8).trans e9).trans e10
    refine ⟨_, rfl, H3, l3, t, _, tb, rfl, hrow2, rp_plain _ hfc, by have := hgt_plain (Vamacf.clean ds.length ds); omega, htab.mono e410, ok, fun H11 u2 e11 hR2 => ?_⟩
    have e711 := ((e8.trans e9).trans e10).trans e11
    obtain ⟨du1, t1, hu1, ⟨dt1, ra1, rs1, RA⟩, _, okA, _⟩ := hR1.mono e711
    obtain ⟨du2, t2, hu2, ⟨dt2, ra2, rs2, RB⟩, _, okB, _⟩ := hR2
    refine s_retL (xs := [.int (badNumber (VamacBase.run (plain ds) tb).bad), .int (badNumber (VamacBase.run (plain (Vamacf.clean ds.length ds)) tb).bad), .int (Vamacf.bool (decide (flatTable (VamacBase.run (plain ds) tb).table = flatTable (VamacBase.run (plain (Vamacf.clean ds.length ds)) tb).table)))])
      (el_lst (ea_cons (ev_fld (ev_var rfl) hu1 T.cl_Run T.n_Run_word (l_Run_word ..)) (ea_cons (ev_fld (ev_var rfl) hu2 T.cl_Run T.n_Run_word (l_Run_word ..)) (ea_cons (ev_cb (ea_cons (ev_opLL (el_meth (e_table hu1 rfl) RA.ins (no_Table_as_numbers ..) ea_nil fun H12 e12 Q q' E => ⟨_, t1, _, rfl, ⟨dt1, ra1, rs1, RA.mono e12⟩, okA, fun r H13 hr e13 h13 => q' r H13 hr e13 h13⟩)
        (el_meth (e_table hu2 rfl) RB.ins (no_Table_as_numbers ..) ea_nil fun H12 e12 Q q' E => ⟨_, t2, _, rfl, ⟨dt2, ra2, rs2, RB.mono e12⟩, okB, fun r H13 hr e13 h13 => q' r H13 hr e13 h13⟩) fun p q H12 hp hq _ => rv_eqInts hp hq) ea_nil) rc_int) ea_nil))) (by simp)) fun r H12 hr e12' h12 => ?_
    rw [flatTable_inj okA okB] at h12
    exact k.same hDk st r H12 (none_ex (e14.trans (e47.trans e711)) hr) ((e14.trans (e47.trans e711)).trans e12') h12
def spChanged : Sp := fun vs H Q E => ∃ (B : Hp) (D a : Addr) (p : Prog) (ns : List Int), vs = [.ref D, .ref a] ∧ DeskAt T B H D p ∧ SqL K H a (ns.map V.int) ∧ Does T ⟨p⟩ (.changed ns) B H D Q E
theorem ok_changed (G_read_table : FnOk P w K mg base (L2.CX P w) 5 T.f_read_table T.d_read_table P_read_table (spReadTab T)) (G_run_of : FnOk P w K mg base CX0 21 T.f_run_of T.d_run_of P_run_of (spRunOf T)) (G_ask : FnOk P w K mg base (L2.CX P w) 1 T.f_ask T.d_ask P_ask (spAsk T)) : FnOk P w K mg base (L2.CX P w) 22 T.f_Desk_changed T.d_Desk_changed P_Desk_changed (spChanged T) := by
  refine T.F_Desk_changed.okX sc_Desk_changed (fun vs H Q E h => ?_) (fun cdv A outer s H vs Q E hr h => ⟨_, ((pss_cons (ps_set (i := 2) sc_Desk_changed.nd rfl (Or.inr rfl) (pe_call G_read_table (hr.mono (by omega)) (by rfl) T.g_read_table T.F_read_table.kp (b_read_table T) .nil (passes_call (takes_of rfl rfl rfl rfl) (fun _ _ _ _ h => h)) (pa_cons (pv 1) pa_nil))) (pss_cons (ps_set (i := 3) sc_Desk_changed.nd rfl (Or.inr rfl) (pe_fld (pe_call G_run_of (hr.mono (by omega)) (by rfl) T.g_run_of T.F_run_of.kp (b_run_of T) .nil pass0 (pa_cons (pe_fld (pv 0) rfl) (pa_cons (pv 2) pa_nil))) rfl)) (pss_cons (ps_expr (pe_call G_ask (hr.mono (by omega)) (by rfl) T.g_ask T.F_ask.kp (b_ask T) .nil (passes_call (takes_of rfl rfl rfl rfl) (fun _ _ _ _ h => h)) (pa_cons (pe_cmpR op_eq (pe_callB call_len_seq (by rfl) T.b_len PySem.boot_len (pa_cons (pe_fld (pv 3) rfl) pa_nil)) (pe_callB call_len_seq (by rfl) T.b_len PySem.boot_len (pa_cons (pe_fld (pv 2) rfl) pa_nil)) (nomark _)) (pa_cons (pe_glob (v := .int (-4)) rfl T.k_OTHER_ROWS ⟨_, rfl⟩) pa_nil)))) (pss_cons (ps_set (i := 4) sc_Desk_changed.nd rfl (Or.inl rfl) (pe_lst pa_nil)) (pss_cons (ps_for (passes_of rfl) rfl (pi_range1 (by rfl) T.b_range (pa_cons (pe_callB call_len_seq (by rfl) T.b_len PySem.boot_len (pa_cons (pe_fld (pv 2) rfl) pa_nil)) pa_nil)) (pg_name (i := 5) sc_Desk_changed.nd rfl (Or.inr rfl)) (pss_one (ps_expr (pe_bm PySem.F.plainAttrs_list PySem.F.slot_list_extend PySem.F.type_list_extend mt_extend (pv 4) (pa_cons (pe_lc (own := [("field", 8)]) (g := gName 8) rfl sc_Desk_changed.nd (pi_range1 (by rfl) T.b_range (pa_cons (pe_glob (v := .int (3)) rfl T.k_FIELDS ⟨_, rfl⟩) pa_nil)) (blkOk_by (own := [("field", 8)]) (N := N_Desk_changed) (sc := defScope s_Desk_changed) (by decide +kernel)) (fun _ _ _ _ _ => pg_name (i := 8) sc_Desk_changed.nd rfl (Or.inl rfl)) (fun _ _ _ _ _ => pts_one (pt_cmpR op_ne (pe_ix (r := rIxL K) ix_list (pe_ix (r := rIxL K) ix_list (pe_fldK (K := K) rfl (pv 2) rfl) (pv 5) (fun _ _ => rfl)) (pv 8) (fun _ _ => rfl)) (pe_ix (r := rIxL K) ix_list (pe_ix (r := rIxL K) ix_list (pe_fldK (K := K) rfl (pv 3) rfl) (pv 5) (fun _ _ => rfl)) (pv 8) (fun _ _ => rfl)) (nomark _))) (fun _ _ _ _ _ => (pe_tup (pa_cons (pv 5) (pa_cons (pv 8) pa_nil))))) pa_nil))))) (pss_cons (ps_set (i := 6) sc_Desk_changed.nd rfl (Or.inl rfl) (pe_lst (pa_cons (pe_callB call_len_seq (by rfl) T.b_len PySem.boot_len (pa_cons (pv 4) pa_nil)) pa_nil))) (pss_cons (ps_for (passes_of rfl) rfl (pi_list (pv 4)) (pg_name (i := 7) sc_Desk_changed.nd rfl (Or.inl rfl)) (pss_one (ps_expr (pe_bm PySem.F.plainAttrs_list PySem.F.slot_list_extend PySem.F.type_list_extend mt_extend (pv 6) (pa_cons (pe_callTy call_list_of (by rfl) T.b_list (by decide +kernel) (pa_cons (pv 7) pa_nil)) pa_nil))))) (pss_one (ps_ret (pv 6))))))))))), ?_⟩)
  · obtain ⟨B, D, a, p, ns, rfl, _⟩ := h
    rfl
  · obtain ⟨B, D, a, p, ns, rfl, hDk, hs, k⟩ := h
    obtain ⟨dx, pa, hD, eB, hp, bD, okp⟩ := id hDk
    obtain ⟨ok1, ok2, ok3⟩ := ok_hgt okp
    have st : Vamacf.step ⟨p⟩ (.changed ns) = (State.mk p, match fin (tabR ns) with | none => [-1] | some x => if x.rows.length ≠ (VamacBase.run p x).table.rows.length then [-4] else ((changedIn x (VamacBase.run p x).table).length : Int) :: twoOf (changedIn x (VamacBase.run p x).table)) := by
      rw [← table_spec]
      rfl
    refine qa_call (ea_cons (ev_var rfl) ea_nil) fun H1 e1 => ⟨a, ns, rfl, ex_l e1 hs, fun c H2 e2 => k.no H2 (e1.trans e2) (by rw [st, c]), fun tb c H2 t e2 htab => ?_⟩
    have e12 := e1.trans e2
    have ok := tabR_ok (fin_some c)
    rw [c] at st
    refine q_asgF (ra_call2 (ev_fld (ev_var rfl) (e12 _ _ hD) T.cl_Desk T.n_Desk_program (l_Desk_program ..)) fun H3 e3 => ?_)
    refine ⟨_, rfl, H1, pa, t, p, tb, rfl, hp.mono (eB.trans (e12.trans e3)), rp_of_ok p ok1, ok3, htab.mono e3, ok, fun H4 u e4 hR => ?_⟩
    have e24 := e3.trans e4
    have e14 := e12.trans e24
    obtain ⟨du, t2, hu, ⟨dt2, ra2, rs2, RB⟩, bu, okB, lt⟩ := hR
    obtain ⟨dt1, ra1, rs1, RA⟩ := htab.mono e24
    refine ⟨u, T.c_Run, du, _, _, rfl, hu, T.cl_Run, T.n_Run_table, l_Run_table .., ?_⟩
    have m1 := ok.many
    have m2 := okB.many
    refine qd_call (ea_cons (ev_op (e_len RB (e_rows RB rfl)) (e_len RA (e_rows RA rfl)) (rv_eq rfl)) (ea_cons ev_c ea_nil)) fun H5 e5 => ⟨_, _, rfl, fun g H6 d e6 hd => k.ref H6 d (-4) ((e14.trans e5).trans e6) ?_ hd, fun g H6 e6 => ?_⟩
    · rw [int_nat] at g
      have g := of_decide_eq_false g
      rw [st]
      show (State.mk p, if tb.rows.length ≠ (VamacBase.run p tb).table.rows.length then [-4] else _) = _
      rw [if_pos (fun z => g z.symm)]
    · rw [int_nat] at g
      have g := of_decide_eq_true g
      have st : Vamacf.step ⟨p⟩ (.changed ns) = (State.mk p, if tb.rows.length ≠ (VamacBase.run p tb).table.rows.length then [-4] else ((changedIn tb (VamacBase.run p tb).table).length : Int) :: twoOf (changedIn tb (VamacBase.run p tb).table)) := st
      rw [if_neg (fun z => z g.symm)] at st
      generalize hy : (VamacBase.run p tb).table = y at st RB okB m2 g
      have e46 := e5.trans e6
      refine q_asgL (el_lst ea_nil (by simp)) fun f H7 hf e7 h7 => ?_
      have e47 := e46.trans e7
      have RA7 := RA.mono e47
      have RB7 := RB.mono e47
      have lenC : ∀ i, ((List.range i).flatMap fun i => (diffs tb y i).map fun f => (i, f)).length ≤ 3 * i := fun i => by
        have := changed_len (List.range i) (diffs tb y) (diffs_len tb y)
        rw [List.length_range] at this
        exact this
      refine q_forR1 (n := (tb.rows.length : Int)) (ea_cons (e_len RA7 (e_rows RA7 rfl)) ea_nil) ⟨by omega, by omega⟩ (fun i σ' H' => ∃ v xs, σ' = [some (.ref D), some (.ref a), some (.ref t), some (.ref t2), some (.ref f), v, none, none, none] ∧ Ex H6 H' ∧ H' f = some (.lst xs) ∧ PlAt (Del f H') xs ((List.range i).flatMap fun i => (diffs tb y i).map fun f => (i, f)))
        (fun H8 e8 => ⟨none, [], rfl, e7.trans e8, e8 _ _ h7, .nil⟩) ?_ ?_
      · rintro i σ' H8 hi ⟨v, xs, rfl, e8, h8, hP⟩
        have hi' : i < tb.rows.length := by omega
        have RA8 := (RA.mono e46).mono e8
        have RB8 := (RB.mono e46).mono e8
        obtain ⟨r1, x1, a1, a2, a3, a4, a5⟩ := RA8.row hi'
        obtain ⟨r2, x2, b1, b2, b3, b4, b5⟩ := RB8.row (show i < y.rows.length by omega)
        have lx := Paired.length hP
        have lc := lenC i
        unfold tDrop tBM tCons
        refine ⟨_, rfl, Or.inl ⟨rfl, _, sq_of h8⟩, ?_⟩
        refine ⟨3, rfl, by omega, by omega, fun C hC => lc_range (lo := 0) (n := 3) (fun j H' => ∃ ws, Ex H8 H' ∧ H' C = some (.lst ws) ∧ ws.length ≤ j ∧ PlAt (Del C H') ws (((List.range j).filter fun f => getF tb i f != getF y i f).map fun f => (i, f))) ?_ ?_ ?_⟩
        · exact ⟨[], Ex.new hC, upd_same, Nat.le_refl _, .nil⟩
        · rintro j H9 hj ⟨ws, e9, h9, hw, hPj⟩
          have ej : (0 : Int) + (j : Int) = (j : Int) := Int.zero_add _
          rw [ej]
          obtain ⟨z1, hz1⟩ := three_get (ok.three _ (List.mem_of_getElem? a2)) (show j ≤ 2 by omega)
          obtain ⟨z2, hz2⟩ := three_get (okB.three _ (List.mem_of_getElem? b2)) (show j ≤ 2 by omega)
          have eg : (getF tb i j != getF y i j) = !decide (z1 = z2) := by
            unfold getF
            rw [a2, b2]
            show (x1[j]? != x2[j]?) = _
            rw [hz1, hz2]
            by_cases c : z1 = z2
            · rw [decide_eq_true c, c]; simp
            · rw [decide_eq_false c]; simp [c]
          have RA9 := RA8.mono e9
          have RB9 := RB8.mono e9
          have et : EvT (tTest (tOp rNe (tOp (rIxL K) (tOp (rIxL K) (tFld K (tVar 2) "rows") (tVar 5)) (tVar 8)) (tOp (rIxL K) (tOp (rIxL K) (tFld K (tVar 3) "rows") (tVar 5)) (tVar 8)))) [some (.ref D), some (.ref a), some (.ref t), some (.ref t2), some (.ref f), some (.int (i : Int)), none, none, some (.int (j : Int))] H9 (!decide (z1 = z2)) :=
            et_test (ev_is (ev_op (ev_op (ev_op (e_rows RA9 rfl) (ev_var rfl) (rv_ixL (sq_of RA9.rows) (atI_nat a5))) (ev_var rfl) (rv_ixL (sq_of (e9 _ _ a3)) (atI_nat (by rw [List.getElem?_map, hz1]; rfl)))) (ev_op (ev_op (e_rows RB9 rfl) (ev_var rfl) (rv_ixL (sq_of RB9.rows) (atI_nat b5))) (ev_var rfl) (rv_ixL (sq_of (e9 _ _ b3)) (atI_nat (by rw [List.getElem?_map, hz2]; rfl)))) (rv_ne rfl)) (by rw [int_eq]))
          refine ⟨rfl, ?_⟩
          refine et H9 (Ex.refl _) _ fun H10 e10 => ?_
          have eD10 : Ex (Del C H9) (Del C H10) := Del.mono e10
          cases hz : (!decide (z1 = z2)) with
          | true =>
            rw [hz] at eg
            refine ⟨_, rfl, _, rfl, sz_of (by simp), fun q hq => ?_⟩
            have nq : q ≠ C := fun z => by
              have h := e10 _ _ h9
              rw [← z, hq] at h
              cases h
            have e910 : Ex H9 (L2.upd H10 q (.tup [.int (i : Int), .int (j : Int)])) := e10.trans (Ex.new hq)
            refine ⟨ws, e910 _ _ h9, sz_lt (by omega), ws ++ [.ref q], Ex.mut (e9.trans e910) hC, upd_same, by rw [List.length_append, List.length_singleton]; omega, ?_⟩
            rw [List.range_succ, List.filter_append, List.map_append, List.filter_cons, if_pos eg]
            exact paired_app (hPj.mono ((Del.mono e910).trans Del.updD)) (.cons ⟨q, rfl, Del.updD _ _ (Del.at nq upd_same)⟩ .nil)
          | false =>
            rw [hz] at eg
            refine ⟨ws, e9.trans e10, e10 _ _ h9, by omega, ?_⟩
            rw [List.range_succ, List.filter_append, List.filter_cons, if_neg (by rw [eg]; exact Bool.false_ne_true), List.filter_nil, List.append_nil]
            exact hPj.mono eD10
        · rintro H9 ⟨ws, e9, h9, hw, hPj⟩
          have Cf : C ≠ f := fun z => by rw [z, h8] at hC; cases hC
          refine ⟨f, C, xs, ws, rfl, rfl, e9 _ _ h8, h9, sz_of (by omega), _, xs ++ ws, rfl, Ex.mut (e8.trans e9) hf, upd_same, ?_⟩
          rw [List.range_succ, List.flatMap_append, List.flatMap_cons, List.flatMap_nil, List.append_nil]
          refine paired_app (hP.mono ((Del.mono e9).trans Del.updD)) (Paired.mapP hPj fun _ _ ⟨q, g1, g2⟩ => ⟨q, g1, ?_⟩)
          obtain ⟨g3, g4⟩ := Del.of g2
          have qf : q ≠ f := fun z => by
            rw [z, e9 _ _ h8] at g4
            cases g4
          exact Del.updD _ _ (Del.at qf g4)
      · rintro σ' H8 ⟨v, xs, rfl, e8, h8, hP⟩
        have en : ((tb.rows.length : Int)).toNat = tb.rows.length := Int.toNat_natCast _
        rw [en, ← changedIn_eq] at hP
        have lc : (changedIn tb y).length ≤ 3 * tb.rows.length := lenC _
        generalize changedIn tb y = ps at st hP lc
        have lx := Paired.length hP
        refine q_asgL (el_lst (ea_cons (ev_len (ev_var rfl) (sq_of h8)) ea_nil) (by simp)) fun r H9 hr e9 h9 => ?_
        have h89 := e9 _ _ h8
        have hP9 := hP.mono (Del.le.trans e9)
        refine q_forLn (ev_var rfl) (sq_of h89) (fun i σ' H' => ∃ v7, σ' = [some (.ref D), some (.ref a), some (.ref t), some (.ref t2), some (.ref f), v, some (.ref r), v7, none] ∧ Ex H8 H' ∧ H' r = some (.lst (((ps.length : Int) :: twoOf (ps.take i)).map V.int)))
          (fun H10 e10 => ⟨none, rfl, e9.trans e10, by rw [e10 _ _ h9, lx]; rfl⟩) (fun i σ' H' _ ⟨_, _, e, _⟩ => sq_of (e _ _ h8)) ?_ ?_
        · rintro i x σ' H10 hi ⟨v7, rfl, e10, h10⟩
          obtain ⟨pr, ht, ⟨q, rfl, hq⟩, hpi⟩ := paired_take' (hP.mono Del.le) hi
          have hq10 := e10 _ _ hq
          have l2 := two_len (ps.take i)
          rw [List.length_take] at l2
          refine s_extL (ys := [.int (pr.1 : Int), .int (pr.2 : Int)]) h10 (ev_var rfl) (fun H11 e11 Q q' => ⟨_, rfl, q, _, rfl, Or.inr (st_of (e11 _ _ hq10)), fun l hl => q' l _ hl (Ex.new hl) upd_same⟩) (by rw [List.length_map, List.length_cons, l2]; show _ + 2 ≤ _; omega) fun l H11 hl e11 h11 => ⟨_, rfl, Ex.mut (e10.trans e11) hr, ?_⟩
          rw [upd_same, ht]
          unfold twoOf
          rw [List.flatMap_append, List.flatMap_cons, List.flatMap_nil, List.append_nil, List.map_cons, List.map_cons, List.map_append]
          rfl
        · rintro σ' H10 ⟨v7, rfl, e10, h10⟩
          rw [lx, List.take_length] at h10
          have e610 := (e14.trans e46).trans (e8.trans e10)
          refine s_ret (ev_var rfl) fun H11 e11 => k.same hDk st r H11 (none_ex ((e14.trans e46).trans e8) hr) (e610.trans e11) (e11 _ _ h10)
end
end Pe
set_option Elab.async false
set_option linter.all false
set_option maxRecDepth 100000
set_option maxHeartbeats 2000000
/-! The desk: a call answered. -/
namespace Pe
open PySem PySem.Spec PyProof.Rows L2 VamacBase Vamacf Evl
/-- a call by its number, its number of rows, its lists -/
inductive Is : Nat → Int → List (List Int) → Vamacf.Call → Prop
  | program (r : Int) (l : List Int) : Is 0 r [l] (.program l)
  | told (r : Int) : Is 1 r [] .told
  | touches (r : Int) : Is 2 r [] .touches
  | ends (r : Int) : Is 3 r [] .ends
  | allowed (r : Int) (l : List Int) : Is 4 r [l] (.allowed r l)
  | run (r : Int) (l : List Int) : Is 5 r [l] (.run l)
  | changed (r : Int) (l : List Int) : Is 6 r [l] (.changed l)
  | join (r : Int) (l : List Int) : Is 7 r [l] (.join l)
  | clean (r : Int) (l : List Int) : Is 8 r [l] (.clean l)
  | same (r : Int) (l t : List Int) : Is 9 r [l, t] (.same l t)
section
variable {P : Program} {w : World} {K : PySem.W.Frag} {mg : Str → Option Value} {base : Heap} (T : Txt K mg)
variable {T}
theorem Does.mono {st : State} {c : Vamacf.Call} {B H H1 : Hp} {D : Addr} {Q : VK} {E : XK} (e : Ex H H1) (k : Does T st c B H D Q E) : Does T st c B H1 D Q E :=
  ⟨fun H' e' h => k.no H' (e.trans e') h, fun H' d n e' h hd => k.ref H' d n (e.trans e') h hd, fun B' H' l p' ans h kp' hD hB hl h' => k.yes B' H' l p' ans h ((kp e).trans kp') hD (fun b o hb => (hB b o hb).imp id (none_ex e)) (none_ex e hl) h'⟩
variable (T)
def LsAt (H : Hp) : List Addr → List (List Int) → Prop := Paired fun a x => H a = some (.lst (x.map V.int)) ∧ x.length ≤ 1000
theorem LsAt.mono {H H' : Hp} {as : List Addr} {xs : List (List Int)} (e : Ex H H') (h : LsAt H as xs) : LsAt H' as xs := Paired.mapP h fun _ _ ⟨a, b⟩ => ⟨e _ _ a, b⟩
def spAnswer : Sp := fun vs H Q E => ∃ (B : Hp) (D ls : Addr) (p : Prog) (c : Vamacf.Call) (n : Nat) (rows : Int) (as : List Addr) (xs : List (List Int)), vs = [.ref D, .int n, .int rows, .ref ls] ∧ DeskAt T B H D p ∧ H ls = some (.lst (as.map V.ref)) ∧ LsAt H as xs ∧ Is n rows xs c ∧ Does T ⟨p⟩ c B H D Q E
theorem ok_answer (G_Desk_load : FnOk P w K mg base (L2.CX P w) 13 T.f_Desk_load T.d_Desk_load P_Desk_load (spLoad T)) (G_row_as_numbers : FnOk P w K mg base CX0 11 T.f_row_as_numbers T.d_row_as_numbers P_row_as_numbers (spRowNums T 5))
    (G_Desk_touches : FnOk P w K mg base CX0 8 T.f_Desk_touches T.d_Desk_touches P_Desk_touches (spTouches T)) (G_Desk_ends : FnOk P w K mg base CX0 14 T.f_Desk_ends T.d_Desk_ends P_Desk_ends (spEnds T)) (G_Desk_allowed : FnOk P w K mg base (L2.CX P w) 7 T.f_Desk_allowed T.d_Desk_allowed P_Desk_allowed (spAllowed T))
    (G_Desk_run : FnOk P w K mg base (L2.CX P w) 22 T.f_Desk_run T.d_Desk_run P_Desk_run (spRunCall T)) (G_Desk_changed : FnOk P w K mg base (L2.CX P w) 22 T.f_Desk_changed T.d_Desk_changed P_Desk_changed (spChanged T)) (G_Desk_join : FnOk P w K mg base (L2.CX P w) 15 T.f_Desk_join T.d_Desk_join P_Desk_join (spJoin T))
    (G_Desk_clean : FnOk P w K mg base (L2.CX P w) 6 T.f_Desk_clean T.d_Desk_clean P_Desk_clean (spClean T)) (G_Desk_same : FnOk P w K mg base (L2.CX P w) 22 T.f_Desk_same T.d_Desk_same P_Desk_same (spSame T)) : FnOk P w K mg base (L2.CX P w) 23 T.f_Desk_answer T.d_Desk_answer P_Desk_answer (spAnswer T) := by
  refine T.F_Desk_answer.okX sc_Desk_answer (fun vs H Q E h => ?_) (fun cdv A outer s H vs Q E hr h => ⟨_, ((pss_cons (ps_if (pt_cmpR op_eq (pv 1) pe_int (nomark _)) (pss_one (ps_ret (pe_meth (pv 0) T.cl_Desk T.m_Desk_load G_Desk_load (hr.mono (by omega)) (b_Desk_load T) .nil (passes_call (takes_of rfl rfl rfl rfl) (fun _ _ _ _ h => h)) (pa_cons (pe_ix ix_list (pv 3) pe_int (fun _ _ => rfl)) pa_nil)))) pss_nil) (pss_cons (ps_if (pt_cmpR op_eq (pv 1) pe_int (nomark _)) (pss_one (ps_ret (pe_call G_row_as_numbers (hr.mono (by omega)) (by rfl) T.g_row_as_numbers T.F_row_as_numbers.kp (b_row_as_numbers T) .nil pass0 (pa_cons (pe_fld (pv 0) rfl) pa_nil)))) pss_nil) (pss_cons (ps_if (pt_cmpR op_eq (pv 1) pe_int (nomark _)) (pss_one (ps_ret (pe_meth0 (pv 0) T.cl_Desk T.m_Desk_touches G_Desk_touches (hr.mono (by omega)) (b_Desk_touches T) .nil pass0))) pss_nil) (pss_cons (ps_if (pt_cmpR op_eq (pv 1) pe_int (nomark _)) (pss_one (ps_ret (pe_meth0 (pv 0) T.cl_Desk T.m_Desk_ends G_Desk_ends (hr.mono (by omega)) (b_Desk_ends T) .nil pass0))) pss_nil) (pss_cons (ps_if (pt_cmpR op_eq (pv 1) (pe_glob (v := .int (4)) rfl T.k_ROWS_CALL ⟨_, rfl⟩) (nomark _)) (pss_one (ps_ret (pe_meth (pv 0) T.cl_Desk T.m_Desk_allowed G_Desk_allowed (hr.mono (by omega)) (b_Desk_allowed T) .nil (passes_call (takes_of rfl rfl rfl rfl) (fun _ _ _ _ h => h)) (pa_cons (pv 2) (pa_cons (pe_ix ix_list (pv 3) pe_int (fun _ _ => rfl)) pa_nil))))) pss_nil) (pss_cons (ps_if (pt_cmpR op_eq (pv 1) pe_int (nomark _)) (pss_one (ps_ret (pe_meth (pv 0) T.cl_Desk T.m_Desk_run G_Desk_run (hr.mono (by omega)) (b_Desk_run T) .nil (passes_call (takes_of rfl rfl rfl rfl) (fun _ _ _ _ h => h)) (pa_cons (pe_ix ix_list (pv 3) pe_int (fun _ _ => rfl)) pa_nil)))) pss_nil) (pss_cons (ps_if (pt_cmpR op_eq (pv 1) pe_int (nomark _)) (pss_one (ps_ret (pe_meth (pv 0) T.cl_Desk T.m_Desk_changed G_Desk_changed (hr.mono (by omega)) (b_Desk_changed T) .nil (passes_call (takes_of rfl rfl rfl rfl) (fun _ _ _ _ h => h)) (pa_cons (pe_ix ix_list (pv 3) pe_int (fun _ _ => rfl)) pa_nil)))) pss_nil) (pss_cons (ps_if (pt_cmpR op_eq (pv 1) pe_int (nomark _)) (pss_one (ps_ret (pe_meth (pv 0) T.cl_Desk T.m_Desk_join G_Desk_join (hr.mono (by omega)) (b_Desk_join T) .nil (passes_call (takes_of rfl rfl rfl rfl) (fun _ _ _ _ h => h)) (pa_cons (pe_ix ix_list (pv 3) pe_int (fun _ _ => rfl)) pa_nil)))) pss_nil) (pss_cons (ps_if (pt_cmpR op_eq (pv 1) pe_int (nomark _)) (pss_one (ps_ret (pe_meth (pv 0) T.cl_Desk T.m_Desk_clean G_Desk_clean (hr.mono (by omega)) (b_Desk_clean T) .nil (passes_call (takes_of rfl rfl rfl rfl) (fun _ _ _ _ h => h)) (pa_cons (pe_ix ix_list (pv 3) pe_int (fun _ _ => rfl)) pa_nil)))) pss_nil) (pss_one (ps_ret (pe_meth (pv 0) T.cl_Desk T.m_Desk_same G_Desk_same (hr.mono (by omega)) (b_Desk_same T) .nil (passes_call (takes_of rfl rfl rfl rfl) (fun _ _ _ _ h => h)) (pa_cons (pe_ix ix_list (pv 3) pe_int (fun _ _ => rfl)) (pa_cons (pe_ix ix_list (pv 3) pe_int (fun _ _ => rfl)) pa_nil))))))))))))))), ?_⟩)
  · obtain ⟨B, D, ls, p, c, n, rows, as, xs, rfl, _⟩ := h
    rfl
  · obtain ⟨B, D, ls, p, c, n, rows, as, xs, rfl, hDk, hls, hL, hI, k⟩ := h
    obtain ⟨dx, pa, hD, eB, hp, bD, okp⟩ := id hDk
    obtain ⟨ok1, ok2, ok3⟩ := ok_hgt okp
    have tst : ∀ {H1 : Hp} (m : Nat), EvT (tTest (tOp rEq (tVar 1) (tC (.int (m : Int))))) (L2.start N_Desk_answer [.ref D, .int n, .int rows, .ref ls]) H1 (decide (n = m)) := fun {H1} m => et_test (ev_is (ev_op (ev_var rfl) ev_c (rv_eq rfl)) (congrArg V.bl (int_nat n m)))
    have l0 : ∀ {H1 : Hp} {a : Addr} {r : List V}, H1 ls = some (.lst (.ref a :: r)) → Ev (tOp (rIxL K) (tVar 3) (tC (.int 0))) (L2.start N_Desk_answer [.ref D, .int n, .int rows, .ref ls]) H1 (.ref a) := fun h => ev_op (ev_var rfl) ev_c (rv_ixL (sq_of h) (atI_nat (j := 0) rfl))
    refine q_when (tst 0) (fun hc H1 e1 => ?_) (fun hc H1 e1 => ?_)
    · have hc := of_decide_eq_true hc
      subst hc
      cases hI with
      | program r l =>
        cases hL with
        | cons h t =>
          cases t
          exact ra_meth (ev_var rfl) (e1 _ _ hD) (no_Desk_load ..) (ea_cons (l0 (e1 _ _ hls)) ea_nil) fun H2 e2 => ⟨B, D, _, p, l, rfl, hDk.mono (e1.trans e2), sq_of ((e1.trans e2) _ _ h.1), h.2, k.mono (e1.trans e2)⟩
    · have n0 := of_decide_eq_false hc
      refine q_when (tst 1) (fun hc H2 e2 => ?_) (fun hc H2 e2 => ?_)
      · have hc := of_decide_eq_true hc
        subst hc
        cases hI with
        | told r =>
          have e12 := e1.trans e2
          exact s_retL (el_call (ea_cons (ev_fld (ev_var rfl) (e12 _ _ hD) T.cl_Desk T.n_Desk_program (l_Desk_program ..)) ea_nil) fun H3 e3 Q q' E => ⟨pa, p, rfl, hp.mono (eB.trans (e12.trans e3)), ok3, by omega, fun l H4 hl e4 h4 => q' l H4 hl e4 h4⟩) fun l H3 hl e3 h3 => k.same hDk (ans := flatProg p) rfl l H3 (none_ex e12 hl) (e12.trans e3) h3
      · have n1 := of_decide_eq_false hc
        refine q_when (tst 2) (fun hc H3 e3 => ?_) (fun hc H3 e3 => ?_)
        · have hc := of_decide_eq_true hc
          subst hc
          cases hI with
          | touches r =>
            have e13 := (e1.trans e2).trans e3
            exact ra_meth (ev_var rfl) (e13 _ _ hD) (no_Desk_touches ..) ea_nil fun H4 e4 => ⟨B, D, p, rfl, hDk.mono (e13.trans e4), fun l H5 hl e5 h5 => k.same hDk (ans := (Vamacf.step ⟨p⟩ .touches).2) rfl l H5 (none_ex (e13.trans e4) hl) ((e13.trans e4).trans e5) h5⟩
        · have n2 := of_decide_eq_false hc
          have e13 := (e1.trans e2).trans e3
          refine q_when (tst 3) (fun hc H4 e4 => ?_) (fun hc H4 e4 => ?_)
          · have hc := of_decide_eq_true hc
            subst hc
            cases hI with
            | ends r =>
              have e14 := e13.trans e4
              exact ra_meth (ev_var rfl) (e14 _ _ hD) (no_Desk_ends ..) ea_nil fun H5 e5 => ⟨B, D, p, rfl, hDk.mono (e14.trans e5), fun l H6 hl e6 h6 => k.same hDk (ans := (Vamacf.step ⟨p⟩ .ends).2) rfl l H6 (none_ex (e14.trans e5) hl) ((e14.trans e5).trans e6) h6⟩
          · have n3 := of_decide_eq_false hc
            have e14 := e13.trans e4
            refine q_when (tst 4) (fun hc H5 e5 => ?_) (fun hc H5 e5 => ?_)
            · have hc := of_decide_eq_true hc
              subst hc
              have e15 := e14.trans e5
              cases hI with
              | allowed r l =>
                cases hL with
                | cons h t =>
                  cases t
                  exact ra_meth (ev_var rfl) (e15 _ _ hD) (no_Desk_allowed ..) (ea_cons (ev_var rfl) (ea_cons (l0 (e15 _ _ hls)) ea_nil)) fun H6 e6 => ⟨B, D, _, p, rows, l, rfl, hDk.mono (e15.trans e6), sq_of ((e15.trans e6) _ _ h.1), k.mono (e15.trans e6)⟩
            · have n4 := of_decide_eq_false hc
              have e15 := e14.trans e5
              refine q_when (tst 5) (fun hc H6 e6 => ?_) (fun hc H6 e6 => ?_)
              · have hc := of_decide_eq_true hc
                subst hc
                have e16 := e15.trans e6
                cases hI with
                | run r l =>
                  cases hL with
                  | cons h t =>
                    cases t
                    exact ra_meth (ev_var rfl) (e16 _ _ hD) (no_Desk_run ..) (ea_cons (l0 (e16 _ _ hls)) ea_nil) fun H7 e7 => ⟨B, D, _, p, l, rfl, hDk.mono (e16.trans e7), sq_of ((e16.trans e7) _ _ h.1), k.mono (e16.trans e7)⟩
              · have n5 := of_decide_eq_false hc
                have e16 := e15.trans e6
                refine q_when (tst 6) (fun hc H7 e7 => ?_) (fun hc H7 e7 => ?_)
                · have hc := of_decide_eq_true hc
                  subst hc
                  have e17 := e16.trans e7
                  cases hI with
                  | changed r l =>
                    cases hL with
                    | cons h t =>
                      cases t
                      exact ra_meth (ev_var rfl) (e17 _ _ hD) (no_Desk_changed ..) (ea_cons (l0 (e17 _ _ hls)) ea_nil) fun H8 e8 => ⟨B, D, _, p, l, rfl, hDk.mono (e17.trans e8), sq_of ((e17.trans e8) _ _ h.1), k.mono (e17.trans e8)⟩
                · have n6 := of_decide_eq_false hc
                  have e17 := e16.trans e7
                  refine q_when (tst 7) (fun hc H8 e8 => ?_) (fun hc H8 e8 => ?_)
                  · have hc := of_decide_eq_true hc
                    subst hc
                    have e18 := e17.trans e8
                    cases hI with
                    | join r l =>
                      cases hL with
                      | cons h t =>
                        cases t
                        exact ra_meth (ev_var rfl) (e18 _ _ hD) (no_Desk_join ..) (ea_cons (l0 (e18 _ _ hls)) ea_nil) fun H9 e9 => ⟨B, D, _, p, l, rfl, hDk.mono (e18.trans e9), sq_of ((e18.trans e9) _ _ h.1), h.2, k.mono (e18.trans e9)⟩
                  · have n7 := of_decide_eq_false hc
                    have e18 := e17.trans e8
                    refine q_when (tst 8) (fun hc H9 e9 => ?_) (fun hc H9 e9 => ?_)
                    · have hc := of_decide_eq_true hc
                      subst hc
                      have e19 := e18.trans e9
                      cases hI with
                      | clean r l =>
                        cases hL with
                        | cons h t =>
                          cases t
                          exact ra_meth (ev_var rfl) (e19 _ _ hD) (no_Desk_clean ..) (ea_cons (l0 (e19 _ _ hls)) ea_nil) fun H10 e10 => ⟨B, D, _, p, l, rfl, hDk.mono (e19.trans e10), sq_of ((e19.trans e10) _ _ h.1), k.mono (e19.trans e10)⟩
                    · have n8 := of_decide_eq_false hc
                      have e19 := e18.trans e9
                      cases hI with
                      | same r l t =>
                        cases hL with
                        | cons h1 t1 =>
                          cases t1 with
                          | cons h2 t2 =>
                            cases t2
                            exact ra_meth (ev_var rfl) (e19 _ _ hD) (no_Desk_same ..) (ea_cons (l0 (e19 _ _ hls)) (ea_cons (ev_op (ev_var rfl) ev_c (rv_ixL (sq_of (e19 _ _ hls)) rfl)) ea_nil)) fun H10 e10 => ⟨B, D, _, _, p, l, t, rfl, hDk.mono (e19.trans e10), sq_of ((e19.trans e10) _ _ h1.1), sq_of ((e19.trans e10) _ _ h2.1), k.mono (e19.trans e10)⟩
                      | program r l => exact absurd rfl n0
                      | told r => exact absurd rfl n1
                      | touches r => exact absurd rfl n2
                      | ends r => exact absurd rfl n3
                      | allowed r l => exact absurd rfl n4
                      | run r l => exact absurd rfl n5
                      | changed r l => exact absurd rfl n6
                      | join r l => exact absurd rfl n7
                      | clean r l => exact absurd rfl n8
def spAnswered : Sp := fun vs H Q E => ∃ (B : Hp) (D ls : Addr) (p : Prog) (c : Vamacf.Call) (n : Nat) (rows : Int) (as : List Addr) (xs : List (List Int)), vs = [.ref D, .int n, .int rows, .ref ls] ∧ DeskAt T B H D p ∧ H ls = some (.lst (as.map V.ref)) ∧ LsAt H as xs ∧ Is n rows xs c ∧
  ∀ B' H' l p' ans, Vamacf.step ⟨p⟩ c = (⟨p'⟩, ans) → Keep [D] H H' → DeskAt T B' H' D p' → (∀ b o, B' b = some o → B b = some o ∨ H b = none) → H l = none → H' l = some (.lst (ans.map V.int)) → Q (.ref l) H'
theorem ok_answered (G_Desk_answer : FnOk P w K mg base (L2.CX P w) 23 T.f_Desk_answer T.d_Desk_answer P_Desk_answer (spAnswer T)) : FnOk P w K mg base CX0 24 T.f_answered T.d_answered P_answered (spAnswered T) := by
  refine T.F_answered.ok sc_answered (fun vs H Q E h => ?_) (fun cdv A outer s H vs Q E hr h => ⟨_, pss_one (ps_try2 (i := 4) (n := "error") (c1 := .ref T.c_NoProgram) (c2 := .ref T.c_Refused) rfl rfl sc_answered.nd rfl rfl ⟨by rfl, by rfl, Or.inl T.g_NoProgram⟩ ⟨by rfl, by rfl, Or.inl T.ref.gC⟩
    (fun W pn xe tk po => pss_one (ps_ret (pe_methS (E := WE W) (pv 0) T.cl_Desk T.m_Desk_answer G_Desk_answer (hr.mono (by omega)) (b_Desk_answer T) (fun σ => passAt tk σ) (pa_cons (pv 1) (pa_cons (pv 2) (pa_cons (pv 3) pa_nil))))))
    (fun a oe cls d pn hz hf => pss_one (ps_ret (pe_lst (pa_cons (pe_glob (v := .int (-1)) rfl T.k_WRONG ⟨_, rfl⟩) pa_nil))))
    (fun a oe cls d pn hz hf => pss_one (ps_ret (pe_lst (pa_cons (pe_byRef T.ref hz hf (pv 4)) pa_nil))))), ?_⟩)
  · obtain ⟨B, D, ls, p, c, n, rows, as, xs, rfl, _⟩ := h
    rfl
  · obtain ⟨B, D, ls, p, c, n, rows, as, xs, rfl, hDk, hls, hL, hI, k⟩ := h
    obtain ⟨dx, pa, hD, eB, hp, bD, okp⟩ := id hDk
    have sm : ∀ {ans : List Int}, Vamacf.step ⟨p⟩ c = (⟨p⟩, ans) → ∀ l H', H l = none → Ex H H' → H' l = some (.lst (ans.map V.int)) → Q (.ref l) H' := fun {ans} hs l H' hl e h => k B H' l p ans hs (kp e) (hDk.mono e) (fun b o h => Or.inl h) hl h
    have ea : ∀ {H1 : Hp}, EvA (tCons (tVar 1) (tCons (tVar 2) (tCons (tVar 3) tNil))) (L2.start N_answered [.ref D, .int n, .int rows, .ref ls]) H1 [.int n, .int rows, .ref ls] := ea_cons (ev_var rfl) (ea_cons (ev_var rfl) (ea_cons (ev_var rfl) ea_nil))
    refine ⟨_, rfl, D, dx, _, rfl, hD, no_Desk_answer .., ?_⟩
    refine ea H (Ex.refl _) _ fun H2 e2 => ?_
    refine ⟨B, D, ls, p, c, n, rows, as, xs, rfl, hDk.mono e2, e2 _ _ hls, hL.mono e2, hI, ⟨fun H3 e3 hs => ?_, fun H3 d m e3 hs hd => ?_, fun B' H3 l p' ans hs k3 hD3 hB hl h3 => ?_⟩⟩
    · refine ⟨true, T.te_NoProgram, fun _ a ha => ?_, fun h => by cases h⟩
      exact s_retL (el_lst (ea_cons ev_c ea_nil) (by simp)) fun l H4 hl e4 h4 => sm hs l H4 (none_ex (e2.trans e3) hl) ((e2.trans e3).trans e4) h4
    · refine ⟨false, T.tn_Refused, fun h => (by cases h), fun _ => ⟨T.ref.te, fun a ha => ?_⟩⟩
      refine ⟨_, rfl, rfl, rfl, d, .int m, rfl, hd, ?_⟩
      exact ⟨sz_of (by simp), fun l hl => sm hs l _ (none_ex (e2.trans e3) hl) ((e2.trans e3).trans (Ex.new hl)) upd_same⟩
    · exact k B' H3 l p' ans hs ((kp e2).trans k3) hD3 (fun b o hb => (hB b o hb).imp id (none_ex e2)) (none_ex e2 hl) h3
end
end Pe
set_option Elab.async false
set_option linter.all false
set_option maxRecDepth 100000
set_option maxHeartbeats 2000000
/-! Calls read off a list: plain facts. -/
namespace Pe
open VamacBase Vamacf
def manyL (n : Nat) : Nat := [1, 0, 0, 0, 1, 1, 1, 1, 1, 2].getD n 0
theorem shape_nat {z : Int} {a k : Nat} (h : PyVamacf.shape z = some (a, k)) : ∃ n : Nat, z = (n : Int) ∧ n ≤ 9 ∧ a = (if n = 4 then 1 else 0) ∧ k = manyL n := by
  unfold PyVamacf.shape at h
  split at h
  · cases h; rename_i c; exact ⟨0, c, by decide, rfl, rfl⟩
  split at h
  · cases h; rename_i c; exact ⟨1, c, by decide, rfl, rfl⟩
  split at h
  · cases h; rename_i c; exact ⟨2, c, by decide, rfl, rfl⟩
  split at h
  · cases h; rename_i c; exact ⟨3, c, by decide, rfl, rfl⟩
  split at h
  · cases h; rename_i c; exact ⟨4, c, by decide, rfl, rfl⟩
  split at h
  · cases h; rename_i c; exact ⟨5, c, by decide, rfl, rfl⟩
  split at h
  · cases h; rename_i c; exact ⟨6, c, by decide, rfl, rfl⟩
  split at h
  · cases h; rename_i c; exact ⟨7, c, by decide, rfl, rfl⟩
  split at h
  · cases h; rename_i c; exact ⟨8, c, by decide, rfl, rfl⟩
  split at h
  · cases h; rename_i c; exact ⟨9, c, by decide, rfl, rfl⟩
  cases h
theorem rows_step {k : Nat} {y : List Int} {xs : List (List Int)} {t : List Int} (h : PyFlat.rows (k + 1) y = some (xs, t)) : ∃ (n : Nat) (r : List Int) (xs' : List (List Int)), y = (n : Int) :: r ∧ n ≤ r.length ∧ xs = r.take n :: xs' ∧ PyFlat.rows k (r.drop n) = some (xs', t) := by
  unfold PyFlat.rows at h
  split at h
  · cases h
  · rename_i x s hx
    split at h
    · cases h
    · rename_i xs' t' hr
      cases h
      cases y with
      | nil => cases hx
      | cons z r =>
        have hx : (if 0 ≤ z ∧ z.toNat ≤ r.length then some (r.take z.toNat, r.drop z.toNat) else none) = some (x, s) := hx
        split at hx
        · rename_i c
          cases hx
          exact ⟨z.toNat, r, xs', by rw [Int.toNat_of_nonneg c.1], c.2, rfl, hr⟩
        · cases hx
theorem rows_none {y : List Int} {xs : List (List Int)} {t : List Int} (h : PyFlat.rows 0 y = some (xs, t)) : xs = [] ∧ t = y := by
  have h : some (([] : List (List Int)), y) = some (xs, t) := h
  cases h
  exact ⟨rfl, rfl⟩
structure CallIs (z : Int) (r : List Int) (c : List (List Int)) (t : List Int) (n : Nat) (rows : Int) (xs : List (List Int)) (k : Vamacf.Call) : Prop where
  num : z = (n : Int)
  le : n ≤ 9
  at4 : n = 4 → ∃ r', r = rows :: r' ∧ PyFlat.rows (manyL n) r' = some (xs, t)
  at0 : n ≠ 4 → rows = 0 ∧ PyFlat.rows (manyL n) r = some (xs, t)
  is : Is n rows xs k
  of : VamacfNeutral.callOf (PyVamacf.whole c) = some k
  small : ∀ x ∈ xs, x.length ≤ 1000
theorem in1 {lo hi : Int} {m : Nat} {l : List Int} (hm : m ≤ 1000) (h : PyInside.lists [(lo, hi, 0, m)] [l] = true) : ∀ x ∈ [l], x.length ≤ 1000 := fun x hx => by
  rw [List.mem_singleton.mp hx]
  have h : (decide (0 ≤ l.length) && decide (l.length ≤ m) && l.all (PyInside.within lo hi) && true) = true := h
  simp only [Bool.and_eq_true, decide_eq_true_eq] at h
  omega
theorem in2 {lo hi lo2 hi2 : Int} {m m2 : Nat} {l l2 : List Int} (hm : m ≤ 1000) (hm2 : m2 ≤ 1000) (h : PyInside.lists [(lo, hi, 0, m), (lo2, hi2, 0, m2)] [l, l2] = true) : ∀ x ∈ [l, l2], x.length ≤ 1000 := fun x hx => by
  have h : (decide (0 ≤ l.length) && decide (l.length ≤ m) && l.all (PyInside.within lo hi) && (decide (0 ≤ l2.length) && decide (l2.length ≤ m2) && l2.all (PyInside.within lo2 hi2) && true)) = true := h
  simp only [Bool.and_eq_true, decide_eq_true_eq] at h
  rcases List.mem_cons.mp hx with rfl | hx
  · omega
  · rw [List.mem_singleton.mp hx]
    omega
theorem rows1 {r t : List Int} {xs : List (List Int)} (h : PyFlat.rows 1 r = some (xs, t)) : ∃ l, xs = [l] := by
  obtain ⟨n, r', xs', _, _, e, h2⟩ := rows_step h
  obtain ⟨e2, _⟩ := rows_none h2
  exact ⟨_, by rw [e, e2]⟩
theorem rows2 {r t : List Int} {xs : List (List Int)} (h : PyFlat.rows 2 r = some (xs, t)) : ∃ l l2, xs = [l, l2] := by
  obtain ⟨n, r', xs', _, _, e, h2⟩ := rows_step h
  obtain ⟨l2, e2⟩ := rows1 h2
  exact ⟨_, l2, by rw [e, e2]⟩
theorem call_is {z : Int} {r : List Int} {c : List (List Int)} {t : List Int} (h : PyFlat.call PyVamacf.shape (z :: r) = some (c, t)) (hin : PyInside.call PyVamacf.bound c = true) : ∃ n rows xs k, CallIs z r c t n rows xs k := by
  have h : (match PyVamacf.shape z with
    | none => none
    | some (n, k) => if r.length < n then none else match PyFlat.rows k (r.drop n) with
      | none => none
      | some (xs, t) => some ((z :: r.take n) :: xs, t)) = some (c, t) := h
  split at h
  · cases h
  · rename_i a k hs
    obtain ⟨n, rfl, hn, ha, rfl⟩ := shape_nat hs
    clear hs
    split at h
    · cases h
    · rename_i hl
      split at h
      · cases h
      · rename_i xs t' hr
        cases h
        have hn : n = 0 ∨ n = 1 ∨ n = 2 ∨ n = 3 ∨ n = 4 ∨ n = 5 ∨ n = 6 ∨ n = 7 ∨ n = 8 ∨ n = 9 := by omega
        rcases hn with rfl | rfl | rfl | rfl | rfl | rfl | rfl | rfl | rfl | rfl <;> subst ha
        · obtain ⟨l, rfl⟩ := rows1 hr
          exact ⟨0, 0, [l], .program l, rfl, by decide, fun h => absurd h (by decide), fun _ => ⟨rfl, hr⟩, .program 0 l, rfl, in1 (by decide) (show PyInside.lists [(-1000000000000000000, 1000000000000000000, 0, 120)] [l] = true from hin)⟩
        · obtain ⟨rfl, _⟩ := rows_none hr
          exact ⟨1, 0, [], .told, rfl, by decide, fun h => absurd h (by decide), fun _ => ⟨rfl, hr⟩, .told 0, rfl, fun x hx => by cases hx⟩
        · obtain ⟨rfl, _⟩ := rows_none hr
          exact ⟨2, 0, [], .touches, rfl, by decide, fun h => absurd h (by decide), fun _ => ⟨rfl, hr⟩, .touches 0, rfl, fun x hx => by cases hx⟩
        · obtain ⟨rfl, _⟩ := rows_none hr
          exact ⟨3, 0, [], .ends, rfl, by decide, fun h => absurd h (by decide), fun _ => ⟨rfl, hr⟩, .ends 0, rfl, fun x hx => by cases hx⟩
        · obtain ⟨l, rfl⟩ := rows1 hr
          cases r with
          | nil => exact absurd (show (0 : Nat) < 1 by decide) hl
          | cons q r' => exact ⟨4, q, [l], .allowed q l, rfl, by decide, fun _ => ⟨r', rfl, hr⟩, fun h => absurd rfl h, .allowed q l, rfl, in1 (by decide) (Bool.and_eq_true_iff.mp hin).2⟩
        · obtain ⟨l, rfl⟩ := rows1 hr
          exact ⟨5, 0, [l], .run l, rfl, by decide, fun h => absurd h (by decide), fun _ => ⟨rfl, hr⟩, .run 0 l, rfl, in1 (by decide) (show PyInside.lists [(-1000000000000000000, 1000000000000000000, 0, 40)] [l] = true from hin)⟩
        · obtain ⟨l, rfl⟩ := rows1 hr
          exact ⟨6, 0, [l], .changed l, rfl, by decide, fun h => absurd h (by decide), fun _ => ⟨rfl, hr⟩, .changed 0 l, rfl, in1 (by decide) (show PyInside.lists [(-1000000000000000000, 1000000000000000000, 0, 40)] [l] = true from hin)⟩
        · obtain ⟨l, rfl⟩ := rows1 hr
          exact ⟨7, 0, [l], .join l, rfl, by decide, fun h => absurd h (by decide), fun _ => ⟨rfl, hr⟩, .join 0 l, rfl, in1 (by decide) (show PyInside.lists [(-1000000000000000000, 1000000000000000000, 0, 120)] [l] = true from hin)⟩
        · obtain ⟨l, rfl⟩ := rows1 hr
          exact ⟨8, 0, [l], .clean l, rfl, by decide, fun h => absurd h (by decide), fun _ => ⟨rfl, hr⟩, .clean 0 l, rfl, in1 (by decide) (show PyInside.lists [(-1000000000000000000, 1000000000000000000, 0, 80)] [l] = true from hin)⟩
        · obtain ⟨l, l2, rfl⟩ := rows2 hr
          exact ⟨9, 0, [l, l2], .same l l2, rfl, by decide, fun h => absurd h (by decide), fun _ => ⟨rfl, hr⟩, .same 0 l l2, rfl, in2 (by decide) (by decide) (show PyInside.lists [(-1000000000000000000, 1000000000000000000, 0, 80), (-1000000000000000000, 1000000000000000000, 0, 40)] [l, l2] = true from hin)⟩
/-- what is ahead of the loop, from a place on -/
def Ahead (x : List Int) (p : Prog) (acc total : List Int) : Prop := ∃ f cs, PyFlat.calls PyVamacf.shape f x = some cs ∧ cs.all (PyInside.call PyVamacf.bound) = true ∧ acc ++ PyFlat.told (PyFlat.played VamacfNeutral.step ⟨p⟩ (cs.map PyVamacf.whole)) = total
theorem ahead_start {l : List Int} (h : PyVamacf.answers_asked l = true) : Ahead l .done [] (PyVamacf.answers l) ∧ (PyVamacf.answers l).length ≤ 10000000 := by
  unfold PyVamacf.answers_asked at h
  split at h
  · cases h
  · rename_i raw hr
    simp only [Bool.and_eq_true] at h
    refine ⟨⟨l.length, raw, hr, h.1.1.2, ?_⟩, of_decide_eq_true h.2⟩
    unfold PyVamacf.answers PyVamacf.calls
    rw [hr]
    rfl
theorem ahead_end {p : Prog} {acc total : List Int} (h : Ahead [] p acc total) : acc = total := by
  obtain ⟨f, cs, h1, _, h3⟩ := h
  have e : PyFlat.calls PyVamacf.shape f [] = some [] := by cases f <;> rfl
  rw [e] at h1
  cases h1
  rw [← h3]
  exact (List.append_nil _).symm
theorem ahead_step {z : Int} {r : List Int} {p : Prog} {acc total : List Int} (h : Ahead (z :: r) p acc total) : ∃ c t n rows xs k, CallIs z r c t n rows xs k ∧ ∀ p' ans, Vamacf.step ⟨p⟩ k = (⟨p'⟩, ans) → Ahead t p' (acc ++ ((ans.length : Int) :: ans)) total := by
  obtain ⟨f, cs, h1, h2, h3⟩ := h
  cases f with
  | zero => cases h1
  | succ f =>
    have h1 : (match PyFlat.call PyVamacf.shape (z :: r) with
      | none => none
      | some (c, t) => match PyFlat.calls PyVamacf.shape f t with
        | none => none
        | some cs => some (c :: cs)) = some cs := h1
    split at h1
    · cases h1
    · rename_i c t hc
      split at h1
      · cases h1
      · rename_i cs' hcs
        cases h1
        rw [List.all_cons, Bool.and_eq_true] at h2
        obtain ⟨n, rows, xs, k, C⟩ := call_is hc h2.1
        refine ⟨c, t, n, rows, xs, k, C, fun p' ans hs => ⟨f, cs', hcs, h2.2, ?_⟩⟩
        rw [← h3]
        have e : VamacfNeutral.step ⟨p⟩ (PyVamacf.whole c) = (⟨p'⟩, ans) := by
          unfold VamacfNeutral.step
          rw [C.of]
          exact hs
        show _ = acc ++ PyFlat.told ((VamacfNeutral.step ⟨p⟩ (PyVamacf.whole c)).2 :: PyFlat.played VamacfNeutral.step (VamacfNeutral.step ⟨p⟩ (PyVamacf.whole c)).1 (cs'.map PyVamacf.whole))
        rw [e]
        show _ = acc ++ (((ans.length : Int) :: ans) ++ PyFlat.told _)
        rw [List.append_assoc]
/-- how long is what is told so far, no more than the whole -/
theorem ahead_len {x : List Int} {p : Prog} {acc total : List Int} (h : Ahead x p acc total) : acc.length ≤ total.length := by
  obtain ⟨f, cs, _, _, h3⟩ := h
  rw [← h3, List.length_append]
  omega
end Pe
set_option Elab.async false
set_option linter.all false
set_option maxRecDepth 100000
set_option maxHeartbeats 2000000
/-! The answers. -/
namespace Pe
open PySem PySem.Spec PyProof.Rows L2 VamacBase Vamacf Evl
theorem big_lt {n : Nat} (h : n ≤ 10000000) : n < sizeLine := by
  rw [sizeLine_eq]
  omega
theorem cut_mid {xs : List V} {i j : Nat} (h : j ≤ xs.length) (hi : i ≤ j) : cutV xs (some (i : Int)) (some (j : Int)) = (xs.drop i).take (j - i) := by
  unfold cutV
  rw [HT.sIx_nat, HT.sIx_nat, Nat.min_eq_left h, Nat.min_eq_left (by omega)]
section
variable {K : PySem.W.Frag} {σ : L2.St} {H : Hp} {D : Ends} {ta te : TE} {tz : TS} {v : V}
theorem q_appZ {l : Addr} {xs : List V} (hl : H l = some (.lst xs)) (ha : Ev ta σ H (.ref l)) (h : Ev te σ H v) (hz : xs.length < sizeLine) (k : ∀ H1, Ex H H1 → tz D σ (upd H1 l (.lst (xs ++ [v])))) :
    tSeq (tDrop (tBM K "list" rAppend ta (tCons te tNil))) tz D σ H := ha H (Ex.refl H) _ fun H1 e1 =>
  ⟨Or.inl ⟨rfl, xs, sq_of (e1 l _ hl)⟩, h H1 e1 _ fun H2 e2 => ⟨l, xs, v, rfl, rfl, e2 l _ (e1 l _ hl), hz, k H2 (e1.trans e2)⟩⟩
theorem s_extZ {l b : Addr} {xs ys : List V} (hl : H l = some (.lst xs)) (ha : Ev ta σ H (.ref l)) (h : Ev te σ H (.ref b)) (hy : H b = some (.lst ys)) (hz : xs.length + ys.length ≤ sizeLine) (k : ∀ H1, Ex H H1 → D.nx σ (upd H1 l (.lst (xs ++ ys)))) :
    tDrop (tBM K "list" rExtend ta (tCons te tNil)) D σ H := ha H (Ex.refl H) _ fun H1 e1 =>
  ⟨Or.inl ⟨rfl, xs, sq_of (e1 l _ hl)⟩, h H1 e1 _ fun H2 e2 => ⟨l, b, xs, ys, rfl, rfl, e2 l _ (e1 l _ hl), e2 _ _ (e1 _ _ hy), hz, k H2 (e1.trans e2)⟩⟩
theorem q_mk0 {C : Addr} {sp : Sp} {E : XK} {i : Nat} (h : ∀ x dx, H x = none → H dx = none → dx ≠ x → sp [.ref x] (upd (upd H dx (.own x)) x (.ins C dx [])) (fun v H2 => v = .non ∧ tz D (σ.set i (some (.ref x))) H2) E) : tSeq (tAsg (tMake C sp [] E tNil) (gName i)) tz D σ H := h
theorem seq_add {a : Addr} {xs : List V} (h : SqL K H a xs) : SqL K (Add (fun _ => none) a H) a xs := by
  rcases h with (h | ⟨o, h⟩) | h
  · exact .inl (.inl (Add.at h))
  · exact .inl (.inr ⟨o, Add.at h⟩)
  · exact .inr h
theorem add_ex {a : Addr} : Ex (Add (fun _ => none) a H) H := fun b o e => by
  unfold Add at e
  split at e
  · rename_i z
    rw [z, e]
  · cases e
theorem add_no {a b : Addr} (h : H b = none) : Add (fun _ => none) a H b = none := by
  unfold Add
  split
  · rename_i z
    rw [← z, h]
  · rfl
theorem ex_keepD {A H1 H2 : Hp} {d : Addr} (e : Ex A H1) (hd : A d = none) (k : Keep [d] H1 H2) : Ex A H2 := fun b o h => k b o (e _ _ h) fun z => by
  rw [List.mem_singleton.mp z, hd] at h
  cases h
end
section
variable {P : Program} {w : World} {K : PySem.W.Frag} {mg : Str → Option Value} {base : Heap} (T : Txt K mg)
def spDeskInit : Sp := fun vs H Q E => ∃ x dx, vs = [.ref x] ∧ H x = some (.ins T.c_Desk dx []) ∧ ∀ H' pa, H pa = none → H' x = some (.ins T.c_Desk dx (f_Desk (.ref pa))) → H' pa = some (.lst []) → (∀ b o, H b = some o → b ≠ x → H' b = some o) → Q .non H'
theorem ok_Desk_init : FnOk P w K mg base CX0 1 T.f_Desk_init T.d_Desk_init P_Desk_init (spDeskInit T) := by
  refine T.F_Desk_init.ok sc_Desk_init (fun vs H Q E h => ?_) (fun cdv A outer s H vs Q E hr h => ⟨_, ((pss_one (ps_fld (pv 0) (pe_lst pa_nil) rfl))), ?_⟩)
  · obtain ⟨x, dx, rfl, _⟩ := h
    rfl
  · obtain ⟨x, dx, rfl, hx, k⟩ := h
    have el : EvL (tLst tNil) [some (.ref x)] H [] := el_lst ea_nil (by simp)
    unfold sFld
    refine el H (Ex.refl _) _ fun p H1 hp e1 h1 => ?_
    refine (show Ev (tVar 0) [some (.ref x)] H1 (.ref x) from ev_var rfl) H1 (Ex.refl _) _ fun H2 e2 => ?_
    refine ⟨x, T.c_Desk, dx, [], rfl, (e1.trans e2) _ _ hx, T.cl_Desk, T.n_Desk_program, by show 0 < 1000; decide, ?_⟩
    rw [new_Desk]
    have px : p ≠ x := fun z => by rw [z, hx] at hp; cases hp
    refine k _ p hp upd_same ((upd_ne px).trans (e2 _ _ h1)) fun b o e hb => ?_
    rw [upd_ne hb]
    exact (e1.trans e2) _ _ e
def spAns (K : PySem.W.Frag) : Sp := fun vs H Q E => ∃ (a : Addr) (l : List Int), vs = [.ref a] ∧ SqL K H a (l.map V.int) ∧ PyVamacf.answers_asked l = true ∧ ∀ H' f, H' f = some (.lst ((PyVamacf.answers l).map V.int)) → Q (.ref f) H'
theorem ok_answers (G_Desk_init : FnOk P w K mg base CX0 1 T.f_Desk_init T.d_Desk_init P_Desk_init (spDeskInit T)) (G_answered : FnOk P w K mg base CX0 24 T.f_answered T.d_answered P_answered (spAnswered T)) : FnOk P w K mg base CX0 25 T.f_answers T.d_answers P_answers (spAns K) := by
  refine T.F_answers.ok sc_answers (fun vs H Q E h => ?_) (fun cdv A outer s H vs Q E hr h => ⟨_, ((pss_cons (ps_set (i := 1) sc_answers.nd rfl (Or.inl rfl) (pe_make0 T.mk_Desk G_Desk_init (hr.mono (by omega)) (by rfl) T.g_Desk (b_Desk_init T) .nil pass0)) (pss_cons (ps_set (i := 2) sc_answers.nd rfl (Or.inl rfl) (pe_lst pa_nil)) (pss_cons (ps_set (i := 3) sc_answers.nd rfl (Or.inl rfl) pe_int) (pss_cons (ps_while PassesOwn.never (pt_cmpR op_lt (pv 3) (pe_callB call_len_seq (by rfl) T.b_len PySem.boot_len (pa_cons (pv 0) pa_nil)) (nomark _)) (pss_cons (ps_set (i := 4) sc_answers.nd rfl (Or.inl rfl) (pe_ix ix_list (pv 0) (pv 3) (fun _ _ => rfl))) (pss_cons (ps_set (i := 5) sc_answers.nd rfl (Or.inl rfl) (pe_op op_add (pv 3) pe_int)) (pss_cons (ps_set (i := 6) sc_answers.nd rfl (Or.inl rfl) pe_int) (pss_cut (ps_if (pt_cmpR op_eq (pv 4) (pe_glob (v := .int (4)) rfl T.k_ROWS_CALL ⟨_, rfl⟩) (nomark _)) (pss_cons (ps_set (i := 6) sc_answers.nd rfl (Or.inl rfl) (pe_ix ix_list (pv 0) (pv 5) (fun _ _ => rfl))) (pss_one (ps_aug (i := 5) sc_answers.nd rfl (Or.inl rfl) pe_int ip_add))) pss_nil) (pss_cons (ps_set (i := 7) sc_answers.nd rfl (Or.inl rfl) (pe_lst pa_nil)) (pss_cons (ps_for PassesOwn.never rfl (pi_range1 (by rfl) T.b_range (pa_cons (pe_ix ix_tup (pe_glob (v := .ref T.a_MANY_LISTS) rfl T.k_MANY_LISTS rfl) (pv 4) (fun _ _ => rfl)) pa_nil)) (pg_name (i := 8) sc_answers.nd rfl (Or.inl rfl)) (pss_cons (ps_expr (pe_bm PySem.F.plainAttrs_list PySem.F.slot_list_append PySem.F.type_list_append mt_append (pv 7) (pa_cons (pe_slice sl_list (pv 0) (po_some (pe_op op_add (pv 5) pe_int)) (po_some (pe_op op_add (pe_op op_add (pv 5) pe_int) (pe_ix ix_list (pv 0) (pv 5) (fun _ _ => rfl))))) pa_nil))) (pss_one (ps_aug (i := 5) sc_answers.nd rfl (Or.inl rfl) (pe_op op_add pe_int (pe_ix ix_list (pv 0) (pv 5) (fun _ _ => rfl))) ip_add)))) (pss_cons (ps_set (i := 3) sc_answers.nd rfl (Or.inl rfl) (pv 5)) (pss_cons (ps_set (i := 9) sc_answers.nd rfl (Or.inl rfl) (pe_call G_answered (hr.mono (by omega)) (by rfl) T.g_answered T.F_answered.kp (b_answered T) .nil pass0 (pa_cons (pv 1) (pa_cons (pv 4) (pa_cons (pv 6) (pa_cons (pv 7) pa_nil)))))) (pss_cons (ps_expr (pe_bm PySem.F.plainAttrs_list PySem.F.slot_list_append PySem.F.type_list_append mt_append (pv 2) (pa_cons (pe_callB call_len_seq (by rfl) T.b_len PySem.boot_len (pa_cons (pv 9) pa_nil)) pa_nil))) (pss_one (ps_expr (pe_bm PySem.F.plainAttrs_list PySem.F.slot_list_extend PySem.F.type_list_extend mt_extend (pv 2) (pa_cons (pv 9) pa_nil)))))))))))))) (pss_one (ps_ret (pv 2)))))))), ?_⟩)
  · obtain ⟨a, l, rfl, _⟩ := h
    rfl
  · obtain ⟨a, l, rfl, hs, hq, kQ⟩ := h
    obtain ⟨hA0, tot⟩ := ahead_start hq
    generalize hT : PyVamacf.answers l = total at hA0 tot kQ
    have sA := seq_add hs
    have eA : Ex (Add (fun _ => none) a H) H := add_ex
    have nA : ∀ {b : Addr}, H b = none → Add (fun _ => none) a H b = none := fun h => add_no h
    generalize Add (fun _ => none) a H = A0 at sA eA nA
    refine q_mk0 fun D dx nx nd ne => ⟨D, dx, rfl, upd_same, fun H1 pa hpa h1 h2 hk => ⟨rfl, ?_⟩⟩
    have e01 : Ex H H1 := fun b o e => by
      have b1 : b ≠ D := ne_of_none e nx
      have b2 : b ≠ dx := ne_of_none e nd
      refine hk b o ?_ b1
      rw [upd_ne b1, upd_ne b2]
      exact e
    have AD : A0 D = none := nA nx
    have paD : pa ≠ D := fun z => by rw [z, upd_same] at hpa; cases hpa
    have hpa0 : H pa = none := by
      cases e : H pa with
      | none => rfl
      | some o =>
        rw [upd_ne paD, upd_ne (ne_of_none e nd), e] at hpa
        cases hpa
    refine q_asgL (el_lst ea_nil (by simp)) fun f H2 hf e2 h3 => ?_
    refine q_asg ev_c fun H3 e3 => ?_
    have e13 := e2.trans e3
    have Af : A0 f = none := nA (none_ex e01 hf)
    have fD : f ≠ D := fun z => by rw [z, h1] at hf; cases hf
    have D0 : DeskAt T (Add (fun _ => none) pa H1) H3 D .done := ⟨dx, pa, e13 _ _ h1, add_ex.trans e13, ⟨[], Add.at h2, rfl⟩, by
      unfold Add
      rw [if_neg (fun z => paD z.symm)], rfl⟩
    have hBf : Add (fun _ => none) pa H1 f = none := add_no hf
    refine q_while (fun m σ' H' => ∃ (at_ : Nat) (p : Prog) (acc : List Int) (B : Hp) (v4 v5 v6 v7 v8 v9 : Option V), σ' = [some (.ref a), some (.ref D), some (.ref f), some (.int (at_ : Int)), v4, v5, v6, v7, v8, v9] ∧ Ex A0 H' ∧ DeskAt T B H' D p ∧ H' f = some (.lst (acc.map V.int)) ∧ B f = none ∧ Ahead (l.drop at_) p acc total ∧ m = l.length - at_)
      l.length ⟨0, .done, [], _, none, none, none, none, none, none, rfl, eA.trans (e01.trans e13), D0, e3 _ _ h3, hBf, by rw [List.drop_zero]; exact hA0, by omega⟩ ?_
    rintro m σ' H4 ⟨at_, p, acc, B, v4, v5, v6, v7, v8, v9, rfl, e4, hDk, h4, bf, hAh, rfl⟩
    have sq : ∀ {H' : Hp}, Ex A0 H' → SqL K H' a (l.map V.int) := fun e => ex_l e sA
    refine ⟨decide ((at_ : Int) < ((l.map V.int).length : Nat)), et_test (ev_op (ev_var rfl) (ev_len (ev_var rfl) (sq e4)) rv_I0), fun hb H5 e5 => ?_, fun hb H5 e5 => ?_⟩
    · have hlt := of_decide_eq_true hb
      rw [List.length_map] at hlt
      have hlt : at_ < l.length := by omega
      obtain ⟨z, hz⟩ : ∃ z, l[at_]? = some z := ⟨_, List.getElem?_eq_getElem hlt⟩
      have hd : l.drop at_ = z :: l.drop (at_ + 1) := by
        rw [List.drop_eq_getElem_cons hlt]
        rw [List.getElem?_eq_getElem hlt] at hz
        rw [Option.some.inj hz]
      rw [hd] at hAh
      obtain ⟨c, t, n, rows, xs, k, C, hk⟩ := ahead_step hAh
      have hn := C.num
      subst hn
      have c9 := C.le
      have at_get : ∀ {i : Nat} {y : Int}, l[i]? = some y → (l.map V.int)[i]? = some (.int y) := fun h => by rw [List.getElem?_map, h]; rfl
      refine ⟨fun σ2 H' => ∃ (at2 : Nat) (p : Prog) (acc : List Int) (B : Hp) (v4 v5 v6 v7 v8 v9 : Option V), σ2 = [some (.ref a), some (.ref D), some (.ref f), some (.int (at2 : Int)), v4, v5, v6, v7, v8, v9] ∧ Ex A0 H' ∧ DeskAt T B H' D p ∧ H' f = some (.lst (acc.map V.int)) ∧ B f = none ∧ Ahead (l.drop at2) p acc total ∧ l.length - at2 < l.length - at_,
        fun σ2 H' ⟨at2, p, acc, B, w4, w5, w6, w7, w8, w9, q1, q2, q3, q4, q5, q6, q7⟩ => ⟨_, q7, at2, p, acc, B, w4, w5, w6, w7, w8, w9, q1, q2, q3, q4, q5, q6, rfl⟩, ?_⟩
      refine q_asg (ev_op (ev_var rfl) (ev_var rfl) (rv_ixL (sq (e4.trans e5)) (atI_nat (at_get hz)))) fun H6 e6 => ?_
      refine q_asg (v := .int ((at_ + 1 : Nat) : Int)) (ev_op (ev_var rfl) ev_c rv_I0) fun H7 e7 => ?_
      refine q_asg ev_c fun H8 e8 => ?_
      have e48 := (e5.trans e6).trans (e7.trans e8)
      refine q_cut (M := fun σ2 H' => ∃ b : Nat, σ2 = [some (.ref a), some (.ref D), some (.ref f), some (.int (at_ : Int)), some (.int (n : Int)), some (.int (b : Int)), some (.int rows), v7, v8, v9] ∧ Ex H4 H' ∧ PyFlat.rows (manyL n) (l.drop b) = some (xs, t) ∧ at_ < b) ?_ ?_
      · refine s_when (b := decide (n = 4)) (et_test (ev_is (ev_op (ev_var rfl) ev_c (rv_eq rfl)) (congrArg V.bl (int_nat n 4)))) (fun h4' H9 e9 => ?_) (fun h4' H9 e9 => ?_)
        · obtain ⟨r', hr1, hr2⟩ := C.at4 (of_decide_eq_true h4')
          have hlt2 : at_ + 1 < l.length := by
            have q := congrArg List.length hr1
            rw [List.length_drop, List.length_cons] at q
            omega
          have hr0 : l[at_ + 1]? = some rows := by
            have q := congrArg (fun z => z[0]?) hr1
            simpa using q
          have hr3 : l.drop (at_ + 2) = r' := by
            have q := congrArg List.tail hr1
            rw [List.tail_drop] at q
            exact q
          refine q_asg (ev_op (ev_var rfl) (ev_var rfl) (rv_ixL (sq (e4.trans (e48.trans e9))) (atI_nat (at_get hr0)))) fun H10 e10 => ?_
          refine s_aug (f := fun i j => i + j) (a := ((at_ + 1 : Nat) : Int)) (b := 1) rfl ev_c fun H11 e11 => ?_
          exact ⟨at_ + 2, rfl, e48.trans ((e9.trans e10).trans e11), by rw [hr3]; exact hr2, by omega⟩
        · obtain ⟨hr1, hr2⟩ := C.at0 (of_decide_eq_false h4')
          subst hr1
          exact ⟨at_ + 1, rfl, e48.trans e9, hr2, by omega⟩
      · rintro σ2 H9 ⟨b0, rfl, e9, hr0, hb0⟩
        refine q_asgL (el_lst ea_nil (by simp)) fun ls H10 hls e10 h10 => ?_
        have hls4 : H4 ls = none := none_ex e9 hls
        have e410 := e9.trans e10
        have mn : manyL n ≤ 2 := by
          have : n = 0 ∨ n = 1 ∨ n = 2 ∨ n = 3 ∨ n = 4 ∨ n = 5 ∨ n = 6 ∨ n = 7 ∨ n = 8 ∨ n = 9 := by omega
          rcases this with rfl | rfl | rfl | rfl | rfl | rfl | rfl | rfl | rfl | rfl <;> decide
        have mv : atI [.int 1, .int 0, .int 0, .int 0, .int 1, .int 1, .int 1, .int 1, .int 1, .int 2] (n : Int) = some (V.int (manyL n : Nat)) := by
          have : n = 0 ∨ n = 1 ∨ n = 2 ∨ n = 3 ∨ n = 4 ∨ n = 5 ∨ n = 6 ∨ n = 7 ∨ n = 8 ∨ n = 9 := by omega
          rcases this with rfl | rfl | rfl | rfl | rfl | rfl | rfl | rfl | rfl | rfl <;> rfl
        refine q_forR1 (n := ((manyL n : Nat) : Int)) (ea_cons (ev_op ev_c (ev_var rfl) (rv_ixT (T.t_MANY_LISTS _) mv)) ea_nil) ⟨by omega, by omega⟩
          (fun i σ' H' => ∃ (b : Nat) (w8 : Option V) (as : List Addr) (xs1 xs2 : List (List Int)), σ' = [some (.ref a), some (.ref D), some (.ref f), some (.int (at_ : Int)), some (.int (n : Int)), some (.int (b : Int)), some (.int rows), some (.ref ls), w8, v9] ∧ Ex H4 H' ∧ H' ls = some (.lst (as.map V.ref)) ∧ LsAt (Del ls H') as xs1 ∧ xs1.length = i ∧ xs1 ++ xs2 = xs ∧ PyFlat.rows (manyL n - i) (l.drop b) = some (xs2, t) ∧ at_ < b)
          (fun H11 e11 => ⟨b0, v8, [], [], xs, rfl, e410.trans e11, e11 _ _ h10, .nil, rfl, rfl, hr0, hb0⟩) ?_ ?_
        · rintro i σ' H11 hi ⟨b, w8, as, xs1, xs2, rfl, e11, h11, hL, hl1, hxs, hr, hb⟩
          have hsub : manyL n - i = (manyL n - (i + 1)) + 1 := by omega
          rw [hsub] at hr
          obtain ⟨q, r', xs', hy, hqr, rfl, hr'⟩ := rows_step hr
          have hbl : b < l.length := by
            have z := congrArg List.length hy
            rw [List.length_drop, List.length_cons] at z
            omega
          have hq : l[b]? = some (q : Int) := by
            have z := congrArg (fun z => z[0]?) hy
            simpa using z
          have hrd : l.drop (b + 1) = r' := by
            have z := congrArg List.tail hy
            rw [List.tail_drop] at z
            exact z
          have hr2 : b + 1 + q ≤ l.length := by
            rw [← hrd, List.length_drop] at hqr
            omega
          have la := Paired.length hL
          have sqn := sq (e4.trans e11)
          have ec : Ev (tOp (rIxL K) (tVar 0) (tVar 5)) [some (.ref a), some (.ref D), some (.ref f), some (.int (at_ : Int)), some (.int (n : Int)), some (.int (b : Int)), some (.int rows), some (.ref ls), some (.int (i : Int)), v9] H11 (.int (q : Int)) := ev_op (ev_var rfl) (ev_var rfl) (rv_ixL sqn (atI_nat (at_get hq)))
          have e1' : Ev (tOp (rI0 fun i j => V.int (i + j)) (tVar 5) (tC (.int 1))) [some (.ref a), some (.ref D), some (.ref f), some (.int (at_ : Int)), some (.int (n : Int)), some (.int (b : Int)), some (.int rows), some (.ref ls), some (.int (i : Int)), v9] H11 (.int ((b + 1 : Nat) : Int)) := ev_op (ev_var rfl) ev_c rv_I0
          have e2' : Ev (tOp (rI0 fun i j => V.int (i + j)) (tOp (rI0 fun i j => V.int (i + j)) (tVar 5) (tC (.int 1))) (tOp (rIxL K) (tVar 0) (tVar 5))) [some (.ref a), some (.ref D), some (.ref f), some (.int (at_ : Int)), some (.int (n : Int)), some (.int (b : Int)), some (.int rows), some (.ref ls), some (.int (i : Int)), v9] H11 (.int ((b + 1 + q : Nat) : Int)) := ev_op e1' ec rv_I0
          have ecut : cutV (l.map V.int) (some ((b + 1 : Nat) : Int)) (some ((b + 1 + q : Nat) : Int)) = (r'.take q).map V.int := by
            rw [cut_mid (by rw [List.length_map]; exact hr2) (by omega), ← List.map_drop, hrd, ← List.map_take]
            congr 2
            omega
          have xl : (r'.take q).length ≤ 1000 := C.small _ (by rw [← hxs]; exact List.mem_append_right _ (List.mem_cons_self ..))
          refine q_appL (ys := (r'.take q).map V.int) h11 (ev_var rfl) (by rw [← ecut]; exact el_sl (ev_var rfl) (eo_some e1') (eo_some e2') sqn) (by rw [List.length_map]; omega) fun u H12 hu e12 h12 => ?_
          have uls : u ≠ ls := fun z => by rw [z, h11] at hu; cases hu
          have e412 : Ex H4 (L2.upd H12 ls (.lst (as.map V.ref ++ [.ref u]))) := Ex.mut (e11.trans e12) hls4
          refine s_aug (f := fun i j => i + j) (a := (b : Int)) (b := 1 + (q : Int)) rfl (ev_op ev_c (ev_op (ev_var rfl) (ev_var rfl) (rv_ixL (sq (e4.trans e412)) (atI_nat (at_get hq)))) rv_I0) fun H13 e13' => ?_
          refine ⟨b + (1 + q), _, as ++ [u], xs1 ++ [r'.take q], xs', by rw [Int.natCast_add, Int.natCast_add]; rfl, e412.trans e13', ?_, ?_, by rw [List.length_append, hl1]; rfl, by rw [← hxs, List.append_assoc]; rfl, ?_, by omega⟩
          · rw [e13' _ _ upd_same, List.map_append]
            rfl
          · have eD : Ex (Del ls H11) (Del ls H13) := (Del.mono e12).trans (Del.updD.trans (Del.mono e13'))
            exact paired_app (hL.mono eD) (.cons ⟨(Del.updD.trans (Del.mono e13')) _ _ (Del.at uls h12), xl⟩ .nil)
          · rw [show b + (1 + q) = b + 1 + q by omega, ← List.drop_drop, hrd]
            exact hr'
        · rintro σ' H11 ⟨b, w8, as, xs1, xs2, rfl, e11, h11, hL, hl1, hxs, hr, hb⟩
          have en : ((manyL n : Nat) : Int).toNat = manyL n := Int.toNat_natCast _
          rw [en, Nat.sub_self] at hr
          obtain ⟨rfl, ht⟩ := rows_none hr
          rw [List.append_nil] at hxs
          subst hxs
          subst ht
          refine q_asg (ev_var rfl) fun H12 e12 => ?_
          have e412 := e11.trans e12
          refine q_asgE ?_
          refine ra_call (ea_cons (ev_var rfl) (ea_cons (ev_var rfl) (ea_cons (ev_var rfl) (ea_cons (ev_var rfl) ea_nil)))) fun H13 e13' => ?_
          have e413 := e412.trans e13'
          refine ⟨B, D, ls, p, k, n, rows, as, xs1, rfl, hDk.mono e413, (e12.trans e13') _ _ h11, (hL.mono Del.le).mono (e12.trans e13'), C.is, fun B' H14 r p' ans hst k14 hD14 hB14 hr14 h14 => ?_⟩
          have hAh' := hk p' ans hst
          have len := ahead_len hAh'
          rw [List.length_append, List.length_cons] at len
          have hf13 := e413 _ _ h4
          have hf14 : H14 f = some (.lst (acc.map V.int)) := k14 _ _ hf13 fun z => fD (List.mem_singleton.mp z)
          have rf : r ≠ f := fun z => by rw [z, hf13] at hr14; cases hr14
          have bf' : B' f = none := by
            cases e : B' f with
            | none => rfl
            | some o =>
              rcases hB14 f o e with h | h
              · rw [bf] at h; cases h
              · rw [hf13] at h; cases h
          have eA14 : Ex A0 H14 := ex_keepD (e4.trans e413) AD k14
          refine q_appZ hf14 (ev_var rfl) (ev_len (ev_var rfl) (sq_of h14)) (big_lt (by rw [List.length_map]; omega)) fun H15 e15 => ?_
          have hr15 : L2.upd H15 f (.lst (acc.map V.int ++ [.int ((ans.map V.int).length : Nat)])) r = some (.lst (ans.map V.int)) := (upd_ne rf).trans (e15 _ _ h14)
          refine s_extZ upd_same (ev_var rfl) (ev_var rfl) hr15 (Nat.le_of_lt (big_lt (by rw [List.length_append, List.length_map, List.length_map]; show acc.length + 1 + ans.length ≤ _; omega))) fun H16 e16 => ?_
          have dsk : ∀ {H' : Hp} {o : HO}, DeskAt T B' H' D p' → DeskAt T B' (L2.upd H' f o) D p' := fun {H' o} ⟨dx', pa', q1, q2, q3, q4, q5⟩ => ⟨dx', pa', (upd_ne (Ne.symm fD)).trans q1, Ex.mut q2 bf', q3, q4, q5⟩
          refine ⟨b, p', _, B', _, _, _, _, _, _, rfl, Ex.mut ((Ex.mut (eA14.trans e15) Af).trans e16) Af, dsk ((dsk (hD14.mono e15)).mono e16), ?_, bf', hAh', by omega⟩
          rw [upd_same, List.length_map]
          simp only [List.map_append, List.map_cons, List.append_assoc]
          rfl
    · have hge := of_decide_eq_false hb
      rw [List.length_map] at hge
      have hd : l.drop at_ = [] := List.drop_eq_nil_iff.mpr (by omega)
      rw [hd] at hAh
      have ea := ahead_end hAh
      subst ea
      exact s_ret (ev_var rfl) fun H6 e6 => kQ H6 f ((e5.trans e6) _ _ h4)
end
end Pe
set_option Elab.async false
set_option linter.all false
set_option maxRecDepth 100000
set_option maxHeartbeats 2000000
/-! All together. -/
namespace Pe
open PySem PySem.Spec PyProof.Rows L2
theorem all_ok {P : Program} {w : World} {K : PySem.W.Frag} {mg : Str → Option Value} {base : Heap} (T : Txt K mg) : FnOk P w K mg base CX0 25 T.f_answers T.d_answers P_answers (spAns K) := by
  have iDeed : FnOk P w K mg base CX0 1 T.f_Deed_init T.d_Deed_init P_Deed_init (sp_Deed_init T) := ok_Deed_init T
  have iPiece : FnOk P w K mg base CX0 1 T.f_Piece_init T.d_Piece_init P_Piece_init (sp_Piece_init T) := ok_Piece_init T
  have iReader : FnOk P w K mg base CX0 1 T.f_Reader_init T.d_Reader_init P_Reader_init (sp_Reader_init T) := ok_Reader_init T
  have iClip : FnOk P w K mg base CX0 1 T.f_Clipboard_init T.d_Clipboard_init P_Clipboard_init (sp_Clipboard_init T) := ok_Clipboard_init T
  have iTable : FnOk P w K mg base CX0 1 T.f_Table_init T.d_Table_init P_Table_init (sp_Table_init T) := ok_Table_init T
  have iRun : FnOk P w K mg base CX0 1 T.f_Run_init T.d_Run_init P_Run_init (sp_Run_init T) := ok_Run_init T
  have need : FnOk P w K mg base (L2.CX P w) 1 T.f_need_range T.d_need_range P_need_range (spNeed T) := ok_need T
  have dnums' : FnOk P w K mg base CX0 1 T.f_Deed_as_numbers T.d_Deed_as_numbers P_Deed_as_numbers (spDeedNums T) := ok_Deed_as_numbers T
  have many : FnOk P w K mg base CX0 10 T.f_many_pieces T.d_many_pieces P_many_pieces (spMany T 5) := ok_many T 5
  have deep : FnOk P w K mg base CX0 10 T.f_deepest T.d_deepest P_deepest (spDeep T 5) := ok_deep T 5
  have rnums : FnOk P w K mg base CX0 11 T.f_row_as_numbers T.d_row_as_numbers P_row_as_numbers (spRowNums T 5) := ok_nums T dnums' 5
  have order : FnOk P w K mg base CX0 5 T.f_in_order T.d_in_order P_in_order (spOrder T 5) := ok_order T 5
  have asp := ok_as_program T iPiece
  have take := ok_take T need
  have mustE := ok_must_end T need
  have next := ok_next_deed T take iDeed
  have pieces : FnOk P w K mg base (L2.CX P w) 11 T.f_Reader_pieces T.d_Reader_pieces P_Reader_pieces (spPieces T 4) := ok_pieces_all T take need next iPiece 4 (Nat.le_refl _)
  have readP' := ok_read_program T iReader pieces mustE need many
  have readD := ok_read_deeds T iReader take next mustE
  have fieldsO := ok_fields_of T iReader take mustE
  have here' : FnOk P w K mg base CX0 1 T.f_Table_here T.d_Table_here P_Table_here (spHere T) := ok_here T
  have behind' : FnOk P w K mg base CX0 1 T.f_Table_is_behind T.d_Table_is_behind P_Table_is_behind (spBehind T) := ok_behind T
  have found' : FnOk P w K mg base CX0 1 T.f_Table_found_row T.d_Table_found_row P_Table_found_row (spFound T) := ok_found T
  have tdo := ok_do T (ok_move T found') behind' (ok_put T here') (ok_double T here') here'
  have tnums : FnOk P w K mg base CX0 1 T.f_Table_as_numbers T.d_Table_as_numbers P_Table_as_numbers (spTabNums T) := ok_Table_as_numbers T
  have readT := ok_read_table T iReader take mustE iTable
  have over' : FnOk P w K mg base CX0 1 T.f_Run_is_over T.d_Run_is_over P_Run_is_over (spOver T) := ok_over T
  have row5 : FnOk P w K mg base CX0 20 T.f_Run_do_row T.d_Run_do_row P_Run_do_row (spRunRow T 5) := ok_do_row T over' behind' (ok_do_deed T tdo over') (ok_holds T behind' here') 5
  have runOf := ok_run_of T iRun (ok_copied T iTable) row5
  have deeds := ok_deeds_of T order
  have restd : FnOk P w K mg base CX0 1 T.f_rest_of_deed T.d_rest_of_deed P_rest_of_deed (spRestDeed T) := ok_rest_of_deed T
  have rest5 : FnOk P w K mg base CX0 11 T.f_rest_of_row T.d_rest_of_row P_rest_of_row (spRestRow T 5) := ok_rest T restd 5
  have first := ok_first_not_nearer T order (ok_comes_nearer T rest5)
  have most5 : FnOk P w K mg base CX0 5 T.f_most_deeds T.d_most_deeds P_most_deeds (spMost T 5) := ok_most T 5
  have acc := ok_is_accepted T first most5
  have against' := ok_first_against T order
  have go5 : FnOk P w K mg base CX0 5 T.f_Clipboard_go_through T.d_Clipboard_go_through P_Clipboard_go_through (spGo T 5) := ok_go T 5
  have old := ok_may_read_old T iClip go5
  have cleaned' := ok_cleaned T (ok_once T (ok_fewer T iDeed))
  have told' := ok_told T dnums'
  have ask' : FnOk P w K mg base (L2.CX P w) 1 T.f_ask T.d_ask P_ask (spAsk T) := ok_ask T
  have counted' : FnOk P w K mg base CX0 1 T.f_counted T.d_counted P_counted spCounted := ok_counted T
  have ans := ok_answer T (ok_load T readP' many deep) rnums (ok_touches T counted' (ok_written T deeds) (ok_looked_at T deeds order) (ok_may_change_rows T deeds) old) (ok_ends T first most5) (ok_allowed T ask' against' fieldsO) (ok_run_call T runOf readT tnums)
    (ok_changed T readT runOf ask') (ok_join T readP' many ask' acc) (ok_clean T readD cleaned' told') (ok_same T readD readT runOf asp cleaned' tnums)
  exact ok_answers T (ok_Desk_init T) (ok_answered T ans)
theorem end_F {P : Program} {w : World} {K : PySem.W.Frag} {mg : Str → Option Value} {fa f : Addr} (hmg : mg "answers" = some (.ref fa)) (h : ∃ T : Txt K mg, T.f_answers = f) :
    ∃ fd : FuncData, (∀ (s : Shared) (us : List Value), us.length = (["calls"] : List Str).length → BindsTo s fd ⟨us, []⟩ ((["calls"] : List Str).zip us)) ∧ ∀ base : Heap, K.In base → base.Ns mainGlobals mg → FnOk P w K mg base CX0 25 fa fd ["calls"] (spAns K) := by
  obtain ⟨T, _⟩ := h
  have e := hmg.symm.trans T.g_answers
  injection e with e
  injection e with e
  subst e
  refine ⟨T.d_answers, fun s us hu => ?_, fun base _ _ => all_ok T⟩
  obtain ⟨oc, od, kV, doc, pm, an, cdv, ct, osl, hfd, lk, hcd⟩ := T.F_answers.ex
  rw [hfd]
  exact match us, hu with | [_], _ => .of_eq rfl
end Pe
open PySem PySem.W PyProof.Rows
set_option maxRecDepth 100000 in
set_option maxHeartbeats 0 in
theorem PySem.Challenge.cw_programends_s01_answers_holds : PySem.Challenge.rw_programends_s01_answers.Holds := by
  w_on; k_headS; (case hw => exact ⟨[.list [.int 1]], by decide +kernel, by decide +kernel⟩)
  k_fillS
  refine L2.walk_specK (r := PySem.Challenge.rw_programends_s01_answers) (k := 25) (CX := L2.CX0) (ps := ["calls"]) (sp := Pe.spAns) (by decide +kernel) rfl rfl ⟨rfl, by decide, by decide⟩ (fun w h Y => PySem.W.kIn_of Y) ?F ?S (fun _ _ _ _ z => z)
  case F =>
    intro w mg fa h Y KX G hmg
    refine' Pe.end_F hmg (Pe.all_txt KX G ?a_Deed ?pg_Deed ?hd_Deed ?po_Deed ?sa_Deed ?mk_Deed ?kc_Deed ?n_Deed_sort_of ?n_Deed_field ?n_Deed_number ?n_Deed_step ?a_Piece ?pg_Piece ?hd_Piece ?po_Piece ?sa_Piece ?mk_Piece ?kc_Piece ?n_Piece_kind ?n_Piece_numbers ?n_Piece_deed ?n_Piece_inner ?a_Reader ?pg_Reader ?hd_Reader ?po_Reader ?sa_Reader ?mk_Reader ?kc_Reader ?n_Reader_row_told ?n_Reader_at ?a_Clipboard ?pg_Clipboard ?hd_Clipboard ?po_Clipboard ?sa_Clipboard ?mk_Clipboard ?kc_Clipboard ?n_Clipboard_is_old ?a_Table ?pg_Table ?hd_Table ?po_Table ?sa_Table ?mk_Table ?kc_Table ?n_Table_rows ?n_Table_cursor ?n_Table_clipboard ?a_Run ?pg_Run ?hd_Run ?po_Run ?sa_Run ?mk_Run ?kc_Run ?n_Run_table ?n_Run_done ?n_Run_word ?a_Desk ?pg_Desk ?hd_Desk ?po_Desk ?sa_Desk ?mk_Desk ?kc_Desk ?n_Desk_program ?a_NoProgram ?x_NoProgram ?kp_NoProgram ?sb_NoProgram ?ty_NoProgram ?ic_NoProgram ?ss_NoProgram ?a_R ?xl_R ?sa_R ?ga_R ?gg_R ?nb_R ?i_R ?t_R ?l_R ?cd_R ?kc_R ?e_R ?ty_R ?h_R ?ic_R ?ss_R ?sn_R ?a_need_range ?l_need_range ?q_need_range ?p_need_range ?a_Deed_init ?i_Deed_init ?l_Deed_init ?q_Deed_init ?p_Deed_init ?a_Deed_as_numbers ?i_Deed_as_numbers ?l_Deed_as_numbers ?q_Deed_as_numbers ?p_Deed_as_numbers ?a_Piece_init ?i_Piece_init ?l_Piece_init ?q_Piece_init ?p_Piece_init ?a_Piece_many ?i_Piece_many ?l_Piece_many ?q_Piece_many ?p_Piece_many ?a_Piece_deep ?i_Piece_deep ?l_Piece_deep ?q_Piece_deep ?p_Piece_deep ?a_Piece_as_numbers ?i_Piece_as_numbers ?l_Piece_as_numbers ?q_Piece_as_numbers ?p_Piece_as_numbers ?a_many_pieces ?l_many_pieces ?q_many_pieces ?p_many_pieces ?a_deepest ?l_deepest ?q_deepest ?p_deepest ?a_row_as_numbers ?l_row_as_numbers ?q_row_as_numbers ?p_row_as_numbers ?a_in_order ?l_in_order ?q_in_order ?p_in_order ?a_Reader_init ?i_Reader_init ?l_Reader_init ?q_Reader_init ?p_Reader_init ?a_Reader_take ?i_Reader_take ?l_Reader_take ?q_Reader_take ?p_Reader_take ?a_Reader_must_end ?i_Reader_must_end ?l_Reader_must_end ?q_Reader_must_end ?p_Reader_must_end ?a_Reader_next_deed ?i_Reader_next_deed ?l_Reader_next_deed ?q_Reader_next_deed ?p_Reader_next_deed ?a_Reader_piece ?i_Reader_piece ?l_Reader_piece ?q_Reader_piece ?p_Reader_piece ?a_Reader_pieces ?i_Reader_pieces ?l_Reader_pieces ?q_Reader_pieces ?p_Reader_pieces ?a_read_program ?l_read_program ?q_read_program ?p_read_program ?a_as_program ?l_as_program ?q_as_program ?p_as_program ?a_read_deeds ?l_read_deeds ?q_read_deeds ?p_read_deeds ?a_fewer ?l_fewer ?q_fewer ?p_fewer ?a_cleaned_once ?l_cleaned_once ?q_cleaned_once ?p_cleaned_once ?a_cleaned ?l_cleaned ?q_cleaned ?p_cleaned ?a_told ?l_told ?q_told ?p_told ?a_deeds_of ?l_deeds_of ?q_deeds_of ?p_deeds_of ?a_written ?l_written ?q_written ?p_written ?a_looked_at ?l_looked_at ?q_looked_at ?p_looked_at ?a_may_change_rows ?l_may_change_rows ?q_may_change_rows ?p_may_change_rows ?a_Clipboard_init ?i_Clipboard_init ?l_Clipboard_init ?q_Clipboard_init ?p_Clipboard_init ?a_Clipboard_go_through ?i_Clipboard_go_through ?l_Clipboard_go_through ?q_Clipboard_go_through ?p_Clipboard_go_through ?a_may_read_old ?l_may_read_old ?q_may_read_old ?p_may_read_old ?a_rest_of_deed ?l_rest_of_deed ?q_rest_of_deed ?p_rest_of_deed ?a_rest_of ?l_rest_of ?q_rest_of ?p_rest_of ?a_rest_of_row ?l_rest_of_row ?q_rest_of_row ?p_rest_of_row ?a_comes_nearer ?l_comes_nearer ?q_comes_nearer ?p_comes_nearer ?a_first_not_nearer ?l_first_not_nearer ?q_first_not_nearer ?p_first_not_nearer ?a_most_deeds ?l_most_deeds ?q_most_deeds ?p_most_deeds ?a_is_accepted ?l_is_accepted ?q_is_accepted ?p_is_accepted ?a_first_against ?l_first_against ?q_first_against ?p_first_against ?a_Table_init ?i_Table_init ?l_Table_init ?q_Table_init ?p_Table_init ?a_Table_copied ?i_Table_copied ?l_Table_copied ?q_Table_copied ?p_Table_copied ?a_Table_as_numbers ?i_Table_as_numbers ?l_Table_as_numbers ?q_Table_as_numbers ?p_Table_as_numbers ?a_Table_is_behind ?i_Table_is_behind ?l_Table_is_behind ?q_Table_is_behind ?p_Table_is_behind ?a_Table_here ?i_Table_here ?l_Table_here ?q_Table_here ?p_Table_here ?a_Table_found_row ?i_Table_found_row ?l_Table_found_row ?q_Table_found_row ?p_Table_found_row ?a_Table_put ?i_Table_put ?l_Table_put ?q_Table_put ?p_Table_put ?a_Table_move ?i_Table_move ?l_Table_move ?q_Table_move ?p_Table_move ?a_Table_double ?i_Table_double ?l_Table_double ?q_Table_double ?p_Table_double ?a_Table_do ?i_Table_do ?l_Table_do ?q_Table_do ?p_Table_do ?a_read_table ?l_read_table ?q_read_table ?p_read_table ?a_Run_init ?i_Run_init ?l_Run_init ?q_Run_init ?p_Run_init ?a_Run_is_over ?i_Run_is_over ?l_Run_is_over ?q_Run_is_over ?p_Run_is_over ?a_Run_do_deed ?i_Run_do_deed ?l_Run_do_deed ?q_Run_do_deed ?p_Run_do_deed ?a_Run_do_to_end ?i_Run_do_to_end ?l_Run_do_to_end ?q_Run_do_to_end ?p_Run_do_to_end ?a_Run_holds ?i_Run_holds ?l_Run_holds ?q_Run_holds ?p_Run_holds ?a_Run_do_piece ?i_Run_do_piece ?l_Run_do_piece ?q_Run_do_piece ?p_Run_do_piece ?a_Run_do_row ?i_Run_do_row ?l_Run_do_row ?q_Run_do_row ?p_Run_do_row ?a_run_of ?l_run_of ?q_run_of ?p_run_of ?a_ask ?l_ask ?q_ask ?p_ask ?a_counted ?l_counted ?q_counted ?p_counted ?a_fields_of ?l_fields_of ?q_fields_of ?p_fields_of ?a_Desk_init ?i_Desk_init ?l_Desk_init ?q_Desk_init ?p_Desk_init ?a_Desk_load ?i_Desk_load ?l_Desk_load ?q_Desk_load ?p_Desk_load ?a_Desk_touches ?i_Desk_touches ?l_Desk_touches ?q_Desk_touches ?p_Desk_touches ?a_Desk_ends ?i_Desk_ends ?l_Desk_ends ?q_Desk_ends ?p_Desk_ends ?a_Desk_allowed ?i_Desk_allowed ?l_Desk_allowed ?q_Desk_allowed ?p_Desk_allowed ?a_Desk_run ?i_Desk_run ?l_Desk_run ?q_Desk_run ?p_Desk_run ?a_Desk_changed ?i_Desk_changed ?l_Desk_changed ?q_Desk_changed ?p_Desk_changed ?a_Desk_join ?i_Desk_join ?l_Desk_join ?q_Desk_join ?p_Desk_join ?a_Desk_clean ?i_Desk_clean ?l_Desk_clean ?q_Desk_clean ?p_Desk_clean ?a_Desk_same ?i_Desk_same ?l_Desk_same ?q_Desk_same ?p_Desk_same ?a_Desk_answer ?i_Desk_answer ?l_Desk_answer ?q_Desk_answer ?p_Desk_answer ?a_answered ?l_answered ?q_answered ?p_answered ?a_answers ?l_answers ?q_answers ?p_answers ?k_DOWN ?k_UP ?k_TOP ?k_WRITE ?k_ADD ?k_COPY ?k_PASTE ?k_DELETE ?k_DOUBLE ?k_FIND ?k_A_DEED ?k_ROUNDS ?k_TO_END ?k_PART ?k_FIELDS ?k_GREATEST ?k_MOST_ROUNDS_pieces ?k_MOST_PIECES ?k_DEEPEST ?k_MOST_DEEDS_cleaning ?k_ROWS_TO_END ?k_MOST_DEEDS_judging ?k_MOST_ROWS ?k_WELL ?k_NO_ROW ?k_AT_TOP ?k_BEYOND ?k_FULL ?k_NOT_FOUND ?k_TOO_LONG ?k_MOST_ROUNDS_running ?k_MOST_DEEDS_running ?k_WRONG ?k_OTHER_ROWS ?k_TOO_MANY ?k_ROWS_CALL ?k_WITH_NUMBER ?l_WITH_NUMBER ?k_WITH_FIELD ?l_WITH_FIELD ?k_UNDONE ?l_UNDONE ?l_UNDONE0 ?l_UNDONE1 ?l_UNDONE2 ?k_LOST ?l_LOST ?l_LOST0 ?l_LOST1 ?l_LOST2 ?l_LOST3 ?l_LOST4 ?k_LOST_IN_FIELD ?l_LOST_IN_FIELD ?l_LOST_IN_FIELD0 ?l_LOST_IN_FIELD1 ?l_LOST_IN_FIELD2 ?l_LOST_IN_FIELD3 ?l_LOST_IN_FIELD4 ?l_LOST_IN_FIELD5 ?k_TOGETHER ?l_TOGETHER ?l_TOGETHER0 ?l_TOGETHER1 ?k_WRITING ?l_WRITING ?k_READING ?l_READING ?k_CHANGING ?l_CHANGING ?k_MANY_LISTS ?l_MANY_LISTS ?b_len ?b_range ?b_sum ?b_max ?b_int ?b_list ?b_enumerate)
    (case a_Deed => k_is)
    (case pg_Deed => k_is)
    (case hd_Deed => k_is)
    (case po_Deed => k_is)
    (case sa_Deed => k_is)
    (case mk_Deed => k_is)
    (case kc_Deed => k_is)
    (case n_Deed_sort_of => k_is)
    (case n_Deed_field => k_is)
    (case n_Deed_number => k_is)
    (case n_Deed_step => k_is)
    (case a_Piece => k_is)
    (case pg_Piece => k_is)
    (case hd_Piece => k_is)
    (case po_Piece => k_is)
    (case sa_Piece => k_is)
    (case mk_Piece => k_is)
    (case kc_Piece => k_is)
    (case n_Piece_kind => k_is)
    (case n_Piece_numbers => k_is)
    (case n_Piece_deed => k_is)
    (case n_Piece_inner => k_is)
    (case a_Reader => k_is)
    (case pg_Reader => k_is)
    (case hd_Reader => k_is)
    (case po_Reader => k_is)
    (case sa_Reader => k_is)
    (case mk_Reader => k_is)
    (case kc_Reader => k_is)
    (case n_Reader_row_told => k_is)
    (case n_Reader_at => k_is)
    (case a_Clipboard => k_is)
    (case pg_Clipboard => k_is)
    (case hd_Clipboard => k_is)
    (case po_Clipboard => k_is)
    (case sa_Clipboard => k_is)
    (case mk_Clipboard => k_is)
    (case kc_Clipboard => k_is)
    (case n_Clipboard_is_old => k_is)
    (case a_Table => k_is)
    (case pg_Table => k_is)
    (case hd_Table => k_is)
    (case po_Table => k_is)
    (case sa_Table => k_is)
    (case mk_Table => k_is)
    (case kc_Table => k_is)
    (case n_Table_rows => k_is)
    (case n_Table_cursor => k_is)
    (case n_Table_clipboard => k_is)
    (case a_Run => k_is)
    (case pg_Run => k_is)
    (case hd_Run => k_is)
    (case po_Run => k_is)
    (case sa_Run => k_is)
    (case mk_Run => k_is)
    (case kc_Run => k_is)
    (case n_Run_table => k_is)
    (case n_Run_done => k_is)
    (case n_Run_word => k_is)
    (case a_Desk => k_is)
    (case pg_Desk => k_is)
    (case hd_Desk => k_is)
    (case po_Desk => k_is)
    (case sa_Desk => k_is)
    (case mk_Desk => k_is)
    (case kc_Desk => k_is)
    (case n_Desk_program => k_is)
    (case a_NoProgram => k_is)
    (case x_NoProgram => k_exc)
    (case kp_NoProgram => k_is)
    (case sb_NoProgram => k_is)
    (case ty_NoProgram => k_is)
    (case ic_NoProgram => k_is)
    (case ss_NoProgram => first | rfl | k_is)
    (case a_R => k_is)
    (case xl_R => k_is)
    (case sa_R => k_is)
    (case ga_R => k_is)
    (case gg_R => k_is)
    (case nb_R => k_is)
    (case i_R => k_is)
    (case t_R => k_is)
    (case l_R => k_is)
    (case cd_R => k_is)
    (case kc_R => k_is)
    (case e_R => k_is)
    (case ty_R => k_is)
    (case h_R => k_is)
    (case ic_R => k_is)
    (case ss_R => first | rfl | k_is)
    (case sn_R => first | rfl | k_is)
    (case a_need_range => k_is)
    (case l_need_range => k_is)
    (case q_need_range => k_is)
    (case p_need_range => k_is)
    (case a_Deed_init => k_is)
    (case i_Deed_init => k_is)
    (case l_Deed_init => k_is)
    (case q_Deed_init => k_is)
    (case p_Deed_init => k_is)
    (case a_Deed_as_numbers => k_is)
    (case i_Deed_as_numbers => k_is)
    (case l_Deed_as_numbers => k_is)
    (case q_Deed_as_numbers => k_is)
    (case p_Deed_as_numbers => k_is)
    (case a_Piece_init => k_is)
    (case i_Piece_init => k_is)
    (case l_Piece_init => k_is)
    (case q_Piece_init => k_is)
    (case p_Piece_init => k_is)
    (case a_Piece_many => k_is)
    (case i_Piece_many => k_is)
    (case l_Piece_many => k_is)
    (case q_Piece_many => k_is)
    (case p_Piece_many => k_is)
    (case a_Piece_deep => k_is)
    (case i_Piece_deep => k_is)
    (case l_Piece_deep => k_is)
    (case q_Piece_deep => k_is)
    (case p_Piece_deep => k_is)
    (case a_Piece_as_numbers => k_is)
    (case i_Piece_as_numbers => k_is)
    (case l_Piece_as_numbers => k_is)
    (case q_Piece_as_numbers => k_is)
    (case p_Piece_as_numbers => k_is)
    (case a_many_pieces => k_is)
    (case l_many_pieces => k_is)
    (case q_many_pieces => k_is)
    (case p_many_pieces => k_is)
    (case a_deepest => k_is)
    (case l_deepest => k_is)
    (case q_deepest => k_is)
    (case p_deepest => k_is)
    (case a_row_as_numbers => k_is)
    (case l_row_as_numbers => k_is)
    (case q_row_as_numbers => k_is)
    (case p_row_as_numbers => k_is)
    (case a_in_order => k_is)
    (case l_in_order => k_is)
    (case q_in_order => k_is)
    (case p_in_order => k_is)
    (case a_Reader_init => k_is)
    (case i_Reader_init => k_is)
    (case l_Reader_init => k_is)
    (case q_Reader_init => k_is)
    (case p_Reader_init => k_is)
    (case a_Reader_take => k_is)
    (case i_Reader_take => k_is)
    (case l_Reader_take => k_is)
    (case q_Reader_take => k_is)
    (case p_Reader_take => k_is)
    (case a_Reader_must_end => k_is)
    (case i_Reader_must_end => k_is)
    (case l_Reader_must_end => k_is)
    (case q_Reader_must_end => k_is)
    (case p_Reader_must_end => k_is)
    (case a_Reader_next_deed => k_is)
    (case i_Reader_next_deed => k_is)
    (case l_Reader_next_deed => k_is)
    (case q_Reader_next_deed => k_is)
    (case p_Reader_next_deed => k_is)
    (case a_Reader_piece => k_is)
    (case i_Reader_piece => k_is)
    (case l_Reader_piece => k_is)
    (case q_Reader_piece => k_is)
    (case p_Reader_piece => k_is)
    (case a_Reader_pieces => k_is)
    (case i_Reader_pieces => k_is)
    (case l_Reader_pieces => k_is)
    (case q_Reader_pieces => k_is)
    (case p_Reader_pieces => k_is)
    (case a_read_program => k_is)
    (case l_read_program => k_is)
    (case q_read_program => k_is)
    (case p_read_program => k_is)
    (case a_as_program => k_is)
    (case l_as_program => k_is)
    (case q_as_program => k_is)
    (case p_as_program => k_is)
    (case a_read_deeds => k_is)
    (case l_read_deeds => k_is)
    (case q_read_deeds => k_is)
    (case p_read_deeds => k_is)
    (case a_fewer => k_is)
    (case l_fewer => k_is)
    (case q_fewer => k_is)
    (case p_fewer => k_is)
    (case a_cleaned_once => k_is)
    (case l_cleaned_once => k_is)
    (case q_cleaned_once => k_is)
    (case p_cleaned_once => k_is)
    (case a_cleaned => k_is)
    (case l_cleaned => k_is)
    (case q_cleaned => k_is)
    (case p_cleaned => k_is)
    (case a_told => k_is)
    (case l_told => k_is)
    (case q_told => k_is)
    (case p_told => k_is)
    (case a_deeds_of => k_is)
    (case l_deeds_of => k_is)
    (case q_deeds_of => k_is)
    (case p_deeds_of => k_is)
    (case a_written => k_is)
    (case l_written => k_is)
    (case q_written => k_is)
    (case p_written => k_is)
    (case a_looked_at => k_is)
    (case l_looked_at => k_is)
    (case q_looked_at => k_is)
    (case p_looked_at => k_is)
    (case a_may_change_rows => k_is)
    (case l_may_change_rows => k_is)
    (case q_may_change_rows => k_is)
    (case p_may_change_rows => k_is)
    (case a_Clipboard_init => k_is)
    (case i_Clipboard_init => k_is)
    (case l_Clipboard_init => k_is)
    (case q_Clipboard_init => k_is)
    (case p_Clipboard_init => k_is)
    (case a_Clipboard_go_through => k_is)
    (case i_Clipboard_go_through => k_is)
    (case l_Clipboard_go_through => k_is)
    (case q_Clipboard_go_through => k_is)
    (case p_Clipboard_go_through => k_is)
    (case a_may_read_old => k_is)
    (case l_may_read_old => k_is)
    (case q_may_read_old => k_is)
    (case p_may_read_old => k_is)
    (case a_rest_of_deed => k_is)
    (case l_rest_of_deed => k_is)
    (case q_rest_of_deed => k_is)
    (case p_rest_of_deed => k_is)
    (case a_rest_of => k_is)
    (case l_rest_of => k_is)
    (case q_rest_of => k_is)
    (case p_rest_of => k_is)
    (case a_rest_of_row => k_is)
    (case l_rest_of_row => k_is)
    (case q_rest_of_row => k_is)
    (case p_rest_of_row => k_is)
    (case a_comes_nearer => k_is)
    (case l_comes_nearer => k_is)
    (case q_comes_nearer => k_is)
    (case p_comes_nearer => k_is)
    (case a_first_not_nearer => k_is)
    (case l_first_not_nearer => k_is)
    (case q_first_not_nearer => k_is)
    (case p_first_not_nearer => k_is)
    (case a_most_deeds => k_is)
    (case l_most_deeds => k_is)
    (case q_most_deeds => k_is)
    (case p_most_deeds => k_is)
    (case a_is_accepted => k_is)
    (case l_is_accepted => k_is)
    (case q_is_accepted => k_is)
    (case p_is_accepted => k_is)
    (case a_first_against => k_is)
    (case l_first_against => k_is)
    (case q_first_against => k_is)
    (case p_first_against => k_is)
    (case a_Table_init => k_is)
    (case i_Table_init => k_is)
    (case l_Table_init => k_is)
    (case q_Table_init => k_is)
    (case p_Table_init => k_is)
    (case a_Table_copied => k_is)
    (case i_Table_copied => k_is)
    (case l_Table_copied => k_is)
    (case q_Table_copied => k_is)
    (case p_Table_copied => k_is)
    (case a_Table_as_numbers => k_is)
    (case i_Table_as_numbers => k_is)
    (case l_Table_as_numbers => k_is)
    (case q_Table_as_numbers => k_is)
    (case p_Table_as_numbers => k_is)
    (case a_Table_is_behind => k_is)
    (case i_Table_is_behind => k_is)
    (case l_Table_is_behind => k_is)
    (case q_Table_is_behind => k_is)
    (case p_Table_is_behind => k_is)
    (case a_Table_here => k_is)
    (case i_Table_here => k_is)
    (case l_Table_here => k_is)
    (case q_Table_here => k_is)
    (case p_Table_here => k_is)
    (case a_Table_found_row => k_is)
    (case i_Table_found_row => k_is)
    (case l_Table_found_row => k_is)
    (case q_Table_found_row => k_is)
    (case p_Table_found_row => k_is)
    (case a_Table_put => k_is)
    (case i_Table_put => k_is)
    (case l_Table_put => k_is)
    (case q_Table_put => k_is)
    (case p_Table_put => k_is)
    (case a_Table_move => k_is)
    (case i_Table_move => k_is)
    (case l_Table_move => k_is)
    (case q_Table_move => k_is)
    (case p_Table_move => k_is)
    (case a_Table_double => k_is)
    (case i_Table_double => k_is)
    (case l_Table_double => k_is)
    (case q_Table_double => k_is)
    (case p_Table_double => k_is)
    (case a_Table_do => k_is)
    (case i_Table_do => k_is)
    (case l_Table_do => k_is)
    (case q_Table_do => k_is)
    (case p_Table_do => k_is)
    (case a_read_table => k_is)
    (case l_read_table => k_is)
    (case q_read_table => k_is)
    (case p_read_table => k_is)
    (case a_Run_init => k_is)
    (case i_Run_init => k_is)
    (case l_Run_init => k_is)
    (case q_Run_init => k_is)
    (case p_Run_init => k_is)
    (case a_Run_is_over => k_is)
    (case i_Run_is_over => k_is)
    (case l_Run_is_over => k_is)
    (case q_Run_is_over => k_is)
    (case p_Run_is_over => k_is)
    (case a_Run_do_deed => k_is)
    (case i_Run_do_deed => k_is)
    (case l_Run_do_deed => k_is)
    (case q_Run_do_deed => k_is)
    (case p_Run_do_deed => k_is)
    (case a_Run_do_to_end => k_is)
    (case i_Run_do_to_end => k_is)
    (case l_Run_do_to_end => k_is)
    (case q_Run_do_to_end => k_is)
    (case p_Run_do_to_end => k_is)
    (case a_Run_holds => k_is)
    (case i_Run_holds => k_is)
    (case l_Run_holds => k_is)
    (case q_Run_holds => k_is)
    (case p_Run_holds => k_is)
    (case a_Run_do_piece => k_is)
    (case i_Run_do_piece => k_is)
    (case l_Run_do_piece => k_is)
    (case q_Run_do_piece => k_is)
    (case p_Run_do_piece => k_is)
    (case a_Run_do_row => k_is)
    (case i_Run_do_row => k_is)
    (case l_Run_do_row => k_is)
    (case q_Run_do_row => k_is)
    (case p_Run_do_row => k_is)
    (case a_run_of => k_is)
    (case l_run_of => k_is)
    (case q_run_of => k_is)
    (case p_run_of => k_is)
    (case a_ask => k_is)
    (case l_ask => k_is)
    (case q_ask => k_is)
    (case p_ask => k_is)
    (case a_counted => k_is)
    (case l_counted => k_is)
    (case q_counted => k_is)
    (case p_counted => k_is)
    (case a_fields_of => k_is)
    (case l_fields_of => k_is)
    (case q_fields_of => k_is)
    (case p_fields_of => k_is)
    (case a_Desk_init => k_is)
    (case i_Desk_init => k_is)
    (case l_Desk_init => k_is)
    (case q_Desk_init => k_is)
    (case p_Desk_init => k_is)
    (case a_Desk_load => k_is)
    (case i_Desk_load => k_is)
    (case l_Desk_load => k_is)
    (case q_Desk_load => k_is)
    (case p_Desk_load => k_is)
    (case a_Desk_touches => k_is)
    (case i_Desk_touches => k_is)
    (case l_Desk_touches => k_is)
    (case q_Desk_touches => k_is)
    (case p_Desk_touches => k_is)
    (case a_Desk_ends => k_is)
    (case i_Desk_ends => k_is)
    (case l_Desk_ends => k_is)
    (case q_Desk_ends => k_is)
    (case p_Desk_ends => k_is)
    (case a_Desk_allowed => k_is)
    (case i_Desk_allowed => k_is)
    (case l_Desk_allowed => k_is)
    (case q_Desk_allowed => k_is)
    (case p_Desk_allowed => k_is)
    (case a_Desk_run => k_is)
    (case i_Desk_run => k_is)
    (case l_Desk_run => k_is)
    (case q_Desk_run => k_is)
    (case p_Desk_run => k_is)
    (case a_Desk_changed => k_is)
    (case i_Desk_changed => k_is)
    (case l_Desk_changed => k_is)
    (case q_Desk_changed => k_is)
    (case p_Desk_changed => k_is)
    (case a_Desk_join => k_is)
    (case i_Desk_join => k_is)
    (case l_Desk_join => k_is)
    (case q_Desk_join => k_is)
    (case p_Desk_join => k_is)
    (case a_Desk_clean => k_is)
    (case i_Desk_clean => k_is)
    (case l_Desk_clean => k_is)
    (case q_Desk_clean => k_is)
    (case p_Desk_clean => k_is)
    (case a_Desk_same => k_is)
    (case i_Desk_same => k_is)
    (case l_Desk_same => k_is)
    (case q_Desk_same => k_is)
    (case p_Desk_same => k_is)
    (case a_Desk_answer => k_is)
    (case i_Desk_answer => k_is)
    (case l_Desk_answer => k_is)
    (case q_Desk_answer => k_is)
    (case p_Desk_answer => k_is)
    (case a_answered => k_is)
    (case l_answered => k_is)
    (case q_answered => k_is)
    (case p_answered => k_is)
    (case a_answers => k_is)
    (case l_answers => k_is)
    (case q_answers => k_is)
    (case p_answers => k_is)
    (case k_DOWN => k_is)
    (case k_UP => k_is)
    (case k_TOP => k_is)
    (case k_WRITE => k_is)
    (case k_ADD => k_is)
    (case k_COPY => k_is)
    (case k_PASTE => k_is)
    (case k_DELETE => k_is)
    (case k_DOUBLE => k_is)
    (case k_FIND => k_is)
    (case k_A_DEED => k_is)
    (case k_ROUNDS => k_is)
    (case k_TO_END => k_is)
    (case k_PART => k_is)
    (case k_FIELDS => k_is)
    (case k_GREATEST => k_is)
    (case k_MOST_ROUNDS_pieces => k_is)
    (case k_MOST_PIECES => k_is)
    (case k_DEEPEST => k_is)
    (case k_MOST_DEEDS_cleaning => k_is)
    (case k_ROWS_TO_END => k_is)
    (case k_MOST_DEEDS_judging => k_is)
    (case k_MOST_ROWS => k_is)
    (case k_WELL => k_is)
    (case k_NO_ROW => k_is)
    (case k_AT_TOP => k_is)
    (case k_BEYOND => k_is)
    (case k_FULL => k_is)
    (case k_NOT_FOUND => k_is)
    (case k_TOO_LONG => k_is)
    (case k_MOST_ROUNDS_running => k_is)
    (case k_MOST_DEEDS_running => k_is)
    (case k_WRONG => k_is)
    (case k_OTHER_ROWS => k_is)
    (case k_TOO_MANY => k_is)
    (case k_ROWS_CALL => k_is)
    (case k_WITH_NUMBER => k_is)
    (case l_WITH_NUMBER => k_is)
    (case k_WITH_FIELD => k_is)
    (case l_WITH_FIELD => k_is)
    (case k_UNDONE => k_is)
    (case l_UNDONE => k_is)
    (case l_UNDONE0 => k_is)
    (case l_UNDONE1 => k_is)
    (case l_UNDONE2 => k_is)
    (case k_LOST => k_is)
    (case l_LOST => k_is)
    (case l_LOST0 => k_is)
    (case l_LOST1 => k_is)
    (case l_LOST2 => k_is)
    (case l_LOST3 => k_is)
    (case l_LOST4 => k_is)
    (case k_LOST_IN_FIELD => k_is)
    (case l_LOST_IN_FIELD => k_is)
    (case l_LOST_IN_FIELD0 => k_is)
    (case l_LOST_IN_FIELD1 => k_is)
    (case l_LOST_IN_FIELD2 => k_is)
    (case l_LOST_IN_FIELD3 => k_is)
    (case l_LOST_IN_FIELD4 => k_is)
    (case l_LOST_IN_FIELD5 => k_is)
    (case k_TOGETHER => k_is)
    (case l_TOGETHER => k_is)
    (case l_TOGETHER0 => k_is)
    (case l_TOGETHER1 => k_is)
    (case k_WRITING => k_is)
    (case l_WRITING => k_is)
    (case k_READING => k_is)
    (case l_READING => k_is)
    (case k_CHANGING => k_is)
    (case l_CHANGING => k_is)
    (case k_MANY_LISTS => k_is)
    (case l_MANY_LISTS => k_is)
    (case b_len => k_is)
    (case b_range => k_is)
    (case b_sum => k_is)
    (case b_max => k_is)
    (case b_int => k_is)
    (case b_list => k_is)
    (case b_enumerate => k_is)
  case S =>
    intro K H xs a hO hwi hask hx
    cases hx with
    | cons h1 h2 =>
      cases h2
      cases h1 with
      | lst hs ha =>
        have e := L2.ints_dw a.1 _ ha
        subst e
        exact ⟨_, a.1, rfl, hs, hask, fun H' p hp => .lst (L2.SqL.of hp) (L2.dw_ints _)⟩
