import PyProof.Rows.All
import Wide.All
import OpenK.AllK
import Wide.FinOn
import PyProof.ReprRoads
import KE.KUnpackStar
import KE.KRevIter
import HandS.ForMost
import HandS.Defaults
import HandS.RevTup
import KE.KSortKeySt
import HandS.Lambda
import HandS.SortKw
import HandS.EndTab
import HandS.MakeKw
import HandS.MakeKwOnly
import HandS.IsInst
import HandS.TupAny
import HandS.Style
import HandS.Small
import PySem.Challenge.RW_numberedpackets_k38_whole_good_ones_are
import HandS.Walk
set_option Elab.async false
set_option linter.all false
set_option maxRecDepth 100000
set_option maxHeartbeats 4000000

section
set_option autoImplicit false
/-! The plain law: packets written, spoiled, scanned; no program in sight. -/
namespace K38

/-! ### figures -/
def plainI (s : Int) : Prop := 32 ≤ s ∧ s ≤ 126
instance (s : Int) : Decidable (plainI s) := by unfold plainI; infer_instance
def wr : Nat → Int → List Int
  | 0, _ => []
  | k + 1, n => wr k (n / 95) ++ [32 + n % 95]
def numFrom (f : Int) (xs : List Int) : Int := xs.foldl (fun f s => 95 * f + s - 32) f
def numIn (xs : List Int) : Int := numFrom 0 xs
def leftFrom (b m f : Int) (vs : List Int) : Int := vs.foldl (fun f v => (f * b + v) % m) f
def vals (xs : List Int) : List Int := xs.map fun s => s - 32
def byOf (k : Nat) : Int := if k = 1 then 95 else if k = 2 then 9013 else 857369
def chk (xs : List Int) (k : Nat) : List Int :=
  if k = 1 then wr 1 ((vals xs).sum % 95) else wr k (leftFrom 95 (byOf k) 0 (vals xs))

theorem wr1 (n : Int) : wr 1 n = [32 + n % 95] := rfl
theorem wr_len : ∀ (k : Nat) (n : Int), (wr k n).length = k
  | 0, _ => rfl
  | k + 1, n => by simp [wr, wr_len k]
theorem wr_plain : ∀ (k : Nat) (n : Int), ∀ s ∈ wr k n, plainI s
  | 0, _, s, h => by simp [wr] at h
  | k + 1, n, s, h => by
    simp only [wr, List.mem_append, List.mem_singleton] at h
    rcases h with h | h
    · exact wr_plain k _ s h
    · subst h; unfold plainI; omega
theorem wr_inj : ∀ (k : Nat) (a b : Int), 0 ≤ a → a < 95 ^ k → 0 ≤ b → b < 95 ^ k → wr k a = wr k b → a = b
  | 0, a, b, h1, h2, h3, h4, _ => by
    have e : (95 : Int) ^ 0 = 1 := rfl
    omega
  | k + 1, a, b, h1, h2, h3, h4, h => by
    simp only [wr] at h
    have e : (95 : Int) ^ (k + 1) = 95 ^ k * 95 := Int.pow_succ 95 k
    rw [e] at h2 h4
    obtain ⟨h5, h6⟩ := List.append_inj' h rfl
    have h7 := wr_inj k (a / 95) (b / 95) (by omega) (by omega) (by omega) (by omega) h5
    have h8 : 32 + a % 95 = 32 + b % 95 := by simpa using h6
    omega
theorem chk_len (xs : List Int) (k : Nat) (hk : 1 ≤ k) : (chk xs k).length = k := by
  unfold chk
  split
  · next h => subst h; rfl
  · exact wr_len _ _
theorem chk_plain (xs : List Int) (k : Nat) : ∀ s ∈ chk xs k, plainI s := by
  unfold chk
  split
  · exact wr_plain _ _
  · exact wr_plain _ _

/-! ### a check tells rows apart that part in one place -/
theorem leftFrom_step (m f g v : Int) (hm : m = 9013 ∨ m = 857369) (hf : 0 ≤ f ∧ f < m) (hg : 0 ≤ g ∧ g < m) (h : f ≠ g) : (f * 95 + v) % m ≠ (g * 95 + v) % m := by
  rcases hm with rfl | rfl <;> omega
theorem leftFrom_apart (m : Int) (hm : m = 9013 ∨ m = 857369) : ∀ (vs : List Int) (f g : Int), 0 ≤ f ∧ f < m → 0 ≤ g ∧ g < m → f ≠ g → leftFrom 95 m f vs ≠ leftFrom 95 m g vs
  | [], f, g, _, _, h => h
  | v :: vs, f, g, hf, hg, h => by
    have hp : 0 < m := by omega
    exact leftFrom_apart m hm vs _ _ ⟨Int.emod_nonneg _ (by omega), Int.emod_lt_of_pos _ hp⟩ ⟨Int.emod_nonneg _ (by omega), Int.emod_lt_of_pos _ hp⟩ (leftFrom_step m f g v hm hf hg h)
theorem leftFrom_set (m : Int) (hm : m = 9013 ∨ m = 857369) : ∀ (xs : List Int) (i : Nat) (x f : Int) (hi : i < xs.length), 0 ≤ f ∧ f < m → plainI xs[i] → plainI x → x ≠ xs[i] →
    leftFrom 95 m f (vals (xs.set i x)) ≠ leftFrom 95 m f (vals xs)
  | [], i, x, f, hi, _, _, _, _ => absurd hi (Nat.not_lt_zero _)
  | y :: ys, 0, x, f, hi, hf, hy, hx, h => by
    have hp : 0 < m := by omega
    show leftFrom 95 m ((f * 95 + (x - 32)) % m) (vals ys) ≠ leftFrom 95 m ((f * 95 + (y - 32)) % m) (vals ys)
    have h' : x ≠ y := h
    have hy' : plainI y := hy
    unfold plainI at hx hy'
    refine leftFrom_apart m hm _ _ _ ⟨Int.emod_nonneg _ (by omega), Int.emod_lt_of_pos _ hp⟩ ⟨Int.emod_nonneg _ (by omega), Int.emod_lt_of_pos _ hp⟩ ?_
    rcases hm with rfl | rfl <;> omega
  | y :: ys, i + 1, x, f, hi, hf, hy, hx, h => by
    have hp : 0 < m := by omega
    show leftFrom 95 m ((f * 95 + (y - 32)) % m) (vals (ys.set i x)) ≠ leftFrom 95 m ((f * 95 + (y - 32)) % m) (vals ys)
    exact leftFrom_set m hm ys i x _ (Nat.lt_of_succ_lt_succ hi) ⟨Int.emod_nonneg _ (by omega), Int.emod_lt_of_pos _ hp⟩ hy hx h
theorem sum_set : ∀ (xs : List Int) (i : Nat) (x : Int) (hi : i < xs.length), (vals (xs.set i x)).sum = (vals xs).sum + (x - xs[i])
  | [], i, x, hi => absurd hi (Nat.not_lt_zero _)
  | y :: ys, 0, x, hi => by
    show (x - 32) + (vals ys).sum = ((y - 32) + (vals ys).sum) + (x - y)
    omega
  | y :: ys, i + 1, x, hi => by
    have hi' : i < ys.length := Nat.lt_of_succ_lt_succ hi
    have ih := sum_set ys i x hi'
    show (y - 32) + (vals (ys.set i x)).sum = ((y - 32) + (vals ys).sum) + (x - ys[i])
    omega
theorem leftFrom_bd (m : Int) (hp : 0 < m) : ∀ (vs : List Int) (f : Int), 0 ≤ f ∧ f < m → 0 ≤ leftFrom 95 m f vs ∧ leftFrom 95 m f vs < m
  | [], _, h => h
  | _ :: vs, _, _ => leftFrom_bd m hp vs _ ⟨Int.emod_nonneg _ (by omega), Int.emod_lt_of_pos _ hp⟩
theorem chk_set (xs : List Int) (k i : Nat) (x : Int) (hk : k = 1 ∨ k = 2 ∨ k = 3) (hi : i < xs.length) (hy : plainI xs[i]) (hx : plainI x) (h : x ≠ xs[i]) : chk (xs.set i x) k ≠ chk xs k := by
  rcases hk with rfl | rfl | rfl
  · show [32 + (vals (xs.set i x)).sum % 95 % 95] ≠ [32 + (vals xs).sum % 95 % 95]
    rw [sum_set xs i x hi]
    unfold plainI at hx hy
    intro e
    have e' : 32 + ((vals xs).sum + (x - xs[i])) % 95 % 95 = 32 + (vals xs).sum % 95 % 95 := by simpa using e
    omega
  · intro e
    have b1 := leftFrom_bd 9013 (by omega) (vals (xs.set i x)) 0 (by omega)
    have b2 := leftFrom_bd 9013 (by omega) (vals xs) 0 (by omega)
    have p : (95 : Int) ^ 2 = 9025 := rfl
    exact leftFrom_set 9013 (.inl rfl) xs i x 0 hi (by omega) hy hx h (wr_inj 2 _ _ b1.1 (by omega) b2.1 (by omega) e)
  · intro e
    have b1 := leftFrom_bd 857369 (by omega) (vals (xs.set i x)) 0 (by omega)
    have b2 := leftFrom_bd 857369 (by omega) (vals xs) 0 (by omega)
    have p : (95 : Int) ^ 3 = 857375 := rfl
    exact leftFrom_set 857369 (.inr rfl) xs i x 0 hi (by omega) hy hx h (wr_inj 3 _ _ b1.1 (by omega) b2.1 (by omega) e)

/-! ### packets -/
/-- the letters' codes -/
def letters : List Nat := [79, 80, 69, 70, 65, 83, 68, 90, 66, 89, 78]
def opening : List Nat := [79, 80, 69]
def markOf (c : Nat) : Int := if c ∈ opening then 2 else 1
def checkOf (c : Nat) (k : Nat) : Nat := if c ∈ opening then 1 else k
structure Pk where
  num : Int
  let_ : Nat
  data : List Int
def rowOf (p : Pk) (by_ : Nat) : List Int :=
  let size : Int := 2 + p.data.length + by_
  wr 1 size ++ wr 1 (94 - size) ++ wr 1 p.num ++ [(p.let_ : Int)] ++ p.data
def bodyOf (p : Pk) (k : Nat) : List Int := rowOf p (checkOf p.let_ k) ++ chk (rowOf p (checkOf p.let_ k)) (checkOf p.let_ k)
def putAs (p : Pk) (k : Nat) : List Int := markOf p.let_ :: bodyOf p k
structure PkOk (p : Pk) : Prop where
  num : 0 ≤ p.num ∧ p.num ≤ 63
  let_ : p.let_ ∈ letters
  data : ∀ s ∈ p.data, plainI s
  len : p.data.length ≤ 89

/-! ### the scanner -/
structure Sc where
  kind : Nat
  fed : Int
  at_ : Option Int
  mark : Int
  chk : Nat
  signs : List Int
inductive Told where
  | bad (at_ : Int)
  | good (p : Pk) (at_ : Int)
def letterOf (s m : Int) : Option Nat := letters.find? fun c => decide ((c : Int) = s) && decide (markOf c = m)
def cutLast (xs : List Int) (k : Nat) : List Int := xs.take (xs.length - k)
def readM (s : Sc) : Option Pk :=
  let row := cutLast s.signs s.chk
  let number := numIn ((row.drop 2).take 1)
  match letterOf (row.getD 3 0) s.mark with
  | none => none
  | some c => if number > 63 then none else if chk row s.chk = s.signs.drop (s.signs.length - s.chk) then some ⟨number, c, row.drop 4⟩ else none
def sizeM (s : Sc) : Int := numIn (s.signs.take 1)
/-- what comes to be known, a packet begun at a -/
def knownM (s : Sc) (a : Int) : Sc × List Told :=
  if s.signs.length = 2 ∧ (sizeM s + numIn (s.signs.drop 1) ≠ 94 ∨ sizeM s < 2 + s.chk) then ({ s with at_ := none }, [.bad a])
  else if s.signs.length < 2 ∨ (s.signs.length : Int) < 2 + sizeM s then (s, [])
  else match readM s with
    | none => ({ s with at_ := none }, [.bad a])
    | some p => ({ s with at_ := none }, [.good p a])
def beginM (s : Sc) (m : Int) : Sc := { s with at_ := some s.fed, mark := m, chk := if m = 2 then 1 else s.kind, signs := [] }
def more (r : Sc × List Told) : Sc × List Told := ({ r.1 with fed := r.1.fed + 1 }, r.2)
def stepM (s : Sc) (x : Int) : Sc × List Told :=
  if x = 1 ∨ x = 2 then more (beginM s x, match s.at_ with | none => [] | some a => [.bad a])
  else match s.at_ with
    | none => more (s, [])
    | some a => if plainI x then more (knownM { s with signs := s.signs ++ [x] } a) else more (s, [])
def feedM : Sc → List Int → Sc × List Told
  | s, [] => (s, [])
  | s, x :: xs => ((feedM (stepM s x).1 xs).1, (stepM s x).2 ++ (feedM (stepM s x).1 xs).2)

theorem feedM_append : ∀ (xs ys : List Int) (s : Sc), feedM s (xs ++ ys) = ((feedM (feedM s xs).1 ys).1, (feedM s xs).2 ++ (feedM (feedM s xs).1 ys).2)
  | [], ys, s => rfl
  | x :: xs, ys, s => by
    have ih := feedM_append xs ys (stepM s x).1
    show ((feedM (stepM s x).1 (xs ++ ys)).1, (stepM s x).2 ++ (feedM (stepM s x).1 (xs ++ ys)).2) = _
    rw [ih]
    simp [feedM, List.append_assoc]
/-- what holds of a scanner's state between two signs -/
structure ScOk (s : Sc) : Prop where
  kind : 1 ≤ s.kind ∧ s.kind ≤ 3
  chk : 1 ≤ s.chk ∧ s.chk ≤ 3
  plain : s.at_ ≠ none → ∀ x ∈ s.signs, plainI x
  short : s.at_ ≠ none → (2 ≤ s.signs.length → 2 + (s.chk : Int) ≤ sizeM s ∧ (s.signs.length : Int) < 2 + sizeM s)
def toldOf (r : Option Pk) (f : Int) : Told := match r with | none => .bad f | some p => .good p f
theorem numIn1 (x : Int) : numIn [x] = x - 32 := by
  show 95 * 0 + x - 32 = x - 32
  omega
theorem sizeM_bd {s : Sc} (h : ∀ x ∈ s.signs, plainI x) : 0 ≤ sizeM s ∧ sizeM s ≤ 94 := by
  unfold sizeM
  cases e : s.signs with
  | nil => exact ⟨Int.le_refl 0, by show (0 : Int) ≤ 94; omega⟩
  | cons x r =>
    rw [List.take_succ_cons, List.take_zero, numIn1]
    have := h x (by rw [e]; exact List.mem_cons_self ..)
    unfold plainI at this
    omega
theorem sizeM_app {s : Sc} (x : Int) (h : 1 ≤ s.signs.length) : sizeM { s with signs := s.signs ++ [x] } = sizeM s := by
  unfold sizeM
  cases e : s.signs with
  | nil => rw [e] at h; exact absurd h (by simp)
  | cons y r => rfl
theorem beginM_ok {s : Sc} (m : Int) (h : ScOk s) : ScOk (beginM s m) := by
  obtain ⟨h1, h2, h3, h4⟩ := h
  refine ⟨h1, ?_, fun _ x hx => ?_, fun _ hl => ?_⟩
  · show 1 ≤ (if m = 2 then 1 else s.kind) ∧ (if m = 2 then 1 else s.kind) ≤ 3
    split <;> omega
  · exact absurd hx (by simp [beginM])
  · exact absurd hl (by simp [beginM])
theorem more_ok {r : Sc × List Told} (h : ScOk r.1) : ScOk (more r).1 := ⟨h.kind, h.chk, h.plain, h.short⟩
theorem closed_ok {s : Sc} (h1 : 1 ≤ s.kind ∧ s.kind ≤ 3) (h2 : 1 ≤ s.chk ∧ s.chk ≤ 3) : ScOk { s with at_ := none } := ⟨h1, h2, fun z => absurd rfl z, fun z => absurd rfl z⟩
theorem knownM_ok {s : Sc} {x a : Int} (h : ScOk s) (ha : s.at_ ≠ none) (hx : plainI x) : ScOk (knownM { s with signs := s.signs ++ [x] } a).1 := by
  unfold knownM
  have hl : (s.signs ++ [x]).length = s.signs.length + 1 := by simp
  have hp : ∀ y ∈ s.signs ++ [x], plainI y := fun y hy => by
    rcases List.mem_append.mp hy with hy | hy
    · exact h.plain ha y hy
    · rw [List.mem_singleton.mp hy]; exact hx
  split
  · exact closed_ok h.kind h.chk
  · rename_i n1
    split
    · rename_i n2
      refine ⟨h.kind, h.chk, fun _ => hp, fun _ h2 => ?_⟩
      dsimp only at n1 n2 h2 ⊢
      by_cases e : (s.signs ++ [x]).length = 2
      · have n3 : ¬ sizeM { s with signs := s.signs ++ [x] } < 2 + s.chk := fun z => n1 ⟨e, .inr z⟩
        rcases n2 with n2 | n2
        · omega
        · exact ⟨by omega, n2⟩
      · have h3 := h.short ha (by omega)
        have e1 := sizeM_app x (s := s) (by omega)
        rcases n2 with n2 | n2
        · omega
        · exact ⟨by rw [e1]; exact h3.1, n2⟩
    · split
      · exact closed_ok h.kind h.chk
      · exact closed_ok h.kind h.chk
theorem stepM_ok {s : Sc} (x : Int) (h : ScOk s) : ScOk (stepM s x).1 := by
  unfold stepM
  split
  · exact more_ok (beginM_ok x h)
  · split
    · exact more_ok h
    · rename_i a e
      split
      · rename_i hx
        exact more_ok (knownM_ok h (by rw [e]; exact fun z => nomatch z) hx)
      · exact more_ok h

/-! ### feeding -/
theorem skip_feed : ∀ (xs : List Int) (s : Sc), s.at_ = none → (∀ x ∈ xs, x ≠ 1 ∧ x ≠ 2) → feedM s xs = ({ s with fed := s.fed + xs.length }, [])
  | [], s, _, _ => by
    show (s, []) = ({ s with fed := s.fed + ((0 : Nat) : Int) }, [])
    simp
  | x :: xs, s, h, hx => by
    have h1 := hx x (List.mem_cons_self ..)
    have e : stepM s x = ({ s with fed := s.fed + 1 }, []) := by
      unfold stepM
      rw [if_neg (by omega), h]
      simp [more, h]
    have ih := skip_feed xs { s with fed := s.fed + 1 } h fun y hy => hx y (List.mem_cons_of_mem _ hy)
    show ((feedM (stepM s x).1 xs).1, (stepM s x).2 ++ (feedM (stepM s x).1 xs).2) = _
    rw [e, ih]
    simp only [List.length_cons, List.append_nil]
    have : s.fed + 1 + (xs.length : Int) = s.fed + ((xs.length + 1 : Nat) : Int) := by omega
    rw [this]
theorem not_mark {x : Int} (h : plainI x) : ¬ (x = 1 ∨ x = 2) := by
  unfold plainI at h
  omega
theorem open_step {s : Sc} {a x : Int} (h : s.at_ = some a) (hx : plainI x) : stepM s x = more (knownM { s with signs := s.signs ++ [x] } a) := by
  unfold stepM
  rw [if_neg (not_mark hx), h]
  simp [hx]
theorem open_more {s : Sc} {a x : Int} (h : s.at_ = some a) (hx : plainI x) (h2 : 2 ≤ s.signs.length) (hl : (s.signs.length : Int) + 1 < 2 + sizeM s) :
    stepM s x = ({ s with signs := s.signs ++ [x], fed := s.fed + 1 }, []) := by
  rw [open_step h hx]
  unfold knownM
  have e : (s.signs ++ [x]).length = s.signs.length + 1 := by simp
  have e1 := sizeM_app x (s := s) (by omega)
  rw [if_neg (by dsimp only; omega), if_pos (by dsimp only; rw [e1]; omega)]
  rfl
theorem open_last {s : Sc} {a x : Int} (h : s.at_ = some a) (hx : plainI x) (h2 : 2 ≤ s.signs.length) (hl : (s.signs.length : Int) + 1 = 2 + sizeM s) :
    stepM s x = ({ s with signs := s.signs ++ [x], at_ := none, fed := s.fed + 1 }, [toldOf (readM { s with signs := s.signs ++ [x] }) a]) := by
  rw [open_step h hx]
  unfold knownM
  have e : (s.signs ++ [x]).length = s.signs.length + 1 := by simp
  have e1 := sizeM_app x (s := s) (by omega)
  rw [if_neg (by dsimp only; omega), if_neg (by dsimp only; rw [e1]; omega)]
  cases readM { s with signs := s.signs ++ [x] } <;> rfl
theorem open_feed : ∀ (ys : List Int) (s : Sc) (a : Int), s.at_ = some a → (∀ x ∈ ys, plainI x) → 2 ≤ s.signs.length → ys ≠ [] → (s.signs.length : Int) + ys.length = 2 + sizeM s →
    feedM s ys = ({ s with signs := s.signs ++ ys, at_ := none, fed := s.fed + ys.length }, [toldOf (readM { s with signs := s.signs ++ ys }) a])
  | [], _, _, _, _, _, h, _ => absurd rfl h
  | [x], s, a, h, hx, h2, _, hl => by
    have hl' : (s.signs.length : Int) + 1 = 2 + sizeM s := by simpa using hl
    have e := open_last h (hx x (List.mem_cons_self ..)) h2 hl'
    show ((stepM s x).1, (stepM s x).2 ++ []) = _
    rw [e]
    simp
  | x :: y :: r, s, a, h, hx, h2, _, hl => by
    have hl' : (s.signs.length : Int) + 1 < 2 + sizeM s := by
      simp only [List.length_cons] at hl
      omega
    have e := open_more h (hx x (List.mem_cons_self ..)) h2 hl'
    have e1 := sizeM_app x (s := s) (by omega)
    have ih := open_feed (y :: r) { s with signs := s.signs ++ [x], fed := s.fed + 1 } a h (fun z hz => hx z (List.mem_cons_of_mem _ hz)) (by simp; omega) (by simp) (by
      show ((s.signs ++ [x]).length : Int) + _ = 2 + sizeM { s with signs := s.signs ++ [x] }
      rw [e1]
      simp only [List.length_append, List.length_cons, List.length_nil] at hl ⊢
      omega)
    show ((feedM (stepM s x).1 (y :: r)).1, (stepM s x).2 ++ (feedM (stepM s x).1 (y :: r)).2) = _
    rw [e, ih]
    simp only [List.append_assoc, List.cons_append, List.nil_append]
    have : s.fed + 1 + ((y :: r).length : Int) = s.fed + ((x :: y :: r).length : Int) := by
      simp only [List.length_cons]
      omega
    rw [this]
    rfl
/-- a mark, then what its packet's first two signs say -/
theorem begun_feed {s : Sc} {m b0 b1 : Int} {rest : List Int} (h : s.at_ = none) (hm : m = 1 ∨ m = 2) (h0 : plainI b0) (h1 : plainI b1) :
    feedM s (m :: b0 :: b1 :: rest) =
      if (b0 - 32) + (b1 - 32) ≠ 94 ∨ b0 - 32 < 2 + ((if m = 2 then 1 else s.kind : Nat) : Int) then
        ((feedM { (beginM s m) with signs := [b0, b1], at_ := none, fed := s.fed + 3 } rest).1, .bad s.fed :: (feedM { (beginM s m) with signs := [b0, b1], at_ := none, fed := s.fed + 3 } rest).2)
      else feedM { (beginM s m) with signs := [b0, b1], fed := s.fed + 3 } rest := by
  have e1 : stepM s m = ({ (beginM s m) with fed := s.fed + 1 }, []) := by
    unfold stepM
    rw [if_pos hm, h]
    rfl
  have e2 : stepM { (beginM s m) with fed := s.fed + 1 } b0 = ({ (beginM s m) with signs := [b0], fed := s.fed + 2 }, []) := by
    rw [open_step (a := s.fed) rfl h0]
    unfold knownM
    rw [if_neg (by simp [beginM]), if_pos (by simp [beginM])]
    simp only [more, beginM, List.nil_append]
    have : s.fed + 1 + 1 = s.fed + 2 := by omega
    rw [this]
  have sz : ∀ s' : Sc, sizeM { s' with signs := [b0, b1] } = b0 - 32 := fun _ => numIn1 b0
  have tw : numIn (([b0, b1] : List Int).drop 1) = b1 - 32 := numIn1 b1
  have e3 : stepM { (beginM s m) with signs := [b0], fed := s.fed + 2 } b1 = more (knownM { (beginM s m) with signs := [b0, b1], fed := s.fed + 2 } s.fed) := open_step (a := s.fed) rfl h1
  have f3 : s.fed + 2 + 1 = s.fed + 3 := by omega
  by_cases c : (b0 - 32) + (b1 - 32) ≠ 94 ∨ b0 - 32 < 2 + ((if m = 2 then 1 else s.kind : Nat) : Int)
  · rw [if_pos c]
    have e4 : knownM { (beginM s m) with signs := [b0, b1], fed := s.fed + 2 } s.fed = ({ (beginM s m) with signs := [b0, b1], at_ := none, fed := s.fed + 2 }, [.bad s.fed]) := by
      unfold knownM
      rw [if_pos]
      refine ⟨rfl, ?_⟩
      rw [sz { (beginM s m) with fed := s.fed + 2 }]
      dsimp only
      rw [tw]
      exact c
    simp only [feedM, e1, e2, e3, e4, more, f3, List.nil_append, List.cons_append]
  · rw [if_neg c]
    have e4 : knownM { (beginM s m) with signs := [b0, b1], fed := s.fed + 2 } s.fed = ({ (beginM s m) with signs := [b0, b1], fed := s.fed + 2 }, []) := by
      unfold knownM
      rw [if_neg, if_pos]
      · right
        rw [sz { (beginM s m) with fed := s.fed + 2 }]
        dsimp only [List.length_cons, List.length_nil]
        unfold plainI at h0
        omega
      · rintro ⟨-, q⟩
        rw [sz { (beginM s m) with fed := s.fed + 2 }] at q
        dsimp only at q
        rw [tw] at q
        exact c q
    simp only [feedM, e1, e2, e3, e4, more, f3, List.nil_append]

/-! ### what a packet's signs tell a scanner at rest -/
def Tells (k : Nat) (seen : List Int) (told : Int → List Told) (size : Int) : Prop :=
  ∀ s : Sc, ScOk s → s.at_ = none → s.kind = k → ∃ s' : Sc, feedM s seen = (s', told s.fed) ∧ ScOk s' ∧ s'.at_ = none ∧ s'.kind = k ∧ s'.fed = s.fed + size
theorem Tells.skip {k : Nat} {xs : List Int} (h : ∀ x ∈ xs, x ≠ 1 ∧ x ≠ 2) : Tells k xs (fun _ => []) xs.length := fun s o c e =>
  ⟨_, skip_feed xs s c h, ⟨o.kind, o.chk, o.plain, o.short⟩, c, e, rfl⟩
theorem Tells.append {k : Nat} {xs ys : List Int} {t u : Int → List Told} {n m : Int} (a : Tells k xs t n) (b : Tells k ys u m) : Tells k (xs ++ ys) (fun f => t f ++ u (f + n)) (n + m) := fun s o c e => by
  obtain ⟨s1, e1, o1, c1, k1, f1⟩ := a s o c e
  obtain ⟨s2, e2, o2, c2, k2, f2⟩ := b s1 o1 c1 k1
  refine ⟨s2, ?_, o2, c2, k2, by omega⟩
  rw [feedM_append, e1]
  dsimp only
  rw [e2, f1]
theorem Tells.bad2 {k : Nat} {m b0 b1 : Int} {rest : List Int} (hm : m = 1 ∨ m = 2) (hp : ∀ x ∈ b0 :: b1 :: rest, plainI x) (h : (b0 - 32) + (b1 - 32) ≠ 94) :
    Tells k (m :: b0 :: b1 :: rest) (fun f => [.bad f]) ((m :: b0 :: b1 :: rest).length) := fun s o c e => by
  have h0 := hp b0 (by simp)
  have h1 := hp b1 (by simp)
  have hr : ∀ x ∈ rest, plainI x := fun x hx => hp x (by simp [hx])
  have f := begun_feed (rest := rest) c hm h0 h1
  rw [if_pos (.inl h)] at f
  have g := skip_feed rest { (beginM s m) with signs := [b0, b1], at_ := none, fed := s.fed + 3 } rfl fun x hx => by
    have := not_mark (hr x hx)
    exact ⟨fun z => this (.inl z), fun z => this (.inr z)⟩
  rw [g] at f
  have ob := beginM_ok m o
  refine ⟨_, f, ?_, rfl, e, ?_⟩
  · exact ⟨ob.kind, ob.chk, fun z => absurd rfl z, fun z => absurd rfl z⟩
  · dsimp only [List.length_cons]
    omega
theorem Tells.whole {k : Nat} {m b0 b1 : Int} {rest : List Int} (hm : m = 1 ∨ m = 2) (hp : ∀ x ∈ b0 :: b1 :: rest, plainI x) (h : (b0 - 32) + (b1 - 32) = 94) (hs : 2 + ((if m = 2 then 1 else k : Nat) : Int) ≤ b0 - 32)
    (hl : (rest.length : Int) = b0 - 32) (r : Option Pk) (hr : ∀ s : Sc, s.mark = m → s.chk = (if m = 2 then 1 else k) → s.signs = b0 :: b1 :: rest → readM s = r) :
    Tells k (m :: b0 :: b1 :: rest) (fun f => [toldOf r f]) ((m :: b0 :: b1 :: rest).length) := fun s o c e => by
  have h0 := hp b0 (by simp)
  have h1 := hp b1 (by simp)
  have hq : ∀ x ∈ rest, plainI x := fun x hx => hp x (by simp [hx])
  subst e
  have f := begun_feed (rest := rest) c hm h0 h1
  have nc : ¬ ((b0 - 32) + (b1 - 32) ≠ 94 ∨ b0 - 32 < 2 + ((if m = 2 then 1 else s.kind : Nat) : Int)) := by omega
  rw [if_neg nc] at f
  have hne : rest ≠ [] := fun z => by
    rw [z] at hl
    simp only [List.length_nil] at hl
    omega
  have sz : sizeM { (beginM s m) with signs := [b0, b1], fed := s.fed + 3 } = b0 - 32 := numIn1 b0
  have g := open_feed rest { (beginM s m) with signs := [b0, b1], fed := s.fed + 3 } s.fed rfl hq (by simp) hne (by
    rw [sz]
    simp only [List.length_cons, List.length_nil]
    omega)
  have er : readM { (beginM s m) with signs := b0 :: b1 :: rest, fed := s.fed + 3 } = r := hr _ rfl rfl rfl
  have g' : feedM { (beginM s m) with signs := [b0, b1], fed := s.fed + 3 } rest = ({ (beginM s m) with signs := b0 :: b1 :: rest, at_ := none, fed := s.fed + 3 + rest.length }, [toldOf (readM { (beginM s m) with signs := b0 :: b1 :: rest, fed := s.fed + 3 }) s.fed]) := g
  rw [er] at g'
  rw [g'] at f
  have ob := beginM_ok m o
  refine ⟨{ (beginM s m) with signs := b0 :: b1 :: rest, at_ := none, fed := s.fed + 3 + rest.length }, f, ?_, rfl, rfl, ?_⟩
  · exact ⟨ob.kind, ob.chk, fun z => absurd rfl z, fun z => absurd rfl z⟩
  · dsimp only [List.length_cons]
    omega
end K38
end

section
set_option autoImplicit false
/-! The plain law, part two: deeds of the line. No program in sight. -/
namespace K38
inductive Deed where
  | pass
  | drop
  | twice
  | late (t : Int)
  | spoil (place by_ : Int)
  | add (xs : List Int)
def DeedOk (late : Int) : Deed → Prop
  | .late t => 1 ≤ t ∧ t ≤ late
  | .spoil p b => (0 ≤ p ∧ p ≤ 200) ∧ 1 ≤ b ∧ b ≤ 94
  | .add xs => (1 ≤ xs.length ∧ xs.length ≤ 8) ∧ ∀ x ∈ xs, (0 ≤ x ∧ x ≤ 255) ∧ x ≠ 1 ∧ x ≠ 2
  | _ => True
def valAt (xs : List Int) (i : Nat) : Int := if plainI (xs.getD i 0) then xs.getD i 0 - 32 else 0
def spoilAt (xs : List Int) (place by_ : Int) : List Int :=
  xs.take (place % xs.length).toNat ++ wr 1 ((valAt xs (place % xs.length).toNat + by_) % 95) ++ xs.drop ((place % xs.length).toNat + 1)
def seenOf : Deed → List Int → List Int
  | .spoil p b, xs => spoilAt xs p b
  | .add ys, xs => ys ++ xs
  | _, xs => xs
def lateOf : Deed → Int
  | .late t => t
  | _ => 0
def timesOf : Deed → Nat
  | .drop => 0
  | .twice => 2
  | _ => 1
theorem spoilAt_len {xs : List Int} (p b : Int) (h : 1 ≤ xs.length) : (spoilAt xs p b).length = xs.length := by
  have h1 := Int.emod_nonneg p (b := (xs.length : Int)) (by omega)
  have h2 := Int.emod_lt_of_pos p (b := (xs.length : Int)) (by omega)
  unfold spoilAt
  simp only [List.length_append, List.length_take, List.length_drop, wr_len]
  omega
theorem spoilAt_at {xs : List Int} (p b : Int) {i : Nat} (h : 1 ≤ xs.length) (e : (p % xs.length).toNat = i) : spoilAt xs p b = xs.set i (32 + (valAt xs i + b) % 95 % 95) := by
  have h1 := Int.emod_nonneg p (b := (xs.length : Int)) (by omega)
  have h2 := Int.emod_lt_of_pos p (b := (xs.length : Int)) (by omega)
  have hi : i < xs.length := by omega
  unfold spoilAt
  rw [e, wr1, List.set_eq_take_append_cons_drop, if_pos hi, List.append_assoc]
  rfl
/-- what is under way on the line -/
structure Fly where
  come : Int
  side : Bool
  seen : List Int
def goesOf (side : Bool) : Int := if side then 1 else 0
def flyOf (d : Deed) (turn : Int) (side : Bool) (xs : List Int) : Fly := ⟨turn + goesOf side + lateOf d, side, seenOf d xs⟩
def dueB (side : Bool) (turn : Int) (f : Fly) : Bool := f.side == side && decide (f.come ≤ turn)
/-- what the book notes: nothing, a bad one or a good one, signs ahead of it, signs in all -/
structure Bk where
  told : Option (Option Pk)
  ahead : Int
  size : Int
def rowsOf (d : Deed) (p : Pk) (n : Int) : List Bk := match d with
  | .drop => []
  | .twice => [⟨some (some p), 0, n⟩, ⟨some (some p), 0, n⟩]
  | .add xs => [⟨some (some p), xs.length, n + xs.length⟩]
  | .spoil pl _ => [⟨if pl % n = 0 then none else some none, 0, n⟩]
  | _ => [⟨some (some p), 0, n⟩]
/-- a row of the book and what flies for it -/
structure Rec where
  fly : Fly
  bk : Bk
def toldsOf (b : Bk) (f : Int) : List Told := match b.told with
  | none => []
  | some none => [.bad (f + b.ahead)]
  | some (some p) => [.good p (f + b.ahead)]
def dueOf : Int → List Rec → List Told
  | _, [] => []
  | f, r :: rs => toldsOf r.bk f ++ dueOf (f + r.bk.size) rs
def fedOf : Int → List Rec → Int
  | f, [] => f
  | f, r :: rs => fedOf (f + r.bk.size) rs
def TellsR (k : Nat) (r : Rec) : Prop := Tells k r.fly.seen (toldsOf r.bk) r.bk.size
theorem tells_all {k : Nat} : ∀ (rs : List Rec), (∀ r ∈ rs, TellsR k r) → ∀ s : Sc, ScOk s → s.at_ = none → s.kind = k →
    ∃ s' : Sc, feedM s (rs.flatMap fun r => r.fly.seen) = (s', dueOf s.fed rs) ∧ ScOk s' ∧ s'.at_ = none ∧ s'.kind = k ∧ s'.fed = fedOf s.fed rs
  | [], _, s, o, c, e => ⟨s, rfl, o, c, e, rfl⟩
  | r :: rs, h, s, o, c, e => by
    obtain ⟨s1, e1, o1, c1, k1, f1⟩ := h r (List.mem_cons_self ..) s o c e
    obtain ⟨s2, e2, o2, c2, k2, f2⟩ := tells_all rs (fun r' hr => h r' (List.mem_cons_of_mem _ hr)) s1 o1 c1 k1
    refine ⟨s2, ?_, o2, c2, k2, by rw [f2, f1]; rfl⟩
    rw [List.flatMap_cons, feedM_append, e1]
    dsimp only
    rw [e2, f1]
    rfl
theorem dueOf_app (f : Int) : ∀ (rs ts : List Rec), dueOf f (rs ++ ts) = dueOf f rs ++ dueOf (fedOf f rs) ts := by
  intro rs
  induction rs generalizing f with
  | nil => intro ts; rfl
  | cons r rs ih =>
    intro ts
    show toldsOf r.bk f ++ dueOf (f + r.bk.size) (rs ++ ts) = (toldsOf r.bk f ++ dueOf (f + r.bk.size) rs) ++ dueOf (fedOf (f + r.bk.size) rs) ts
    rw [ih, List.append_assoc]
theorem fedOf_app (f : Int) : ∀ (rs ts : List Rec), fedOf f (rs ++ ts) = fedOf (fedOf f rs) ts := by
  intro rs
  induction rs generalizing f with
  | nil => intro ts; rfl
  | cons r rs ih => intro ts; exact ih _ ts

/-! ### what each deed's signs tell -/
section
variable {p : Pk} {k : Nat}
theorem checkOf_le {c : Nat} (hk : 1 ≤ k ∧ k ≤ 3) : 1 ≤ checkOf c k ∧ checkOf c k ≤ 3 := by
  unfold checkOf
  split <;> omega
theorem mark_or (c : Nat) : markOf c = 1 ∨ markOf c = 2 := by
  unfold markOf
  split
  · exact .inr rfl
  · exact .inl rfl
theorem mark_check (c : Nat) : (if markOf c = 2 then 1 else k) = checkOf c k := by
  unfold markOf checkOf
  by_cases h : c ∈ opening
  · simp [h]
  · simp [h]
theorem letter_plain {c : Nat} (h : c ∈ letters) : plainI (c : Int) := by
  revert c
  unfold plainI letters
  decide
theorem letterOf_mark {c : Nat} (h : c ∈ letters) : letterOf (c : Int) (markOf c) = some c := by
  revert c
  unfold letters
  decide
/-- the signs of a packet behind its mark -/
def szOf (p : Pk) (k : Nat) : Int := 2 + p.data.length + checkOf p.let_ k
theorem row_eq : rowOf p (checkOf p.let_ k) = (32 + szOf p k % 95) :: (32 + (94 - szOf p k) % 95) :: (32 + p.num % 95) :: (p.let_ : Int) :: p.data := by
  unfold rowOf szOf
  simp [wr1]
theorem row_len : (rowOf p (checkOf p.let_ k)).length = 4 + p.data.length := by
  rw [row_eq]
  simp
  omega
theorem body_len (hk : 1 ≤ k) (hp : PkOk p) : (bodyOf p k).length = 4 + p.data.length + checkOf p.let_ k := by
  unfold bodyOf
  rw [List.length_append, row_len, chk_len _ _ (by unfold checkOf; split <;> omega)]
theorem row_plain (hp : PkOk p) : ∀ x ∈ rowOf p (checkOf p.let_ k), plainI x := by
  rw [row_eq]
  intro x hx
  simp only [List.mem_cons] at hx
  rcases hx with rfl | rfl | rfl | rfl | hx
  · unfold plainI; omega
  · unfold plainI; omega
  · unfold plainI; omega
  · exact letter_plain hp.let_
  · exact hp.data x hx
theorem body_plain (hp : PkOk p) : ∀ x ∈ bodyOf p k, plainI x := fun x hx => by
  unfold bodyOf at hx
  rcases List.mem_append.mp hx with hx | hx
  · exact row_plain hp x hx
  · exact chk_plain _ _ x hx
theorem body_eq : ∃ rest, bodyOf p k = (32 + szOf p k % 95) :: (32 + (94 - szOf p k) % 95) :: rest ∧ rest = (32 + p.num % 95) :: (p.let_ : Int) :: (p.data ++ chk (rowOf p (checkOf p.let_ k)) (checkOf p.let_ k)) :=
  ⟨_, by unfold bodyOf; conv => lhs; lhs; rw [row_eq]
         rfl, rfl⟩
theorem sz_bd (hp : PkOk p) (hk : 1 ≤ k ∧ k ≤ 3) : 3 ≤ szOf p k ∧ szOf p k ≤ 94 := by
  have h := checkOf_le (c := p.let_) hk
  have h2 := hp.len
  unfold szOf
  omega
theorem put_len (hk : 1 ≤ k) (hp : PkOk p) : (putAs p k).length = 5 + p.data.length + checkOf p.let_ k := by
  unfold putAs
  rw [List.length_cons, body_len hk hp]
  omega
theorem cut_body (hk : 1 ≤ k) (hp : PkOk p) {row tail : List Int} (h : tail.length = checkOf p.let_ k) : cutLast (row ++ tail) (checkOf p.let_ k) = row ∧ (row ++ tail).drop ((row ++ tail).length - checkOf p.let_ k) = tail := by
  unfold cutLast
  rw [List.length_append, h, Nat.add_sub_cancel]
  exact ⟨List.take_left, List.drop_left⟩
theorem tells_good (hp : PkOk p) (hk : 1 ≤ k ∧ k ≤ 3) : Tells k (putAs p k) (fun f => [.good p f]) (putAs p k).length := by
  obtain ⟨rest, e, er⟩ := body_eq (p := p) (k := k)
  have hs := sz_bd hp hk
  have hc := checkOf_le (c := p.let_) hk
  have hl := body_len hk.1 hp
  have e0 : putAs p k = markOf p.let_ :: (32 + szOf p k % 95) :: (32 + (94 - szOf p k) % 95) :: rest := by
    unfold putAs
    rw [e]
  rw [e, List.length_cons, List.length_cons] at hl
  have hpl := body_plain (k := k) hp
  rw [e0]
  refine Tells.whole (r := some p) (mark_or _) (by rw [← e]; exact hpl) (by omega) ?_ ?_ fun s hm hck hsg => ?_
  · rw [mark_check]
    unfold szOf at hs ⊢
    omega
  · unfold szOf at hs ⊢
    omega
  · rw [mark_check] at hck
    have hsg' : s.signs = rowOf p (checkOf p.let_ k) ++ chk (rowOf p (checkOf p.let_ k)) (checkOf p.let_ k) := by rw [hsg, ← e]; rfl
    obtain ⟨c1, c2⟩ := cut_body hk.1 hp (row := rowOf p (checkOf p.let_ k)) (chk_len (rowOf p (checkOf p.let_ k)) _ hc.1)
    have hn := hp.num
    unfold readM
    rw [hck, hsg']
    dsimp only
    rw [c1, c2, hm]
    have g3 : (rowOf p (checkOf p.let_ k)).getD 3 0 = (p.let_ : Int) := by rw [row_eq]; rfl
    have g2 : numIn (((rowOf p (checkOf p.let_ k)).drop 2).take 1) = p.num := by
      rw [row_eq]
      show numIn [32 + p.num % 95] = p.num
      rw [numIn1]
      omega
    have g4 : (rowOf p (checkOf p.let_ k)).drop 4 = p.data := by rw [row_eq]; rfl
    rw [g3, g2, g4, letterOf_mark hp.let_]
    dsimp only
    rw [if_neg (by omega), if_pos rfl]
/-- one sign of the body changed -/
theorem tells_spoiled (hp : PkOk p) (hk : 1 ≤ k ∧ k ≤ 3) {j : Nat} {x : Int} (hj : j < (bodyOf p k).length) (hx : plainI x) (hne : x ≠ (bodyOf p k)[j]) :
    Tells k (markOf p.let_ :: (bodyOf p k).set j x) (fun f => [.bad f]) (putAs p k).length := by
  obtain ⟨rest, e, er⟩ := body_eq (p := p) (k := k)
  have hs := sz_bd hp hk
  have hc := checkOf_le (c := p.let_) hk
  have hl := body_len hk.1 hp
  have hpl := body_plain (k := k) hp
  have hlen : ((putAs p k).length : Int) = ((markOf p.let_ :: (bodyOf p k).set j x).length : Nat) := by simp [putAs]
  rw [hlen]
  have hpx : ∀ y ∈ (bodyOf p k).set j x, plainI y := fun y hy => by
    rcases List.mem_or_eq_of_mem_set hy with h | rfl
    · exact hpl y h
    · exact hx
  match j, hj, hne with
  | 0, hj, hne =>
    have e1 : (bodyOf p k).set 0 x = x :: (32 + (94 - szOf p k) % 95) :: rest := by rw [e]; rfl
    have e2 : (bodyOf p k)[0] = 32 + szOf p k % 95 := by simp only [e, List.getElem_cons_zero]
    rw [e2] at hne
    rw [e1] at hpx ⊢
    refine Tells.bad2 (mark_or _) hpx ?_
    unfold plainI at hx
    omega
  | 1, hj, hne =>
    have e1 : (bodyOf p k).set 1 x = (32 + szOf p k % 95) :: x :: rest := by rw [e]; rfl
    have e2 : (bodyOf p k)[1] = 32 + (94 - szOf p k) % 95 := by simp only [e, List.getElem_cons_succ, List.getElem_cons_zero]
    rw [e2] at hne
    rw [e1] at hpx ⊢
    refine Tells.bad2 (mark_or _) hpx ?_
    unfold plainI at hx
    omega
  | j + 2, hj, hne =>
    have e1 : (bodyOf p k).set (j + 2) x = (32 + szOf p k % 95) :: (32 + (94 - szOf p k) % 95) :: rest.set j x := by rw [e]; rfl
    have hl2 := hl
    rw [e, List.length_cons, List.length_cons] at hl2
    rw [e1] at hpx ⊢
    refine Tells.whole (r := none) (mark_or _) hpx (by omega) ?_ ?_ fun s hm hck hsg => ?_
    · rw [mark_check]
      unfold szOf at hs ⊢
      omega
    · rw [List.length_set]
      unfold szOf at hs ⊢
      omega
    · rw [mark_check] at hck
      rw [← e1] at hsg
      have hrl := row_len (p := p) (k := k)
      have hcl := chk_len (rowOf p (checkOf p.let_ k)) _ hc.1
      have key : ∃ row tail, s.signs = row ++ tail ∧ tail.length = checkOf p.let_ k ∧ chk row (checkOf p.let_ k) ≠ tail := by
        by_cases hr : j + 2 < (rowOf p (checkOf p.let_ k)).length
        · refine ⟨(rowOf p (checkOf p.let_ k)).set (j + 2) x, chk (rowOf p (checkOf p.let_ k)) (checkOf p.let_ k), ?_, hcl, ?_⟩
          · rw [hsg]
            unfold bodyOf
            rw [List.set_append_left _ _ hr]
          · have eb : (bodyOf p k)[j + 2] = (rowOf p (checkOf p.let_ k))[j + 2] := List.getElem_append_left hr
            rw [eb] at hne
            exact chk_set _ _ _ _ (by omega) hr (row_plain hp _ (List.getElem_mem hr)) hx hne
        · refine ⟨rowOf p (checkOf p.let_ k), (chk (rowOf p (checkOf p.let_ k)) (checkOf p.let_ k)).set (j + 2 - (rowOf p (checkOf p.let_ k)).length) x, ?_, by rw [List.length_set]; exact hcl, ?_⟩
          · rw [hsg]
            unfold bodyOf
            rw [List.set_append_right _ _ (by omega)]
          · intro z
            have hi : j + 2 - (rowOf p (checkOf p.let_ k)).length < (chk (rowOf p (checkOf p.let_ k)) (checkOf p.let_ k)).length := by omega
            have eb : (bodyOf p k)[j + 2] = (chk (rowOf p (checkOf p.let_ k)) (checkOf p.let_ k))[j + 2 - (rowOf p (checkOf p.let_ k)).length] := List.getElem_append_right (by omega)
            have : (chk (rowOf p (checkOf p.let_ k)) (checkOf p.let_ k))[j + 2 - (rowOf p (checkOf p.let_ k)).length]? = some x := by
              rw [z, List.getElem?_set_self (by simpa using hi)]
            rw [List.getElem?_eq_getElem hi] at this
            exact hne (by rw [eb]; exact (Option.some.inj this).symm)
      obtain ⟨row, tail, h1, h2, h3⟩ := key
      obtain ⟨c1, c2⟩ := cut_body hk.1 hp (row := row) h2
      unfold readM
      rw [hck, h1]
      dsimp only
      rw [c1, c2]
      cases letterOf (row.getD 3 0) s.mark with
      | none => rfl
      | some c =>
        dsimp only
        rw [if_neg h3]
        split <;> rfl
theorem tells_deed {late : Int} {d : Deed} (hp : PkOk p) (hk : 1 ≤ k ∧ k ≤ 3) (hd : DeedOk late d) : ∀ b ∈ rowsOf d p (putAs p k).length, Tells k (seenOf d (putAs p k)) (toldsOf b) b.size := by
  have good : Tells k (putAs p k) (toldsOf ⟨some (some p), 0, (putAs p k).length⟩) (putAs p k).length := by
    have e : toldsOf ⟨some (some p), 0, (putAs p k).length⟩ = fun f => [Told.good p f] := by
      funext f
      show [Told.good p (f + 0)] = _
      rw [Int.add_zero]
    rw [e]
    exact tells_good hp hk
  cases d with
  | pass => intro b hb; rw [List.mem_singleton.mp hb]; exact good
  | late t => intro b hb; rw [List.mem_singleton.mp hb]; exact good
  | drop => intro b hb; exact absurd hb List.not_mem_nil
  | twice =>
    intro b hb
    have hb : b ∈ [(⟨some (some p), 0, (putAs p k).length⟩ : Bk), ⟨some (some p), 0, (putAs p k).length⟩] := hb
    have e : b = ⟨some (some p), 0, (putAs p k).length⟩ := by simpa using hb
    rw [e]
    exact good
  | add xs =>
    intro b hb
    rw [List.mem_singleton.mp hb]
    have hd : (1 ≤ xs.length ∧ xs.length ≤ 8) ∧ ∀ x ∈ xs, (0 ≤ x ∧ x ≤ 255) ∧ x ≠ 1 ∧ x ≠ 2 := hd
    have sk := Tells.skip (k := k) (xs := xs) fun x hx => (hd.2 x hx).2
    have ap := sk.append (tells_good hp hk)
    have e : toldsOf ⟨some (some p), xs.length, (putAs p k).length + xs.length⟩ = fun f => ([] : List Told) ++ [Told.good p (f + xs.length)] := by
      funext f
      rfl
    rw [e]
    have e2 : ((putAs p k).length + (xs.length : Nat) : Int) = ((xs.length : Nat) : Int) + ((putAs p k).length : Nat) := Int.add_comm _ _
    show Tells k (xs ++ putAs p k) _ ((putAs p k).length + (xs.length : Nat) : Int)
    rw [e2]
    exact ap
  | spoil pl by_ =>
    intro b hb
    rw [List.mem_singleton.mp hb]
    have hd : (0 ≤ pl ∧ pl ≤ 200) ∧ 1 ≤ by_ ∧ by_ ≤ 94 := hd
    have hn := put_len hk.1 hp
    have h1 := Int.emod_nonneg pl (b := ((putAs p k).length : Int)) (by omega)
    have h2 := Int.emod_lt_of_pos pl (b := ((putAs p k).length : Int)) (by omega)
    obtain ⟨i, hi⟩ : ∃ i : Nat, pl % ((putAs p k).length : Int) = i := ⟨_, (Int.toNat_of_nonneg h1).symm⟩
    have es := spoilAt_at (xs := putAs p k) pl by_ (i := i) (by omega) (by rw [hi]; rfl)
    show Tells k (spoilAt (putAs p k) pl by_) (toldsOf ⟨if pl % ((putAs p k).length : Int) = 0 then none else some none, 0, (putAs p k).length⟩) (putAs p k).length
    rw [es, hi]
    match i, hi with
    | 0, hi =>
      rw [if_pos (show ((0 : Nat) : Int) = 0 from rfl)]
      have ev : valAt (putAs p k) 0 = 0 := by
        unfold valAt
        rw [if_neg]
        show ¬ plainI (markOf p.let_)
        unfold plainI
        have := mark_or p.let_
        omega
      rw [ev]
      have el : (((putAs p k).set 0 (32 + (0 + by_) % 95 % 95)).length : Int) = (putAs p k).length := by rw [List.length_set]
      rw [← el]
      refine Tells.skip fun x hx => ?_
      have hx' : x = 32 + (0 + by_) % 95 % 95 ∨ x ∈ bodyOf p k := List.mem_cons.mp hx
      rcases hx' with rfl | hx'
      · omega
      · have := body_plain hp x hx'
        unfold plainI at this
        omega
    | j + 1, hi =>
      rw [if_neg (by omega)]
      have hj : j < (bodyOf p k).length := by
        have := body_len hk.1 hp
        omega
      have hb := body_plain (k := k) hp _ (List.getElem_mem hj)
      have ev : valAt (putAs p k) (j + 1) = (bodyOf p k)[j] - 32 := by
        unfold valAt
        have eg : (putAs p k).getD (j + 1) 0 = (bodyOf p k)[j] := by
          show (bodyOf p k).getD j 0 = _
          rw [List.getD_eq_getElem?_getD, List.getElem?_eq_getElem hj]
          rfl
        rw [eg, if_pos hb]
      rw [ev]
      have e : toldsOf ⟨some none, 0, (putAs p k).length⟩ = fun f => [Told.bad f] := by
        funext f
        show [Told.bad (f + 0)] = _
        rw [Int.add_zero]
      rw [e]
      refine tells_spoiled hp hk hj ?_ ?_
      · unfold plainI
        omega
      · unfold plainI at hb
        omega
end
end K38
end

section
set_option autoImplicit false
/-! A list in order by a key is its buckets, one behind the other. No program in sight. -/
namespace K38
section
variable {α : Type}
theorem sort_next {k : α → Int} (n : Int) : ∀ (xs : List α), xs.Pairwise (fun y z => k y ≤ k z) →
    xs.filter (fun y => decide (k y < n + 1)) = xs.filter (fun y => decide (k y < n)) ++ xs.filter (fun y => k y == n)
  | [], _ => rfl
  | y :: ys, h => by
    obtain ⟨h1, h2⟩ := List.pairwise_cons.mp h
    have ih := sort_next n ys h2
    have none_of : n ≤ k y → ys.filter (fun z => decide (k z < n)) = [] := fun hn => by
      rw [List.filter_eq_nil_iff]
      intro z hz
      have := h1 z hz
      simp
      omega
    simp only [List.filter_cons]
    by_cases a : k y < n
    · have b : k y < n + 1 := by omega
      have c : (k y == n) = false := by simp; omega
      simp only [a, b, c, decide_true, if_true, List.cons_append, ih]
      rfl
    · by_cases b : k y = n
      · have b1 : k y < n + 1 := by omega
        have e := none_of (by omega)
        rw [ih, e]
        simp [b]
        omega
      · have b1 : ¬ k y < n + 1 := by omega
        have e := none_of (by omega)
        have c : (k y == n) = false := by simp [b]
        rw [ih, e]
        simp [a, b1, c]
theorem buckets {k : α → Int} {xs : List α} (h : xs.Pairwise (fun y z => k y ≤ k z)) (h0 : ∀ y ∈ xs, 0 ≤ k y) : ∀ n : Nat,
    xs.filter (fun y => decide (k y < (n : Int))) = (List.range n).flatMap fun c : Nat => xs.filter (fun y => k y == (c : Int))
  | 0 => by
    rw [List.range_zero, List.flatMap_nil, List.filter_eq_nil_iff]
    intro y hy
    have := h0 y hy
    simp
    omega
  | n + 1 => by
    have e : ((n + 1 : Nat) : Int) = (n : Int) + 1 := by omega
    rw [e, sort_next (n : Int) xs h, buckets h h0 n, List.range_succ, List.flatMap_append]
    simp
theorem sorted_is {k : α → Int} {xs out : List α} {n : Nat} (hp : out.Pairwise (fun y z => k y ≤ k z)) (pm : out.Perm xs) (hf : ∀ c, out.filter (fun y => k y == c) = xs.filter (fun y => k y == c)) (h0 : ∀ y ∈ xs, 0 ≤ k y ∧ k y < (n : Int)) :
    out = (List.range n).flatMap fun c : Nat => xs.filter (fun y => k y == (c : Int)) := by
  have b := buckets hp (fun y hy => (h0 y (pm.mem_iff.mp hy)).1) n
  have e : out.filter (fun y => decide (k y < (n : Int))) = out := by
    rw [List.filter_eq_self]
    intro y hy
    simp [(h0 y (pm.mem_iff.mp hy)).2]
  rw [← e, b]
  congr 1
  funext c
  exact hf c
end
end K38
end

section
set_option autoImplicit false
/-! The book's rows in order of coming. No program in sight. -/
namespace K38
section
variable {α : Type}
theorem split_len (k : α → Int) (n : Nat) : ∀ xs : List α, (xs.filter fun y => decide (0 ≤ k y ∧ k y < ((n + 1 : Nat) : Int))).length = (xs.filter fun y => decide (0 ≤ k y ∧ k y < (n : Int))).length + (xs.filter fun y => k y == (n : Int)).length
  | [] => rfl
  | y :: ys => by
    have ih := split_len k n ys
    simp only [List.filter_cons]
    by_cases a : 0 ≤ k y ∧ k y < (n : Int)
    · have b : 0 ≤ k y ∧ k y < ((n + 1 : Nat) : Int) := by omega
      have c : (k y == (n : Int)) = false := by simp; omega
      rw [if_pos (decide_eq_true b), if_pos (decide_eq_true a), if_neg (by rw [c]; exact Bool.false_ne_true), List.length_cons, List.length_cons, ih]
      omega
    · by_cases e : k y = n
      · have b : 0 ≤ k y ∧ k y < ((n + 1 : Nat) : Int) := by omega
        have c : (k y == (n : Int)) = true := by simp [e]
        rw [if_pos (decide_eq_true b), if_neg (by rw [decide_eq_false a]; exact Bool.false_ne_true), if_pos c, List.length_cons, List.length_cons, ih]
        omega
      · have b : ¬ (0 ≤ k y ∧ k y < ((n + 1 : Nat) : Int)) := by omega
        have c : ¬ (k y == (n : Int)) = true := by simp [e]
        rw [if_neg (by rw [decide_eq_false b]; exact Bool.false_ne_true), if_neg (by rw [decide_eq_false a]; exact Bool.false_ne_true), if_neg c, ih]
theorem bucket_len (k : α → Int) (xs : List α) : ∀ n : Nat, ((List.range n).flatMap fun c : Nat => xs.filter fun y => k y == (c : Int)).length = (xs.filter fun y => decide (0 ≤ k y ∧ k y < (n : Int))).length
  | 0 => by
    have e : (xs.filter fun y => decide (0 ≤ k y ∧ k y < ((0 : Nat) : Int))) = [] := by
      rw [List.filter_eq_nil_iff]
      intro y _
      simp
    rw [e]
    rfl
  | n + 1 => by
    rw [split_len, ← bucket_len k xs n, List.range_succ, List.flatMap_append, List.length_append]
    simp
theorem bucket_le (k : α → Int) (xs : List α) (n : Nat) : ((List.range n).flatMap fun c : Nat => xs.filter fun y => k y == (c : Int)).length ≤ xs.length := by
  rw [bucket_len]
  exact List.length_filter_le _ _
end
/-- the rows that are due at a side, in order of coming -/
def picks (side : Bool) (c : Int) (R : List Rec) : List Rec := R.filter fun r => r.fly.come == c && r.fly.side == side
def doneTo (side : Bool) (n : Nat) (R : List Rec) : List Rec := (List.range n).flatMap fun c : Nat => picks side c R
def outFly (side : Bool) (n : Nat) (fs : List Fly) : List Fly := (List.range (n + 1)).flatMap fun c : Nat => (fs.filter (dueB side n)).filter fun f => f.come == (c : Int)
theorem done_fly (side : Bool) (n : Nat) (R : List Rec) : (doneTo side (n + 1) R).map (·.fly) = outFly side n (R.map (·.fly)) := by
  unfold doneTo outFly
  rw [List.map_flatMap]
  have e : ∀ cs : List Nat, (∀ c ∈ cs, c ≤ n) → (cs.flatMap fun c : Nat => (picks side (c : Int) R).map (·.fly)) = cs.flatMap fun c : Nat => ((R.map (·.fly)).filter (dueB side n)).filter fun f => f.come == (c : Int) := by
    intro cs
    induction cs with
    | nil => intro _; rfl
    | cons c cs ih =>
      intro h
      rw [List.flatMap_cons, List.flatMap_cons, ih fun d hd => h d (List.mem_cons_of_mem _ hd)]
      congr 1
      have hc := h c (List.mem_cons_self ..)
      rw [List.filter_filter, List.filter_map]
      unfold picks
      congr 1
      apply List.filter_congr
      intro r _
      show (r.fly.come == (c : Int) && r.fly.side == side) = (r.fly.come == (c : Int) && (r.fly.side == side && decide (r.fly.come ≤ (n : Int))))
      by_cases e : r.fly.come = (c : Int)
      · rw [e, decide_eq_true (by omega : (c : Int) ≤ (n : Int)), Bool.and_true]
      · have : (r.fly.come == (c : Int)) = false := by simp [e]
        rw [this]
        rfl
  exact e _ fun c hc => by
    have := List.mem_range.mp hc
    omega
theorem done_le (side : Bool) (n : Nat) (R : List Rec) : (doneTo side (n + 1) R).length ≤ R.length := by
  have h : (doneTo side (n + 1) R).length = ((doneTo side (n + 1) R).map (·.fly)).length := by rw [List.length_map]
  rw [h, done_fly]
  unfold outFly
  refine Nat.le_trans (bucket_le Fly.come _ _) (Nat.le_trans (List.length_filter_le _ _) ?_)
  rw [List.length_map]
  exact Nat.le_refl _
theorem done_mem {side : Bool} {n : Nat} {R : List Rec} {r : Rec} (h : r ∈ doneTo side n R) : r ∈ R := by
  obtain ⟨c, _, h⟩ := List.mem_flatMap.mp h
  exact (List.mem_filter.mp h).1
theorem done_next (side : Bool) (n : Nat) (R : List Rec) : doneTo side (n + 1) R = doneTo side n R ++ picks side n R := by
  unfold doneTo
  rw [List.range_succ, List.flatMap_append]
  simp
theorem fedOf_le {B : Int} : ∀ (rs : List Rec) (f : Int), (∀ r ∈ rs, 0 ≤ r.bk.size ∧ r.bk.size ≤ B) → 0 ≤ f → 0 ≤ B → 0 ≤ fedOf f rs ∧ fedOf f rs ≤ f + B * rs.length
  | [], f, _, hf, _ => ⟨hf, by show f ≤ f + B * ((0 : Nat) : Int); simp⟩
  | r :: rs, f, h, hf, hB => by
    have h1 := h r (List.mem_cons_self ..)
    have ih := fedOf_le rs (f + r.bk.size) (fun r' hr => h r' (List.mem_cons_of_mem _ hr)) (by omega) hB
    have e : B * ((rs.length + 1 : Nat) : Int) = B * rs.length + B := by
      rw [Int.natCast_add, Int.mul_add]
      simp
    refine ⟨ih.1, ?_⟩
    show fedOf (f + r.bk.size) rs ≤ f + B * ((rs.length + 1 : Nat) : Int)
    rw [e]
    omega
theorem dueOf_len : ∀ (rs : List Rec) (f : Int), (dueOf f rs).length ≤ rs.length
  | [], _ => Nat.le_refl _
  | r :: rs, f => by
    have ih := dueOf_len rs (f + r.bk.size)
    have h : (toldsOf r.bk f).length ≤ 1 := by
      unfold toldsOf
      split <;> simp
    show (toldsOf r.bk f ++ dueOf (f + r.bk.size) rs).length ≤ rs.length + 1
    rw [List.length_append]
    omega
/-- a told with a place between 0 and B and a packet as it is put -/
def ToldOk (B : Int) : Told → Prop
  | .bad a => 0 ≤ a ∧ a ≤ B
  | .good p a => (0 ≤ a ∧ a ≤ B) ∧ PkOk p
def BkOk (b : Bk) : Prop := (0 ≤ b.ahead ∧ b.ahead ≤ 1000) ∧ (0 ≤ b.size ∧ b.size ≤ 1000) ∧ ∀ p, b.told = some (some p) → PkOk p
theorem dueOf_ok {B : Int} : ∀ (rs : List Rec) (f : Int), (∀ r ∈ rs, BkOk r.bk) → 0 ≤ f → f + 1000 * rs.length ≤ B → ∀ t ∈ dueOf f rs, ToldOk B t
  | [], _, _, _, _, t, h => absurd h List.not_mem_nil
  | r :: rs, f, h, hf, hB, t, ht => by
    obtain ⟨h1, h2, h3⟩ := h r (List.mem_cons_self ..)
    have e : (1000 : Int) * ((rs.length + 1 : Nat) : Int) = 1000 * rs.length + 1000 := by
      rw [Int.natCast_add, Int.mul_add]
      simp
    have hB : f + 1000 * ((rs.length + 1 : Nat) : Int) ≤ B := hB
    rw [e] at hB
    rcases List.mem_append.mp (show t ∈ toldsOf r.bk f ++ dueOf (f + r.bk.size) rs from ht) with ht | ht
    · unfold toldsOf at ht
      split at ht
      · exact absurd ht List.not_mem_nil
      · rw [List.mem_singleton.mp ht]
        exact ⟨by omega, by omega⟩
      · rename_i p e
        rw [List.mem_singleton.mp ht]
        exact ⟨⟨by omega, by omega⟩, h3 p e⟩
    · exact dueOf_ok rs _ (fun r' hr => h r' (List.mem_cons_of_mem _ hr)) (by omega) (by omega) t ht
theorem flat_len {B : Nat} : ∀ (rs : List Rec), (∀ r ∈ rs, r.fly.seen.length ≤ B) → (rs.flatMap fun r => r.fly.seen).length ≤ B * rs.length
  | [], _ => Nat.zero_le _
  | r :: rs, h => by
    have ih := flat_len rs fun r' hr => h r' (List.mem_cons_of_mem _ hr)
    have h1 := h r (List.mem_cons_self ..)
    rw [List.flatMap_cons, List.length_append, List.length_cons, Nat.mul_succ]
    omega
end K38
end

namespace K38
open PySem PySem.Spec PyProof.Rows L2

/-! ### o.m(e, .., k = v, ..): a method by keywords -/
def tMethK (C : Addr) (m : Str) (n nk : Nat) (sp : Sp) (gV : List V → List V → List V) (E : XK) (ta : TE) (t tk : TA) : TE := fun σ H Q =>
  ta σ H fun x H1 => ∃ a dx fs, x = .ref a ∧ H1 a = some (.ins C dx fs) ∧ fs.lookup m = none ∧
    t σ H1 fun vs H2 => tk σ H2 fun zs H3 => vs.length = n ∧ zs.length = nk ∧ sp (gV (x :: vs) zs) H3 Q E
section
variable {X : Cx} {CX : CXT} {k n : Nat} {f C : Addr} {fd : FuncData} {ps ks : List Str} {sp : Sp} {E : XK} {m : Str} {pos apos : Pos}
variable {e o : Expr} {es : List Expr} {kws : List Keyword} {ta : TE} {t tk : TA} {g : List Value → List Value → List Value} {gV : List V → List V → List V}
theorem pe_methK {pl : Sem Bool} (ho : PE X o ta) (c : Cls X.K C) (hm : Meth X.K C m f)
    (F : FnOk X.prog X.w X.K X.mg X.base CX k f fd ps sp) (hr : Room k X.A) (hb : KBn X.K fd ps (n + 1) ks g gV) (hx : Passes CX X E)
    (ha : PA X (e :: es) t) (hk : PK X kws tk)
    (he : eval (.Call (.Attribute o m apos) (e :: es) kws pos) X.env = (do
        let ov ← eval o X.env; standAt apos.atName
        let (f, first) ← holding [ov] (getMethod ov m pl)
        callWith pos f first (backTo pos (starEach (e :: es) X.env)) (backToKw pos (keywordEach kws X.env))) := by rfl)
    (h1 : (backToKw pos (keywordEach kws X.env)).all (·.1.isSome) = true := by rfl)
    (h2 : (backToKw pos (keywordEach kws X.env)).filterMap (·.1) = ks := by rfl)
    (h3 : starEach (e :: es) X.env = (false, eval e X.env) :: starEach es X.env := by rfl)
    (h4 : ((backTo pos (starEach (e :: es) X.env)).any (·.1) || (backToKw pos (keywordEach kws X.env)).any (·.1.isNone)) = false := by rfl) :
    PE X (.Call (.Attribute o m apos) (e :: es) kws pos) (tMethK C m n ks.length sp gV E ta t tk) := by
  refine ⟨fun pins s σ H Q I h => PySem.W.methodCall_KW (pl := pl) (thn (ho.run pins s σ H _ I h) fun u s1 h => ?_) he⟩
  obtain ⟨x, H1, I1, rx, a, dx, fs, rfl, ea, l, q⟩ := h
  obtain rfl : u = Value.ref a := rx
  refine getmeth_ok I1 ea c hm l (PySem.W.callWith_KW (first := [.ref a]) (h₀ := X.base) I.ok.mod.kin hm.kp h1 (thn (ha.run pos pins s1 σ H1 _ I1 q) fun us s2 h => ?_) h4 h3)
  obtain ⟨vs, H2, I2, r, q⟩ := h
  refine thn (hk.run pos pins s2 σ H2 _ I2 q) fun ws s3 h => ?_
  obtain ⟨zs, H3, I3, rz, l1, l2, q⟩ := h
  refine ⟨I3.kIn, ?_⟩
  rw [h2]
  exact run_fnN (us := .ref a :: us) (vs := .ref a :: vs) F hr hb hx I3 (.cons rfl r) rz (congrArg Nat.succ l1) l2 q
theorem pe_methK0 {pl : Sem Bool} (ho : PE X o ta) (c : Cls X.K C) (hm : Meth X.K C m f)
    (F : FnOk X.prog X.w X.K X.mg X.base CX k f fd ps sp) (hr : Room k X.A) (hb : KBn X.K fd ps 1 ks g gV) (hx : Passes CX X E) (hk : PK X kws tk)
    (he : eval (.Call (.Attribute o m apos) [] kws pos) X.env = (do
        let ov ← eval o X.env; standAt apos.atName
        let (f, first) ← holding [ov] (getMethod ov m pl)
        callWith pos f first (backTo pos (starEach [] X.env)) (backToKw pos (keywordEach kws X.env))) := by rfl)
    (h1 : (backToKw pos (keywordEach kws X.env)).all (·.1.isSome) = true := by rfl)
    (h2 : (backToKw pos (keywordEach kws X.env)).filterMap (·.1) = ks := by rfl)
    (h4 : ((backTo pos (starEach [] X.env)).any (·.1) || (backToKw pos (keywordEach kws X.env)).any (·.1.isNone)) = false := by rfl) :
    PE X (.Call (.Attribute o m apos) [] kws pos) (tMethK C m 0 ks.length sp gV E ta tNil tk) := by
  refine ⟨fun pins s σ H Q I h => PySem.W.methodCall_KW (pl := pl) (thn (ho.run pins s σ H _ I h) fun u s1 h => ?_) he⟩
  obtain ⟨x, H1, I1, rx, a, dx, fs, rfl, ea, l, q⟩ := h
  obtain rfl : u = Value.ref a := rx
  refine getmeth_ok I1 ea c hm l (PySem.W.callWith_KW0 (first := [.ref a]) (h₀ := X.base) I.ok.mod.kin hm.kp h1 (thn (hk.run pos pins s1 σ H1 _ I1 q) fun ws s3 h => ?_) h4)
  obtain ⟨zs, H3, I3, rz, l1, l2, q⟩ := h
  refine ⟨I3.kIn, ?_⟩
  rw [h2]
  exact run_fnN (us := [.ref a]) (vs := [.ref a]) F hr hb hx I3 (.cons rfl .nil) rz rfl l2 q
end

/-! ### xs.extend(a tuple) -/
def rExtT (K : PySem.W.Frag) : V → List V → Hp → VK → Prop := fun x vs H Q => ∃ l b xs zs, x = .ref l ∧ vs = [.ref b] ∧ H l = some (.lst xs) ∧ SqT K H b zs ∧
  xs.length + zs.length ≤ sizeLine ∧ Q .non (upd H l (.lst (xs ++ zs)))
section
variable {X : Cx}
theorem mt_extT : MtM X "list.extend" (rExtT X.K) := by
  intro pins s σ H x vs v us Q I rx rv h
  obtain ⟨l, b, xs, zs, rfl, rfl, hH, hB, hz, q⟩ := h
  obtain rfl : v = Value.ref l := rx
  obtain rfl := Vals.ref1 rv
  obtain ⟨z, its, n, r, hl, e⟩ := I.lstM hH
  obtain ⟨its2, r2, ⟨o2, ho2, hc2, n2, hd2⟩, z2⟩ := I.tuple hB
  have l2 := r2.length
  have hsz : its.toArray.size + its2.toArray.size ≤ sizeLine := by rw [List.size_toArray, List.size_toArray]; omega
  refine wpAny_call_entry PySem.F.slot_list_extend ⟨_, e, rfl⟩ PySem.F.entry_list_extend ?_ (PySem.F.args_list_extend_2 _ _)
  show wpAny _ _ (Builtin.List.listExtendWith (.ref l) (.ref b) .none) _ _ s
  unfold Builtin.List.listExtendWith
  refine wpAny_bind (wpAny_typeOf ⟨o2, ho2, hc2⟩ ?_)
  rw [if_pos (show (Builtin.List.listSameRef (.ref l) (.ref b) || Value.type "tuple" == Value.type "list" || Value.type "tuple" == Value.type "tuple") = true by simp)]
  refine wpAny_bind ?_
  unfold Builtin.List.listItems
  refine wpAny_bind (wpAny_seqItems ho2 hd2 (wpAny_pure ?_))
  refine wpAny_bind ?_
  refine wpAny_bind (wpAny_seqItems e rfl (wpAny_pure ?_))
  rw [if_neg (show ¬ (!its.toArray.isEmpty && Builtin.List.listTooLong (its.toArray.size + its2.toArray.size)) = true by rw [notLongL hsz, Bool.and_false]; exact Bool.false_ne_true)]
  show wpAny _ _ (updateSeq l (· ++ its2.toArray) >>= fun _ => ret Value.none) _ _ s
  refine wpAny_bind (wpAny_updateSeq e rfl ?_ (by omega) (by rw [Array.size_append]; omega))
  refine wpAny_pure ⟨_, rfl, .non, _, I.lset (t' := s.toks) (its' := its ++ its2) hH e (by simp) (r.append r2) ?_, rfl, q⟩
  rw [List.length_append]
  exact hz
end

/-! ### a, *rest = a tuple -/
section
variable {prog : Program} {w : World} {A : Around} {E : Value → Shared → Prop} {s : Shared}
theorem unpack_star {t : Addr} {items : Array Value} {x : Value} {xs : List Value} {Q : List Value → Shared → Prop} (hh : A.handled = none) (ht : IsTup s.heap t items) (hx : items.toList = x :: xs) (hz : items.size ≤ sizeLine)
    (hQ : ∀ (h' : Heap) (tk : Nat), (∀ b o, s.heap.get? b = some o → h'.get? b = some o) → Q [x, .ref h'.objs.size] { s with heap := h'.push { cls := .type "list", data := .seq xs.toArray }, toks := tk }) :
    wpAny (model prog w) A (unpackItems (.ref t) 2 (some 1)) Q E s := by
  have hsz : items.size = xs.length + 1 := by rw [← Array.length_toList, hx]; rfl
  have hlt : t < s.heap.objs.size := by obtain ⟨o, ho, _⟩ := ht; exact Heap.lt_size ho
  have hne : t ≠ s.heap.objs.size := Nat.ne_of_lt hlt
  unfold unpackItems
  refine wpAny_bind ?_
  unfold notIterableAtAll
  refine wpAny_bind (wpAny_specialOf ht.typeIs slot_tuple_iter.lookup (wpAny_pure ?_))
  simp only [Bool.false_eq_true, if_false]
  refine wpAny_bind (wpAny_holding (iter_tuple ht ?_))
  refine wpAny_bind (wpAny_holding (draw_tuple hne 1 0 _ _ ⟨_, Heap.get?_push_size _ rfl, rfl, rfl⟩ (ht.push _) (by omega) fun h1 it1 sb1 => ?_))
  have ht1 : IsTup h1 t items := (ht.push _).extBut sb1.extBut hne
  have e1 : (items.toList.drop 0).take 1 = [x] := by rw [hx]; rfl
  rw [e1, if_neg (show ¬ [x].length < 1 from Nat.lt_irrefl 1)]
  obtain ⟨oi, hoi, _⟩ := id it1
  obtain ⟨ot, hot, _⟩ := id ht1
  refine wpAny_bind (wpAny_holding (PySem.W.kun_collect (s := { s with heap := h1 }) (T := "tuple_iterator") (.inr (.inr (.inr rfl)))
    (Walks.tuple (A := A.in1) hh s.heap.objs.size t hne items) (fun j u st => st.1.typeIs) (k := 1) (by omega) ⟨it1, ht1⟩ (Heap.lt_size hoi) (Heap.lt_size hot) (fun h2 tk hk => ?_) hz))
  have e2 : items.toList.drop 1 = xs := by rw [hx]; rfl
  rw [e2]
  show wpAny _ _ (if xs.length < 0 then _ else _) _ _ _
  rw [if_neg (Nat.not_lt_zero _)]
  show wpAny _ _ (newList (xs.take xs.length) >>= fun d => pure ([x] ++ [d] ++ xs.drop xs.length)) _ _ _
  rw [List.take_length, List.drop_length]
  refine wpAny_bind (wpAny_newList (wpAny_pure ?_) (by omega))
  exact hQ h2 tk fun b o e => hk b o (Nat.ne_of_lt (Heap.lt_size e)) (sb1.extBut b o (Nat.ne_of_lt (Heap.lt_size e)) (Heap.get?_push_of_some _ e))
end
/-- the first of a tuple's items, and a new list of the others -/
def gStar (K : PySem.W.Frag) (t : TGs) : TG := fun v σ H Q => ∃ a x xs, v = .ref a ∧ SqT K H a (x :: xs) ∧ ∀ p, H p = none → t [x, .ref p] σ (upd H p (.lst xs)) Q
theorem pg_star {X : Cx} {e1 e2 : Expr} {sp1 pos : Pos} {k : Nat} {t : TGs} (hc : X.calm = true)
    (h : ∀ (pins : List (Addr × Obj)) (s : Shared) (σ : L2.St) (H : Hp) (vs : List V) (us : List Value) (Q : L2.St → Hp → Prop), Inv X pins σ H s → Vals vs us → t vs σ H Q →
      wpAny (model X.prog X.w) X.A (assignInOrder ((assignEach [e1, .Starred e2 sp1] X.env).map (·.2)) us) (fun _ s' => ∃ σ' H', Inv X pins σ' H' s' ∧ Q σ' H') X.xe s)
    (hl : (assignEach [e1, .Starred e2 sp1] X.env).length = 2 := by rfl) (hst : (assignEach [e1, .Starred e2 sp1] X.env).findIdx? (·.1) = some 1 := by rfl) :
    PG X (.Tuple [e1, .Starred e2 sp1] k pos) (gStar X.K t) := by
  refine ⟨fun pins s σ H v u Q I r hw => ?_⟩
  obtain ⟨a, x, xs, rfl, hq, hw⟩ := hw
  obtain rfl : u = Value.ref a := r
  obtain ⟨its, rv, ht, hz⟩ := I.tuple hq
  have hlen := rv.length
  cases rv with
  | @cons _ ux _ uxs rx rxs =>
    rw [assign_Tuple]
    refine wpAny_bind (wpAny_standAt ?_)
    unfold unpack
    rw [hl, hst]
    refine wpAny_bind (wpAny_holding (unpack_star (I.ok.hd hc) ht (x := ux) (xs := uxs) (by simp) (by rw [List.size_toArray]; omega) fun h' tk hk => ?_))
    have I1 : Inv X pins σ H { s with heap := h', toks := tk } := I.kept hk
    have I2 : Inv X pins σ (upd H h'.objs.size (.lst xs)) { s with heap := h'.push { cls := .type "list", data := .seq uxs.toArray }, toks := tk } :=
      I1.lnew (t' := tk) rxs (by simp only [List.length_cons] at hz; omega)
    exact h pins _ σ _ _ _ Q I2 (.cons rx (.cons (show RelV (.ref h'.objs.size) (Value.ref h'.objs.size) from rfl) .nil)) (hw _ (I1.hok.fresh (Nat.le_refl _)))

/-! ### tuple(reversed(xs)) -/
def tTupRev (K : PySem.W.Frag) (te : TE) : TE := fun σ H Q => te σ H fun x H1 => ∃ a xs, x = .ref a ∧ SqL K H1 a xs ∧ ∀ p, H1 p = none → Q (.ref p) (upd H1 p (.tup xs.reverse))
theorem vals_rev : ∀ {xs : List V} {us : List Value}, Vals xs us → Vals xs.reverse us.reverse
  | _, _, .nil => .nil
  | _, _, .cons r t => by
    rw [List.reverse_cons, List.reverse_cons]
    exact (vals_rev t).append (.cons r .nil)
theorem rev_acc {items acc : Array Value} (h : ItemsOf (fun i v => items[items.size - 1 - i]? = some v) acc items.size) : acc.toList = items.toList.reverse := by
  apply List.ext_getElem?
  intro j
  rw [Array.getElem?_toList]
  by_cases hj : j < items.size
  · have hj' : j < acc.size := by rw [h.1]; exact hj
    have e1 : acc[j]? = some acc[j] := Array.getElem?_eq_getElem hj'
    have e2 := h.2 j _ e1
    rw [e1, List.getElem?_reverse (by rw [Array.length_toList]; exact hj), Array.getElem?_toList, Array.length_toList]
    exact e2.symm
  · rw [Array.getElem?_eq_none (by rw [h.1]; omega), List.getElem?_eq_none (by rw [List.length_reverse, Array.length_toList]; omega)]
theorem pe_tupRev {X : Cx} {e : Expr} {te : TE} {p p2 p3 pos : Pos} (hc : X.calm = true) (hg : Gl X "tuple") (hm : X.mg "tuple" = none) (hg2 : Gl X "reversed") (hm2 : X.mg "reversed" = none) (he : PE X e te)
    (h1 : starEach [.Call (.Name "reversed" p2) [e] [] p3] X.env = (false, eval (.Call (.Name "reversed" p2) [e] [] p3) X.env) :: starEach [] X.env := by rfl)
    (h2 : starEach [e] X.env = (false, eval e X.env) :: starEach [] X.env := by rfl) :
    PE X (.Call (.Name "tuple" p) [.Call (.Name "reversed" p2) [e] [] p3] [] pos) (tTupRev X.K te) := by
  refine ⟨fun pins s σ H Q I h => ?_⟩
  refine Call_ (ld_blt I hg hm boot_tuple (PyProof.Rows.callWith_type1 (args_cons (Call_ (ld_blt I hg2 hm2 PyProof.Rows.boot_reversed (PyProof.Rows.callWith_type1 (args_cons (thn (he.run pins s σ H _ I h) fun u s1 h => args_nil ?_) h2) h2))) h1) h1))
  obtain ⟨x, H1, I1, rx, a, xs, rfl, hq, q⟩ := h
  obtain rfl : u = Value.ref a := rx
  obtain ⟨its, rv, pl, hz⟩ := I1.list hq
  have hlen := rv.length
  refine call_reversed_list pl.isList (args_nil ?_)
  obtain ⟨oa, na, hoa, _⟩ := id pl
  have hal : a < s1.heap.objs.size := Heap.lt_size hoa
  have I2 : Inv X pins σ H1 { s1 with heap := s1.heap.push (revObj a ((its.toArray.size : Int) - 1)) } := I1.kept (t' := s1.toks) fun b o e => Heap.get?_push_of_some _ e
  refine RT.call_tuple_rev (s := { s1 with heap := s1.heap.push (revObj a ((its.toArray.size : Int) - 1)) }) (I.ok.hd hc) (it := s1.heap.objs.size) (l := a) (items := its.toArray) ⟨_, Heap.get?_push_size _ rfl, rfl, rfl⟩ (pl.isList.push _) (Nat.ne_of_lt hal)
    (by rw [List.size_toArray]; omega) fun h' tk acc hk hacc => ?_
  have I3 : Inv X pins σ H1 { s1 with heap := h', toks := tk } := I1.kept (t' := tk) fun b o e => hk b o (Nat.ne_of_lt (Heap.lt_size e)) (Heap.get?_push_of_some _ e)
  have ea := rev_acc hacc
  refine ⟨.ref h'.objs.size, upd H1 h'.objs.size (.tup xs.reverse), I3.laid (t' := tk) (fun b o e => Heap.get?_push_of_some _ e) (Nat.le_refl _) (show ObjOk X.prog X.w _ _ _ (.tup xs.reverse) from ⟨?_, acc.toList, ?_, ?_⟩), rfl, q _ (I3.hok.fresh (Nat.le_refl _))⟩
  · rw [List.length_reverse]; exact hz
  · rw [ea]; exact vals_rev rv
  · rw [Array.toArray_toList]; exact IsTup.new _ _
end K38

namespace K38
open PySem PySem.Spec PyProof.Rows L2 LamX

/-! ### sorted(xs, key=lambda row: row[0]) -/
/-- the lambda's scope: one parameter, nothing else -/
structure Lam1 (a : Str) (scope : Scope) : Prop where
  kind : scope.kind = .function
  co : scope.isCoroutine = false
  gen : scope.isGenerator = false
  names : scope.names = [(a, .local)]
def qSort (K : PySem.W.Frag) (T : List (Addr × Str)) (Q : VK) (x : V) (H1 : Hp) : Prop :=
  ∃ (a : Addr) (xs : List V) (k : V → Int), x = .ref a ∧ SqL K H1 a xs ∧ (∀ y ∈ xs, ∃ t ys, y = V.ref t ∧ SqT K H1 t (.int (k y) :: ys)) ∧ Tabs T H1 ∧
    ∀ (H2 : Hp) (out : List V) (p : Addr), ExtN H1 H2 → Tabs T H2 → out.Perm xs → out.Pairwise (fun y z => k y ≤ k z) → (∀ c, out.filter (fun y => k y == c) = xs.filter (fun y => k y == c)) →
      H2 p = none → Q (.ref p) (upd H2 p (.lst out))
def tSortLam (K : PySem.W.Frag) (T : List (Addr × Str)) (te : TE) : TE := fun σ H Q => te σ H (qSort K T Q)
def one1 (R : V → Hp → Prop) : List V → Hp → Prop
  | [x], H => R x H
  | _, _ => False
theorem one1_of {R : V → Hp → Prop} {vs : List V} {H : Hp} (h : one1 R vs H) : ∃ x, vs = [x] ∧ R x H := by
  match vs, h with
  | [x], h => exact ⟨x, rfl, h⟩
section
variable {prog : Program} {w : World} {A : Around} {E : Value → Shared → Prop} {s : Shared}
theorem lam_item {a : Str} {qual : Str} {params : Arguments} {scope : Scope} {pm ctv : Value} {c' f t : Addr} {body : Expr} {bp sp np : Pos} {j : Nat} {k : Int} {tk0 : Tok} {vs : List Value} {Q : Value → Shared → Prop}
    (S : Lam1 a scope) (hd : (a == ("__debug__" : Str)) = false) (hb : body = .Subscript (.Name a np) (.Constant (.int 0) j sp) bp)
    (hr : A.depth < recursionLimit) (lim : s.heap.NoLimit)
    (hf : s.heap.get? f = some (PySem.W.kla_obj "<lambda>" qual params body scope [] pm c' ctv)) (hc : s.heap.CodeRec (.ref c') qual)
    (hbind : ∀ v, bindArgs (PySem.W.kla_fn "<lambda>" qual params body scope [] pm (.ref c') ctv) ⟨[v], []⟩ = pure [(a, v)])
    (ht : IsTup s.heap t (Value.int k tk0 :: vs).toArray) (hz : vs.length + 1 ≤ sizeLine)
    (hQ : ∀ h' tk, (∀ b o, s.heap.get? b = some o → h'.get? b = some o) → Q (.int k tk0) { s with heap := h', toks := tk }) :
    wpAny (model prog w) A (call (.ref f) [.ref t]) Q E s := by
  have hn := line63
  refine wpAny_call (PySem.W.kla_callFunE hr hf rfl S.co S.gen rfl hc ?_)
  rw [hbind]
  refine wpAny_pure (wpAny_newFunctionEnv (fun x hx => ?_) (fun x hx => ?_) (fun h1 ns sb => ⟨lim.fresh _ sb, ?_⟩) S.kind)
  · rw [S.names] at hx
    rw [List.mem_singleton.mp hx]
    exact fun z => nomatch z
  · rw [List.mem_singleton.mp hx, S.names]
    show List.lookup a [(a, NameKind.local)] = _
    simp
  · have kp : ∀ b o, s.heap.get? b = some o → h1.get? b = some o := fun b o e => sb.extBut b o (Nat.ne_of_lt (Heap.lt_size e)) (Heap.get?_push_of_some _ e)
    have hk : scope.names.lookup a = some .local := by rw [S.names]; simp
    have ht1 : IsTup h1 t (Value.int k tk0 :: vs).toArray := ht.keeps kp
    show codeAny _ _ (.expr body _) _ _
    subst hb
    refine PySem.W.kla_codeExpr (Subscript_ (wpAny_Name (wpAny_loadName_local (name := a) (env := newEnv scope s.heap.objs.size mainGlobals [] (qual ++ ".<locals>.") (some f) (.ref c') none builtinsNs) S.kind hk ns (v := .ref t) (by simp) ?_) hd))
    refine wpAny_Constant_int ?_
    refine subscriptTail_builtinR (x := Value.int k tk0) ht1.typeIs slot_tuple_getitem.lookup
      (getItem_tuple (j := 0) (Q := fun r s' => r = Value.int k tk0 ∧ (wants Q E) (.ok (.ret r)) s') ht1 (by decide) (by decide) (by simp [seqIndex?]) (by simp) ⟨rfl, ?_⟩) rfl
    exact hQ _ _ kp
end

/-! ### a new object at a place that holds none -/
theorem obj_there {P : Program} {w : World} {H : Hp} {h : Heap} {a : Addr} {o : HO} (x : ObjOk P w H h a o) : ∃ u, h.get? a = some u := by
  cases o with
  | lst xs => obtain ⟨_, _, _, _, e⟩ := x; exact ⟨_, e⟩
  | tup xs => obtain ⟨_, _, _, ob, e, _⟩ := x; exact ⟨_, e⟩
  | dK kvs => obtain ⟨_, _, _, _, o, _, _, e, _⟩ := x; exact ⟨_, e⟩
  | dT kvs => obtain ⟨_, _, _, _, o, _, _, e, _⟩ := x; exact ⟨_, e⟩
  | set S n => obtain ⟨o, _, _, _, e, _⟩ := x; exact ⟨_, e⟩
  | ins C dx fs => obtain ⟨_, _, _, e, _⟩ := x; exact ⟨_, e⟩
  | own y => exact x
  | xd fs => obtain ⟨_, ⟨_, _, _, e, _⟩, _⟩ := x; exact ⟨_, e⟩
  | rng lo hi => obtain ⟨_, _, _, e⟩ := x; exact ⟨_, e⟩
  | frz ob u => obtain ⟨e, _⟩ := x; exact ⟨_, e⟩
  | tbl ps => exact ⟨_, show h.get? a = some _ from x⟩
  | met f y => exact ⟨_, show h.get? a = some _ from x⟩
  | ext φ => obtain ⟨_, e, _⟩ := x; exact e
section
variable {X : Cx} {pins : List (Addr × Obj)} {σ : L2.St} {H : Hp} {s : Shared} {h' : Heap}
theorem hp_none (I : Inv X pins σ H s) {a : Addr} (hn : s.heap.get? a = none) : H a = none := by
  cases q : H a with
  | none => rfl
  | some u =>
    obtain ⟨o, e⟩ := obj_there (I.hok a u q)
    rw [hn] at e
    cases e
/-- all but the frame's own object is kept, a new object stands at a place that held none -/
theorem inv_new {a : Addr} {o : HO} {t' : Nat} (I : Inv X pins σ H s) (k : ∀ b u, b ≠ X.env.locals → s.heap.get? b = some u → h'.get? b = some u) (hns : ∀ m, s.heap.Ns X.env.locals m → h'.Ns X.env.locals m)
    (hn : s.heap.get? a = none) (new : ObjOk X.prog X.w (upd H a o) h' a o) : Inv X pins σ (upd H a o) { s with heap := h', toks := t' } := by
  have ha := hp_none I hn
  have nb : ∀ b u, s.heap.get? b = some u → b ≠ a := fun b u e z => by rw [z, hn] at e; cases e
  have nh : ∀ b u, H b = some u → b ≠ a := fun b u e => ne_of_none e ha
  have nl : ∀ b u, H b = some u → b ≠ X.env.locals := fun b u e => ne_of_none e I.free
  refine I.step (g' := s.gens) (d' := s.drawn) (ch := []) (fun b z => nomatch z) (fun b u h1 _ _ q _ => k b u h1 q) (fun b u h1 _ _ q _ => ⟨u.slots, k b u h1 q⟩) (fun b u _ q n => by rw [upd_ne (nb b u q)]; exact n) (fun b u _ q => ?_)
    (fun b xs e => by rw [upd_ne (nh b _ e)]; exact e) (fun b u xs e => by rw [upd_ne (nh b _ e)]; exact e) (fun b ps e => ⟨#[], by rw [upd_ne (nh b _ e), e]; simp⟩) hns (fun b u e => ?_) I.bare
  · by_cases hb : b = X.env.locals
    · obtain ⟨m, hm, _⟩ := I.loc
      obtain ⟨o', _, _, ho', _⟩ := hns m hm
      exact ⟨o', by rw [hb]; exact ho'⟩
    · exact ⟨u, k b u hb q⟩
  · by_cases hb : b = a
    · subst hb
      rw [upd_same] at e
      cases e
      exact new
    · rw [upd_ne hb] at e
      refine (I.hok b u e).stay (fun c v hc q => k c v ?_ q) (fun c q => by rw [upd_ne (nh c _ q)]; exact q) fun c xs q => by rw [upd_ne (nh c _ q)]; exact q
      rcases hc with z | z
      · rw [z]
        exact nl b u e
      · exact nl c _ z
end
/-! ### the rule -/
theorem kept_all {g h h' : Heap} {L : Addr} {m : Str → Option Value} {own : List (Addr × Obj)} (F : Fr g L h' m) (N : News g L h' (allNews g h L ++ own)) (k : ∀ b o, g.get? b = some o → h.get? b = some o) :
    ∀ b o, b ≠ L → h.get? b = some o → h'.get? b = some o := fun b o hb e => by
  cases q : g.get? b with
  | some u =>
    have := k b u q
    rw [e] at this
    cases this
    exact F.keep b _ q
  | none => exact (N (b, o) (List.mem_append_left _ (mem_allNews hb q e))).1
theorem map_pairs {xs : List V} {k : V → Int} {its out : List Value} (hr : ∀ u ∈ its, ∃ a, u = Value.ref a) (e : xs = its.map backV) (ps : List (Int × Value)) (h1 : ps.Perm ((xs.map k).zip its)) (h2 : out = ps.map Prod.snd) :
    ps = out.map (fun u => (k (backV u), u)) := by
  have hz : (xs.map k).zip its = its.map fun u => (k (backV u), u) := by
    rw [e, List.map_map]
    clear h1 h2 hr e
    induction its with
    | nil => rfl
    | cons u r ih => simp only [List.map_cons, List.zip_cons_cons, ih]; rfl
  rw [hz] at h1
  rw [h2, List.map_map]
  have : ∀ p ∈ ps, p = (k (backV p.2), p.2) := fun p hp => by
    obtain ⟨u, _, e⟩ := List.mem_map.mp (h1.mem_iff.mp hp)
    rw [← e]
  conv => lhs; rw [← List.map_id ps]
  exact List.map_congr_left fun p hp => this p hp

theorem pe_sortLam {X : Cx} {T : List (Addr × Str)} {c P : Addr} {kk : Nat} {e : Expr} {te : TE} {a : Str} {params : Arguments} {scope : Scope} {np bp sp p lpos kpos pos : Pos} {j : Nat}
    (hc : X.calm = true) (hr : Room (kk + 2) X.A) (hg : Gl X "sorted") (hm : X.mg "sorted" = none) (hv : bootBuiltins "sorted" = some (.builtin "sorted"))
    (TB : TabB X.base X.mg c P) (hcode : X.env.code = .ref c) (hmT : (P, X.env.qual ++ "<lambda>") ∈ T) (hu : ∀ p ∈ T, p.1 = P → p.2 = X.env.qual ++ "<lambda>")
    (S : Lam1 a scope) (hd : (a == ("__debug__" : Str)) = false) (hdef : defaultsOf params X.env = ([], []))
    (hbind : ∀ (q : Str) (pm cv ctv v : Value), bindArgs (PySem.W.kla_fn "<lambda>" q params (.Subscript (.Name a np) (.Constant (.int 0) j sp) bp) scope [] pm cv ctv) ⟨[v], []⟩ = pure [(a, v)])
    (he : PE X e te)
    (h1 : backTo pos (starEach [e] X.env) = (false, eval e X.env) :: backTo pos (starEach [] X.env) := by rfl) (h2 : (backTo pos (starEach [e] X.env)).any (·.1) = false := by rfl)
    (h3 : starEach [e] X.env = (false, eval e X.env) :: starEach [] X.env := by rfl) :
    PE X (.Call (.Name "sorted" p) [e] [⟨some "key", .Lambda params (.Subscript (.Name a np) (.Constant (.int 0) j sp) bp) scope lpos, kpos⟩] pos) (tSortLam X.K T te) := by
  refine ⟨fun pins s σ H Q I h => ?_⟩
  refine wpAny_Call_Name_kw (ld_blt I hg hm hv ?_)
  refine PyProof.Rows.callWith_kw (thn ((pa_cons he pa_nil h3).run pos pins s σ H (one1 (qSort X.K T Q)) I h) fun us s1 h => ?_) h1 h2 (by rfl) (by rfl)
  obtain ⟨vs, H1, I1, r1, q⟩ := h
  obtain ⟨x, rfl, av, xs, k, rfl, hq, hx, hT, q⟩ := one1_of q
  obtain rfl := Vals.ref1 r1
  show wpAny _ _ (evalAll [do let v ← eval (.Lambda params (.Subscript (.Name a np) (.Constant (.int 0) j sp) bp) scope lpos) X.env; standAt pos; pure v]) _ _ s1
  refine wpAny_evalAll_cons (wpAny_bind (lam_make2 I1 TB hcode hmT hu hT hdef (fun y hy e => ?_) fun f c' pm ctv H2 s2 I2 eN T2 hf hfn hfr hco => wpAny_bind (wpAny_standAt (wpAny_pure (wpAny_evalAll_nil ?_)))))
  · rw [S.names] at hy
    rw [List.mem_singleton.mp hy] at e
    exact nomatch e
  have hclo : cloFrom X.env.cells scope.names [] = [] := by
    rw [S.names]
    rfl
  rw [hclo] at hf
  show wpAny _ _ (call (.builtin "sorted") [.ref av] [(Str.ofString "key", .ref f)]) _ _ s2
  -- the list, its items
  have seqN : ∀ {b ys}, SqT X.K H1 b ys → SqT X.K H2 b ys := fun {b ys} hb => by
    rcases hb with (hb | ⟨o, hb⟩) | hb
    · exact .inl (.inl (eN _ _ hb (fun ps z => by cases z)))
    · exact .inl (.inr ⟨o, eN _ _ hb (fun ps z => by cases z)⟩)
    · exact .inr hb
  have lstN : SqL X.K H2 av xs := by
    rcases hq with (hb | ⟨o, hb⟩) | hb
    · exact .inl (.inl (eN _ _ hb (fun ps z => by cases z)))
    · exact .inl (.inr ⟨o, eN _ _ hb (fun ps z => by cases z)⟩)
    · exact .inr hb
  obtain ⟨its, rv, pl, hz⟩ := I2.list lstN
  have hlen := rv.length
  obtain ⟨e1, e2⟩ := refs_back rv fun y m => by
    obtain ⟨t, _, e, _⟩ := hx y m
    exact ⟨t, e⟩
  obtain ⟨m, F⟩ := I2.fr
  have hcr : s2.heap.CodeRec (.ref c') (X.env.qual ++ "<lambda>") := by
    obtain ⟨⟨oc, vsc, tq, z1, z2, z3⟩, _, _⟩ := I2.hok c' _ hco
    exact ⟨c', oc, vsc, tq, rfl, z1, z2, z3⟩
  have nL : ∀ b o, s2.heap.get? b = some o → (∀ es ep, o.data ≠ .dict es ep) → b ≠ X.env.locals := fun b o e d z => by
    obtain ⟨m', ⟨o', es, ep, ho', hd', _⟩, _⟩ := id I2.loc
    rw [z, ho'] at e
    cases e
    exact d es ep hd'
  refine ksk_sortedSt (b := false) (kz := xs.map k) (news := allNews X.base s2.heap X.env.locals) (m := m) F news_all pl.isList (by rw [List.length_map, hlen]) (by rw [← hlen]; exact hz) (ksk_s1 _ _) (fun y => ksk_l1 _ _) (fun y => ksk_t1 f y) (fun i v kv hv hkv h tk own F1 N1 => ?_)
    fun D h' tk out cn F' N' hD ko => ?_
  · -- one key
    have kp := kept_all F1 N1 I2.bk
    have hi : i < xs.length := by
      rw [hlen]
      exact (List.getElem?_eq_some_iff.mp hv).1
    have hkx : kv = k xs[i] := by
      rw [List.getElem?_map, List.getElem?_eq_getElem hi] at hkv
      exact (Option.some.inj hkv).symm
    obtain ⟨t, ys, ey, hty⟩ := hx xs[i] (List.getElem_mem hi)
    obtain ⟨u0, hu0, ru0⟩ := rv.get (List.getElem?_eq_getElem hi)
    rw [hv] at hu0
    cases hu0
    rw [ey] at ru0
    obtain rfl : v = Value.ref t := ru0
    obtain ⟨its2, rv2, pt, hz2⟩ := I2.tuple (seqN hty)
    cases rv2 with
    | @cons _ uk _ us2 rk rr =>
      obtain ⟨tk0, rfl⟩ : ∃ tk0, uk = Value.int (k xs[i]) tk0 := rk
      subst hkx
      have hl2 := rr.length
      have pt' : IsTup h t (Value.int (k xs[i]) tk0 :: us2).toArray := by
        obtain ⟨ot, hot, hct, nt, hdt⟩ := pt
        exact ⟨ot, kp t ot (nL t ot hot fun es ep z => by rw [hdt] at z; cases z) hot, hct, nt, hdt⟩
      obtain ⟨c2, oc, vsc, tq, ec, hoc, hdc, hvc⟩ := hcr
      cases ec
      have hcr' : h.CodeRec (.ref c') (X.env.qual ++ "<lambda>") := ⟨c', oc, vsc, tq, rfl, kp _ _ (nL _ _ hoc fun es ep z => by rw [hdc] at z; cases z) hoc, hdc, hvc⟩
      have hf' := kp f _ (nL f _ hf fun es ep z => by cases z) hf
      refine lam_item (s := { s2 with heap := h, toks := tk }) (E := fun _ _ => False) S hd rfl (by have := hr.dp; show X.A.depth < _; omega) (I.ok.mod.nolimit.keeps F1.keep) hf' hcr' (fun v => hbind _ _ _ _ v) pt' (by simp only [List.length_cons] at hz2; omega) fun h3 tk3 k3 => ?_
      exact ⟨h3, tk3, tk0, rfl, rfl, F1.keeps k3, fun p hp => ⟨k3 _ _ (N1 p hp).1, (N1 p hp).2⟩⟩
  · -- behind the sort
    have kL := kept_all F' (own := []) (fun p hp => N' p (List.mem_cons_of_mem _ (by simpa using hp))) I2.bk
    obtain ⟨hDo, hDL, hDb⟩ := N' _ (List.mem_cons_self ..)
    have hDn : s2.heap.get? D = none := by
      cases z : s2.heap.get? D with
      | none => rfl
      | some o => exact absurd (hD (D, o) (mem_allNews hDL hDb z)) (Nat.lt_irrefl D)
    have hns : ∀ m', s2.heap.Ns X.env.locals m' → h'.Ns X.env.locals m' := fun m' hm' => by
      have z : m' = m := hm'.eq_nsMap.trans F.ns.eq_nsMap.symm
      rw [z]
      exact F'.ns
    obtain ⟨ps, p1, p2, p3, p4⟩ := ko
    have ep := map_pairs e2 e1 ps p1 p2
    have epz : (xs.map k).zip its = its.map fun u => (k (backV u), u) := map_pairs (out := its) e2 e1 _ (List.Perm.refl _) (by rw [List.map_snd_zip (by rw [List.length_map, hlen]; exact Nat.le_refl _)])
    rw [ep] at p1 p3 p4
    rw [epz] at p1 p4
    have perm : out.toList.Perm its := by
      have z := p1.map Prod.snd
      rw [List.map_map, List.map_map] at z
      have f : (Prod.snd ∘ fun u => (k (backV u), u)) = (id : Value → Value) := rfl
      rw [f, List.map_id, List.map_id] at z
      exact z
    have h5 : ∀ u ∈ out.toList, ∃ a, u = Value.ref a := fun u hu => e2 u (perm.mem_iff.mp hu)
    have lenO : (out.toList.map backV).length = xs.length := by rw [List.length_map, perm.length_eq, hlen]
    have I3 : Inv X pins σ (upd H2 D (.lst (out.toList.map backV))) { s2 with heap := h', toks := tk } := inv_new I2 kL hns hDn ⟨by rw [lenO]; exact hz, out.toList, cn, vals_back h5, by rw [Array.toArray_toList]; exact hDo⟩
    refine ⟨.ref D, _, I3, rfl, q H2 (out.toList.map backV) D eN T2 ?_ ?_ (fun c => ?_) (hp_none I2 hDn)⟩
    · rw [e1]
      exact perm.map backV
    · rw [List.pairwise_map]
      exact (List.pairwise_map.mp p3).imp fun {u v} h => by simpa using h
    · have z := congrArg (List.map fun p : Int × Value => backV p.2) (p4 c)
      rw [List.filter_map, List.filter_map, List.map_map, List.map_map] at z
      rw [e1, List.filter_map, List.filter_map]
      exact z
end K38

namespace K38
open PySem PySem.Spec PyProof.Rows L2 LamX

/-! ### repr of data, where no repr is under way -/
def rRepr (K : PySem.W.Frag) : List V → Hp → VK → Prop := fun xs H Q => ∃ (a : Addr) (d : PyData), xs = [.ref a] ∧ Dp K H (.ref a) d ∧ d.showable = true ∧ d.hasDict = false ∧ d.depth ≤ 60 ∧ d.shown.length ≤ sizeLine ∧ Q (.str d.shown) H
theorem cr_repr {X : Cx} (hG : X.A.guards = some []) (hu : X.A.units + 64 < cLine) : CallR X (.builtin "repr") (rRepr X.K) := by
  intro pins s σ H xs us Q I r h
  obtain ⟨a, d, rfl, hd, h1, h2, h3, h4, q⟩ := h
  obtain rfl := Vals.ref1 r
  obtain ⟨as, rd⟩ := Dp.reads I d _ _ hd (show RelV (.ref a) (Value.ref a) from rfl)
  exact repr_of_reads' rd h1 (fun z => by rw [h2] at z; cases z) hG (by omega) (fun _ _ e => e) (fun h' u tk kp => ⟨.str d.shown, H, I.kept (t' := tk) kp, ⟨u, rfl⟩, q⟩) h4

/-! ### a promise kept where no repr is under way -/
structure FnG (P : Program) (w : World) (K : PySem.W.Frag) (mg : Str → Option Value) (base : Heap) (k : Nat) (f : Addr) (fd : FuncData) (ps : List Str) (sp : Sp) : Prop where
  len : ∀ vs H Q E, sp vs H Q E → vs.length = ps.length
  run : ∀ (A : Around) (outer : List Env) (s : Shared) (H : Hp) (args : Args) (us : List Value) (vs : List V) (Q : VK) (E : XK), A.guards = some [] → Room k A → Env0 P w K mg base A outer s H →
    BindsTo s fd args (ps.zip us) → Vals vs us → sp vs H Q E → codeAny (model P w) A (.call (.ref f) args) (CR CX0 outer P w H s Q E) s
section
variable {P : Program} {w : World} {K : PySem.W.Frag} {mg : Str → Option Value} {base : Heap}
theorem fnG_of {x qual : Str} {st : Stmt} {f : Addr} {fd : FuncData} {N ps : List Str} {k : Nat} {sp : Sp} (F : Fun K x qual st f fd) (S : FnScope N ps (defScope st)) (len : ∀ vs H Q E, sp vs H Q E → vs.length = ps.length)
    (body : ∀ (cdv : Value) (A : Around) (outer : List Env) (s : Shared) (H : Hp) (vs : List V) (Q : VK) (E : XK), A.guards = some [] → Room k (A.deeper (envOfC qual (defScope st) s.heap.objs.size f cdv)) → sp vs H Q E →
      ∃ t, PSs (cxOf CX0 P w K mg base N qual (defScope st) f cdv A outer s H E).nox (defBody st) t ∧ t { nx := fun _ H' => Q .non H', rt := Q } (start N vs) H) : FnG P w K mg base (k + 1) f fd ps sp := by
  obtain ⟨oc, od, kV, doc, pm, an, cdv, ct, osl, rfl, lk, hcd⟩ := F.ex
  refine ⟨len, fun A outer s H args us vs Q E hG hr e0 hb r h => run_ofS lk hcd S hr e0 hb r (len _ _ _ _ h) fun hr' => ?_⟩
  obtain ⟨t, ht, q⟩ := body cdv A outer s H vs Q E hG hr' h
  exact ⟨t, ht.nox, q⟩
end
section
variable {X : Cx} {k : Nat} {f : Addr} {fd : FuncData} {ps : List Str} {sp : Sp} {x : Str} {p pos : Pos} {e : Expr} {es : List Expr} {t : TA}
theorem pe_callG (F : FnG X.prog X.w X.K X.mg X.base k f fd ps sp) (hG : X.A.guards = some []) (hr : Room k X.A) (hg : Gl X x) (hm : X.mg x = some (.ref f)) (hk : PySem.W.keepIn X.K (.ref f) = true) (hb : Binds X.K fd ps [])
    (ha : PA X (e :: es) t) (hdb : (x == ("__debug__" : Str)) = false := by decide) (he : starEach (e :: es) X.env = (false, eval e X.env) :: starEach es X.env := by rfl) (hpl : (backTo pos (starEach es X.env)).any (·.1) = false := by rfl) :
    PE X (.Call (.Name x p) (e :: es) [] pos) (tCall sp [] E0 t) := by
  refine ⟨fun pins s σ H Q I h => wpAny_Call_Name_kw (ld_glob I hg hm (PySem.W.callWith_K (h₀ := X.base) I.ok.mod.kin hk (thn (ha.run pos pins s σ H _ I h) fun us s1 h => ?_) he hpl) hdb)⟩
  obtain ⟨vs, H1, I1, r, q⟩ := h
  rw [List.append_nil] at q
  have hl := F.len _ _ _ _ q
  have hl2 : (us ++ []).length = ps.length := by rw [List.append_nil, ← r.length, hl]
  have hbb := hb s1 us I1.kIn hl2
  rw [List.append_nil] at hbb
  refine ⟨I1.kIn, wpAny_call (codeAny_mono (F.run X.A X.stack s1 H1 ⟨us, []⟩ us vs Q E0 hG hr I1.env0 hbb r q) fun r' s' hq => ?_)⟩
  match r', hq with
  | .ok (.ret u), hq => exact I1.after hq
end

/-! ### the end of the law's row -/
/-- what is tracked ahead of the law: the one table, and the script where it isn't the module's -/
def hp0 (K : PySem.W.Frag) (a T : Addr) (o : Obj) (u : HO) : Hp := fun b => if b = T then some (.tbl #[]) else if b = a ∧ K.lookup a = none then some (.frz o u) else none
section
variable {K : PySem.W.Frag} {a T : Addr} {o : Obj} {u : HO}
theorem hp0_T : hp0 K a T o u T = some (.tbl #[]) := if_pos rfl
theorem hp0_inv {b : Addr} {z : HO} (e : hp0 K a T o u b = some z) : (b = T ∧ z = .tbl #[]) ∨ (b ≠ T ∧ b = a ∧ K.lookup a = none ∧ z = .frz o u) := by
  unfold hp0 at e
  by_cases h1 : b = T
  · rw [if_pos h1] at e
    exact .inl ⟨h1, (Option.some.inj e).symm⟩
  · rw [if_neg h1] at e
    by_cases h2 : b = a ∧ K.lookup a = none
    · rw [if_pos h2] at e
      exact .inr ⟨h1, h2.1, h2.2, (Option.some.inj e).symm⟩
    · rw [if_neg h2] at e
      cases e
end
/-- a list that nothing changes -/
def FrL (K : PySem.W.Frag) (H : Hp) (a : Addr) (xs : List V) : Prop := (∃ o, H a = some (.frz o (.lst xs))) ∨ ∀ H', SqL K H' a xs
theorem FrL.sq {K : PySem.W.Frag} {H : Hp} {a : Addr} {xs : List V} (h : FrL K H a xs) : SqL K H a xs := by
  rcases h with ⟨o, h⟩ | h
  · exact .inl (.inr ⟨o, h⟩)
  · exact h H
theorem law_endG {P : Program} {w : World} {K : PySem.W.Frag} {mg mb : Str → Option Value} {k : Nat} {fa a c T : Addr} {fd : FuncData} {x : Str} {sp : Sp} {s1 : Shared} {vs : List Value} {ns : List Int}
    (KX : K.In s1.heap) (hns : s1.heap.Ns mainGlobals mg) (hmb : s1.heap.Ns builtinsNs mb) (hbb : ∀ x : Str, x ≠ "__name__" → mb x = bootBuiltins x) (lim : s1.heap.NoLimit) (hg : s1.gens = #[])
    (hT : s1.heap.get? T = some { cls := .none, data := .fields #[] }) (nT : K.lookup T = none) (hC : PySem.W.CodeHd s1.heap c T)
    (hbm : ∃ (bm : Addr) (ob : Obj), mg "__builtins__" = some (.ref bm) ∧ bm ≠ builtinsNs ∧ s1.heap.get? bm = some ob ∧ ob.cls = .type "module" ∧ ob.dict = some builtinsNs ∧ ob.data = .plain)
    (ha : s1.heap.get? a = some { cls := .type "list", data := .seq vs.toArray }) (hi : IntsAre vs ns) (hl : ns.length ≤ sizeLine) (hr : Room k callerA)
    (F : ∀ base : Heap, K.In base → base.Ns mainGlobals mg → TabB base mg c T → FnG P w K mg base k fa fd [x] sp) (hbind : ∀ (s : Shared) (u : Value), BindsTo s fd ⟨[u], []⟩ [(x, u)])
    (hsp : ∀ H : Hp, H T = some (.tbl #[]) → FrL K H a (ns.map V.int) → sp [.ref a] H (fun v _ => v = .bl true) E0) :
    codeAny (model P w) callerA (.call (.ref fa) ⟨[.ref a], []⟩) (fun r s' => r = .ok (.ret (.bool true)) ∧ OldK s1.heap s'.heap ∧ s'.os = s1.os ∧ AllBare s'.gens) s1 := by
  let o0 : Obj := { cls := .type "list", data := .seq vs.toArray }
  let u0 : HO := .lst (ns.map V.int)
  have ha' : s1.heap.get? a = some o0 := ha
  have rv : Vals (ns.map V.int) vs := vals_ints hi
  have hlen : vs.length = ns.length := by rw [← rv.length, List.length_map]
  have naT : a ≠ T := fun z => by
    have e := ha
    rw [z, hT] at e
    cases e
  -- what is tracked stands in the heap
  have hok : HOk P w (hp0 K a T o0 u0) s1.heap := fun b z e => by
    rcases hp0_inv e with ⟨rfl, rfl⟩ | ⟨_, rfl, _, rfl⟩
    · exact hT
    · exact ⟨ha', by rw [List.length_map]; exact hl, vs, _, rv, ha'⟩
  have hS : FrL K (hp0 K a T o0 u0) a (ns.map V.int) := by
    cases q : K.lookup a with
    | none => exact .inl ⟨o0, (if_neg naT).trans (if_pos ⟨rfl, q⟩)⟩
    | some o =>
      have e := KX a o q
      rw [ha] at e
      cases e
      exact .inr fun _ => .inr ⟨_, vs.toArray, _, q, rfl, rfl, rfl, by rw [List.size_toArray, hlen]; exact hl, by simpa using rv⟩
  -- what is not tracked stands in the base
  have off : ∀ {b : Addr} {o : Obj}, s1.heap.get? b = some o → b ≠ T → (b = a → K.lookup a ≠ none) → (hidT s1.heap (hp0 K a T o0 u0)).get? b = some o := fun {b o} e h1 h2 => hidT_get e (by
    cases q : hp0 K a T o0 u0 b with
    | none => rfl
    | some z =>
      rcases hp0_inv q with ⟨e1, _⟩ | ⟨_, e1, e2, _⟩
      · exact absurd e1 h1
      · exact absurd e2 (h2 e1))
  have offD : ∀ {b : Addr} {o : Obj}, s1.heap.get? b = some o → o.data ≠ .fields #[] → (∀ vs n, o.data ≠ .seq vs n) → (hidT s1.heap (hp0 K a T o0 u0)).get? b = some o := fun {b o} e h1 h2 => off e (fun z => by
    rw [z, hT] at e
    cases e
    exact h1 rfl) fun z => by
    rw [z, ha] at e
    cases e
    exact absurd rfl (h2 _ _)
  have nsB : ∀ {b : Addr} {m : Str → Option Value}, s1.heap.Ns b m → (hidT s1.heap (hp0 K a T o0 u0)).Ns b m := fun {b m} h => by
    obtain ⟨o, es, ep, e, d, r⟩ := h
    exact ⟨o, es, ep, offD e (by rw [d]; exact fun z => nomatch z) (fun _ _ => by rw [d]; exact fun z => nomatch z), d, r⟩
  have kB : K.In (hidT s1.heap (hp0 K a T o0 u0)) := fun b o e => off (KX b o e) (fun z => by rw [z, nT] at e; cases e) fun z => by
    rw [z] at e
    rw [e]
    exact fun z => nomatch z
  have hM : L2.Mod K mg (hidT s1.heap (hp0 K a T o0 u0)) := ⟨kB, nsB hns, ⟨mb, nsB hmb, hbb⟩, by
    obtain ⟨mc, h1, h2⟩ := lim
    exact ⟨mc, nsB h1, h2⟩⟩
  have hTB : TabB (hidT s1.heap (hp0 K a T o0 u0)) mg c T := by
    refine ⟨?_, ?_, fun z => ?_⟩
    · obtain ⟨o, us, file, tf, flags, tg, inF, text, tt, e1, r1, r2, r3, r⟩ := hC
      refine ⟨o, us, file, tf, flags, tg, inF, text, tt, offD e1 (fun z => ?_) (fun _ _ => by rw [r2]; exact fun z => nomatch z), r1, r2, r3, r⟩
      rw [r2] at z
      cases z
      simp at r3
    · obtain ⟨bm, ob, b1, b2, b3, b4, b5, b6⟩ := hbm
      refine ⟨bm, ob, b1, b2, fun q => ?_, fun q => ?_, offD b3 (by rw [b6]; exact fun z => nomatch z) (fun _ _ => by rw [b6]; exact fun z => nomatch z), b4, b5, b6⟩
      · obtain ⟨o, es, ep, e, hd, _⟩ := hns
        rw [q, e] at b3
        cases b3
        rw [hd] at b6
        cases b6
      · rw [q, hT] at b3
        cases b3
        cases b6
    · obtain ⟨o, es, ep, e, hd, _⟩ := hns
      rw [z, hT] at e
      cases e
      cases hd
  have e0 : Env0 P w K mg (hidT s1.heap (hp0 K a T o0 u0)) callerA [] s1 (hp0 K a T o0 u0) :=
    ⟨rfl, hM, fun b o e => of_hidT e, Nat.le_of_eq (hidT_size _ _), trivial, fun b hb => absurd hb (List.not_mem_nil), hok, .of_eq hg⟩
  refine codeAny_mono ((F _ kB (nsB hns) hTB).run callerA [] s1 _ ⟨[.ref a], []⟩ [.ref a] [.ref a] _ _ rfl hr e0 (hbind s1 (.ref a)) (.cons rfl .nil) (hsp _ hp0_T hS)) fun r s' h => ?_
  match r, h with
  | .ok (.ret u), h =>
    obtain ⟨v, H', os, bare, un, hok', rv', qv⟩ := h
    have qv' : v = .bl true := qv
    subst qv'
    obtain rfl : u = Value.bool true := rv'
    obtain ⟨more, tb⟩ := un.tbls T #[] hp0_T
    have hTm : s'.heap.get? T = some { cls := .none, data := .fields (#[] ++ more) } := hok' T _ tb
    have stay : ∀ b o, b ≠ T → s1.heap.get? b = some o → s'.heap.get? b = some o := fun b o nb e => by
      cases q : hp0 K a T o0 u0 b with
      | none => exact un.keep b o e q (List.not_mem_nil) (List.not_mem_nil)
      | some z =>
        rcases hp0_inv q with ⟨e1, _⟩ | ⟨_, _, _, rfl⟩
        · exact absurd e1 nb
        · obtain ⟨e1, _⟩ := hok b _ q
          obtain ⟨e2, _⟩ := hok' b _ (un.frzs b _ _ q)
          rw [e] at e1
          cases e1
          exact e2
    refine ⟨rfl, ⟨fun b o e => ?_, fun b o e => ?_⟩, os, bare⟩
    · by_cases hb : b = T
      · subst hb
        rw [hT] at e
        cases e
        exact .inr (.inl ⟨(hC.tab hT).isCodeTable, rfl, #[], more, rfl, hTm⟩)
      · exact .inl (stay b o hb e)
    · by_cases hb : b = T
      · exact ⟨_, by rw [hb]; exact hTm⟩
      · exact ⟨o, stay b o hb e⟩
/-- the goal that the head leaves -/
theorem walk_endG {l : PySem.W.OpenLaw} {n k : Nat} {q : Program} {loose : List Str} {XP : (Str → Option Value) → Heap → Prop} {YP : World → Heap → Prop} {d : DefRec} {K : Params → PySem.W.Frag} {x : Str} {c T : Addr} {sp : World → Sp}
    (hn : l.most = some n) (hn2 : n ≤ sizeLine) (hdf : d.params.defaults = []) (hr : Room k callerA) (hY : ∀ (w : World) (h : Heap), YP w h → (K w.params).In h) (hT : ∀ (w : World) (h : Heap), YP w h → h.get? T = some { cls := .none, data := .fields #[] })
    (nT : ∀ w : World, (K w.params).lookup T = none) (hC : ∀ w : World, PySem.W.codeHdIn (K w.params) c T = true)
    (F : ∀ (w : World) (mg : Str → Option Value) (fa : Addr) (h : Heap), (K w.params).In h → h.Ns mainGlobals mg → mg d.name = some (.ref fa) →
      ∃ fd : FuncData, (∀ (s : Shared) (u : Value), BindsTo s fd ⟨[u], []⟩ [(x, u)]) ∧ ∀ base : Heap, (K w.params).In base → base.Ns mainGlobals mg → TabB base mg c T → FnG l.prog w (K w.params) mg base k fa fd [x] (sp w))
    (hsp : ∀ (w : World) (H : Hp) (a : Addr) (ns : List Int), ns.length ≤ n → H T = some (.tbl #[]) → FrL (K w.params) H a (ns.map V.int) → sp w [.ref a] H (fun v _ => v = .bl true) E0) :
    PySem.W.WalkO q loose XP YP l.row.toRowW d [] (fun f vs => PySem.call f vs) := by
  refine Att.attach_callB hn hdf fun w s0 s1 mg mb fa o pm cd doc a vs ns G Y ho hd hcd hmg hobj hints hlen hbits hg => ?_
  have KX := hY w _ Y
  obtain ⟨fd, hb, hF⟩ := F w mg fa _ KX G.T.g hmg
  exact law_endG KX G.T.g G.T.b G.T.builtins G.T.nolimit hg (hT w _ Y) (nT w) (PySem.W.codeHd_of_K KX (hC w)) G.T.bmain hobj hints (Nat.le_trans hlen hn2) hr hF hb fun H hH hS => hsp w H a ns hlen hH hS
end K38

namespace K38
open PySem PySem.Spec PyProof.Rows L2 LamX

/-! ### the text by places -/
def top (i : Nat) : Stmt := PySem.Challenge.pw_numberedpackets_k38_whole_good_ones_are.main.body.getD i (.Pass ⟨0, 0, 0, 0⟩)
abbrev s_is_plain : Stmt := top 8
abbrev nm_is_plain : List Str := ["sign"]
abbrev pr_is_plain : List Str := ["sign"]
theorem sc_is_plain : FnScope nm_is_plain pr_is_plain (defScope s_is_plain) := ⟨rfl, rfl, rfl, by decide +kernel, rfl, by decide +kernel, by decide +kernel⟩
abbrev s_written : Stmt := top 9
abbrev nm_written : List Str := ["number", "many", "found", "turn", "value"]
abbrev pr_written : List Str := ["number", "many"]
theorem sc_written : FnScope nm_written pr_written (defScope s_written) := ⟨rfl, rfl, rfl, by decide +kernel, rfl, by decide +kernel, by decide +kernel⟩
abbrev s_number_in : Stmt := top 10
abbrev nm_number_in : List Str := ["signs", "found", "sign"]
abbrev pr_number_in : List Str := ["signs"]
theorem sc_number_in : FnScope nm_number_in pr_number_in (defScope s_number_in) := ⟨rfl, rfl, rfl, by decide +kernel, rfl, by decide +kernel, by decide +kernel⟩
abbrev s_value_at : Stmt := top 20
abbrev nm_value_at : List Str := ["signs", "at"]
abbrev pr_value_at : List Str := ["signs", "at"]
theorem sc_value_at : FnScope nm_value_at pr_value_at (defScope s_value_at) := ⟨rfl, rfl, rfl, by decide +kernel, rfl, by decide +kernel, by decide +kernel⟩
abbrev s_spoiled : Stmt := top 21
abbrev nm_spoiled : List Str := ["signs", "place", "by", "at"]
abbrev pr_spoiled : List Str := ["signs", "place", "by"]
theorem sc_spoiled : FnScope nm_spoiled pr_spoiled (defScope s_spoiled) := ⟨rfl, rfl, rfl, by decide +kernel, rfl, by decide +kernel, by decide +kernel⟩
abbrev s_is_number : Stmt := top 22
abbrev nm_is_number : List Str := ["thing", "least", "most"]
abbrev pr_is_number : List Str := ["thing", "least", "most"]
theorem sc_is_number : FnScope nm_is_number pr_is_number (defScope s_is_number) := ⟨rfl, rfl, rfl, by decide +kernel, rfl, by decide +kernel, by decide +kernel⟩
abbrev s_are_added : Stmt := top 23
abbrev nm_are_added : List Str := ["thing", "sign"]
abbrev pr_are_added : List Str := ["thing"]
theorem sc_are_added : FnScope nm_are_added pr_are_added (defScope s_are_added) := ⟨rfl, rfl, rfl, by decide +kernel, rfl, by decide +kernel, by decide +kernel⟩
abbrev s_is_deed : Stmt := top 24
abbrev nm_is_deed : List Str := ["thing", "late", "word", "rest"]
abbrev pr_is_deed : List Str := ["thing", "late"]
theorem sc_is_deed : FnScope nm_is_deed pr_is_deed (defScope s_is_deed) := ⟨rfl, rfl, rfl, by decide +kernel, rfl, by decide +kernel, by decide +kernel⟩
abbrev s_need_deeds : Stmt := top 25
abbrev nm_need_deeds : List Str := ["thing", "late", "at", "deed"]
abbrev pr_need_deeds : List Str := ["thing", "late"]
theorem sc_need_deeds : FnScope nm_need_deeds pr_need_deeds (defScope s_need_deeds) := ⟨rfl, rfl, rfl, by decide +kernel, rfl, by decide +kernel, by decide +kernel⟩
abbrev s_Line_init : Stmt := inClass (top 26) 0
abbrev nm_Line_init : List Str := ["self", "deeds", "late"]
abbrev pr_Line_init : List Str := ["self", "deeds", "late"]
theorem sc_Line_init : FnScope nm_Line_init pr_Line_init (defScope s_Line_init) := ⟨rfl, rfl, rfl, by decide +kernel, rfl, by decide +kernel, by decide +kernel⟩
abbrev s_put : Stmt := inClass (top 26) 1
abbrev nm_put : List Str := ["self", "signs", "turn", "way", "deed", "come", "seen", "turned_up"]
abbrev pr_put : List Str := ["self", "signs", "turn", "way"]
theorem sc_put : FnScope nm_put pr_put (defScope s_put) := ⟨rfl, rfl, rfl, by decide +kernel, rfl, by decide +kernel, by decide +kernel⟩
abbrev s_due : Stmt := inClass (top 26) 2
abbrev nm_due : List Str := ["self", "turn", "way", "came", "found", "come", "own_way", "seen", "row"]
abbrev pr_due : List Str := ["self", "turn", "way"]
theorem sc_due : FnScope nm_due pr_due (defScope s_due) := ⟨rfl, rfl, rfl, by decide +kernel, rfl, by decide +kernel, by decide +kernel⟩
abbrev s_left_of : Stmt := top 28
abbrev nm_left_of : List Str := ["values", "base", "by", "found", "value"]
abbrev pr_left_of : List Str := ["values", "base", "by"]
theorem sc_left_of : FnScope nm_left_of pr_left_of (defScope s_left_of) := ⟨rfl, rfl, rfl, by decide +kernel, rfl, by decide +kernel, by decide +kernel⟩
abbrev s_values_of : Stmt := top 31
abbrev nm_values_of : List Str := ["signs", "sign"]
abbrev pr_values_of : List Str := ["signs"]
theorem sc_values_of : FnScope nm_values_of pr_values_of (defScope s_values_of) := ⟨rfl, rfl, rfl, by decide +kernel, rfl, by decide +kernel, by decide +kernel⟩
abbrev s_check : Stmt := top 32
abbrev nm_check : List Str := ["signs", "kind", "values"]
abbrev pr_check : List Str := ["signs", "kind"]
theorem sc_check : FnScope nm_check pr_check (defScope s_check) := ⟨rfl, rfl, rfl, by decide +kernel, rfl, by decide +kernel, by decide +kernel⟩
abbrev s_mark_of : Stmt := top 41
abbrev nm_mark_of : List Str := ["letter"]
abbrev pr_mark_of : List Str := ["letter"]
theorem sc_mark_of : FnScope nm_mark_of pr_mark_of (defScope s_mark_of) := ⟨rfl, rfl, rfl, by decide +kernel, rfl, by decide +kernel, by decide +kernel⟩
abbrev s_check_of : Stmt := top 42
abbrev nm_check_of : List Str := ["letter", "kind"]
abbrev pr_check_of : List Str := ["letter", "kind"]
theorem sc_check_of : FnScope nm_check_of pr_check_of (defScope s_check_of) := ⟨rfl, rfl, rfl, by decide +kernel, rfl, by decide +kernel, by decide +kernel⟩
abbrev s_put_as : Stmt := top 43
abbrev nm_put_as : List Str := ["packet", "kind", "number", "letter", "data", "by", "size", "row"]
abbrev pr_put_as : List Str := ["packet", "kind"]
theorem sc_put_as : FnScope nm_put_as pr_put_as (defScope s_put_as) := ⟨rfl, rfl, rfl, by decide +kernel, rfl, by decide +kernel, by decide +kernel⟩
abbrev s_letter_of : Stmt := top 46
abbrev nm_letter_of : List Str := ["sign", "mark", "letter"]
abbrev pr_letter_of : List Str := ["sign", "mark"]
theorem sc_letter_of : FnScope nm_letter_of pr_letter_of (defScope s_letter_of) := ⟨rfl, rfl, rfl, by decide +kernel, rfl, by decide +kernel, by decide +kernel⟩
abbrev s_Scanner_init : Stmt := inClass (top 47) 0
abbrev nm_Scanner_init : List Str := ["self", "kind"]
abbrev pr_Scanner_init : List Str := ["self", "kind"]
theorem sc_Scanner_init : FnScope nm_Scanner_init pr_Scanner_init (defScope s_Scanner_init) := ⟨rfl, rfl, rfl, by decide +kernel, rfl, by decide +kernel, by decide +kernel⟩
abbrev s_fed : Stmt := inClass (top 47) 2
abbrev nm_fed : List Str := ["self"]
abbrev pr_fed : List Str := ["self"]
theorem sc_fed : FnScope nm_fed pr_fed (defScope s_fed) := ⟨rfl, rfl, rfl, by decide +kernel, rfl, by decide +kernel, by decide +kernel⟩
abbrev s_is_open : Stmt := inClass (top 47) 3
abbrev nm_is_open : List Str := ["self"]
abbrev pr_is_open : List Str := ["self"]
theorem sc_is_open : FnScope nm_is_open pr_is_open (defScope s_is_open) := ⟨rfl, rfl, rfl, by decide +kernel, rfl, by decide +kernel, by decide +kernel⟩
abbrev s_feed : Stmt := inClass (top 47) 4
abbrev nm_feed : List Str := ["self", "signs", "found", "sign"]
abbrev pr_feed : List Str := ["self", "signs"]
theorem sc_feed : FnScope nm_feed pr_feed (defScope s_feed) := ⟨rfl, rfl, rfl, by decide +kernel, rfl, by decide +kernel, by decide +kernel⟩
abbrev s_begin : Stmt := inClass (top 47) 5
abbrev nm_begin : List Str := ["self", "mark"]
abbrev pr_begin : List Str := ["self", "mark"]
theorem sc_begin : FnScope nm_begin pr_begin (defScope s_begin) := ⟨rfl, rfl, rfl, by decide +kernel, rfl, by decide +kernel, by decide +kernel⟩
abbrev s_bad : Stmt := inClass (top 47) 6
abbrev nm_bad : List Str := ["self", "at"]
abbrev pr_bad : List Str := ["self"]
theorem sc_bad : FnScope nm_bad pr_bad (defScope s_bad) := ⟨rfl, rfl, rfl, by decide +kernel, rfl, by decide +kernel, by decide +kernel⟩
abbrev s_known : Stmt := inClass (top 47) 7
abbrev nm_known : List Str := ["self", "many", "size", "twin", "packet", "at"]
abbrev pr_known : List Str := ["self"]
theorem sc_known : FnScope nm_known pr_known (defScope s_known) := ⟨rfl, rfl, rfl, by decide +kernel, rfl, by decide +kernel, by decide +kernel⟩
abbrev s_read : Stmt := inClass (top 47) 8
abbrev nm_read : List Str := ["self", "row", "number", "letter"]
abbrev pr_read : List Str := ["self"]
theorem sc_read : FnScope nm_read pr_read (defScope s_read) := ⟨rfl, rfl, rfl, by decide +kernel, rfl, by decide +kernel, by decide +kernel⟩
abbrev s__law_pen : Stmt := top 49
abbrev nm__law_pen : List Str := ["_law_script"]
abbrev pr__law_pen : List Str := ["_law_script"]
theorem sc__law_pen : FnScope nm__law_pen pr__law_pen (defScope s__law_pen) := ⟨rfl, rfl, rfl, by decide +kernel, rfl, by decide +kernel, by decide +kernel⟩
abbrev s__law_draw : Stmt := top 50
abbrev nm__law_draw : List Str := ["_law_pen_here", "_law_many", "_law_drawn", "_law_at", "_law_cell", "_law_number"]
abbrev pr__law_draw : List Str := ["_law_pen_here", "_law_many"]
theorem sc__law_draw : FnScope nm__law_draw pr__law_draw (defScope s__law_draw) := ⟨rfl, rfl, rfl, by decide +kernel, rfl, by decide +kernel, by decide +kernel⟩
abbrev s__law_plain : Stmt := top 51
abbrev nm__law_plain : List Str := ["_law_pen_here"]
abbrev pr__law_plain : List Str := ["_law_pen_here"]
theorem sc__law_plain : FnScope nm__law_plain pr__law_plain (defScope s__law_plain) := ⟨rfl, rfl, rfl, by decide +kernel, rfl, by decide +kernel, by decide +kernel⟩
abbrev s__law_deed : Stmt := top 52
abbrev nm__law_deed : List Str := ["_law_pen_here", "_law_lateness", "_law_size", "_law_side", "_law_place", "_law_signs", "_law_k"]
abbrev pr__law_deed : List Str := ["_law_pen_here", "_law_lateness", "_law_size"]
theorem sc__law_deed : FnScope nm__law_deed pr__law_deed (defScope s__law_deed) := ⟨rfl, rfl, rfl, by decide +kernel, rfl, by decide +kernel, by decide +kernel⟩
abbrev s__law_packet : Stmt := top 53
abbrev nm__law_packet : List Str := ["_law_pen_here", "_law_size", "_law_number", "_law_k"]
abbrev pr__law_packet : List Str := ["_law_pen_here"]
theorem sc__law_packet : FnScope nm__law_packet pr__law_packet (defScope s__law_packet) := ⟨rfl, rfl, rfl, by decide +kernel, rfl, by decide +kernel, by decide +kernel⟩
abbrev s__law_rows : Stmt := top 54
abbrev nm__law_rows : List Str := ["_law_deed_here", "_law_packet_here", "_law_signs", "_law_size", "_law_good"]
abbrev pr__law_rows : List Str := ["_law_deed_here", "_law_packet_here", "_law_signs"]
theorem sc__law_rows : FnScope nm__law_rows pr__law_rows (defScope s__law_rows) := ⟨rfl, rfl, rfl, by decide +kernel, rfl, by decide +kernel, by decide +kernel⟩
abbrev s__law_heard : Stmt := top 55
abbrev nm__law_heard : List Str := ["_law_book", "_law_scanner", "_law_line", "_law_when", "_law_side", "_law_due", "_law_come", "_law_row", "_law_told", "_law_ahead", "_law_size", "_law_found"]
abbrev pr__law_heard : List Str := ["_law_book", "_law_scanner", "_law_line", "_law_when", "_law_side"]
theorem sc__law_heard : FnScope nm__law_heard pr__law_heard (defScope s__law_heard) := ⟨rfl, rfl, rfl, by decide +kernel, rfl, by decide +kernel, by decide +kernel⟩
abbrev s_law : Stmt := top 56
abbrev nm_law : List Str := ["_law_script", "_law_pen_here", "_law_lateness", "_law_own", "_law_k", "_law_packets", "_law_deeds", "_law_line", "_law_scanners", "_law_book", "_law_when", "_law_packet_here", "_law_side", "_law_signs", "_law_deed_here", "_law_come", "_law_one", "_law_ahead", "_law_other"]
abbrev pr_law : List Str := ["_law_script"]
theorem sc_law : FnScope nm_law pr_law (defScope s_law) := ⟨rfl, rfl, rfl, by decide +kernel, rfl, by decide +kernel, by decide +kernel⟩

/-! ### built-ins by name -/
theorem bt_abs : bootBuiltins "abs" = some (.builtin "abs") := by decide +kernel
theorem bt_all : bootBuiltins "all" = some (.builtin "all") := by decide +kernel
theorem bt_bool : bootBuiltins "bool" = some (.type "bool") := by decide +kernel
theorem bt_divmod : bootBuiltins "divmod" = some (.builtin "divmod") := by decide +kernel
theorem bt_enumerate : bootBuiltins "enumerate" = some (.type "enumerate") := by decide +kernel
theorem bt_int : bootBuiltins "int" = some (.type "int") := by decide +kernel
theorem bt_isinstance : bootBuiltins "isinstance" = some (.builtin "isinstance") := by decide +kernel
theorem bt_len : bootBuiltins "len" = some (.builtin "len") := by decide +kernel
theorem bt_list : bootBuiltins "list" = some (.type "list") := by decide +kernel
theorem bt_max : bootBuiltins "max" = some (.builtin "max") := by decide +kernel
theorem bt_ord : bootBuiltins "ord" = some (.builtin "ord") := by decide +kernel
theorem bt_range : bootBuiltins "range" = some (.type "range") := by decide +kernel
theorem bt_repr : bootBuiltins "repr" = some (.builtin "repr") := by decide +kernel
theorem bt_reversed : bootBuiltins "reversed" = some (.type "reversed") := by decide +kernel
theorem bt_sorted : bootBuiltins "sorted" = some (.builtin "sorted") := by decide +kernel
theorem bt_str : bootBuiltins "str" = some (.type "str") := by decide +kernel
theorem bt_sum : bootBuiltins "sum" = some (.builtin "sum") := by decide +kernel
theorem bt_tuple : bootBuiltins "tuple" = some (.type "tuple") := by decide +kernel

/-! ### what the top has written -/
/-- a tuple of the module -/
def KTup (K : PySem.W.Frag) (a : Addr) (xs : List V) : Prop := ∃ (o : Obj) (its : Array Value) (n : Nat), K.lookup a = some o ∧ o.cls = .type "tuple" ∧ o.data = .seq its n ∧ its.size ≤ sizeLine ∧ Vals xs its.toList
theorem KTup.sq {K : PySem.W.Frag} {a : Addr} {xs : List V} (k : KTup K a xs) (H : Hp) : SqT K H a xs := .inr k
def intKey : Value → Option Int
  | .int k _ => some k
  | _ => none
/-- the dict of the module with whole numbers as keys -/
def KInt (K : PySem.W.Frag) (a : Addr) (f : Int → Option V) : Prop := ∃ (es : Array DictEntry) (n : Nat), K.lookup a = some ⟨.type "dict", none, .dict es n, #[]⟩ ∧
  (∀ e ∈ es, ∃ k, intKey e.key = some k ∧ e.hash = hashInt k) ∧ ∀ k v, f k = some v → ∃ u, findBy Value.isInt es k = some u ∧ RelV v u
structure Txt (K : PySem.W.Frag) (mg : Str → Option Value) (C D : Addr) : Prop where
  LEAST_PLAIN : ∃ u, mg "LEAST_PLAIN" = some u ∧ RelV (.int 32) u
  LAST_PLAIN : ∃ u, mg "LAST_PLAIN" = some u ∧ RelV (.int 126) u
  BASE : ∃ u, mg "BASE" = some u ∧ RelV (.int 95) u
  MOST_DEEDS : ∃ u, mg "MOST_DEEDS" = some u ∧ RelV (.int 300) u
  MOST_PLACE : ∃ u, mg "MOST_PLACE" = some u ∧ RelV (.int 200) u
  MOST_BY : ∃ u, mg "MOST_BY" = some u ∧ RelV (.int 94) u
  MOST_ADDED : ∃ u, mg "MOST_ADDED" = some u ∧ RelV (.int 8) u
  LAST_SIGN : ∃ u, mg "LAST_SIGN" = some u ∧ RelV (.int 255) u
  VALUES : ∃ u, mg "VALUES" = some u ∧ RelV (.int 95) u
  MARK : ∃ u, mg "MARK" = some u ∧ RelV (.int 1) u
  OPENING_MARK : ∃ u, mg "OPENING_MARK" = some u ∧ RelV (.int 2) u
  MOST_NUMBER : ∃ u, mg "MOST_NUMBER" = some u ∧ RelV (.int 63) u
  MOST_SIZE : ∃ u, mg "MOST_SIZE" = some u ∧ RelV (.int 94) u
  AROUND : ∃ u, mg "AROUND" = some u ∧ RelV (.int 2) u
  SIZES : ∃ u, mg "SIZES" = some u ∧ RelV (.int 2) u
  z_abs : mg "abs" = none
  z_all : mg "all" = none
  z_bool : mg "bool" = none
  z_divmod : mg "divmod" = none
  z_enumerate : mg "enumerate" = none
  z_int : mg "int" = none
  z_isinstance : mg "isinstance" = none
  z_len : mg "len" = none
  z_list : mg "list" = none
  z_max : mg "max" = none
  z_ord : mg "ord" = none
  z_range : mg "range" = none
  z_repr : mg "repr" = none
  z_reversed : mg "reversed" = none
  z_sorted : mg "sorted" = none
  z_str : mg "str" = none
  z_sum : mg "sum" = none
  z_tuple : mg "tuple" = none
  OPENING : ∃ a, mg "OPENING" = some (.ref a) ∧ KTup K a [.str "O", .str "P", .str "E"]
  LETTERS : ∃ a, mg "LETTERS" = some (.ref a) ∧ KTup K a [.str "O", .str "P", .str "E", .str "F", .str "A", .str "S", .str "D", .str "Z", .str "B", .str "Y", .str "N"]
  MARKS : ∃ a, mg "MARKS" = some (.ref a) ∧ KTup K a [.int 1, .int 2]
  PASS : ∃ a, mg "PASS" = some (.ref a) ∧ KTup K a [.str "pass"]
  BY : ∃ a, mg "BY" = some (.ref a) ∧ KInt K a (fun k => if k = 1 then some (.int 95) else if k = 2 then some (.int 9013) else if k = 3 then some (.int 857369) else none)
  clC : Cls K C
  clD : Cls K D
  a_coming : NoAttr K C "coming"
  a_given : NoAttr K C "given"
  a_under_way : NoAttr K C "under_way"
  a_latest : NoAttr K C "latest"
  a_held : NoAttr K C "held"
  a_now_kind : NoAttr K D "now_kind"
  a_many_fed : NoAttr K D "many_fed"
  a_begun_at : NoAttr K D "begun_at"
  a_begun_mark : NoAttr K D "begun_mark"
  a_begun_check : NoAttr K D "begun_check"
  a_begun_signs : NoAttr K D "begun_signs"
theorem pe_gt {X : Cx} {x : Str} {a : Addr} {pos : Pos} (hg : Gl X x) (h : X.mg x = some (.ref a)) (hd : (x == ("__debug__" : Str)) = false := by decide) : PE X (.Name x pos) (tC (.ref a)) := pe_glob hg h rfl hd

theorem pe_gn {X : Cx} {x : Str} {v : V} {pos : Pos} (hg : Gl X x) (h : ∃ u, X.mg x = some u ∧ RelV v u) (hd : (x == ("__debug__" : Str)) = false := by decide) : PE X (.Name x pos) (tC v) := by
  obtain ⟨u, hm, r⟩ := h
  exact pe_glob hg hm r hd

/-! ### defs by their promises -/
structure Cal (P : Program) (w : World) (K : PySem.W.Frag) (mg : Str → Option Value) (base : Heap) (k : Nat) (x : Str) (sp : Sp) : Prop where
  ex : ∃ (f : Addr) (fd : FuncData) (ps : List Str), FnOk P w K mg base CX0 k f fd ps sp ∧ mg x = some (.ref f) ∧ PySem.W.keepIn K (.ref f) = true ∧ Binds K fd ps []
structure CalK (P : Program) (w : World) (K : PySem.W.Frag) (mg : Str → Option Value) (base : Heap) (k : Nat) (x : Str) (n : Nat) (ks : List Str) (sp : Sp) : Prop where
  ex : ∃ (f : Addr) (fd : FuncData) (ps : List Str) (g : List Value → List Value → List Value), FnOk P w K mg base CX0 k f fd ps sp ∧ mg x = some (.ref f) ∧ PySem.W.keepIn K (.ref f) = true ∧ KBn K fd ps n ks g (fun vs zs => vs ++ zs)
structure CalG (P : Program) (w : World) (K : PySem.W.Frag) (mg : Str → Option Value) (base : Heap) (k : Nat) (x : Str) (sp : Sp) : Prop where
  ex : ∃ (f : Addr) (fd : FuncData) (ps : List Str), FnG P w K mg base k f fd ps sp ∧ mg x = some (.ref f) ∧ PySem.W.keepIn K (.ref f) = true ∧ Binds K fd ps []
structure Met (P : Program) (w : World) (K : PySem.W.Frag) (mg : Str → Option Value) (base : Heap) (k : Nat) (C : Addr) (m : Str) (sp : Sp) : Prop where
  ex : ∃ (f : Addr) (fd : FuncData) (ps : List Str), Cls K C ∧ Meth K C m f ∧ FnOk P w K mg base CX0 k f fd ps sp ∧ Binds K fd ps []
structure MetK (P : Program) (w : World) (K : PySem.W.Frag) (mg : Str → Option Value) (base : Heap) (k : Nat) (C : Addr) (m : Str) (n : Nat) (ks : List Str) (sp : Sp) : Prop where
  ex : ∃ (f : Addr) (fd : FuncData) (ps : List Str) (g : List Value → List Value → List Value), Cls K C ∧ Meth K C m f ∧ FnOk P w K mg base CX0 k f fd ps sp ∧ KBn K fd ps (n + 1) ks g (fun vs zs => vs ++ zs)
structure MakK (P : Program) (w : World) (K : PySem.W.Frag) (mg : Str → Option Value) (base : Heap) (k : Nat) (x : Str) (C : Addr) (n : Nat) (ks : List Str) (sp : Sp) : Prop where
  ex : ∃ (f : Addr) (fd : FuncData) (ps : List Str) (g : List Value → List Value → List Value), Mk K C f ∧ FnOk P w K mg base CX0 k f fd ps sp ∧ mg x = some (.ref C) ∧ KBn K fd ps (n + 1) ks g (fun vs zs => vs ++ zs)
section
variable {X : Cx} {k j n : Nat} {C : Addr} {x m : Str} {ks : List Str} {sp : Sp} {p pos apos : Pos} {e o : Expr} {es : List Expr} {kws : List Keyword} {ta : TE} {t tk : TA}
theorem pcal (c : Cal X.prog X.w X.K X.mg X.base k x sp) (hr : Room j X.A) (hk : k ≤ j) (ha : PA X (e :: es) t) (hg : Gl X x := by rfl)
    (hdb : (x == ("__debug__" : Str)) = false := by decide) (he : starEach (e :: es) X.env = (false, eval e X.env) :: starEach es X.env := by rfl) (hpl : (backTo pos (starEach es X.env)).any (·.1) = false := by rfl) :
    PE X (.Call (.Name x p) (e :: es) [] pos) (tCall sp [] E0 t) := by
  obtain ⟨f, fd, ps, F, hm, kp, b⟩ := c.ex
  exact pe_call F (hr.mono hk) hg hm kp b .nil pass0 ha hdb he hpl
theorem pcalG (c : CalG X.prog X.w X.K X.mg X.base k x sp) (hG : X.A.guards = some []) (hr : Room j X.A) (hk : k ≤ j) (ha : PA X (e :: es) t) (hg : Gl X x := by rfl)
    (hdb : (x == ("__debug__" : Str)) = false := by decide) (he : starEach (e :: es) X.env = (false, eval e X.env) :: starEach es X.env := by rfl) (hpl : (backTo pos (starEach es X.env)).any (·.1) = false := by rfl) :
    PE X (.Call (.Name x p) (e :: es) [] pos) (tCall sp [] E0 t) := by
  obtain ⟨f, fd, ps, F, hm, kp, b⟩ := c.ex
  exact pe_callG F hG (hr.mono hk) hg hm kp b ha hdb he hpl
theorem pcalK (c : CalK X.prog X.w X.K X.mg X.base k x n ks sp) (hr : Room j X.A) (hk : k ≤ j) (ha : PA X (e :: es) t) (hkw : PK X kws tk) (hg : Gl X x := by rfl)
    (hall : (backToKw pos (keywordEach kws X.env)).all (·.1.isSome) = true := by rfl) (hks : (backToKw pos (keywordEach kws X.env)).filterMap (·.1) = ks := by rfl)
    (hdb : (x == ("__debug__" : Str)) = false := by decide) (he : starEach (e :: es) X.env = (false, eval e X.env) :: starEach es X.env := by rfl)
    (hpl : ((backTo pos (starEach (e :: es) X.env)).any (·.1) || (backToKw pos (keywordEach kws X.env)).any (·.1.isNone)) = false := by rfl) :
    PE X (.Call (.Name x p) (e :: es) kws pos) (L2.tCallN n ks.length sp (fun vs zs => vs ++ zs) E0 t tk) := by
  obtain ⟨f, fd, ps, g, F, hm, kp, b⟩ := c.ex
  exact pe_callN F (hr.mono hk) hg hm kp b pass0 ha hkw hall hks hdb he hpl
theorem pmakK (c : MakK X.prog X.w X.K X.mg X.base k x C n ks sp) (hr : Room j X.A) (hk : k + 1 ≤ j) (ha : PA X (e :: es) t) (hkw : PK X kws tk) (hg : Gl X x := by rfl)
    (hall : (backToKw pos (keywordEach kws X.env)).all (·.1.isSome) = true := by rfl) (hks : (backToKw pos (keywordEach kws X.env)).filterMap (·.1) = ks := by rfl)
    (hdb : (x == ("__debug__" : Str)) = false := by decide) (he : starEach (e :: es) X.env = (false, eval e X.env) :: starEach es X.env := by rfl)
    (hpl : ((backTo pos (starEach (e :: es) X.env)).any (·.1) || (backToKw pos (keywordEach kws X.env)).any (·.1.isNone)) = false := by rfl) :
    PE X (.Call (.Name x p) (e :: es) kws pos) (tMakeK C n ks.length sp (fun vs zs => vs ++ zs) E0 t tk) := by
  obtain ⟨f, fd, ps, g, M, F, hm, b⟩ := c.ex
  exact pe_makeK M F (hr.mono hk) hg hm b pass0 ha hkw hall hks hdb he hpl
theorem pmakK0 (c : MakK X.prog X.w X.K X.mg X.base k x C 0 ks sp) (hr : Room j X.A) (hk : k + 1 ≤ j) (hkw : PK X kws tk) (hg : Gl X x := by rfl)
    (hall : (backToKw pos (keywordEach kws X.env)).all (·.1.isSome) = true := by rfl) (hks : (backToKw pos (keywordEach kws X.env)).filterMap (·.1) = ks := by rfl)
    (hdb : (x == ("__debug__" : Str)) = false := by decide)
    (hpl : ((backTo pos (starEach [] X.env)).any (·.1) || (backToKw pos (keywordEach kws X.env)).any (·.1.isNone)) = false := by rfl) :
    PE X (.Call (.Name x p) [] kws pos) (tMakeK C 0 ks.length sp (fun vs zs => vs ++ zs) E0 tNil tk) := by
  obtain ⟨f, fd, ps, g, M, F, hm, b⟩ := c.ex
  exact pe_makeK0 M F (hr.mono hk) hg hm b pass0 hkw hall hks hdb hpl
theorem pmet {pl : Sem Bool} (c : Met X.prog X.w X.K X.mg X.base k C m sp) (hr : Room j X.A) (hk : k ≤ j) (ho : PE X o ta) (ha : PA X (e :: es) t)
    (h1 : starEach (e :: es) X.env = (false, eval e X.env) :: starEach es X.env := by rfl) (h2 : (backTo pos (starEach es X.env)).any (·.1) = false := by rfl)
    (h3 : eval (.Call (.Attribute o m apos) (e :: es) [] pos) X.env = (do
        let ov ← eval o X.env; standAt apos.atName
        let (f, first) ← holding [ov] (getMethod ov m pl)
        callWith pos f first (backTo pos (starEach (e :: es) X.env)) (backToKw pos (keywordEach [] X.env))) := by rfl) :
    PE X (.Call (.Attribute o m apos) (e :: es) [] pos) (tMeth C m sp [] E0 ta t) := by
  obtain ⟨f, fd, ps, hc, hm, F, b⟩ := c.ex
  exact pe_meth (pl := pl) ho hc hm F (hr.mono hk) b .nil pass0 ha h1 h2 h3
theorem pmet0 {pl : Sem Bool} (c : Met X.prog X.w X.K X.mg X.base k C m sp) (hr : Room j X.A) (hk : k ≤ j) (ho : PE X o ta)
    (h3 : eval (.Call (.Attribute o m apos) [] [] pos) X.env = (do
        let ov ← eval o X.env; standAt apos.atName
        let (f, first) ← holding [ov] (getMethod ov m pl)
        callWith pos f first (backTo pos (starEach [] X.env)) (backToKw pos (keywordEach [] X.env))) := by rfl) :
    PE X (.Call (.Attribute o m apos) [] [] pos) (tMeth C m sp [] E0 ta tNil) := by
  obtain ⟨f, fd, ps, hc, hm, F, b⟩ := c.ex
  exact pe_meth0 (pl := pl) ho hc hm F (hr.mono hk) b .nil pass0 h3
theorem pmetK {pl : Sem Bool} (c : MetK X.prog X.w X.K X.mg X.base k C m n ks sp) (hr : Room j X.A) (hk : k ≤ j) (ho : PE X o ta) (ha : PA X (e :: es) t) (hkw : PK X kws tk)
    (he : eval (.Call (.Attribute o m apos) (e :: es) kws pos) X.env = (do
        let ov ← eval o X.env; standAt apos.atName
        let (f, first) ← holding [ov] (getMethod ov m pl)
        callWith pos f first (backTo pos (starEach (e :: es) X.env)) (backToKw pos (keywordEach kws X.env))) := by rfl)
    (h1 : (backToKw pos (keywordEach kws X.env)).all (·.1.isSome) = true := by rfl)
    (h2 : (backToKw pos (keywordEach kws X.env)).filterMap (·.1) = ks := by rfl)
    (h3 : starEach (e :: es) X.env = (false, eval e X.env) :: starEach es X.env := by rfl)
    (h4 : ((backTo pos (starEach (e :: es) X.env)).any (·.1) || (backToKw pos (keywordEach kws X.env)).any (·.1.isNone)) = false := by rfl) :
    PE X (.Call (.Attribute o m apos) (e :: es) kws pos) (tMethK C m n ks.length sp (fun vs zs => vs ++ zs) E0 ta t tk) := by
  obtain ⟨f, fd, ps, g, hc, hm, F, b⟩ := c.ex
  exact pe_methK (pl := pl) ho hc hm F (hr.mono hk) b pass0 ha hkw he h1 h2 h3 h4
theorem pmetK0 {pl : Sem Bool} (c : MetK X.prog X.w X.K X.mg X.base k C m 0 ks sp) (hr : Room j X.A) (hk : k ≤ j) (ho : PE X o ta) (hkw : PK X kws tk)
    (he : eval (.Call (.Attribute o m apos) [] kws pos) X.env = (do
        let ov ← eval o X.env; standAt apos.atName
        let (f, first) ← holding [ov] (getMethod ov m pl)
        callWith pos f first (backTo pos (starEach [] X.env)) (backToKw pos (keywordEach kws X.env))) := by rfl)
    (h1 : (backToKw pos (keywordEach kws X.env)).all (·.1.isSome) = true := by rfl)
    (h2 : (backToKw pos (keywordEach kws X.env)).filterMap (·.1) = ks := by rfl)
    (h4 : ((backTo pos (starEach [] X.env)).any (·.1) || (backToKw pos (keywordEach kws X.env)).any (·.1.isNone)) = false := by rfl) :
    PE X (.Call (.Attribute o m apos) [] kws pos) (tMethK C m 0 ks.length sp (fun vs zs => vs ++ zs) E0 ta tNil tk) := by
  obtain ⟨f, fd, ps, g, hc, hm, F, b⟩ := c.ex
  exact pe_methK0 (pl := pl) ho hc hm F (hr.mono hk) b pass0 hkw he h1 h2 h4
/-- a name and a starred name -/
theorem pg_star2 {X : Cx} {i j kk : Nat} {x y : Str} {p1 p2 p3 pos : Pos} (hc : X.calm = true) (hN : X.N.Nodup) (hi : X.N[i]? = some x) (hj : X.N[j]? = some y) (hx : Loc X.env.scope x) (hy : Loc X.env.scope y)
    (fx : X.fn x = true ∨ X.env.scope.names.lookup x = some .local := by first | exact .inl rfl | exact .inr rfl) (fy : X.fn y = true ∨ X.env.scope.names.lookup y = some .local := by first | exact .inl rfl | exact .inr rfl) :
    PG X (.Tuple [.Name x p1, .Starred (.Name y p2) p3] kk pos) (gStar X.K (gCons (gName i) (gCons (gName j) gNil))) := by
  refine pg_star hc (fun pins s σ H vs us Q I r h => ?_)
  exact (pgs_cons (X := X) (e := .Name x p1) (es := [.Name y p2]) (pg_name hN hi hx fx) (pgs_cons (pg_name hN hj hy fy) pgs_nil)).run pins s σ H vs us Q I r h
theorem m2_get {X : Cx} {o e f : Expr} {apos cpos : Pos} (hb : attributeBase o "get" X.env (eval o X.env) = eval o X.env) (h1 : ((backTo cpos (starEach [e, f] X.env)).all (fun x => !x.1) && (backToKw cpos (keywordEach [] X.env)).all (fun x => x.1.isSome)
    && decide (([e, f] : List Expr).length + ([] : List Keyword).length + (if ([] : List Keyword).isEmpty then 0 else 1) < 30)) = true := by rfl) (h2 : (apos.endLine == cpos.line) = true := by rfl)
    (h3 : backTo cpos (starEach [e, f] X.env) = [(false, eval e X.env), (false, eval f X.env)] := by rfl) : M2 X o "get" apos e f cpos := ⟨hb, h1, h2, h3⟩
/-- BY[k] -/
theorem ix_by : IxR X (fun x y H Q => ∃ (a : Addr) (f : Int → Option V) (k : Int) (v : V), x = .ref a ∧ y = .int k ∧ KInt X.K a f ∧ f k = some v ∧ Q v H) := by
  intro value slice pins s σ H x y v u Q I rx ry h hs
  obtain ⟨a, f, k, r, rfl, rfl, ⟨es, n, hl, hk, hf⟩, e, q⟩ := h
  obtain rfl : v = Value.ref a := rx
  obtain ⟨t, rfl⟩ := (show ∃ t, u = Value.int k t from ry)
  obtain ⟨u0, e1, ru⟩ := hf k r e
  have hm : s.heap.MapOf (intKind X.prog X.w) a (fun k => findBy Value.isInt es k) := ⟨_, es, n, I.kIn _ _ hl, ⟨rfl, rfl, rfl⟩, rfl, fun d hd => (by
    obtain ⟨j, e1, e2⟩ := hk d hd
    refine ⟨j, ?_, e2⟩
    cases hkey : d.key with
    | int j' t' =>
      rw [hkey] at e1
      obtain rfl : j' = j := Option.some.inj e1
      simp [PySem.intKind, Value.isInt]
    | _ => rw [hkey] at e1; cases e1), fun _ => rfl⟩
  exact tail_any hm.typeIs slot_dict_getitem.lookup (wpAny_getItem_of (intKind_is X.prog X.w k t) hm e1 ⟨r, H, I.tok _, ru, q⟩) hs
end

/-! ### what stays -/
/-- what isn't changed in place -/
def still : HO → Bool
  | .lst _ | .dK _ | .dT _ | .set _ _ | .ins _ _ _ => false
  | _ => true
/-- all that was tracked stays, but what stands at l and can be changed -/
def Kp (l : List Addr) (H H' : Hp) : Prop := ∀ b o, H b = some o → (b ∈ l → still o = true) → H' b = some o
/-- .. but the tables of code objects -/
def KpN (l : List Addr) (H H' : Hp) : Prop := ∀ b o, H b = some o → (∀ ps, o ≠ .tbl ps) → (b ∈ l → still o = true) → H' b = some o
section
variable {l l' : List Addr} {H H1 H2 : Hp} {b : Addr} {o : HO} {K : PySem.W.Frag}
theorem Kp.refl (H : Hp) : Kp l H H := fun _ _ e _ => e
theorem Kp.n (k : Kp l H H1) : KpN l H H1 := fun b o e _ h => k b o e h
theorem Kp.same (k : Same H H1) : Kp l H H1 := fun b o e _ => k b o e
theorem Kp.to (k : Kp [] H H1) : Same H H1 := fun b o e => k b o e (fun z => absurd z List.not_mem_nil)
theorem Kp.trans (a : Kp l H H1) (c : Kp l H1 H2) : Kp l H H2 := fun b o e h => c b o (a b o e h) h
theorem KpN.trans (a : KpN l H H1) (c : KpN l H1 H2) : KpN l H H2 := fun b o e n h => c b o (a b o e n h) n h
theorem Kp.mono (a : Kp l H H1) (h : ∀ b ∈ l, b ∈ l') : Kp l' H H1 := fun b o e k => a b o e fun z => k (h b z)
theorem KpN.mono (a : KpN l H H1) (h : ∀ b ∈ l, b ∈ l') : KpN l' H H1 := fun b o e n k => a b o e n fun z => k (h b z)
theorem Kp.new (h : H b = none) : Kp l H (upd H b o) := fun c u e _ => by rw [upd_ne (ne_of_none e h)]; exact e
theorem Kp.fresh (k : Kp l H H1) (h : H b = none) : Kp l H (upd H1 b o) := fun c u e z => by rw [upd_ne (ne_of_none e h)]; exact k c u e z
theorem KpN.fresh (k : KpN l H H1) (h : H b = none) : KpN l H (upd H1 b o) := fun c u e n z => by rw [upd_ne (ne_of_none e h)]; exact k c u e n z
theorem Kp.put {u : HO} (h : H b = some u) (hs : still u = false) (hm : b ∈ l) : Kp l H (upd H b o) := fun c z e k => by
  by_cases q : c = b
  · subst q
    rw [h] at e
    cases e
    rw [hs] at k
    exact absurd (k hm) Bool.false_ne_true
  · rw [upd_ne q]
    exact e
theorem Kp.at_ (k : Kp l H H1) (e : H b = some o) (h : b ∉ l) : H1 b = some o := k b o e fun z => absurd z h
theorem KpN.at_ (k : KpN l H H1) (e : H b = some o) (h : b ∉ l) (n : ∀ ps, o ≠ .tbl ps) : H1 b = some o := k b o e n fun z => absurd z h
theorem Kp.free (k : Kp l H H1) (hs : ∀ b ∈ l, H b ≠ none → H1 b ≠ none) (e : H1 b = none) : H b = none := by
  cases q : H b with
  | none => rfl
  | some o =>
    by_cases hb : b ∈ l
    · exact absurd e (hs b hb (by rw [q]; exact fun z => nomatch z))
    · rw [k.at_ q hb] at e
      cases e
theorem Kp.sqT {a : Addr} {xs : List V} (k : KpN l H H1) (h : SqT K H a xs) : SqT K H1 a xs := by
  rcases h with (h | ⟨o, h⟩) | h
  · exact .inl (.inl (k a _ h (fun ps z => nomatch z) fun _ => rfl))
  · exact .inl (.inr ⟨o, k a _ h (fun ps z => nomatch z) fun _ => rfl⟩)
  · exact .inr h
theorem Kp.sqF {a : Addr} {xs : List V} (k : KpN l H H1) (h : SqL K H a xs) (hl : a ∉ l) : SqL K H1 a xs := by
  rcases h with (h | ⟨o, h⟩) | h
  · exact .inl (.inl (k a _ h (fun ps z => nomatch z) fun z => absurd z hl))
  · exact .inl (.inr ⟨o, k a _ h (fun ps z => nomatch z) fun z => absurd z hl⟩)
  · exact .inr h
theorem Kp.tabs {T : List (Addr × Str)} (k : Kp l H H1) (t : Tabs T H) : Tabs T H1 := fun p hp => by
  obtain ⟨ps, h1, h2, h3⟩ := t p hp
  refine ⟨ps, k _ _ h1 fun _ => rfl, h2, fun pos cv hc => ?_⟩
  obtain ⟨c, e1, e2⟩ := h3 pos cv hc
  exact ⟨c, e1, k _ _ e2 fun _ => rfl⟩
end
/-! ### data: whole numbers, texts, truths, None, tuples of such -/
mutual
/-- no list within -/
def flat : PyData → Bool
  | .list _ => false
  | .tuple ds => flatAll ds
  | .dict _ => false
  | _ => true
def flatAll : List PyData → Bool
  | [] => true
  | d :: ds => flat d && flatAll ds
end
section
variable {K : PySem.W.Frag} {l : List Addr} {H H1 : Hp}
mutual
theorem Kp.dp (k : KpN l H H1) : ∀ (d : PyData) (v : V), flat d = true → Dp K H v d → Dp K H1 v d
  | .none, _, _, h => by cases h; exact .non
  | .bool b, _, _, h => by cases h; exact .bl b
  | .int i, _, _, h => by cases h; exact .int i
  | .str x, _, _, h => by cases h; exact .str x
  | .list ds, _, f, _ => by simp [flat] at f
  | .dict kvs, _, f, _ => by simp [flat] at f
  | .tuple ds, _, f, h => by
    cases h with
    | tup hs ha => exact .tup (Kp.sqT k hs) (Kp.dpAll k ds _ (by simpa [flat] using f) ha)
theorem Kp.dpAll (k : KpN l H H1) : ∀ (ds : List PyData) (vs : List V), flatAll ds = true → DpAll K H vs ds → DpAll K H1 vs ds
  | [], _, _, h => by cases h; exact .nil
  | d :: ds, _, f, h => by
    have f' : flat d = true ∧ flatAll ds = true := by simpa [flatAll] using f
    cases h with
    | cons h1 h2 => exact .cons (Kp.dp k d _ f'.1 h1) (Kp.dpAll k ds _ f'.2 h2)
end
theorem dp_int {v : V} {i : Int} (h : Dp K H v (.int i)) : v = .int i := by cases h; rfl
theorem dp_str {v : V} {s : Str} (h : Dp K H v (.str s)) : v = .str s := by cases h; rfl
theorem dp_non {v : V} (h : Dp K H v .none) : v = .non := by cases h; rfl
theorem dp_tup {v : V} {ds : List PyData} (h : Dp K H v (.tuple ds)) : ∃ a xs, v = .ref a ∧ SqT K H a xs ∧ DpAll K H xs ds := by
  cases h with
  | tup hs ha => exact ⟨_, _, rfl, hs, ha⟩
theorem dp_cons {xs : List V} {d : PyData} {ds : List PyData} (h : DpAll K H xs (d :: ds)) : ∃ y ys, xs = y :: ys ∧ Dp K H y d ∧ DpAll K H ys ds := by
  cases h with
  | cons h1 h2 => exact ⟨_, _, rfl, h1, h2⟩
theorem dp_nil {xs : List V} (h : DpAll K H xs []) : xs = [] := by cases h; rfl
theorem dp_ints : ∀ {ns : List Int} {xs : List V}, DpAll K H xs (ns.map .int) → xs = ns.map .int
  | [], _, h => dp_nil h
  | n :: ns, _, h => by
    obtain ⟨y, ys, rfl, h1, h2⟩ := dp_cons h
    rw [dp_int h1, dp_ints h2]
    rfl
theorem ints_dp : ∀ (ns : List Int), DpAll K H (ns.map V.int) (ns.map .int)
  | [] => .nil
  | n :: ns => .cons (.int n) (ints_dp ns)
theorem dp_len : ∀ {ds : List PyData} {xs : List V}, DpAll K H xs ds → xs.length = ds.length
  | [], _, h => by rw [dp_nil h]; rfl
  | d :: ds, _, h => by
    obtain ⟨y, ys, rfl, h1, h2⟩ := dp_cons h
    rw [List.length_cons, List.length_cons, dp_len h2]
theorem dp_at : ∀ {ds : List PyData} {xs : List V} {i : Nat} {d : PyData}, DpAll K H xs ds → ds[i]? = some d → ∃ x, xs[i]? = some x ∧ Dp K H x d
  | [], _, i, _, _, e => by simp at e
  | d :: ds, _, 0, _, h, e => by
    obtain ⟨y, ys, rfl, h1, h2⟩ := dp_cons h
    cases e
    exact ⟨y, rfl, h1⟩
  | d :: ds, _, i + 1, _, h, e => by
    obtain ⟨y, ys, rfl, h1, h2⟩ := dp_cons h
    exact dp_at (i := i) h2 (by simpa using e)
theorem dp_app : ∀ {ds es : List PyData} {xs ys : List V}, DpAll K H xs ds → DpAll K H ys es → DpAll K H (xs ++ ys) (ds ++ es)
  | [], _, _, _, h, h' => by rw [dp_nil h]; exact h'
  | d :: ds, _, _, _, h, h' => by
    obtain ⟨y, ys, rfl, h1, h2⟩ := dp_cons h
    exact .cons h1 (dp_app h2 h')
theorem flat_ints : ∀ (ns : List Int), flatAll (ns.map .int) = true
  | [] => by simp [flatAll]
  | n :: ns => by simp [flatAll, flat, flat_ints ns]
end
/-- a list that may be changed, its items data -/
def LstD (K : PySem.W.Frag) (H : Hp) (l : Addr) (ds : List PyData) : Prop := ∃ xs, H l = some (.lst xs) ∧ DpAll K H xs ds
theorem LstD.kp {K : PySem.W.Frag} {l : List Addr} {H H1 : Hp} {a : Addr} {ds : List PyData} (h : LstD K H a ds) (k : KpN l H H1) (ha : a ∉ l) (f : flatAll ds = true) : LstD K H1 a ds := by
  obtain ⟨xs, e, d⟩ := h
  exact ⟨xs, k.at_ e ha (fun _ z => nomatch z), Kp.dpAll k ds xs f d⟩
/-- a text of one sign -/
abbrev sgn (c : Nat) : Str := ⟨#[c]⟩
def pkD (p : Pk) : PyData := .tuple [.int p.num, .str (sgn p.let_), .tuple (p.data.map .int)]
def toldD : Told → PyData
  | .bad a => .tuple [.str "bad", .none, .int a]
  | .good p a => .tuple [.str "good", pkD p, .int a]
theorem flat_pkD (p : Pk) : flat (pkD p) = true := by simp [pkD, flat, flatAll, flat_ints]
theorem flat_toldD (t : Told) : flat (toldD t) = true := by cases t <;> simp [toldD, flat, flatAll, flat_pkD]
theorem flat_told : ∀ ts : List Told, flatAll (ts.map toldD) = true
  | [] => by simp [flatAll]
  | t :: ts => by simp [flatAll, flat_toldD, flat_told ts]
end K38

namespace K38
open PySem PySem.Spec PyProof.Rows L2 LamX
section
variable {P : Program} {w : World} {K : PySem.W.Frag} {mg : Str → Option Value} {base : Heap} {C D : Addr}
/-! ### is_plain -/
def sp_is_plain : Sp := fun vs H Q _ => ∃ s : Int, vs = [.int s] ∧ Q (.bl (decide (plainI s))) H
theorem ok_is_plain {f : Addr} {fd : FuncData} (F : Fun K "is_plain" "is_plain" s_is_plain f fd) (T : Txt K mg C D) : FnOk P w K mg base CX0 1 f fd pr_is_plain sp_is_plain := by
  have nd := sc_is_plain.nd
  refine F.ok sc_is_plain (fun vs H Q E h => ?_) (fun cdv A outer s H vs Q E hr h => ?_)
  · obtain ⟨x, rfl, _⟩ := h
    rfl
  · obtain ⟨x, rfl, q⟩ := h
    refine ⟨_, (pss_one (ps_ret (pe_chain op_le op_le (pe_gn rfl T.LEAST_PLAIN) (pv 0) (pe_gn rfl T.LAST_PLAIN)))), ?_⟩
    refine ⟨_, rfl, _, _, rfl, rfl, _, rfl, ?_⟩
    by_cases h1 : 32 ≤ x
    · rw [decide_eq_true h1]
      refine iteT ⟨_, _, rfl, rfl, ?_⟩
      have e : decide (plainI x) = decide (x ≤ 126) := by
        unfold plainI
        simp [h1]
      rw [e] at q
      exact q
    · rw [decide_eq_false h1]
      refine iteF ?_
      have e : decide (plainI x) = false := decide_eq_false fun z => h1 z.1
      rw [e] at q
      exact q
/-! ### written -/
def sp_written : Sp := fun vs H Q _ => ∃ (n : Int) (k : Nat), vs = [.int n, .int k] ∧ k ≤ 9 ∧ ∀ p H', Kp [] H H' → H' p = some (.tup ((wr k n).map .int)) → Q (.ref p) H'
theorem ok_written {f : Addr} {fd : FuncData} (F : Fun K "written" "written" s_written f fd) (T : Txt K mg C D) : FnOk P w K mg base CX0 1 f fd pr_written sp_written := by
  have nd := sc_written.nd
  refine F.ok sc_written (fun vs H Q E h => ?_) (fun cdv A outer s H vs Q E hr h => ?_)
  · obtain ⟨n, k, rfl, _⟩ := h
    rfl
  · obtain ⟨n, k, rfl, hk, q⟩ := h
    refine ⟨_, (pss_cons (ps_set (i := 2) nd rfl (Or.inl rfl) (pe_lst pa_nil))
      (pss_cons (ps_for PassesOwn.never rfl (pi_range1 (by rfl) T.z_range (pa_cons (pv 1) pa_nil)) (pg_name (i := 3) nd rfl (Or.inl rfl)) (pss_cons (ps_asg (pe_callB call_divmod (by rfl) T.z_divmod bt_divmod (pa_cons (pv 0) (pa_cons (pe_gn rfl T.BASE) pa_nil))) (pg_tup rfl (pgs_cons (pg_name (i := 0) nd rfl (Or.inl rfl)) (pgs_cons (pg_name (i := 4) nd rfl (Or.inl rfl)) pgs_nil))))
        (pss_one (ps_expr (pe_bm PySem.F.plainAttrs_list PySem.F.slot_list_append PySem.F.type_list_append mt_append (pv 2) (pa_cons (pe_op op_add (pe_gn rfl T.LEAST_PLAIN) (pv 4)) pa_nil))))))
      (pss_one (ps_ret (pe_tupRev rfl (by rfl) T.z_tuple (by rfl) T.z_reversed (pv 2)))))), ?_⟩
    refine ⟨Nat.zero_le _, fun o no => ?_⟩
    refine ⟨_, rfl, (k : Int), rfl, by omega, by omega, ?_⟩
    rw [Int.toNat_natCast]
    refine for_range (lo := 0) (n := k) (fun i σ H1 => ∃ (m : Int) (ds : List Int) (t v : Option V), σ = [some (.int m), some (.int k), some (.ref o), t, v] ∧ ds ++ (wr (k - i) m).reverse = (wr k n).reverse ∧ ds.length = i ∧ Kp [] H H1 ∧ H1 o = some (.lst (ds.map .int)))
      ⟨n, [], none, none, rfl, rfl, rfl, Kp.new no, upd_same⟩ ?_ ?_
    · rintro i σ H1 hi ⟨m, ds, t, v, rfl, e, hl, kp, ho⟩
      refine ⟨_, rfl, _, _, rfl, ⟨by decide, by decide⟩, fun p np => ?_⟩
      have npo : o ≠ p := ne_of_none ho np
      refine ⟨p, _, rfl, SqT.of upd_same, rfl, _, _, rfl, _, _, rfl, rfl, ?_⟩
      have ho' : upd H1 p (.tup [.int (m / 95), .int (m % 95)]) o = some (.lst (ds.map .int)) := by rw [upd_ne npo]; exact ho
      refine ⟨_, rfl, .inl ⟨rfl, _, SqL.of ho'⟩, _, rfl, _, _, rfl, rfl, o, _, _, rfl, rfl, ho', small1000 (by rw [List.length_map, hl]; omega), ?_⟩
      refine ⟨m / 95, ds ++ [32 + m % 95], _, _, rfl, ?_, by rw [List.length_append, hl]; rfl, ?_, ?_⟩
      · obtain ⟨j, ej⟩ : ∃ j, k - i = j + 1 := ⟨k - i - 1, by omega⟩
        have ej2 : k - (i + 1) = j := by omega
        rw [ej] at e
        rw [ej2, ← e]
        simp [wr]
      · exact (kp.trans (Kp.new np)).fresh no
      · rw [upd_same, List.map_append]
        rfl
    · rintro σ H1 ⟨m, ds, t, v, rfl, e, hl, kp, ho⟩
      have e' : ds = (wr k n).reverse := by
        rw [Nat.sub_self] at e
        simpa [wr] using e
      refine ⟨_, rfl, o, _, rfl, SqL.of ho, fun p np => ?_⟩
      refine q p _ (kp.trans (Kp.new np)) ?_
      rw [upd_same, e', ← List.map_reverse, List.reverse_reverse]
end
end K38

namespace K38
open PySem PySem.Spec PyProof.Rows L2 LamX
section
variable {P : Program} {w : World} {K : PySem.W.Frag} {mg : Str → Option Value} {base : Heap} {C D : Addr}
/-! ### number_in -/
theorem numFrom_take {xs : List Int} {i : Nat} {x f : Int} (h : xs[i]? = some x) : numFrom f (xs.take (i + 1)) = 95 * numFrom f (xs.take i) + x - 32 := by
  unfold numFrom
  rw [List.take_add_one, h, List.foldl_append]
  rfl
def sp_number_in (K : PySem.W.Frag) : Sp := fun vs H Q _ => ∃ (a : Addr) (xs : List Int), vs = [.ref a] ∧ (SqL K H a (xs.map .int) ∨ SqT K H a (xs.map .int)) ∧ Q (.int (numIn xs)) H
theorem ok_number_in {f : Addr} {fd : FuncData} (F : Fun K "number_in" "number_in" s_number_in f fd) (T : Txt K mg C D) : FnOk P w K mg base CX0 1 f fd pr_number_in (sp_number_in K) := by
  have nd := sc_number_in.nd
  refine F.ok sc_number_in (fun vs H Q E h => ?_) (fun cdv A outer s H vs Q E hr h => ?_)
  · obtain ⟨a, xs, rfl, _⟩ := h
    rfl
  · obtain ⟨a, xs, rfl, hs, q⟩ := h
    have step : ∀ (i : Nat) (x : V), (xs.map V.int)[i]? = some x → ∃ n, x = .int n ∧ numIn (xs.take (i + 1)) = 95 * numIn (xs.take i) + n - 32 := fun i x hx => by
      rw [List.getElem?_map] at hx
      cases e : xs[i]? with
      | none => rw [e] at hx; cases hx
      | some n =>
        rw [e] at hx
        exact ⟨n, (Option.some.inj hx).symm, numFrom_take e⟩
    rcases hs with hs | hs
    · refine ⟨_, (pss_cons (ps_set (i := 1) nd rfl (Or.inl rfl) pe_int)
      (pss_cons (ps_for PassesOwn.never rfl (pi_list (pv 0)) (pg_name (i := 2) nd rfl (Or.inl rfl)) (pss_one (ps_set (i := 1) nd rfl (Or.inl rfl) (pe_op op_sub (pe_op op_add (pe_op op_mul (pe_gn rfl T.BASE) (pv 1)) (pv 2)) (pe_gn rfl T.LEAST_PLAIN)))))
      (pss_one (ps_ret (pv 1))))), ?_⟩
      refine ⟨_, rfl, a, rfl, ⟨_, hs⟩, for_list (xs := xs.map V.int) (fun i σ H1 => H1 = H ∧ ∃ v, σ = [some (.ref a), some (.int (numIn (xs.take i))), v]) ⟨rfl, none, rfl⟩ (fun i σ H1 _ h => by rw [h.1]; exact hs) ?_ ?_⟩
      · rintro i x σ H1 hx ⟨rfl, v, rfl⟩
        obtain ⟨n, rfl, e⟩ := step i x hx
        refine ⟨_, rfl, _, _, rfl, rfl, .inl ⟨by decide, by decide⟩, _, rfl, _, _, rfl, rfl, _, _, rfl, rfl, rfl, some (.int n), ?_⟩
        rw [e]
        rfl
      · rintro σ H1 ⟨rfl, v, rfl⟩
        rw [List.length_map, List.take_length]
        exact ⟨_, rfl, q⟩
    · refine ⟨_, (pss_cons (ps_set (i := 1) nd rfl (Or.inl rfl) pe_int)
      (pss_cons (ps_for PassesOwn.never rfl (pi_tup (pv 0)) (pg_name (i := 2) nd rfl (Or.inl rfl)) (pss_one (ps_set (i := 1) nd rfl (Or.inl rfl) (pe_op op_sub (pe_op op_add (pe_op op_mul (pe_gn rfl T.BASE) (pv 1)) (pv 2)) (pe_gn rfl T.LEAST_PLAIN)))))
      (pss_one (ps_ret (pv 1))))), ?_⟩
      refine ⟨_, rfl, a, rfl, ⟨_, hs⟩, for_tup (xs := xs.map V.int) (fun i σ H1 => H1 = H ∧ ∃ v, σ = [some (.ref a), some (.int (numIn (xs.take i))), v]) ⟨rfl, none, rfl⟩ (fun i σ H1 _ h => by rw [h.1]; exact hs) ?_ ?_⟩
      · rintro i x σ H1 hx ⟨rfl, v, rfl⟩
        obtain ⟨n, rfl, e⟩ := step i x hx
        refine ⟨_, rfl, _, _, rfl, rfl, .inl ⟨by decide, by decide⟩, _, rfl, _, _, rfl, rfl, _, _, rfl, rfl, rfl, some (.int n), ?_⟩
        rw [e]
        rfl
      · rintro σ H1 ⟨rfl, v, rfl⟩
        rw [List.length_map, List.take_length]
        exact ⟨_, rfl, q⟩
/-! ### left_of -/
theorem leftFrom_take {b m : Int} {xs : List Int} {i : Nat} {x f : Int} (h : xs[i]? = some x) : leftFrom b m f (xs.take (i + 1)) = (leftFrom b m f (xs.take i) * b + x) % m := by
  unfold leftFrom
  rw [List.take_add_one, h, List.foldl_append]
  rfl
def sp_left_of (K : PySem.W.Frag) : Sp := fun vs H Q _ => ∃ (a : Addr) (xs : List Int) (b m : Int), vs = [.ref a, .int b, .int m] ∧ SqL K H a (xs.map .int) ∧ (-(2 ^ 64) < b ∧ b < 2 ^ 64) ∧ (0 < m ∧ m < 1073741824) ∧
  ∀ H', Kp [] H H' → Q (.int (leftFrom b m 0 xs)) H'
theorem ok_left_of {f : Addr} {fd : FuncData} (F : Fun K "left_of" "left_of" s_left_of f fd) (T : Txt K mg C D) : FnOk P w K mg base CX0 1 f fd pr_left_of (sp_left_of K) := by
  have nd := sc_left_of.nd
  refine F.ok sc_left_of (fun vs H Q E h => ?_) (fun cdv A outer s H vs Q E hr h => ?_)
  · obtain ⟨a, xs, b, m, rfl, _⟩ := h
    rfl
  · obtain ⟨a, xs, b, m, rfl, hs, hb, hm, q⟩ := h
    refine ⟨_, (pss_cons (ps_set (i := 3) nd rfl (Or.inl rfl) pe_int)
      (pss_cons (ps_for PassesOwn.never rfl (pi_list (pv 0)) (pg_name (i := 4) nd rfl (Or.inl rfl)) (pss_one (ps_set (i := 3) nd rfl (Or.inl rfl) (pe_ix ix_tup (pe_callB call_divmod (by rfl) T.z_divmod bt_divmod (pa_cons (pe_op op_add (pe_op op_mul (pv 3) (pv 1)) (pv 4)) (pa_cons (pv 2) pa_nil))) pe_int (fun _ _ => rfl)))))
      (pss_one (ps_ret (pv 3))))), ?_⟩
    refine ⟨_, rfl, a, rfl, ⟨_, hs⟩, for_list (xs := xs.map V.int) (fun i σ H1 => Kp [] H H1 ∧ ∃ v, σ = [some (.ref a), some (.int b), some (.int m), some (.int (leftFrom b m 0 (xs.take i))), v]) ⟨Kp.refl H, none, rfl⟩ (fun i σ H1 _ h => Kp.sqF h.1.n hs List.not_mem_nil) ?_ ?_⟩
    · rintro i x σ H1 hx ⟨kp, v, rfl⟩
      rw [List.getElem?_map] at hx
      cases e : xs[i]? with
      | none => rw [e] at hx; cases hx
      | some n =>
        rw [e] at hx
        obtain rfl : V.int n = x := Option.some.inj hx
        refine ⟨_, rfl, _, rfl, _, _, rfl, rfl, .inr hb, _, rfl, _, _, rfl, rfl, _, rfl, _, _, rfl, hm, fun p np => ?_⟩
        refine ⟨p, _, _, _, rfl, rfl, SqT.of upd_same, atI_nat (j := 1) rfl, ?_⟩
        refine ⟨kp.trans (Kp.new np), some (.int n), ?_⟩
        rw [leftFrom_take e]
        rfl
    · rintro σ H1 ⟨kp, v, rfl⟩
      rw [List.length_map, List.take_length]
      exact ⟨_, rfl, q _ kp⟩
/-! ### values_of -/
def sp_values_of (K : PySem.W.Frag) : Sp := fun vs H Q _ => ∃ (a : Addr) (xs : List Int), vs = [.ref a] ∧ SqT K H a (xs.map .int) ∧ xs.length ≤ 1000 ∧ ∀ p H', Kp [] H H' → H' p = some (.lst ((vals xs).map .int)) → Q (.ref p) H'
theorem ok_values_of {f : Addr} {fd : FuncData} (F : Fun K "values_of" "values_of" s_values_of f fd) (T : Txt K mg C D) : FnOk P w K mg base CX0 1 f fd pr_values_of (sp_values_of K) := by
  have nd := sc_values_of.nd
  refine F.ok sc_values_of (fun vs H Q E h => ?_) (fun cdv A outer s H vs Q E hr h => ?_)
  · obtain ⟨a, xs, rfl, _⟩ := h
    rfl
  · obtain ⟨a, xs, rfl, hs, hl, q⟩ := h
    refine ⟨_, (pss_one (ps_ret (pe_lc (own := [("sign", 1)]) (g := gName 1) rfl nd (pi_tup (pv 0)) (blkOk_by (own := [("sign", 1)]) (N := nm_values_of) (sc := defScope s_values_of) (by decide +kernel)) (fun _ _ _ _ _ => pg_name (i := 1) nd rfl (Or.inl rfl)) (fun _ _ _ _ _ => pts_nil) (fun _ _ _ _ _ => (pe_op op_sub (pv 1) (pe_gn rfl T.LEAST_PLAIN)))))), ?_⟩
    refine ⟨_, rfl, a, rfl, ⟨_, hs⟩, fun D nD => lc_tup (xs := xs.map V.int) (fun i H1 => Kp [] H H1 ∧ H1 D = some (.lst ((vals (xs.take i)).map .int))) ⟨Kp.new nD, upd_same⟩ (fun i H1 _ h => Kp.sqT h.1.n hs) ?_ ?_⟩
    · rintro i x H1 hx ⟨kp, hD⟩
      rw [List.getElem?_map] at hx
      cases e : xs[i]? with
      | none => rw [e] at hx; cases hx
      | some n =>
        rw [e] at hx
        obtain rfl : V.int n = x := Option.some.inj hx
        refine ⟨rfl, _, rfl, _, _, rfl, rfl, _, hD, small1000 ?_, kp.fresh nD, ?_⟩
        · unfold vals
          rw [List.length_map, List.length_map, List.length_take]
          omega
        · rw [upd_same, List.take_add_one, e]
          unfold vals
          simp
    · rintro H1 ⟨kp, hD⟩
      rw [List.length_map, List.take_length] at hD
      exact q _ _ kp hD
end
end K38

namespace K38
open PySem PySem.Spec PyProof.Rows L2 LamX
theorem ifT {b : Bool} {A B : Prop} (e : b = true) (h : A) : if b = true then A else B := by
  rw [if_pos e]
  exact h
theorem ifF {b : Bool} {A B : Prop} (e : b = false) (h : B) : if b = true then A else B := by
  rw [if_neg (by rw [e]; exact Bool.false_ne_true)]
  exact h
theorem sz {n : Nat} (h : n ≤ 1000) : n ≤ sizeLine := Nat.le_of_lt (small1000 h)
theorem Kn {H : Hp} {b : Addr} {o : HO} (h : H b = none) : Kp [] H (upd H b o) := Kp.new h
/-! ### tuples: joined, cut -/
theorem catA {K : PySem.W.Frag} {H : Hp} {Q : VK} {a b : Addr} {xs ys : List V} (ha : SqT K H a xs) (hb : SqT K H b ys) (hl : xs.length + ys.length ≤ 1000)
    (q : ∀ p H', Kp [] H H' → SqT K H' p (xs ++ ys) → Q (.ref p) H') : rCatA K (.ref a) (.ref b) H Q := by
  refine ⟨a, b, xs, ys, rfl, rfl, ha, hb, Nat.le_of_lt (small1000 hl), fun e => ?_, fun _ e => ?_, fun _ _ p np => ?_⟩
  · subst e
    exact q b H (Kp.refl H) hb
  · subst e
    exact q a H (Kp.refl H) (by rw [List.append_nil]; exact ha)
  · exact q p _ (Kn np) (SqT.of upd_same)
theorem slA {K : PySem.W.Frag} {H : Hp} {Q : VK} {a : Addr} {xs : List V} {lo hi : Option Int} (ha : SqT K H a xs)
    (q : ∀ p H', Kp [] H H' → SqT K H' p (cutV xs lo hi) → Q (.ref p) H') : rSlA K (.ref a) lo hi H Q := by
  refine ⟨a, xs, rfl, ha, fun e => ?_, fun _ p np => q p _ (Kn np) (SqT.of upd_same)⟩
  refine q a H (Kp.refl H) ?_
  unfold cutV
  rw [e.1, e.2, List.drop_zero, Nat.sub_zero, List.take_length]
  exact ha
section
variable {P : Program} {w : World} {K : PySem.W.Frag} {mg : Str → Option Value} {base : Heap} {C D : Addr}
/-! ### check -/
def sp_check (K : PySem.W.Frag) : Sp := fun vs H Q _ => ∃ (a : Addr) (xs : List Int) (k : Nat), vs = [.ref a, .int k] ∧ SqT K H a (xs.map .int) ∧ xs.length ≤ 1000 ∧ (k = 1 ∨ k = 2 ∨ k = 3) ∧ ∀ p H', Kp [] H H' → SqT K H' p ((chk xs k).map .int) → Q (.ref p) H'
theorem ok_check {f : Addr} {fd : FuncData} (F : Fun K "check" "check" s_check f fd) (T : Txt K mg C D) (c_values_of : Cal P w K mg base 1 "values_of" (sp_values_of K)) (c_written : Cal P w K mg base 1 "written" sp_written)
    (c_left_of : CalK P w K mg base 1 "left_of" 1 ["base", "by"] (sp_left_of K)) : FnOk P w K mg base CX0 2 f fd pr_check (sp_check K) := by
  have nd := sc_check.nd
  obtain ⟨aBY, gBY, kBY⟩ := T.BY
  refine F.ok sc_check (fun vs H Q E h => ?_) (fun cdv A outer s H vs Q E hr h => ?_)
  · obtain ⟨a, xs, k, rfl, _⟩ := h
    rfl
  · obtain ⟨a, xs, k, rfl, hs, hl, hk, q⟩ := h
    refine ⟨_, (pss_cons (ps_set (i := 2) nd rfl (Or.inl rfl) (pcal c_values_of hr (by decide) (pa_cons (pv 0) pa_nil)))
      (pss_cons (ps_if (pt_cmpR op_eq (pv 1) pe_int (nomark _)) (pss_one (ps_ret (pcal c_written hr (by decide) (pa_cons (pe_ix ix_tup (pe_callB call_divmod (by rfl) T.z_divmod bt_divmod (pa_cons (pe_callB (cr_sum rfl) (by rfl) T.z_sum bt_sum (pa_cons (pv 2) pa_nil)) (pa_cons (pe_ix ix_by (pe_gt rfl gBY) (pv 1) (fun _ _ => rfl)) pa_nil))) pe_int (fun _ _ => rfl)) (pa_cons (pv 1) pa_nil))))) pss_nil)
      (pss_one (ps_ret (pcal c_written hr (by decide) (pa_cons (pcalK c_left_of hr (by decide) (pa_cons (pv 2) pa_nil) (pk_cons (pe_gn rfl T.BASE) (pk_cons (pe_ix ix_by (pe_gt rfl gBY) (pv 1) (fun _ _ => rfl)) pk_nil))) (pa_cons (pv 1) pa_nil))))))), ?_⟩
    refine ⟨_, rfl, a, xs, rfl, hs, hl, fun p H1 kp1 hp => ?_⟩
    refine ⟨_, rfl, rfl, _, rfl, ?_⟩
    rcases hk with rfl | rfl | rfl
    · refine iteT ?_
      refine ⟨_, rfl, p, vals xs, rfl, SqL.of hp, _, rfl, aBY, _, _, _, rfl, rfl, kBY, rfl, _, _, rfl, ⟨by decide, by decide⟩, fun p2 np2 => ?_⟩
      refine ⟨p2, _, _, _, rfl, rfl, SqT.of upd_same, atI_nat (j := 1) rfl, _, rfl, _, 1, rfl, by decide, fun p3 H3 kp3 hp3 => ?_⟩
      exact q p3 H3 ((kp1.trans (Kn np2)).trans kp3) (SqT.of hp3)
    · refine iteF ?_
      refine ⟨_, rfl, _, rfl, aBY, _, _, _, rfl, rfl, kBY, rfl, rfl, rfl, p, vals xs, _, _, rfl, SqL.of hp, ⟨by decide, by decide⟩, ⟨by decide, by decide⟩, fun H2 kp2 => ?_⟩
      refine ⟨_, rfl, _, 2, rfl, by decide, fun p3 H3 kp3 hp3 => ?_⟩
      exact q p3 H3 ((kp1.trans kp2).trans kp3) (SqT.of hp3)
    · refine iteF ?_
      refine ⟨_, rfl, _, rfl, aBY, _, _, _, rfl, rfl, kBY, rfl, rfl, rfl, p, vals xs, _, _, rfl, SqL.of hp, ⟨by decide, by decide⟩, ⟨by decide, by decide⟩, fun H2 kp2 => ?_⟩
      refine ⟨_, rfl, _, 3, rfl, by decide, fun p3 H3 kp3 hp3 => ?_⟩
      exact q p3 H3 ((kp1.trans kp2).trans kp3) (SqT.of hp3)
/-! ### mark_of, check_of -/
theorem in_opening {c : Nat} (hc : c ∈ letters) : inV (.str (sgn c)) [.str "O", .str "P", .str "E"] = decide (c ∈ opening) := by
  revert c
  decide +kernel
def sp_mark_of : Sp := fun vs H Q _ => ∃ c, vs = [.str (sgn c)] ∧ c ∈ letters ∧ Q (.int (markOf c)) H
theorem ok_mark_of {f : Addr} {fd : FuncData} (F : Fun K "mark_of" "mark_of" s_mark_of f fd) (T : Txt K mg C D) : FnOk P w K mg base CX0 1 f fd pr_mark_of sp_mark_of := by
  have nd := sc_mark_of.nd
  obtain ⟨aO, gOPENING, kO⟩ := T.OPENING
  refine F.ok sc_mark_of (fun vs H Q E h => ?_) (fun cdv A outer s H vs Q E hr h => ?_)
  · obtain ⟨c, rfl, _⟩ := h
    rfl
  · obtain ⟨c, rfl, hc, q⟩ := h
    refine ⟨_, (pss_cons (ps_if (pt_cmpR op_in_seq (pv 0) (pe_gt rfl gOPENING) rfl) (pss_one (ps_ret (pe_gn rfl T.OPENING_MARK))) pss_nil)
      (pss_one (ps_ret (pe_gn rfl T.MARK)))), ?_⟩
    refine ⟨_, rfl, aO, _, rfl, .inr (kO.sq _), rfl, rfl, _, rfl, ?_⟩
    unfold markOf at q
    by_cases h : c ∈ opening
    · rw [if_pos h] at q
      exact ifT ((in_opening hc).trans (decide_eq_true h)) q
    · rw [if_neg h] at q
      exact ifF ((in_opening hc).trans (decide_eq_false h)) q
def sp_check_of : Sp := fun vs H Q _ => ∃ (c k : Nat), vs = [.str (sgn c), .int k] ∧ c ∈ letters ∧ Q (.int (checkOf c k : Nat)) H
theorem ok_check_of {f : Addr} {fd : FuncData} (F : Fun K "check_of" "check_of" s_check_of f fd) (T : Txt K mg C D) : FnOk P w K mg base CX0 1 f fd pr_check_of sp_check_of := by
  have nd := sc_check_of.nd
  obtain ⟨aO, gOPENING, kO⟩ := T.OPENING
  refine F.ok sc_check_of (fun vs H Q E h => ?_) (fun cdv A outer s H vs Q E hr h => ?_)
  · obtain ⟨c, k, rfl, _⟩ := h
    rfl
  · obtain ⟨c, k, rfl, hc, q⟩ := h
    refine ⟨_, (pss_cons (ps_if (pt_cmpR op_in_seq (pv 0) (pe_gt rfl gOPENING) rfl) (pss_one (ps_ret pe_int)) pss_nil)
      (pss_one (ps_ret (pv 1)))), ?_⟩
    refine ⟨_, rfl, aO, _, rfl, .inr (kO.sq _), rfl, rfl, _, rfl, ?_⟩
    unfold checkOf at q
    by_cases h : c ∈ opening
    · rw [if_pos h] at q
      exact ifT ((in_opening hc).trans (decide_eq_true h)) q
    · rw [if_neg h] at q
      exact ifF ((in_opening hc).trans (decide_eq_false h)) ⟨_, rfl, q⟩
/-! ### put_as -/
theorem checkOf_3 {c k : Nat} (hk : k = 1 ∨ k = 2 ∨ k = 3) : checkOf c k = 1 ∨ checkOf c k = 2 ∨ checkOf c k = 3 := by
  unfold checkOf
  split
  · exact .inl rfl
  · exact hk
def sp_put_as (K : PySem.W.Frag) : Sp := fun vs H Q _ => ∃ (v : V) (p : Pk) (k : Nat), vs = [v, .int k] ∧ Dp K H v (pkD p) ∧ PkOk p ∧ (k = 1 ∨ k = 2 ∨ k = 3) ∧ ∀ a H', Kp [] H H' → SqT K H' a ((putAs p k).map .int) → Q (.ref a) H'
theorem ok_put_as {f : Addr} {fd : FuncData} (F : Fun K "put_as" "put_as" s_put_as f fd) (T : Txt K mg C D) (c_check_of : Cal P w K mg base 1 "check_of" sp_check_of) (c_written : Cal P w K mg base 1 "written" sp_written)
    (c_mark_of : Cal P w K mg base 1 "mark_of" sp_mark_of) (c_check : Cal P w K mg base 2 "check" (sp_check K)) : FnOk P w K mg base CX0 3 f fd pr_put_as (sp_put_as K) := by
  have nd := sc_put_as.nd
  refine F.ok sc_put_as (fun vs H Q E h => ?_) (fun cdv A outer s H vs Q E hr h => ?_)
  · obtain ⟨v, p, k, rfl, _⟩ := h
    rfl
  · obtain ⟨v, p, k, rfl, hv, hp, hk, q⟩ := h
    obtain ⟨a, xs, rfl, hs, hd⟩ := dp_tup hv
    obtain ⟨x1, xs1, rfl, d1, hd⟩ := dp_cons hd
    obtain ⟨x2, xs2, rfl, d2, hd⟩ := dp_cons hd
    obtain ⟨x3, xs3, rfl, d3, hd⟩ := dp_cons hd
    obtain rfl := dp_nil hd
    obtain rfl := dp_int d1
    obtain rfl := dp_str d2
    obtain ⟨b, ys, rfl, hb, hd⟩ := dp_tup d3
    obtain rfl := dp_ints hd
    have hlet := hp.let_
    have hln := hp.len
    refine ⟨_, (pss_cons (ps_asg (pv 0) (pg_tup rfl (pgs_cons (pg_name (i := 2) nd rfl (Or.inl rfl)) (pgs_cons (pg_name (i := 3) nd rfl (Or.inl rfl)) (pgs_cons (pg_name (i := 4) nd rfl (Or.inl rfl)) pgs_nil)))))
      (pss_cons (ps_set (i := 5) nd rfl (Or.inl rfl) (pcal c_check_of hr (by decide) (pa_cons (pv 3) (pa_cons (pv 1) pa_nil))))
      (pss_cons (ps_set (i := 6) nd rfl (Or.inl rfl) (pe_op op_add (pe_op op_add (pe_gn rfl T.AROUND) (pe_callB call_len_seq (by rfl) T.z_len bt_len (pa_cons (pv 4) pa_nil))) (pv 5)))
      (pss_cons (ps_set (i := 7) nd rfl (Or.inl rfl) (pe_op op_catA (pe_op op_catA (pe_op op_catA (pe_op op_catA (pcal c_written hr (by decide) (pa_cons (pv 6) (pa_cons pe_int pa_nil))) (pcal c_written hr (by decide) (pa_cons (pe_op op_sub (pe_gn rfl T.MOST_SIZE) (pv 6)) (pa_cons pe_int pa_nil)))) (pcal c_written hr (by decide) (pa_cons (pv 2) (pa_cons pe_int pa_nil)))) (pe_tup (pa_cons (pe_callB call_ord (by rfl) T.z_ord bt_ord (pa_cons (pv 3) pa_nil)) pa_nil))) (pv 4)))
      (pss_one (ps_ret (pe_op op_catA (pe_op op_catA (pe_tup (pa_cons (pcal c_mark_of hr (by decide) (pa_cons (pv 3) pa_nil)) pa_nil)) (pv 7)) (pcal c_check hr (by decide) (pa_cons (pv 7) (pa_cons (pv 5) pa_nil)))))))))), ?_⟩
    refine ⟨_, rfl, a, _, rfl, hs, rfl, _, _, rfl, _, _, rfl, _, _, rfl, rfl, ?_⟩
    refine ⟨_, rfl, _, rfl, _, k, rfl, hlet, ?_⟩
    have hby := checkOf_3 (c := p.let_) hk
    have hbl := chk_len (rowOf p (checkOf p.let_ k)) (checkOf p.let_ k) (by omega)
    have hrow : rowOf p (checkOf p.let_ k) = ((((wr 1 (2 + (p.data.length : Int) + (checkOf p.let_ k : Nat)) ++ wr 1 (94 - (2 + (p.data.length : Int) + (checkOf p.let_ k : Nat)))) ++ wr 1 p.num) ++ [(p.let_ : Int)]) ++ p.data) := rfl
    have hrl : (rowOf p (checkOf p.let_ k)).length = 4 + p.data.length := by rw [hrow]; simp [wr_len]; omega
    have hpa : putAs p k = ([markOf p.let_] ++ rowOf p (checkOf p.let_ k)) ++ chk (rowOf p (checkOf p.let_ k)) (checkOf p.let_ k) := rfl
    rw [hpa] at q
    rw [hrow] at hrl hbl q
    generalize checkOf p.let_ k = by_ at hby hrl hbl q ⊢
    have el : ((p.data.map V.int).length : Int) = (p.data.length : Int) := by rw [List.length_map]
    refine ⟨_, rfl, b, _, rfl, .inr hb, _, _, rfl, rfl, _, rfl, _, _, rfl, rfl, ?_⟩
    rw [el]
    refine ⟨_, rfl, _, 1, rfl, by decide, fun p1 H1 kp1 hp1 => ?_⟩
    refine ⟨_, rfl, _, _, rfl, rfl, _, 1, rfl, by decide, fun p2 H2 kp2 hp2 => ?_⟩
    refine catA (Kp.sqT kp2.n (SqT.of hp1)) (SqT.of hp2) (by simp [wr_len]) fun p3 H3 kp3 h3 => ?_
    refine ⟨_, rfl, _, 1, rfl, by decide, fun p4 H4 kp4 hp4 => ?_⟩
    refine catA (Kp.sqT kp4.n h3) (SqT.of hp4) (by simp [wr_len]) fun p5 H5 kp5 h5 => ?_
    refine ⟨_, rfl, _, rfl, rfl, sz (n := 1) (by decide), fun p6 np6 => ?_⟩
    refine catA (Kp.sqT (Kn np6).n h5) (SqT.of upd_same) (by simp [wr_len]) fun p7 H7 kp7 h7 => ?_
    have k7 : Kp [] H H7 := (((((kp1.trans kp2).trans kp3).trans kp4).trans kp5).trans (Kn np6)).trans kp7
    refine ⟨_, rfl, ?_⟩
    refine catA h7 (Kp.sqT k7.n hb) (by simp [wr_len]; omega) fun p8 H8 kp8 h8 => ?_
    refine ⟨_, rfl, _, rfl, hlet, sz (n := 1) (by decide), fun p9 np9 => ?_⟩
    refine ⟨_, rfl, ?_⟩
    refine catA (SqT.of upd_same) (Kp.sqT (Kn np9).n h8) (by simp [wr_len]; omega) fun p10 H10 kp10 h10 => ?_
    have k10 : Kp [] H H10 := ((k7.trans kp8).trans (Kn np9)).trans kp10
    have h8' := Kp.sqT kp10.n (Kp.sqT (Kn np9 ).n h8)
    have e1 : [V.int 1] = [V.int 1] := rfl
    refine ⟨_, rfl, _, rfl, p8, (((wr 1 (2 + (p.data.length : Int) + by_) ++ wr 1 (94 - (2 + (p.data.length : Int) + by_))) ++ wr 1 p.num) ++ [(p.let_ : Int)]) ++ p.data, by_, rfl, ?_, by rw [hrl]; omega, hby, fun p11 H11 kp11 h11 => ?_⟩
    · simp only [List.map_append]
      exact h8'
    refine catA (Kp.sqT kp11.n h10) h11 (by simp [wr_len, chk_len _ by_ (by omega)]; omega) fun p12 H12 kp12 h12 => ?_
    refine q p12 H12 ((k10.trans kp11).trans kp12) ?_
    simp only [List.map_append]
    exact h12
/-! ### letter_of -/
theorem letter_at {i : Nat} {x : V} (h : [V.str "O", .str "P", .str "E", .str "F", .str "A", .str "S", .str "D", .str "Z", .str "B", .str "Y", .str "N"][i]? = some x) : ∃ c, letters[i]? = some c ∧ x = .str (sgn c) := by
  have e : [V.str "O", .str "P", .str "E", .str "F", .str "A", .str "S", .str "D", .str "Z", .str "B", .str "Y", .str "N"] = letters.map fun c => .str (sgn c) := by decide +kernel
  rw [e, List.getElem?_map] at h
  cases q : letters[i]? with
  | none => rw [q] at h; cases h
  | some c =>
    rw [q] at h
    exact ⟨c, rfl, (Option.some.inj h).symm⟩
theorem find_at {p : Nat → Bool} {i c : Nat} (h : letters[i]? = some c) (hn : (letters.take i).find? p = none) (hp : p c = true) : letters.find? p = some c := by
  have e : letters = letters.take i ++ (c :: letters.drop (i + 1)) := by
    have hi : i < letters.length := (List.getElem?_eq_some_iff.mp h).1
    have hc : letters[i] = c := (List.getElem?_eq_some_iff.mp h).2
    rw [← hc, List.getElem_cons_drop, List.take_append_drop]
  rw [e, List.find?_append, hn, List.find?_cons_of_pos hp]
  rfl
theorem find_on {p : Nat → Bool} {i c : Nat} (h : letters[i]? = some c) (hn : (letters.take i).find? p = none) (hp : p c = false) : (letters.take (i + 1)).find? p = none := by
  rw [List.take_add_one, h, List.find?_append, hn]
  show none.or ([c].find? p) = none
  rw [List.find?_cons_of_neg (by rw [hp]; exact Bool.false_ne_true)]
  rfl
def ofLet : Option Nat → V
  | none => .non
  | some c => .str (sgn c)
def sp_letter_of : Sp := fun vs H Q _ => ∃ (s m : Int), vs = [.int s, .int m] ∧ Q (ofLet (letterOf s m)) H
theorem ok_letter_of {f : Addr} {fd : FuncData} (F : Fun K "letter_of" "letter_of" s_letter_of f fd) (T : Txt K mg C D) (c_mark_of : Cal P w K mg base 1 "mark_of" sp_mark_of) : FnOk P w K mg base CX0 2 f fd pr_letter_of sp_letter_of := by
  have nd := sc_letter_of.nd
  obtain ⟨aL, gLETTERS, kL⟩ := T.LETTERS
  refine F.ok sc_letter_of (fun vs H Q E h => ?_) (fun cdv A outer s H vs Q E hr h => ?_)
  · obtain ⟨c, k, rfl, _⟩ := h
    rfl
  · obtain ⟨x, m, rfl, q⟩ := h
    refine ⟨_, (pss_cons (ps_for PassesOwn.never rfl (pi_tup (pe_gt rfl gLETTERS)) (pg_name (i := 2) nd rfl (Or.inl rfl)) (pss_one (ps_if (PW.pt (pw_and (pt_cmpR op_eq (pe_callB call_ord (by rfl) T.z_ord bt_ord (pa_cons (pv 2) pa_nil)) (pv 0) (nomark _)) (pw_and1 (pt_cmpR op_eq (pcal c_mark_of hr (by decide) (pa_cons (pv 2) pa_nil)) (pv 1) (nomark _))))) (pss_one (ps_ret (pv 2))) pss_nil)))
      (pss_one (ps_ret pe_non))), ?_⟩
    refine ⟨aL, rfl, ⟨_, kL.sq _⟩, for_tup (fun i σ H1 => H1 = H ∧ (letters.take i).find? (fun c : Nat => decide ((c : Int) = x) && decide (markOf c = m)) = none ∧ ∃ v, σ = [some (.int x), some (.int m), v]) ⟨rfl, rfl, none, rfl⟩ (fun i σ H1 _ h => kL.sq _) ?_ ?_⟩
    · rintro i y σ H1 hx ⟨rfl, hn, v, rfl⟩
      obtain ⟨c, hc, rfl⟩ := letter_at hx
      have hm : c ∈ letters := List.mem_of_getElem? hc
      refine ⟨_, rfl, _, rfl, rfl, _, rfl, rfl, _, rfl, ?_⟩
      by_cases h1 : (c : Int) = x
      · refine ifT (by rw [show (sgn c).cps.getD 0 0 = c from rfl, h1]; exact decide_eq_true rfl) ?_
        refine ⟨_, rfl, c, rfl, hm, _, rfl, rfl, _, rfl, ?_⟩
        by_cases h2 : markOf c = m
        · refine ifT (by rw [h2]; exact decide_eq_true rfl) ⟨_, rfl, ?_⟩
          have := find_at (p := fun c : Nat => decide ((c : Int) = x) && decide (markOf c = m)) hc hn (by simp [h1, h2])
          have e : letterOf x m = some c := this
          rw [e] at q
          exact q
        · refine ifF (decide_eq_false fun z => h2 (by cases z; rfl)) ?_
          exact ⟨rfl, find_on hc hn (by simp [h2]), _, rfl⟩
      · refine ifF (decide_eq_false fun z => h1 ?_) ?_
        · have := V.int.inj z
          exact this
        exact ⟨rfl, find_on hc hn (by simp [h1]), _, rfl⟩
    · rintro σ H1 ⟨rfl, hn, v, rfl⟩
      have e : letterOf x m = none := hn
      rw [e] at q
      exact q
end
end K38

namespace K38
open PySem PySem.Spec PyProof.Rows L2 LamX
/-! ### whole numbers as data -/
theorem can_ints : ∀ ns : List Int, PyData.canLayAll0 (ns.map .int) = true
  | [] => rfl
  | n :: ns => by
    rw [List.map_cons, PyData.canLayAll0, can_ints ns]
    rfl
theorem depth_ints : ∀ ns : List Int, PyData.depthAll (ns.map .int) ≤ 1
  | [] => Nat.zero_le _
  | n :: ns => by
    rw [List.map_cons, PyData.depthAll]
    have := depth_ints ns
    have e : (PyData.int n).depth ≤ 1 := by simp [PyData.depth]
    exact Nat.max_le.mpr ⟨e, this⟩
theorem shaped_tints (ns : List Int) : SeqAt.shaped (.tuple (ns.map .int)) = true := by
  unfold SeqAt.shaped
  rw [PyData.canLay0, can_ints, PyData.depth]
  have := depth_ints ns
  rw [decide_eq_true (by omega)]
  rfl
theorem eqv_ints : ∀ as bs : List Int, PyData.eqvAll (as.map .int) (bs.map .int) = decide (as = bs)
  | [], [] => rfl
  | [], _ :: _ => rfl
  | _ :: _, [] => rfl
  | a :: as, b :: bs => by
    rw [List.map_cons, List.map_cons, PyData.eqvAll, eqv_ints as bs, PyData.eqv]
    have e : (a == b) = decide (a = b) := by by_cases h : a = b <;> simp [h]
    rw [e]
    simp
theorem eqv_tints (as bs : List Int) : PyData.eqv (.tuple (as.map .int)) (.tuple (bs.map .int)) = decide (as = bs) := by
  rw [PyData.eqv, eqv_ints]
theorem cut_last {xs : List Int} {k : Nat} (h1 : 1 ≤ k) (h2 : k ≤ xs.length) : cutV (xs.map .int) none (some (-(k : Int))) = (cutLast xs k).map .int := by
  unfold cutV cutLast
  have e : HT.sIx (xs.map V.int).length (xs.map V.int).length (some (-(k : Int))) = xs.length - k := by
    rw [List.length_map]
    show (if (-(k : Int)) < 0 then (-(k : Int) + (xs.length : Int)).toNat else min (-(k : Int)).toNat xs.length) = _
    rw [if_pos (by omega)]
    omega
  rw [e, HT.sIx_none, List.drop_zero, Nat.sub_zero, List.map_take]
theorem cut_tail {xs : List Int} {k : Nat} (h1 : 1 ≤ k) (h2 : k ≤ xs.length) : cutV (xs.map .int) (some (-(k : Int))) none = (xs.drop (xs.length - k)).map .int := by
  unfold cutV
  have e : HT.sIx (xs.map V.int).length 0 (some (-(k : Int))) = xs.length - k := by
    rw [List.length_map]
    show (if (-(k : Int)) < 0 then (-(k : Int) + (xs.length : Int)).toNat else min (-(k : Int)).toNat xs.length) = _
    rw [if_pos (by omega)]
    omega
  rw [e, HT.sIx_none, List.map_drop, List.take_of_length_le (by rw [List.length_drop]; omega)]
theorem cut_to {xs : List Int} (k : Nat) (h : k ≤ xs.length) : cutV (xs.map .int) none (some (k : Int)) = (xs.take k).map .int := by
  unfold cutV
  rw [HT.sIx_nat, HT.sIx_none, List.length_map, List.drop_zero, Nat.sub_zero, List.map_take, Nat.min_eq_left h]
theorem cut_from {xs : List V} (k : Nat) (h : k ≤ xs.length) : cutV xs (some (k : Int)) none = xs.drop k := by
  unfold cutV
  rw [HT.sIx_nat, HT.sIx_none, Nat.min_eq_left h, List.take_of_length_le (by rw [List.length_drop]; omega)]
theorem cut_mid {xs : List V} (j k : Nat) (hj : j ≤ xs.length) (h : k ≤ xs.length) : cutV xs (some (j : Int)) (some (k : Int)) = (xs.drop j).take (k - j) := by
  unfold cutV
  rw [HT.sIx_nat, HT.sIx_nat, Nat.min_eq_left h, Nat.min_eq_left hj]
/-! ### a scanner in the heap -/
def atV : Option Int → V
  | none => .non
  | some a => .int a
def scF (s : Sc) (l : Addr) : List (Str × V) := [(("now_kind" : Str), .int s.kind), (("many_fed" : Str), .int s.fed), (("begun_at" : Str), atV s.at_), (("begun_mark" : Str), .int s.mark), (("begun_check" : Str), .int s.chk), (("begun_signs" : Str), .ref l)]
structure ScAt (D : Addr) (H : Hp) (p l : Addr) (s : Sc) : Prop where
  ob : ∃ dx, H p = some (.ins D dx (scF s l))
  li : H l = some (.lst (s.signs.map .int))
section
variable {s : Sc} {l : Addr} {v : V}
theorem pf_fed {f : Int} : putF "many_fed" (.int f) (scF s l) = scF { s with fed := f } l := rfl
theorem pf_at {a : Option Int} : putF "begun_at" (atV a) (scF s l) = scF { s with at_ := a } l := rfl
theorem lk_kind : (scF s l).lookup ("now_kind" : Str) = some (.int s.kind) := rfl
theorem lk_fed : (scF s l).lookup ("many_fed" : Str) = some (.int s.fed) := rfl
theorem lk_at : (scF s l).lookup ("begun_at" : Str) = some (atV s.at_) := rfl
theorem lk_mark : (scF s l).lookup ("begun_mark" : Str) = some (.int s.mark) := rfl
theorem lk_chk : (scF s l).lookup ("begun_check" : Str) = some (.int s.chk) := rfl
theorem lk_signs : (scF s l).lookup ("begun_signs" : Str) = some (.ref l) := rfl
theorem scF_len : (scF s l).length < 1000 := (by decide : (6 : Nat) < 1000)
end
theorem ScAt.ne {D : Addr} {H : Hp} {p l : Addr} {s : Sc} (h : ScAt D H p l s) : p ≠ l := fun e => by
  obtain ⟨⟨dx, h1⟩, h2⟩ := h
  rw [e, h2] at h1
  cases h1
section
variable {P : Program} {w : World} {K : PySem.W.Frag} {mg : Str → Option Value} {base : Heap} {C D : Addr}
/-! ### Scanner.__init__ -/
def sp_Scanner_init (D : Addr) : Sp := fun vs H Q _ => ∃ (x : Addr) (k : Nat), vs = [.ref x, .int k] ∧ (∃ dx, H x = some (.ins D dx [])) ∧ ∀ l H', H l = none → Kp [x] H H' → ScAt D H' x l ⟨k, 0, none, 1, k, []⟩ → Q .non H'
theorem ok_Scanner_init {f : Addr} {fd : FuncData} (F : Fun K "__init__" "Scanner.__init__" s_Scanner_init f fd) (T : Txt K mg C D) : FnOk P w K mg base CX0 1 f fd pr_Scanner_init (sp_Scanner_init D) := by
  have nd := sc_Scanner_init.nd
  refine F.ok sc_Scanner_init (fun vs H Q E h => ?_) (fun cdv A outer s H vs Q E hr h => ?_)
  · obtain ⟨x, k, rfl, _⟩ := h
    rfl
  · obtain ⟨x, k, rfl, ⟨dx, hx⟩, q⟩ := h
    refine ⟨_, (pss_cons (ps_fld (pv 0) (pv 1) rfl)
      (pss_cons (ps_fld (pv 0) pe_int rfl)
      (pss_cons (ps_fld (pv 0) pe_non rfl)
      (pss_cons (ps_fld (pv 0) (pe_gn rfl T.MARK) rfl)
      (pss_cons (ps_fld (pv 0) (pv 1) rfl)
      (pss_one (ps_fld (pv 0) (pe_lst pa_nil) rfl))))))), ?_⟩
    refine ⟨_, rfl, _, rfl, x, D, dx, [], rfl, hx, T.clD, T.a_now_kind, (by decide : (0 : Nat) < 1000), ?_⟩
    refine ⟨_, rfl, x, D, dx, _, rfl, upd_same, T.clD, T.a_many_fed, (by decide : (1 : Nat) < 1000), ?_⟩
    refine ⟨_, rfl, x, D, dx, _, rfl, upd_same, T.clD, T.a_begun_at, (by decide : (2 : Nat) < 1000), ?_⟩
    refine ⟨_, rfl, x, D, dx, _, rfl, upd_same, T.clD, T.a_begun_mark, (by decide : (3 : Nat) < 1000), ?_⟩
    refine ⟨_, rfl, _, rfl, x, D, dx, _, rfl, upd_same, T.clD, T.a_begun_check, (by decide : (4 : Nat) < 1000), ?_⟩
    refine ⟨Nat.zero_le _, fun l nl => ?_⟩
    have hne : x ≠ l := ne_of_none upd_same nl
    refine ⟨_, rfl, x, D, dx, _, rfl, (upd_ne hne).trans upd_same, T.clD, T.a_begun_signs, (by decide : (5 : Nat) < 1000), ?_⟩
    have m : x ∈ [x] := List.mem_singleton_self x
    have kp1 := (((((Kp.put (o := .ins D dx (putF "now_kind" (.int k) [])) hx rfl m).trans (Kp.put upd_same rfl m)).trans (Kp.put upd_same rfl m)).trans (Kp.put upd_same rfl m)).trans (Kp.put upd_same rfl m)).trans (Kp.new nl (o := .lst []))
    refine q l _ ?_ (kp1.trans (Kp.put ((upd_ne hne).trans upd_same) rfl m)) ⟨⟨dx, upd_same⟩, ?_⟩
    · rw [upd_ne hne.symm, upd_ne hne.symm, upd_ne hne.symm, upd_ne hne.symm, upd_ne hne.symm] at nl
      exact nl
    · rw [upd_ne hne.symm]
      exact upd_same
/-! ### fed, is_open -/
def sp_fed (D : Addr) : Sp := fun vs H Q _ => ∃ (p l : Addr) (s : Sc), vs = [.ref p] ∧ ScAt D H p l s ∧ Q (.int s.fed) H
theorem ok_fed {f : Addr} {fd : FuncData} (F : Fun K "fed" "Scanner.fed" s_fed f fd) (T : Txt K mg C D) : FnOk P w K mg base CX0 1 f fd pr_fed (sp_fed D) := by
  have nd := sc_fed.nd
  refine F.ok sc_fed (fun vs H Q E h => ?_) (fun cdv A outer s H vs Q E hr h => ?_)
  · obtain ⟨x, l, s, rfl, _⟩ := h
    rfl
  · obtain ⟨x, l, s, rfl, ⟨⟨dx, hx⟩, hl⟩, q⟩ := h
    refine ⟨_, (pss_one (ps_ret (pe_fld (pv 0) rfl))), ?_⟩
    exact ⟨_, rfl, x, D, dx, _, _, rfl, hx, T.clD, T.a_many_fed, lk_fed, q⟩
def sp_is_open (D : Addr) : Sp := fun vs H Q _ => ∃ (p l : Addr) (s : Sc), vs = [.ref p] ∧ ScAt D H p l s ∧ Q (.bl s.at_.isSome) H
theorem at_non (a : Option Int) : (!decide (atV a = .non)) = a.isSome := by cases a <;> simp [atV]
theorem ok_is_open {f : Addr} {fd : FuncData} (F : Fun K "is_open" "Scanner.is_open" s_is_open f fd) (T : Txt K mg C D) : FnOk P w K mg base CX0 1 f fd pr_is_open (sp_is_open D) := by
  have nd := sc_is_open.nd
  refine F.ok sc_is_open (fun vs H Q E h => ?_) (fun cdv A outer s H vs Q E hr h => ?_)
  · obtain ⟨x, l, s, rfl, _⟩ := h
    rfl
  · obtain ⟨x, l, s, rfl, ⟨⟨dx, hx⟩, hl⟩, q⟩ := h
    refine ⟨_, (pss_one (ps_ret (pe_cmpR op_notN (pe_fld (pv 0) rfl) pe_non (nomark _)))), ?_⟩
    refine ⟨_, rfl, x, D, dx, _, _, rfl, hx, T.clD, T.a_begun_at, lk_at, rfl, ?_⟩
    rw [at_non]
    exact q
/-! ### begin -/
def sp_begin (D : Addr) : Sp := fun vs H Q _ => ∃ (p l : Addr) (s : Sc) (m : Int), vs = [.ref p, .int m] ∧ ScAt D H p l s ∧ ∀ l' H', H l' = none → Kp [p] H H' → ScAt D H' p l' (beginM s m) → Q .non H'
theorem ok_begin {f : Addr} {fd : FuncData} (F : Fun K "begin" "Scanner.begin" s_begin f fd) (T : Txt K mg C D) : FnOk P w K mg base CX0 1 f fd pr_begin (sp_begin D) := by
  have nd := sc_begin.nd
  refine F.ok sc_begin (fun vs H Q E h => ?_) (fun cdv A outer s H vs Q E hr h => ?_)
  · obtain ⟨x, l, s, m, rfl, _⟩ := h
    rfl
  · obtain ⟨x, l, s, m, rfl, ⟨⟨dx, hx⟩, hl⟩, q⟩ := h
    refine ⟨_, (pss_cons (ps_fld (pv 0) (pe_fld (pv 0) rfl) rfl)
      (pss_cons (ps_fld (pv 0) (pv 1) rfl)
      (pss_cons (ps_fld (pv 0) (pe_ifExp (pt_cmpR op_eq (pv 1) (pe_gn rfl T.OPENING_MARK) (nomark _)) pe_int (pe_fld (pv 0) rfl)) rfl)
      (pss_one (ps_fld (pv 0) (pe_lst pa_nil) rfl))))), ?_⟩
    have mem : x ∈ [x] := List.mem_singleton_self x
    refine ⟨_, rfl, x, D, dx, _, _, rfl, hx, T.clD, T.a_many_fed, lk_fed, _, rfl, x, D, dx, _, rfl, hx, T.clD, T.a_begun_at, scF_len, ?_⟩
    refine ⟨_, rfl, _, rfl, x, D, dx, _, rfl, upd_same, T.clD, T.a_begun_mark, (by decide : (6 : Nat) < 1000), ?_⟩
    refine ⟨_, rfl, rfl, _, rfl, ?_⟩
    have fin : ∀ k : Nat, ({ s with at_ := some s.fed, mark := m, chk := k, signs := [] } : Sc) = beginM s m →
        ∀ l' : Addr, upd (upd (upd H x (.ins D dx (putF "begun_at" (.int s.fed) (scF s l)))) x (.ins D dx (putF "begun_mark" (.int m) (putF "begun_at" (.int s.fed) (scF s l))))) x
          (.ins D dx (putF "begun_check" (.int k) (putF "begun_mark" (.int m) (putF "begun_at" (.int s.fed) (scF s l))))) l' = none →
        Q .non (upd (upd (upd (upd (upd H x (.ins D dx (putF "begun_at" (.int s.fed) (scF s l)))) x (.ins D dx (putF "begun_mark" (.int m) (putF "begun_at" (.int s.fed) (scF s l))))) x
          (.ins D dx (putF "begun_check" (.int k) (putF "begun_mark" (.int m) (putF "begun_at" (.int s.fed) (scF s l)))))) l' (.lst [])) x
          (.ins D dx (putF "begun_signs" (.ref l') (putF "begun_check" (.int k) (putF "begun_mark" (.int m) (putF "begun_at" (.int s.fed) (scF s l))))))) := fun k e l' nl => by
      have hne : x ≠ l' := ne_of_none upd_same nl
      have kp := (((Kp.put (o := .ins D dx (putF "begun_at" (.int s.fed) (scF s l))) hx rfl mem).trans (Kp.put upd_same rfl mem)).trans (Kp.put upd_same rfl mem)).trans (Kp.new nl (o := .lst []))
      refine q l' _ ?_ (kp.trans (Kp.put ((upd_ne hne).trans upd_same) rfl mem)) ⟨⟨dx, ?_⟩, ?_⟩
      · rw [upd_ne hne.symm, upd_ne hne.symm, upd_ne hne.symm] at nl
        exact nl
      · rw [← e]
        exact upd_same
      · rw [upd_ne hne.symm]
        exact upd_same
    by_cases h2 : m = 2
    · refine ifT (by rw [h2]; exact decide_eq_true rfl) ?_
      refine ⟨_, rfl, x, D, dx, _, rfl, upd_same, T.clD, T.a_begun_check, (by decide : (6 : Nat) < 1000), ?_⟩
      refine ⟨Nat.zero_le _, fun l' nl => ?_⟩
      refine ⟨_, rfl, x, D, dx, _, rfl, (upd_ne (ne_of_none upd_same nl)).trans upd_same, T.clD, T.a_begun_signs, (by decide : (6 : Nat) < 1000), ?_⟩
      exact fin 1 (by unfold beginM; rw [if_pos h2]) l' nl
    · refine ifF (decide_eq_false fun z => h2 (V.int.inj z)) ?_
      refine ⟨_, rfl, x, D, dx, _, _, rfl, upd_same, T.clD, T.a_now_kind, rfl, ?_⟩
      refine ⟨_, rfl, x, D, dx, _, rfl, upd_same, T.clD, T.a_begun_check, (by decide : (6 : Nat) < 1000), ?_⟩
      refine ⟨Nat.zero_le _, fun l' nl => ?_⟩
      refine ⟨_, rfl, x, D, dx, _, rfl, (upd_ne (ne_of_none upd_same nl)).trans upd_same, T.clD, T.a_begun_signs, (by decide : (6 : Nat) < 1000), ?_⟩
      exact fin s.kind (by unfold beginM; rw [if_neg h2]) l' nl
/-! ### bad -/
def sp_bad (D : Addr) : Sp := fun vs H Q _ => ∃ (p l : Addr) (s : Sc) (a : Int), vs = [.ref p] ∧ ScAt D H p l s ∧ s.at_ = some a ∧ ∀ b H', Kp [p] H H' → ScAt D H' p l { s with at_ := none } → H' b = some (.tup [.str "bad", .non, .int a]) → Q (.ref b) H'
theorem ok_bad {f : Addr} {fd : FuncData} (F : Fun K "bad" "Scanner.bad" s_bad f fd) (T : Txt K mg C D) : FnOk P w K mg base CX0 1 f fd pr_bad (sp_bad D) := by
  have nd := sc_bad.nd
  refine F.ok sc_bad (fun vs H Q E h => ?_) (fun cdv A outer s H vs Q E hr h => ?_)
  · obtain ⟨x, l, s, m, rfl, _⟩ := h
    rfl
  · obtain ⟨x, l, s, a, rfl, hs, ha, q⟩ := h
    have hne := hs.ne
    obtain ⟨⟨dx, hx⟩, hl⟩ := hs
    refine ⟨_, (pss_cons (ps_set (i := 1) nd rfl (Or.inl rfl) (pe_fld (pv 0) rfl))
      (pss_cons (ps_fld (pv 0) pe_non rfl)
      (pss_one (ps_ret (pe_tup (pa_cons pe_str (pa_cons pe_non (pa_cons (pv 1) pa_nil)))))))), ?_⟩
    have mem : x ∈ [x] := List.mem_singleton_self x
    have e : (scF s l).lookup ("begun_at" : Str) = some (.int a) := by rw [lk_at, ha]; rfl
    refine ⟨_, rfl, x, D, dx, _, _, rfl, hx, T.clD, T.a_begun_at, e, _, rfl, x, D, dx, _, rfl, hx, T.clD, T.a_begun_at, scF_len, ?_⟩
    refine ⟨_, rfl, sz (n := 3) (by decide), fun b nb => ?_⟩
    have hb : x ≠ b := ne_of_none upd_same nb
    have hlb : l ≠ b := ne_of_none ((upd_ne hne.symm).trans hl) nb
    refine q b _ ((Kp.put hx rfl mem).trans (Kp.new nb)) ⟨⟨dx, (upd_ne hb).trans upd_same⟩, ?_⟩ upd_same
    rw [upd_ne hlb, upd_ne hne.symm]
    exact hl
end
end K38

namespace K38
open PySem PySem.Spec PyProof.Rows L2 LamX
section
variable {P : Program} {w : World} {K : PySem.W.Frag} {mg : Str → Option Value} {base : Heap} {C D : Addr}
theorem cut23 {xs : List V} (h : 3 ≤ xs.length) : cutV xs (some 2) (some 3) = (xs.drop 2).take 1 := cut_mid 2 3 (by omega) h
theorem cut4 {xs : List V} (h : 4 ≤ xs.length) : cutV xs (some 4) none = xs.drop 4 := cut_from 4 h
theorem cut1 {xs : List V} (h : 1 ≤ xs.length) : cutV xs (some 1) none = xs.drop 1 := cut_from 1 h
theorem cut01 {xs : List Int} (h : 1 ≤ xs.length) : cutV (xs.map .int) none (some 1) = (xs.take 1).map .int := cut_to 1 h
theorem noPart {σ : L2.St} {H : Hp} {Q : Option Int → Hp → Prop} (h : Q none H) : tNoPart σ H Q := h
theorem readM_of {s : Sc} {y : Int} (h : (cutLast s.signs s.chk).getD 3 0 = y) : readM s = match letterOf y s.mark with
    | none => none
    | some c => if numIn (List.take 1 (List.drop 2 (cutLast s.signs s.chk))) > 63 then none
      else if chk (cutLast s.signs s.chk) s.chk = s.signs.drop (s.signs.length - s.chk) then some (⟨numIn (List.take 1 (List.drop 2 (cutLast s.signs s.chk))), c, (cutLast s.signs s.chk).drop 4⟩ : Pk) else none := by
  subst h
  rfl
theorem ScAt.kp {H H1 : Hp} {p l : Addr} {s : Sc} (h : ScAt D H p l s) (k : Kp [] H H1) : ScAt D H1 p l s := by
  obtain ⟨⟨dx, h1⟩, h2⟩ := h
  exact ⟨⟨dx, k.at_ h1 List.not_mem_nil⟩, k.at_ h2 List.not_mem_nil⟩
/-! ### read -/
def RdV (K : PySem.W.Frag) (H : Hp) (v : V) : Option Pk → Prop
  | none => v = .non
  | some p => Dp K H v (pkD p)
def sp_read (K : PySem.W.Frag) (D : Addr) : Sp := fun vs H Q _ => ∃ (p l : Addr) (s : Sc), vs = [.ref p] ∧ ScAt D H p l s ∧ (1 ≤ s.chk ∧ s.chk ≤ 3) ∧ 4 + s.chk ≤ s.signs.length ∧ s.signs.length ≤ 900 ∧
  ∀ v H', Kp [] H H' → RdV K H' v (readM s) → Q v H'
theorem ok_read {f : Addr} {fd : FuncData} (F : Fun K "read" "Scanner.read" s_read f fd) (T : Txt K mg C D) (c_number_in : Cal P w K mg base 1 "number_in" (sp_number_in K)) (c_letter_of : Cal P w K mg base 2 "letter_of" sp_letter_of)
    (c_check : Cal P w K mg base 2 "check" (sp_check K)) : FnOk P w K mg base CX0 3 f fd pr_read (sp_read K D) := by
  have nd := sc_read.nd
  refine F.ok sc_read (fun vs H Q E h => ?_) (fun cdv A outer s H vs Q E hr h => ?_)
  · obtain ⟨x, l, s, rfl, _⟩ := h
    rfl
  · obtain ⟨x, l, s, rfl, hs, hk, h4, h9, q⟩ := h
    obtain ⟨⟨dx, hx⟩, hl⟩ := hs
    have hrl : (cutLast s.signs s.chk).length = s.signs.length - s.chk := by unfold cutLast; rw [List.length_take]; omega
    refine ⟨_, (pss_cons (ps_set (i := 1) nd rfl (Or.inl rfl) (pe_callTy call_tuple_of (by rfl) T.z_tuple bt_tuple (pa_cons (pe_slice sl_list (pe_fld (pv 0) rfl) po_none (po_some (pe_un un_neg (pe_fld (pv 0) rfl)))) pa_nil)))
      (pss_cons (ps_set (i := 2) nd rfl (Or.inl rfl) (pcal c_number_in hr (by decide) (pa_cons (pe_slice sl_tupA (pv 1) (po_some pe_int) (po_some pe_int)) pa_nil)))
      (pss_cons (ps_set (i := 3) nd rfl (Or.inl rfl) (pcal c_letter_of hr (by decide) (pa_cons (pe_ix ix_tup (pv 1) pe_int (fun _ _ => rfl)) (pa_cons (pe_fld (pv 0) rfl) pa_nil))))
      (pss_cons (ps_if (PW.pt (pw_or (pt_cmpR op_gt (pv 2) (pe_gn rfl T.MOST_NUMBER) (nomark _)) (pw_or1 (pt_cmpR op_isN (pv 3) pe_non (nomark _))))) (pss_one (ps_ret pe_non)) pss_nil)
      (pss_cons (ps_if (pt_cmpR (op_neD hr.units) (pcal c_check hr (by decide) (pa_cons (pv 1) (pa_cons (pe_fld (pv 0) rfl) pa_nil))) (pe_callTy call_tuple_of (by rfl) T.z_tuple bt_tuple (pa_cons (pe_slice sl_list (pe_fld (pv 0) rfl) (po_some (pe_un un_neg (pe_fld (pv 0) rfl))) po_none) pa_nil)) (nomark _)) (pss_one (ps_ret pe_non)) pss_nil)
      (pss_one (ps_ret (pe_tup (pa_cons (pv 2) (pa_cons (pv 3) (pa_cons (pe_slice sl_tupA (pv 1) (po_some pe_int) po_none) pa_nil))))))))))), ?_⟩
    refine ⟨_, rfl, x, D, dx, _, _, rfl, hx, T.clD, T.a_begun_signs, lk_signs, ?_⟩
    refine ⟨_, rfl, x, D, dx, _, _, rfl, hx, T.clD, T.a_begun_check, lk_chk, _, rfl, _, rfl, ?_⟩
    refine ⟨l, _, rfl, SqL.of hl, fun p1 np1 => ?_⟩
    rw [cut_last hk.1 (by omega)]
    refine ⟨p1, _, rfl, .inl ⟨SqL.of upd_same, fun p2 np2 => ?_⟩⟩
    have k2 : Kp [] H (upd (upd H p1 (.lst ((cutLast s.signs s.chk).map .int))) p2 (.tup ((cutLast s.signs s.chk).map .int))) := (Kn np1).trans (Kn np2)
    have r2 : SqT K (upd (upd H p1 (.lst ((cutLast s.signs s.chk).map .int))) p2 (.tup ((cutLast s.signs s.chk).map .int))) p2 ((cutLast s.signs s.chk).map .int) := SqT.of upd_same
    generalize upd (upd H p1 (.lst ((cutLast s.signs s.chk).map .int))) p2 (.tup ((cutLast s.signs s.chk).map .int)) = H2 at k2 r2 ⊢
    refine ⟨_, rfl, 2, rfl, 3, rfl, ?_⟩
    refine slA r2 fun p3 H3 kp3 h3 => ?_
    rw [cut23 (by rw [List.length_map]; omega), ← List.map_drop, ← List.map_take] at h3
    refine ⟨p3, _, rfl, .inr h3, ?_⟩
    have r3 := Kp.sqT kp3.n r2
    have k3 := k2.trans kp3
    have hx3 := k3.at_ hx List.not_mem_nil
    have hl3 := k3.at_ hl List.not_mem_nil
    obtain ⟨y, hy⟩ : ∃ y, (cutLast s.signs s.chk)[3]? = some y := ⟨_, List.getElem?_eq_getElem (by omega)⟩
    have hy' : ((cutLast s.signs s.chk).map V.int)[3]? = some (.int y) := by rw [List.getElem?_map, hy]; rfl
    have hyd : (cutLast s.signs s.chk).getD 3 0 = y := by rw [List.getD_eq_getElem?_getD, hy]; rfl
    refine ⟨_, rfl, p2, _, _, _, rfl, rfl, r3, atI_nat (j := 3) hy', ?_⟩
    refine ⟨_, rfl, x, D, dx, _, _, rfl, hx3, T.clD, T.a_begun_mark, lk_mark, _, _, rfl, ?_⟩
    have er := readM_of hyd
    refine ⟨_, rfl, _, _, rfl, rfl, _, rfl, ?_⟩
    by_cases hn : numIn (List.take 1 (List.drop 2 (cutLast s.signs s.chk))) > 63
    · refine ifT (decide_eq_true hn) ?_
      refine iteT ?_
      have e : readM s = none := by
        rw [er]
        cases letterOf y s.mark with
        | none => rfl
        | some c => exact if_pos hn
      exact q .non H3 k3 (by rw [e]; rfl)
    · refine ifF (decide_eq_false hn) ?_
      refine ⟨_, rfl, rfl, _, rfl, ?_⟩
      cases hlet : letterOf y s.mark with
      | none =>
        refine iteT ?_
        rw [hlet] at er
        exact q .non H3 k3 (by rw [er]; rfl)
      | some c =>
        refine iteF ?_
        rw [hlet] at er
        dsimp only at er
        rw [if_neg hn] at er
        refine ⟨_, rfl, _, rfl, x, D, dx, _, _, rfl, hx3, T.clD, T.a_begun_check, lk_chk, ?_⟩
        refine ⟨p2, cutLast s.signs s.chk, s.chk, rfl, r3, by omega, by omega, fun p5 H5 kp5 h5 => ?_⟩
        have k5 := k3.trans kp5
        have hx5 := k5.at_ hx List.not_mem_nil
        have hl5 := k5.at_ hl List.not_mem_nil
        have r5 := Kp.sqT kp5.n r3
        refine ⟨_, rfl, x, D, dx, _, _, rfl, hx5, T.clD, T.a_begun_signs, lk_signs, ?_⟩
        refine ⟨_, rfl, x, D, dx, _, _, rfl, hx5, T.clD, T.a_begun_check, lk_chk, _, rfl, _, rfl, ?_⟩
        refine ⟨l, _, rfl, SqL.of hl5, fun p6 np6 => ?_⟩
        rw [cut_tail hk.1 (by omega)]
        refine ⟨p6, _, rfl, .inl ⟨SqL.of upd_same, fun p7 np7 => ?_⟩⟩
        have k7 := (Kn (o := .lst ((s.signs.drop (s.signs.length - s.chk)).map .int)) np6).trans (Kn (o := .tup ((s.signs.drop (s.signs.length - s.chk)).map .int)) np7)
        refine ⟨_, _, .tup (Kp.sqT k7.n h5) (ints_dp _), .tup (SqT.of upd_same) (ints_dp _), shaped_tints _, shaped_tints _, _, rfl, ?_⟩
        rw [eqv_tints]
        by_cases hc : chk (cutLast s.signs s.chk) s.chk = s.signs.drop (s.signs.length - s.chk)
        · refine ifF (by rw [decide_eq_true hc]; rfl) ?_
          rw [if_pos hc] at er
          rw [er] at q
          refine ⟨_, rfl, _, rfl, _, rfl, 4, rfl, ?_⟩
          refine noPart ?_
          refine slA (Kp.sqT k7.n r5) fun p8 H8 kp8 h8 => ?_
          rw [cut4 (by rw [List.length_map]; omega), ← List.map_drop] at h8
          refine ⟨sz (n := 3) (by decide), fun p9 np9 => ?_⟩
          refine q _ _ (((k5.trans k7).trans kp8).trans (Kn np9)) ?_
          exact .tup (SqT.of upd_same) (.cons (.int _) (.cons (.str _) (.cons (.tup (Kp.sqT (Kn np9).n h8) (ints_dp _)) .nil)))
        · refine ifT (by rw [decide_eq_false hc]; rfl) ?_
          rw [if_neg hc] at er
          rw [er] at q
          exact q _ _ (k5.trans k7) rfl
end
end K38

namespace K38
open PySem PySem.Spec PyProof.Rows L2 LamX
section
variable {P : Program} {w : World} {K : PySem.W.Frag} {mg : Str → Option Value} {base : Heap} {C D : Addr}
theorem ScAt.fresh {H H1 : Hp} {p l c : Addr} {s : Sc} (k : Kp [p] H H1) (h : ScAt D H1 p l s) (e : H1 c = none) : H c = none :=
  Kp.free k (fun b hb _ => by
    rw [List.mem_singleton.mp hb]
    obtain ⟨dx, h1⟩ := h.ob
    rw [h1]
    exact fun z => nomatch z) e
theorem dp_bad {H : Hp} {b : Addr} {a : Int} (h : H b = some (.tup [.str "bad", .non, .int a])) : Dp K H (.ref b) (toldD (.bad a)) := .tup (SqT.of h) (.cons (.str _) (.cons .non (.cons (.int _) .nil)))
/-! ### known -/
def sp_known (K : PySem.W.Frag) (D : Addr) : Sp := fun vs H Q _ => ∃ (p l : Addr) (s : Sc) (a : Int), vs = [.ref p] ∧ ScAt D H p l s ∧ s.at_ = some a ∧ (1 ≤ s.chk ∧ s.chk ≤ 3) ∧ 1 ≤ s.signs.length ∧ s.signs.length ≤ 900 ∧
  (3 ≤ s.signs.length → 2 + (s.chk : Int) ≤ sizeM s) ∧ ∀ b H', H b = none → Kp [p] H H' → ScAt D H' p l (knownM s a).1 → LstD K H' b ((knownM s a).2.map toldD) → Q (.ref b) H'
theorem ok_known {f : Addr} {fd : FuncData} (F : Fun K "known" "Scanner.known" s_known f fd) (T : Txt K mg C D) (c_number_in : Cal P w K mg base 1 "number_in" (sp_number_in K)) (m_bad : Met P w K mg base 1 D "bad" (sp_bad D))
    (m_read : Met P w K mg base 3 D "read" (sp_read K D)) : FnOk P w K mg base CX0 4 f fd pr_known (sp_known K D) := by
  have nd := sc_known.nd
  refine F.ok sc_known (fun vs H Q E h => ?_) (fun cdv A outer s H vs Q E hr h => ?_)
  · obtain ⟨x, l, s, a, rfl, _⟩ := h
    rfl
  · obtain ⟨x, l, s, a, rfl, hs, ha, hk, h1, h9, hsz, q⟩ := h
    have mem : x ∈ [x] := List.mem_singleton_self x
    obtain ⟨dx, hx⟩ := hs.ob
    have hl := hs.li
    refine ⟨_, (pss_cons (ps_set (i := 1) nd rfl (Or.inl rfl) (pe_callB call_len_seq (by rfl) T.z_len bt_len (pa_cons (pe_fld (pv 0) rfl) pa_nil)))
      (pss_cons (ps_set (i := 2) nd rfl (Or.inl rfl) (pcal c_number_in hr (by decide) (pa_cons (pe_slice sl_list (pe_fld (pv 0) rfl) po_none (po_some pe_int)) pa_nil)))
      (pss_cons (ps_if (pt_cmpR op_eq (pv 1) (pe_gn rfl T.SIZES) (nomark _)) (pss_cons (ps_set (i := 3) nd rfl (Or.inl rfl) (pcal c_number_in hr (by decide) (pa_cons (pe_slice sl_list (pe_fld (pv 0) rfl) (po_some pe_int) po_none) pa_nil)))
        (pss_one (ps_if (PW.pt (pw_or (pt_cmpR op_ne (pe_op op_add (pv 2) (pv 3)) (pe_gn rfl T.MOST_SIZE) (nomark _)) (pw_or1 (pt_cmpR op_lt (pv 2) (pe_op op_add (pe_gn rfl T.AROUND) (pe_fld (pv 0) rfl)) (nomark _))))) (pss_one (ps_ret (pe_lst (pa_cons (pmet0 m_bad hr (by decide) (pv 0)) pa_nil)))) pss_nil))) pss_nil)
      (pss_cons (ps_if (PW.pt (pw_or (pt_cmpR op_lt (pv 1) (pe_gn rfl T.SIZES) (nomark _)) (pw_or1 (pt_cmpR op_lt (pv 1) (pe_op op_add (pe_gn rfl T.SIZES) (pv 2)) (nomark _))))) (pss_one (ps_ret (pe_lst pa_nil))) pss_nil)
      (pss_cons (ps_set (i := 4) nd rfl (Or.inl rfl) (pmet0 m_read hr (by decide) (pv 0)))
      (pss_cons (ps_if (pt_cmpR op_isN (pv 4) pe_non (nomark _)) (pss_one (ps_ret (pe_lst (pa_cons (pmet0 m_bad hr (by decide) (pv 0)) pa_nil)))) pss_nil)
      (pss_cons (ps_set (i := 5) nd rfl (Or.inl rfl) (pe_fld (pv 0) rfl))
      (pss_cons (ps_fld (pv 0) pe_non rfl)
      (pss_one (ps_ret (pe_lst (pa_cons (pe_tup (pa_cons pe_str (pa_cons (pv 4) (pa_cons (pv 5) pa_nil)))) pa_nil)))))))))))), ?_⟩
    refine ⟨_, rfl, x, D, dx, _, _, rfl, hx, T.clD, T.a_begun_signs, lk_signs, l, _, rfl, .inl (SqL.of hl), ?_⟩
    rw [List.length_map]
    refine ⟨_, rfl, x, D, dx, _, _, rfl, hx, T.clD, T.a_begun_signs, lk_signs, 1, rfl, l, _, rfl, SqL.of hl, fun p1 np1 => ?_⟩
    rw [cut01 h1]
    refine ⟨p1, _, rfl, .inl (SqL.of upd_same), ?_⟩
    have k1 := Kn (o := .lst ((s.signs.take 1).map .int)) np1
    generalize upd H p1 (.lst ((s.signs.take 1).map .int)) = H1 at k1 ⊢
    have esz : numIn (s.signs.take 1) = sizeM s := rfl
    rw [esz]
    -- what a bad one gives
    have bad : knownM s a = ({ s with at_ := none }, [.bad a]) → ∀ (σ : L2.St) (H2 : Hp), σ[0]? = some (some (.ref x)) → Kp [] H H2 → tLst (tCons (tMeth D "bad" (sp_bad D) [] E0 (tVar 0) tNil) tNil) σ H2 Q := fun e σ H2 hσ k2 => by
      have hs2 := hs.kp k2
      obtain ⟨dx2, hx2⟩ := hs2.ob
      refine ⟨_, hσ, x, dx2, _, rfl, hx2, rfl, x, l, s, a, rfl, hs2, ha, fun b H4 kp4 sc4 hb4 => ⟨sz (n := 1) (by decide), fun c nc => ?_⟩⟩
      have k4 : Kp [x] H H4 := (k2.mono fun _ h => absurd h List.not_mem_nil).trans kp4
      rw [e] at q
      exact q c _ (ScAt.fresh k4 sc4 nc) (k4.trans (Kp.new nc)) (sc4.kp (Kn nc)) ⟨_, upd_same, .cons (dp_bad ((Kn nc).at_ hb4 List.not_mem_nil)) .nil⟩
    have wait : knownM s a = (s, []) → ∀ (σ : L2.St) (H2 : Hp), Kp [] H H2 → tLst tNil σ H2 Q := fun e σ H2 k2 => ⟨sz (n := 0) (by decide), fun c nc => by
      have k4 : Kp [x] H H2 := k2.mono fun _ h => absurd h List.not_mem_nil
      rw [e] at q
      exact q c _ (ScAt.fresh k4 (hs.kp k2) nc) (k4.trans (Kp.new nc)) ((hs.kp k2).kp (Kn nc)) ⟨_, upd_same, .nil⟩⟩
    refine ⟨_, rfl, rfl, _, rfl, ?_⟩
    have hx1 := k1.at_ hx List.not_mem_nil
    have hl1 := k1.at_ hl List.not_mem_nil
    by_cases e2 : s.signs.length = 2
    · refine ifT (by rw [e2]; rfl) ?_
      refine ⟨_, rfl, x, D, dx, _, _, rfl, hx1, T.clD, T.a_begun_signs, lk_signs, 1, rfl, ?_⟩
      refine noPart ?_
      refine ⟨l, _, rfl, SqL.of hl1, fun p2 np2 => ?_⟩
      rw [cut1 (by rw [List.length_map]; omega), ← List.map_drop]
      refine ⟨p2, _, rfl, .inl (SqL.of upd_same), ?_⟩
      have k2 := k1.trans (Kn (o := .lst ((s.signs.drop 1).map .int)) np2)
      generalize upd H1 p2 (.lst ((s.signs.drop 1).map .int)) = H2 at k2 ⊢
      have hx2 := k2.at_ hx List.not_mem_nil
      refine ⟨_, rfl, _, rfl, _, _, rfl, rfl, rfl, _, rfl, ?_⟩
      by_cases c1 : sizeM s + numIn (s.signs.drop 1) = 94
      · refine ifF (by rw [decide_eq_true (congrArg V.int c1)]; rfl) ?_
        refine ⟨_, rfl, _, rfl, x, D, dx, _, _, rfl, hx2, T.clD, T.a_begun_check, lk_chk, _, _, rfl, rfl, _, _, rfl, rfl, _, rfl, ?_⟩
        by_cases c2 : sizeM s < 2 + s.chk
        · refine ifT (decide_eq_true c2) ?_
          exact bad (if_pos ⟨e2, .inr c2⟩) _ _ rfl k2
        · refine ifF (decide_eq_false c2) ?_
          have e : knownM s a = (s, []) := by
            unfold knownM
            rw [if_neg (fun z => z.2.elim (fun z => z c1) c2), if_pos (.inr (by omega))]
          refine ⟨_, rfl, _, _, rfl, rfl, _, rfl, ?_⟩
          refine ifF (decide_eq_false (by omega)) ?_
          refine ⟨_, rfl, _, rfl, _, _, rfl, rfl, _, _, rfl, rfl, _, rfl, ?_⟩
          refine ifT (decide_eq_true (by omega)) ?_
          exact wait e [] _ k2
      · refine ifT (by rw [decide_eq_false fun z => c1 (V.int.inj z)]; rfl) ?_
        exact bad (if_pos ⟨e2, .inl c1⟩) _ _ rfl k2
    · refine ifF (decide_eq_false fun z => e2 (by have := V.int.inj z; omega)) ?_
      have n1 : ¬ (s.signs.length = 2 ∧ (sizeM s + numIn (s.signs.drop 1) ≠ 94 ∨ sizeM s < 2 + s.chk)) := fun z => e2 z.1
      refine ⟨_, rfl, _, _, rfl, rfl, _, rfl, ?_⟩
      by_cases c1 : s.signs.length < 2
      · refine ifT (decide_eq_true (by omega)) ?_
        refine wait ?_ [] _ k1
        unfold knownM
        rw [if_neg n1, if_pos (.inl c1)]
      refine ifF (decide_eq_false (by omega)) ?_
      refine ⟨_, rfl, _, rfl, _, _, rfl, rfl, _, _, rfl, rfl, _, rfl, ?_⟩
      by_cases c2 : (s.signs.length : Int) < 2 + sizeM s
      · refine ifT (decide_eq_true c2) ?_
        refine wait ?_ [] _ k1
        unfold knownM
        rw [if_neg n1, if_pos (.inr c2)]
      refine ifF (decide_eq_false c2) ?_
      have hz := hsz (by omega)
      refine ⟨_, rfl, x, dx, _, rfl, hx1, rfl, x, l, s, rfl, hs.kp k1, hk, by omega, h9, fun v H3 kp3 hv => ?_⟩
      have k3 := k1.trans kp3
      have ek : knownM s a = match readM s with
        | none => ({ s with at_ := none }, [.bad a])
        | some p => ({ s with at_ := none }, [.good p a]) := by
        unfold knownM
        rw [if_neg n1, if_neg (fun z => z.elim c1 c2)]
        all_goals (cases readM s <;> rfl)
      refine ⟨_, rfl, rfl, _, rfl, ?_⟩
      cases hm : readM s with
      | none =>
        rw [hm] at hv ek
        obtain rfl : v = .non := hv
        refine iteT ?_
        exact bad ek _ _ rfl k3
      | some pk =>
        rw [hm] at hv ek
        have hv : Dp K H3 v (pkD pk) := hv
        have nv : decide (v = V.non) = false := decide_eq_false fun z => by
          obtain ⟨b, xs, rfl, _⟩ := dp_tup hv
          cases z
        refine ifF nv ?_
        have hx3 := k3.at_ hx List.not_mem_nil
        have e : (scF s l).lookup ("begun_at" : Str) = some (.int a) := by rw [lk_at, ha]; rfl
        refine ⟨_, rfl, x, D, dx, _, _, rfl, hx3, T.clD, T.a_begun_at, e, _, rfl, x, D, dx, _, rfl, hx3, T.clD, T.a_begun_at, scF_len, ?_⟩
        have kx : Kp [x] H3 (upd H3 x (.ins D dx (putF "begun_at" .non (scF s l)))) := Kp.put hx3 rfl mem
        have k4 : Kp [x] H (upd H3 x (.ins D dx (putF "begun_at" .non (scF s l)))) := (k3.mono fun _ h => absurd h List.not_mem_nil).trans kx
        have sc4 : ScAt D (upd H3 x (.ins D dx (putF "begun_at" .non (scF s l)))) x l { s with at_ := none } := ⟨⟨dx, upd_same⟩, by rw [upd_ne hs.ne.symm]; exact k3.at_ hl List.not_mem_nil⟩
        have d4 := Kp.dp kx.n _ _ (flat_pkD pk) hv
        generalize upd H3 x (.ins D dx (putF "begun_at" .non (scF s l))) = H4 at k4 sc4 d4 ⊢
        refine ⟨_, rfl, _, rfl, sz (n := 3) (by decide), fun b nb => ⟨sz (n := 1) (by decide), fun c nc => ?_⟩⟩
        have k5 : Kp [] H4 (upd (upd H4 b (.tup [.str "good", v, .int a])) c (.lst [.ref b])) := (Kn nb).trans (Kn nc)
        rw [ek] at q
        refine q c _ (ScAt.fresh (k4.trans (Kp.new nb)) (sc4.kp (Kn nb)) nc) (k4.trans (k5.mono fun _ h => absurd h List.not_mem_nil)) (sc4.kp k5) ⟨_, upd_same, .cons ?_ .nil⟩
        exact .tup (SqT.of ((Kn nc).at_ upd_same List.not_mem_nil)) (.cons (.str _) (.cons (Kp.dp k5.n _ _ (flat_pkD pk) d4) (.cons (.int _) .nil)))
/-! ### feed -/
theorem feedM_ok : ∀ (xs : List Int) (s : Sc), ScOk s → ScOk (feedM s xs).1
  | [], _, h => h
  | x :: xs, s, h => feedM_ok xs _ (stepM_ok x h)
theorem knownM_len (s : Sc) (a : Int) : (knownM s a).2.length ≤ 1 := by
  unfold knownM
  split
  · exact Nat.le_refl 1
  · split
    · exact Nat.zero_le 1
    · cases readM s <;> exact Nat.le_refl 1
theorem stepM_len (s : Sc) (x : Int) : (stepM s x).2.length ≤ 1 := by
  unfold stepM
  split
  · cases s.at_ <;> simp [more]
  · cases h : s.at_ with
    | none => exact Nat.zero_le 1
    | some a =>
      dsimp only
      split
      · exact knownM_len _ _
      · exact Nat.zero_le 1
theorem feedM_len : ∀ (xs : List Int) (s : Sc), (feedM s xs).2.length ≤ xs.length
  | [], _ => Nat.zero_le _
  | x :: xs, s => by
    have h1 := stepM_len s x
    have h2 := feedM_len xs (stepM s x).1
    show ((stepM s x).2 ++ (feedM (stepM s x).1 xs).2).length ≤ xs.length + 1
    rw [List.length_append]
    omega
theorem feedM_take {xs : List Int} {i : Nat} {x : Int} (h : xs[i]? = some x) (s : Sc) :
    feedM s (xs.take (i + 1)) = ((stepM (feedM s (xs.take i)).1 x).1, (feedM s (xs.take i)).2 ++ (stepM (feedM s (xs.take i)).1 x).2) := by
  rw [List.take_add_one, h, Option.toList_some, feedM_append]
  show (_, _ ++ ((stepM (feedM s (xs.take i)).1 x).2 ++ [])) = _
  rw [List.append_nil]
  rfl
theorem in_marks (n : Int) : inV (.int n) [.int 1, .int 2] = decide (n = 1 ∨ n = 2) := by
  unfold inV
  by_cases h1 : n = 1
  · subst h1; rfl
  · by_cases h2 : n = 2
    · subst h2; rfl
    · simp [eqV, h1, h2]
      exact ⟨fun z => h1 z.symm, fun z => h2 z.symm⟩
/-- the list of what was told stands apart from the scanner -/
structure FdAt (D : Addr) (K : PySem.W.Frag) (H H1 : Hp) (p l o : Addr) (s : Sc) (ts : List Told) : Prop where
  kp : Kp [p, l] H H1
  sc : ∃ l1, ScAt D H1 p l1 s ∧ (l1 = l ∨ H l1 = none) ∧ o ≠ l1
  fd : LstD K H1 o (ts.map toldD)
  nl : ∃ u, H1 l = some u
def sp_feed (K : PySem.W.Frag) (D : Addr) : Sp := fun vs H Q _ => ∃ (p l t : Addr) (s : Sc) (xs : List Int), vs = [.ref p, .ref t] ∧ ScAt D H p l s ∧ ScOk s ∧ SqT K H t (xs.map .int) ∧ xs.length ≤ 1000000 ∧
  ∀ b l' H', H b = none → (l' = l ∨ H l' = none) → Kp [p, l] H H' → ScAt D H' p l' (feedM s xs).1 → LstD K H' b ((feedM s xs).2.map toldD) → Q (.ref b) H'
theorem ok_feed {f : Addr} {fd : FuncData} (F : Fun K "feed" "Scanner.feed" s_feed f fd) (T : Txt K mg C D) (c_is_plain : Cal P w K mg base 1 "is_plain" sp_is_plain) (m_bad : Met P w K mg base 1 D "bad" (sp_bad D))
    (m_begin : Met P w K mg base 1 D "begin" (sp_begin D)) (m_known : Met P w K mg base 4 D "known" (sp_known K D)) : FnOk P w K mg base CX0 5 f fd pr_feed (sp_feed K D) := by
  have nd := sc_feed.nd
  refine F.ok sc_feed (fun vs H Q E h => ?_) (fun cdv A outer s H vs Q E hr h => ?_)
  · obtain ⟨x, l, s, a, ys, rfl, _⟩ := h
    rfl
  · obtain ⟨p, l, t, s, xs, rfl, hs, ho, ht, hl9, q⟩ := h
    refine ⟨_, (pss_cons (ps_set (i := 2) nd rfl (Or.inl rfl) (pe_lst pa_nil))
      (pss_cons (ps_for PassesOwn.never rfl (pi_tup (pv 1)) (pg_name (i := 3) nd rfl (Or.inl rfl)) (pss_cons (ps_if (pt_cmpR op_in_seq (pv 3) (pe_tup (pa_cons (pe_gn rfl T.MARK) (pa_cons (pe_gn rfl T.OPENING_MARK) pa_nil))) rfl) (pss_cons (ps_if (pt_cmpR op_notN (pe_fld (pv 0) rfl) pe_non (nomark _)) (pss_one (ps_expr (pe_bm PySem.F.plainAttrs_list PySem.F.slot_list_append PySem.F.type_list_append mt_append (pv 2) (pa_cons (pmet0 m_bad hr (by decide) (pv 0)) pa_nil)))) pss_nil)
          (pss_one (ps_expr (pmet m_begin hr (by decide) (pv 0) (pa_cons (pv 3) pa_nil))))) (pss_one (ps_if (PW.pt (pw_and (pt_val (pcal c_is_plain hr (by decide) (pa_cons (pv 3) pa_nil))) (pw_and1 (pt_cmpR op_notN (pe_fld (pv 0) rfl) pe_non (nomark _))))) (pss_cons (ps_expr (pe_bm PySem.F.plainAttrs_list PySem.F.slot_list_append PySem.F.type_list_append mt_append (pe_fld (pv 0) rfl) (pa_cons (pv 3) pa_nil)))
            (pss_one (ps_expr (pe_bm PySem.F.plainAttrs_list PySem.F.slot_list_extend PySem.F.type_list_extend mt_extend (pv 2) (pa_cons (pmet0 m_known hr (by decide) (pv 0)) pa_nil))))) pss_nil)))
        (pss_one (ps_fldaug (pv 0) pe_int in_add))))
      (pss_one (ps_ret (pv 2))))), ?_⟩
    refine ⟨Nat.zero_le _, fun o no => ?_⟩
    have hpo : p ≠ o := by
      obtain ⟨dx, h⟩ := hs.ob
      exact ne_of_none h no
    have hlo : l ≠ o := ne_of_none hs.li no
    refine ⟨_, rfl, t, rfl, ⟨_, Kp.sqT (Kn no).n ht⟩, for_tup (xs := xs.map V.int) (fun i σ H1 => ∃ v, σ = [some (.ref p), some (.ref t), some (.ref o), v] ∧ FdAt D K H H1 p l o (feedM s (xs.take i)).1 (feedM s (xs.take i)).2)
      ⟨none, rfl, Kp.new no, ⟨l, ⟨?_, ?_⟩, .inl rfl, hlo.symm⟩, ⟨_, upd_same, .nil⟩, ⟨_, (upd_ne hlo).trans hs.li⟩⟩ (fun i σ H1 _ h => ?_) ?_ ?_⟩
    · obtain ⟨dx, h⟩ := hs.ob
      exact ⟨dx, (upd_ne hpo).trans h⟩
    · exact (upd_ne hlo).trans hs.li
    · obtain ⟨v, rfl, h⟩ := h
      exact Kp.sqT h.kp.n ht
    · rintro i x σ H1 hx ⟨v, rfl, kp, ⟨l1, hsc, hll, hol⟩, hfd, ⟨u, hu⟩⟩
      rw [List.getElem?_map] at hx
      cases e : xs[i]? with
      | none => rw [e] at hx; cases hx
      | some n =>
        rw [e] at hx
        obtain rfl : V.int n = x := Option.some.inj hx
        have hok := feedM_ok (xs.take i) s ho
        have hfl := feedM_len (xs.take i) s
        have hil : (xs.take i).length ≤ 1000000 := by rw [List.length_take]; omega
        have et := feedM_take e s
        generalize (feedM s (xs.take i)).1 = s1 at et hok hsc
        generalize (feedM s (xs.take i)).2 = ts at et hfl hfd
        obtain ⟨dx, hp⟩ := hsc.ob
        obtain ⟨fs, hfo, dfs⟩ := hfd
        have hfn : fs.length ≤ 1000000 := by
          have := dp_len dfs
          rw [List.length_map] at this
          omega
        have hop : o ≠ p := fun z => by rw [z, hp] at hfo; cases hfo
        have L : ∀ b ∈ [p], b ∈ [p, l1, o] := fun b h => by simp [List.mem_singleton.mp h]
        have L0 : ∀ b ∈ ([] : List Addr), b ∈ [p, l1, o] := fun _ h => absurd h List.not_mem_nil
        have hpl : l ≠ p := hs.ne.symm
        have kept : ∀ (H' : Hp) (v1 v2 : HO), H' p = some v1 → H' l = some v2 → ∀ b ∈ [p, l], H b ≠ none → H' b ≠ none := fun H' v1 v2 e1 e2 b hb _ => by
          rcases List.mem_cons.mp hb with rfl | hb
          · rw [e1]; exact fun z => nomatch z
          · rw [List.mem_singleton.mp hb, e2]; exact fun z => nomatch z
        -- from H on, by what holds from H1 on
        have up : ∀ H5, Kp [p, l1, o] H1 H5 → Kp [p, l] H H5 := fun H5 k b u e hb => by
          have e1 := kp b u e hb
          refine k b u e1 fun hm => ?_
          rcases List.mem_cons.mp hm with rfl | hm
          · exact hb (List.mem_cons_self ..)
          · rcases List.mem_cons.mp hm with rfl | hm
            · rcases hll with rfl | hn
              · exact hb (by simp)
              · rw [hn] at e; cases e
            · rw [List.mem_singleton.mp hm, no] at e; cases e
        have fin : ∀ (H5 : Hp) (dx5 : Addr) (s5 : Sc) (us : List Told) (l5 : Addr), stepM s1 n = more (s5, us) → Kp [p, l1, o] H1 H5 → H5 p = some (.ins D dx5 (scF s5 l5)) → H5 l5 = some (.lst (s5.signs.map .int)) →
            (l5 = l ∨ H l5 = none) → o ≠ l5 → (∃ zs, H5 o = some (.lst (fs ++ zs)) ∧ DpAll K H5 zs (us.map toldD)) → (∃ u5, H5 l = some u5) →
            FdAt D K H (upd H5 p (.ins D dx5 (putF "many_fed" (.int (s5.fed + 1)) (scF s5 l5)))) p l o (feedM s (xs.take (i + 1))).1 (feedM s (xs.take (i + 1))).2 := fun H5 dx5 s5 us l5 es k5 h5 hl5 hll5 hol5 hz hn => by
          obtain ⟨u5, hn⟩ := hn
          obtain ⟨zs, hz, dz⟩ := hz
          have kx : Kp [p] H5 (upd H5 p (.ins D dx5 (putF "many_fed" (.int (s5.fed + 1)) (scF s5 l5)))) := Kp.put h5 rfl (List.mem_singleton_self p)
          have h5l : l5 ≠ p := fun z => by rw [z, h5] at hl5; cases hl5
          rw [et, es]
          refine ⟨up _ (k5.trans (kx.mono L)), ⟨l5, ⟨⟨dx5, upd_same⟩, (upd_ne h5l).trans hl5⟩, hll5, hol5⟩, ⟨fs ++ zs, (upd_ne hop).trans hz, ?_⟩, u5, (upd_ne hpl).trans hn⟩
          show DpAll _ _ _ (List.map toldD (ts ++ us))
          rw [List.map_append]
          exact dp_app (Kp.dpAll (k5.trans (kx.mono L)).n _ _ (flat_told ts) dfs) (Kp.dpAll kx.n _ _ (flat_told us) dz)
        refine ⟨_, rfl, sz (n := 2) (by decide), fun p1 np1 => ?_⟩
        refine ⟨p1, _, rfl, .inr (SqT.of upd_same), rfl, rfl, _, rfl, ?_⟩
        have k2 := Kn (o := .tup [.int 1, .int 2]) np1
        generalize upd H1 p1 (.tup [.int 1, .int 2]) = H2 at k2 ⊢
        have sc2 := hsc.kp k2
        have hp2 := k2.at_ hp List.not_mem_nil
        have hl2 := k2.at_ hsc.li List.not_mem_nil
        have hfo2 := k2.at_ hfo List.not_mem_nil
        have K2 := k2.mono L0
        have hu2 := k2.at_ hu List.not_mem_nil
        by_cases hm : n = 1 ∨ n = 2
        · refine ifT ((in_marks n).trans (decide_eq_true hm)) ?_
          have est : stepM s1 n = more (beginM s1 n, match s1.at_ with | none => [] | some a => [.bad a]) := if_pos hm
          refine ⟨_, rfl, p, D, dx, _, _, rfl, hp2, T.clD, T.a_begun_at, lk_at, rfl, _, rfl, ?_⟩
          cases ha : s1.at_ with
          | none =>
            rw [ha] at est
            refine iteF ?_
            refine ⟨_, rfl, p, dx, _, rfl, hp2, rfl, _, rfl, p, l1, s1, n, rfl, sc2, fun l' H3 nl' kp3 sc3 => ?_⟩
            obtain ⟨dx3, hp3⟩ := sc3.ob
            refine ⟨_, rfl, p, D, dx3, _, _, rfl, hp3, T.clD, T.a_many_fed, lk_fed, _, 1, rfl, rfl, dx3, _, hp3, scF_len, _, rfl, ?_⟩
            exact fin H3 dx3 (beginM s1 n) [] l' est (K2.trans (kp3.mono L)) hp3 sc3.li (.inr (Kp.free (up H2 K2) (kept H2 _ _ hp2 hu2) nl')) (ne_of_none hfo2 nl') ⟨[], by rw [List.append_nil]; exact kp3.at_ hfo2 (by simp [hop]), .nil⟩ ⟨u, kp3.at_ hu2 (by simp [hpl])⟩
          | some a =>
            rw [ha] at est
            refine iteT ?_
            refine ⟨_, rfl, .inl ⟨rfl, _, SqL.of hfo2⟩, _, rfl, p, dx, _, rfl, hp2, rfl, p, l1, s1, a, rfl, sc2, ha, fun b H3 kp3 sc3 hb3 => ?_⟩
            have hfo3 := kp3.at_ hfo2 (by simp [hop])
            refine ⟨o, _, _, rfl, rfl, hfo3, Nat.lt_of_le_of_lt hfn (by decide), ?_⟩
            have K4 : Kp [o] H3 (upd H3 o (.lst (fs ++ [.ref b]))) := Kp.put hfo3 rfl (List.mem_singleton_self o)
            have hu4 := K4.at_ (kp3.at_ hu2 (by simp [hpl])) (by simp; exact fun z => hlo z)
            have e4 : upd H3 o (.lst (fs ++ [.ref b])) o = some (.lst (fs ++ [.ref b])) := upd_same
            have d4 := K4.at_ hb3 (by simp; rintro rfl; rw [hfo3] at hb3; cases hb3)
            have sc4 : ScAt D (upd H3 o (.lst (fs ++ [.ref b]))) p l1 { s1 with at_ := none } := by
              obtain ⟨dx3, hp3⟩ := sc3.ob
              exact ⟨⟨dx3, K4.at_ hp3 (by simp [hop.symm])⟩, K4.at_ sc3.li (by simp [hol.symm])⟩
            have KK := (K2.trans (kp3.mono L)).trans (K4.mono (l' := [p, l1, o]) (by simp))
            generalize upd H3 o (.lst (fs ++ [.ref b])) = H4 at K4 e4 d4 sc4 KK hu4 ⊢
            obtain ⟨dx4, hp4⟩ := sc4.ob
            refine ⟨_, rfl, p, dx4, _, rfl, hp4, rfl, _, rfl, p, l1, _, n, rfl, sc4, fun l' H5 nl' kp5 sc5 => ?_⟩
            obtain ⟨dx5, hp5⟩ := sc5.ob
            refine ⟨_, rfl, p, D, dx5, _, _, rfl, hp5, T.clD, T.a_many_fed, lk_fed, _, 1, rfl, rfl, dx5, _, hp5, scF_len, _, rfl, ?_⟩
            refine fin H5 dx5 (beginM s1 n) [.bad a] l' est (KK.trans (kp5.mono L)) hp5 sc5.li (.inr (Kp.free (up H4 KK) (kept H4 _ _ hp4 hu4) nl')) (ne_of_none e4 nl') ⟨[.ref b], kp5.at_ e4 (by simp [hop]), .cons (dp_bad (kp5.at_ d4 ?_)) .nil⟩ ⟨u, kp5.at_ hu4 (by simp [hpl])⟩
            simp
            rintro rfl
            rw [hp4] at d4
            cases d4
        · refine ifF ((in_marks n).trans (decide_eq_false hm)) ?_
          have est : stepM s1 n = match s1.at_ with
            | none => more (s1, [])
            | some a => if plainI n then more (knownM { s1 with signs := s1.signs ++ [n] } a) else more (s1, []) := if_neg hm
          have skip : stepM s1 n = more (s1, []) → FdAt D K H (upd H2 p (.ins D dx (putF "many_fed" (.int (s1.fed + 1)) (scF s1 l1)))) p l o (feedM s (xs.take (i + 1))).1 (feedM s (xs.take (i + 1))).2 := fun e =>
            fin H2 dx s1 [] l1 e K2 hp2 hl2 hll hol ⟨[], by rw [List.append_nil]; exact hfo2, .nil⟩ ⟨u, hu2⟩
          refine ⟨_, rfl, n, rfl, _, rfl, ?_⟩
          by_cases hpn : plainI n
          · refine ifT (decide_eq_true hpn) ?_
            refine ⟨_, rfl, p, D, dx, _, _, rfl, hp2, T.clD, T.a_begun_at, lk_at, rfl, _, rfl, ?_⟩
            cases ha : s1.at_ with
            | none =>
              rw [ha] at est
              exact ⟨_, rfl, p, D, dx, _, _, rfl, hp2, T.clD, T.a_many_fed, lk_fed, _, 1, rfl, rfl, dx, _, hp2, scF_len, _, rfl, skip est⟩
            | some a =>
              have est := open_step ha hpn
              have hna : s1.at_ ≠ none := by rw [ha]; exact fun z => nomatch z
              have sbd := sizeM_bd (hok.plain hna)
              have sln : s1.signs.length ≤ 899 := by
                by_cases z : 2 ≤ s1.signs.length
                · have := (hok.short hna z).2
                  omega
                · omega
              refine ⟨_, rfl, p, D, dx, _, _, rfl, hp2, T.clD, T.a_begun_signs, lk_signs, .inl ⟨rfl, _, SqL.of hl2⟩, _, rfl, l1, _, _, rfl, rfl, hl2, small1000 (by rw [List.length_map]; omega), ?_⟩
              have em : s1.signs.map V.int ++ [V.int n] = (s1.signs ++ [n]).map V.int := by rw [List.map_append]; rfl
              rw [em]
              have K3 : Kp [l1] H2 (upd H2 l1 (.lst ((s1.signs ++ [n]).map V.int))) := Kp.put hl2 rfl (List.mem_singleton_self l1)
              have hpl1 : p ≠ l1 := sc2.ne
              have sc3 : ScAt D (upd H2 l1 (.lst ((s1.signs ++ [n]).map V.int))) p l1 { s1 with signs := s1.signs ++ [n] } := ⟨⟨dx, (upd_ne hpl1).trans hp2⟩, upd_same⟩
              have hfo3 := K3.at_ hfo2 (by simp [hol])
              have hp3 := K3.at_ hp2 (by simp [hpl1])
              have hu3 : ∃ u3, upd H2 l1 (.lst ((s1.signs ++ [n]).map V.int)) l = some u3 := by
                by_cases z : l = l1
                · exact ⟨_, by rw [z]; exact upd_same⟩
                · exact ⟨u, (upd_ne z).trans hu2⟩
              have KK := K2.trans (K3.mono (l' := [p, l1, o]) (by simp))
              generalize upd H2 l1 (.lst ((s1.signs ++ [n]).map V.int)) = H3 at sc3 hfo3 hp3 hu3 KK ⊢
              obtain ⟨u3, hu3⟩ := hu3
              refine ⟨_, rfl, .inl ⟨rfl, _, SqL.of hfo3⟩, _, rfl, p, dx, _, rfl, hp3, rfl, p, l1, _, a, rfl, sc3, ha, hok.chk, by simp, by simp; omega, fun h3 => ?_, fun b H4 nb kp4 sc4 hb4 => ?_⟩
              · have h2 : 2 ≤ s1.signs.length := by simp at h3; omega
                rw [sizeM_app n (by omega)]
                exact (hok.short hna h2).1
              obtain ⟨zs, hbz, dz⟩ := hb4
              have hfo4 := kp4.at_ hfo3 (by simp [hop])
              have hzl : zs.length ≤ 1 := by
                have := dp_len dz
                have := knownM_len { s1 with signs := s1.signs ++ [n] } a
                rw [List.length_map] at *
                omega
              refine ⟨o, b, fs, zs, rfl, rfl, hfo4, hbz, Nat.le_trans (Nat.add_le_add hfn hzl) (by decide), ?_⟩
              have K5 : Kp [o] H4 (upd H4 o (.lst (fs ++ zs))) := Kp.put hfo4 rfl (List.mem_singleton_self o)
              obtain ⟨dx4, hp4⟩ := sc4.ob
              have hp5 := K5.at_ hp4 (by simp [hop.symm])
              have hu5 := K5.at_ (kp4.at_ hu3 (by simp [hpl])) (by simp; exact fun z => hlo z)
              refine ⟨_, rfl, p, D, dx4, _, _, rfl, hp5, T.clD, T.a_many_fed, lk_fed, _, 1, rfl, rfl, dx4, _, hp5, scF_len, _, rfl, ?_⟩
              exact fin _ dx4 _ _ l1 est ((KK.trans (kp4.mono L)).trans (K5.mono (by simp))) hp5 (K5.at_ sc4.li (by simp [hol.symm])) hll hol ⟨zs, upd_same, Kp.dpAll K5.n _ _ (flat_told _) dz⟩ ⟨u3, hu5⟩
          · refine ifF (decide_eq_false hpn) ?_
            have est' : stepM s1 n = more (s1, []) := by
              rw [est]
              cases s1.at_ with
              | none => rfl
              | some a => exact if_neg hpn
            exact ⟨_, rfl, p, D, dx, _, _, rfl, hp2, T.clD, T.a_many_fed, lk_fed, _, 1, rfl, rfl, dx, _, hp2, scF_len, _, rfl, skip est'⟩
    · rintro σ H1 ⟨v, rfl, kp, ⟨l1, hsc, hll, hol⟩, hfd, ⟨u, hu⟩⟩
      rw [List.length_map, List.take_length] at hsc hfd
      exact ⟨_, rfl, q o l1 H1 no hll kp hsc hfd⟩
end
end K38

namespace K38
open PySem PySem.Spec PyProof.Rows L2 LamX
def deedD : Deed → PyData
  | .pass => .tuple [.str "pass"]
  | .drop => .tuple [.str "drop"]
  | .twice => .tuple [.str "twice"]
  | .late t => .tuple [.str "late", .int t]
  | .spoil p b => .tuple [.str "spoil", .int p, .int b]
  | .add xs => .tuple [.str "add", .tuple (xs.map .int)]
theorem flat_deed (d : Deed) : flat (deedD d) = true := by cases d <;> simp [deedD, flat, flatAll, flat_ints]
theorem flat_deeds : ∀ ds : List Deed, flatAll (ds.map deedD) = true
  | [] => by simp [flatAll]
  | d :: ds => by simp [flatAll, flat_deed, flat_deeds ds]
theorem ix_tupK {X : Cx} (K : PySem.W.Frag) (h : X.K = K) : IxR X (rIxT K) := h ▸ ix_tup
theorem ix_listK {X : Cx} (K : PySem.W.Frag) (h : X.K = K) : IxR X (rIxL K) := h ▸ ix_list
theorem op_inK {X : Cx} (K : PySem.W.Frag) (h : X.K = K) : OpR X (compareOp .In) (rIn K false) := h ▸ op_in_seq
theorem op_notInK {X : Cx} (K : PySem.W.Frag) (h : X.K = K) : OpR X (compareOp .NotIn) (rIn K true) := h ▸ op_notIn_seq
theorem call_lenK {X : Cx} (K : PySem.W.Frag) (h : X.K = K) : CallR X (.builtin "len") (fun xs H Q => ∃ p ys, xs = [.ref p] ∧ (SqL K H p ys ∨ SqT K H p ys) ∧ Q (.int ys.length) H) := h ▸ call_len_seq
theorem k_int_bool (K : PySem.W.Frag) : PySem.W.kitOne K (.type "int") (.type "bool") = some false := by
  have h1 : PySem.W.kitMeta "bool" = true := by decide +kernel
  have h2 : (fastBuiltinMro "int").map (·.contains (.type "bool")) = some false := by decide +kernel
  have h3 : ((Value.type "int") == (Value.type "bool")) = false := by decide +kernel
  unfold PySem.W.kitOne PySem.W.kitCls PySem.W.subIn
  rw [h3]
  simp only [h1, h2]
  rfl
theorem k_same (K : PySem.W.Frag) (t : Value) (h : (t == t) = true) : PySem.W.kitOne K t t = some true := if_pos h
section
variable {P : Program} {w : World} {K : PySem.W.Frag} {mg : Str → Option Value} {base : Heap} {C D : Addr}
/-! ### value_at, spoiled -/
def sp_value_at (K : PySem.W.Frag) : Sp := fun vs H Q _ => ∃ (a : Addr) (xs : List Int) (i : Nat), vs = [.ref a, .int i] ∧ SqT K H a (xs.map .int) ∧ i < xs.length ∧ ∀ H', Kp [] H H' → Q (.int (valAt xs i)) H'
theorem ok_value_at {f : Addr} {fd : FuncData} (F : Fun K "value_at" "value_at" s_value_at f fd) (T : Txt K mg C D) (c_is_plain : Cal P w K mg base 1 "is_plain" sp_is_plain) (c_number_in : Cal P w K mg base 1 "number_in" (sp_number_in K)) :
    FnOk P w K mg base CX0 2 f fd pr_value_at (sp_value_at K) := by
  have nd := sc_value_at.nd
  refine F.ok sc_value_at (fun vs H Q E h => ?_) (fun cdv A outer s H vs Q E hr h => ?_)
  · obtain ⟨a, xs, i, rfl, _⟩ := h
    rfl
  · obtain ⟨a, xs, i, rfl, hs, hi, q⟩ := h
    refine ⟨_, (pss_cons (ps_if (pt_val (pcal c_is_plain hr (by decide) (pa_cons (pe_ix ix_tup (pv 0) (pv 1) (fun _ _ => rfl)) pa_nil))) (pss_one (ps_ret (pcal c_number_in hr (by decide) (pa_cons (pe_slice sl_tupA (pv 0) (po_some (pv 1)) (po_some (pe_op op_add (pv 1) pe_int))) pa_nil)))) pss_nil)
      (pss_one (ps_ret pe_int))), ?_⟩
    have hx : xs[i]? = some xs[i] := List.getElem?_eq_getElem hi
    have hg : xs.getD i 0 = xs[i] := by rw [List.getD_eq_getElem?_getD, hx]; rfl
    refine ⟨_, rfl, _, rfl, a, _, _, _, rfl, rfl, hs, atI_nat (j := i) (by rw [List.getElem?_map, hx]; rfl), _, rfl, _, rfl, ?_⟩
    by_cases hp : plainI xs[i]
    · refine ifT (decide_eq_true hp) ?_
      refine ⟨_, rfl, _, rfl, _, rfl, _, rfl, _, _, rfl, rfl, _, rfl, ?_⟩
      refine slA hs fun p1 H1 kp1 h1 => ?_
      have e := cut_mid (xs := xs.map V.int) i (i + 1) (by rw [List.length_map]; omega) (by rw [List.length_map]; omega)
      have e' : cutV (xs.map V.int) (some (i : Int)) (some ((i : Int) + 1)) = [xs[i]].map V.int := by
        rw [show ((i : Int) + 1) = ((i + 1 : Nat) : Int) by omega, e, ← List.map_drop, ← List.map_take, List.drop_eq_getElem_cons hi, show i + 1 - i = 1 by omega]
        rfl
      rw [e'] at h1
      refine ⟨p1, _, rfl, .inr h1, ?_⟩
      have e2 : valAt xs i = numIn [xs[i]] := by
        unfold valAt
        rw [hg, if_pos hp, numIn1]
      rw [e2] at q
      exact q H1 kp1
    · refine ifF (decide_eq_false hp) ?_
      have e2 : valAt xs i = 0 := by
        unfold valAt
        rw [hg, if_neg hp]
      rw [e2] at q
      exact q H (Kp.refl H)
def sp_spoiled (K : PySem.W.Frag) : Sp := fun vs H Q _ => ∃ (a : Addr) (xs : List Int) (pl by_ : Int), vs = [.ref a, .int pl, .int by_] ∧ SqT K H a (xs.map .int) ∧ (1 ≤ xs.length ∧ xs.length ≤ 900) ∧
  ∀ p H', Kp [] H H' → SqT K H' p ((spoilAt xs pl by_).map .int) → Q (.ref p) H'
theorem ok_spoiled {f : Addr} {fd : FuncData} (F : Fun K "spoiled" "spoiled" s_spoiled f fd) (T : Txt K mg C D) (c_value_at : Cal P w K mg base 2 "value_at" (sp_value_at K)) (c_written : Cal P w K mg base 1 "written" sp_written) :
    FnOk P w K mg base CX0 3 f fd pr_spoiled (sp_spoiled K) := by
  have nd := sc_spoiled.nd
  refine F.ok sc_spoiled (fun vs H Q E h => ?_) (fun cdv A outer s H vs Q E hr h => ?_)
  · obtain ⟨a, xs, i, b, rfl, _⟩ := h
    rfl
  · obtain ⟨a, xs, pl, by_, rfl, hs, hl, q⟩ := h
    refine ⟨_, (pss_cons (ps_set (i := 0) nd rfl (Or.inl rfl) (pe_callTy call_tuple_of (by rfl) T.z_tuple bt_tuple (pa_cons (pv 0) pa_nil)))
      (pss_cons (ps_set (i := 3) nd rfl (Or.inl rfl) (pe_op op_mod (pe_callTy call_int1 (by rfl) T.z_int bt_int (pa_cons (pv 1) pa_nil)) (pe_callB call_len_seq (by rfl) T.z_len bt_len (pa_cons (pv 0) pa_nil))))
      (pss_one (ps_ret (pe_op op_catA (pe_op op_catA (pe_slice sl_tupA (pv 0) po_none (po_some (pv 3))) (pcal c_written hr (by decide) (pa_cons (pe_op op_mod (pe_callTy call_int1 (by rfl) T.z_int bt_int (pa_cons (pe_op op_add (pcal c_value_at hr (by decide) (pa_cons (pv 0) (pa_cons (pv 3) pa_nil))) (pv 2)) pa_nil)) (pe_gn rfl T.VALUES)) (pa_cons pe_int pa_nil)))) (pe_slice sl_tupA (pv 0) (po_some (pe_op op_add (pv 3) pe_int)) po_none)))))), ?_⟩
    have h1 := Int.emod_nonneg pl (b := (xs.length : Int)) (by omega)
    have h2 := Int.emod_lt_of_pos pl (b := (xs.length : Int)) (by omega)
    obtain ⟨i, hi⟩ : ∃ i : Nat, pl % (xs.length : Int) = i := ⟨_, (Int.toNat_of_nonneg h1).symm⟩
    have hsp : spoilAt xs pl by_ = xs.take i ++ wr 1 ((valAt xs i + by_) % 95) ++ xs.drop (i + 1) := by
      unfold spoilAt
      rw [hi]
      rfl
    rw [hsp] at q
    refine ⟨_, rfl, a, _, rfl, .inr ⟨hs, ?_⟩⟩
    refine ⟨_, rfl, .inl ⟨_, rfl, _, rfl, a, _, rfl, .inr hs, _, _, rfl, rfl, by rw [List.length_map]; omega, ?_⟩⟩
    dsimp only
    rw [List.length_map, hi]
    refine ⟨_, rfl, _, rfl, _, rfl, ?_⟩
    refine slA hs fun p1 H1 kp1 r1 => ?_
    have e1 : cutV (xs.map V.int) none (some (i : Int)) = (xs.take i).map V.int := cut_to i (by omega)
    rw [e1] at r1
    refine ⟨_, rfl, _, rfl, a, xs, i, rfl, Kp.sqT kp1.n hs, by omega, fun H2 kp2 => ?_⟩
    refine ⟨_, rfl, _, _, rfl, rfl, .inl ⟨_, rfl, _, _, rfl, rfl, (by decide : (0 : Int) < 95), _, 1, rfl, by decide, fun p3 H3 kp3 hp3 => ?_⟩⟩
    refine catA (Kp.sqT (kp2.trans kp3).n r1) (SqT.of hp3) (by rw [List.length_map, List.length_map, wr_len, List.length_take]; omega) fun p4 H4 kp4 r4 => ?_
    have k4 := ((kp1.trans kp2).trans kp3).trans kp4
    refine ⟨_, rfl, _, rfl, _, _, rfl, rfl, _, rfl, ?_⟩
    refine noPart ?_
    refine slA (Kp.sqT k4.n hs) fun p5 H5 kp5 r5 => ?_
    have e5 : cutV (xs.map V.int) (some ((i : Int) + 1)) none = (xs.drop (i + 1)).map V.int := by
      rw [show ((i : Int) + 1) = ((i + 1 : Nat) : Int) by omega, cut_from (i + 1) (by rw [List.length_map]; omega), List.map_drop]
    rw [e5] at r5
    refine catA (Kp.sqT kp5.n r4) r5 (by simp [wr_len]; omega) fun p6 H6 kp6 r6 => ?_
    refine q p6 H6 ((k4.trans kp5).trans kp6) ?_
    rw [List.map_append, List.map_append]
    exact r6
/-! ### is_number, are_added -/
def sp_is_number : Sp := fun vs H Q _ => ∃ n a b : Int, vs = [.int n, .int a, .int b] ∧ Q (.bl (decide (a ≤ n ∧ n ≤ b))) H
theorem ok_is_number {f : Addr} {fd : FuncData} (F : Fun K "is_number" "is_number" s_is_number f fd) (T : Txt K mg C D) : FnOk P w K mg base CX0 1 f fd pr_is_number sp_is_number := by
  have nd := sc_is_number.nd
  refine F.ok sc_is_number (fun vs H Q E h => ?_) (fun cdv A outer s H vs Q E hr h => ?_)
  · obtain ⟨n, a, b, rfl, _⟩ := h
    rfl
  · obtain ⟨n, a, b, rfl, q⟩ := h
    refine ⟨_, (pss_one (ps_ret (pe_and (pe_callB call_isi (by rfl) T.z_isinstance bt_isinstance (pa_cons (pv 0) (pa_cons (pe_bltn (v := .ty "int") (by rfl) T.z_int bt_int rfl) pa_nil))) (pe_and (pe_not (pe_callB call_isi (by rfl) T.z_isinstance bt_isinstance (pa_cons (pv 0) (pa_cons (pe_bltn (v := .ty "bool") (by rfl) T.z_bool bt_bool rfl) pa_nil)))) (pe_one (pe_chain op_le op_le (pv 1) (pv 0) (pv 2))))))), ?_⟩
    refine ⟨_, rfl, _, _, _, _, true, rfl, .ty "int", .base (.int n), k_same _ _ (by decide +kernel), _, rfl, ?_⟩
    refine ⟨_, rfl, _, _, _, _, false, rfl, .ty "bool", .base (.int n), k_int_bool _, _, rfl, _, rfl, ?_⟩
    refine ⟨_, rfl, _, rfl, _, _, rfl, rfl, _, rfl, ?_⟩
    by_cases h1 : a ≤ n
    · refine ifT (decide_eq_true h1) ⟨_, rfl, _, _, rfl, rfl, ?_⟩
      have e : decide (a ≤ n ∧ n ≤ b) = decide (n ≤ b) := by simp [h1]
      rw [e] at q
      exact q
    · refine ifF (decide_eq_false h1) ?_
      have e : decide (a ≤ n ∧ n ≤ b) = false := decide_eq_false fun z => h1 z.1
      rw [e] at q
      exact q
theorem not_marks {n : Int} (h1 : n ≠ 1) (h2 : n ≠ 2) : (!inV (.int n) [.int 1, .int 2]) = true := by
  rw [in_marks, decide_eq_false (fun z => z.elim h1 h2)]
  rfl
theorem rall {K : PySem.W.Frag} {H : Hp} {Q : VK} {p : Addr} (n : Nat) (h : H p = some (.lst (List.replicate n (.bl true)))) (q : Q (.bl true) H) : rAll K [.ref p] H Q := by
  refine ⟨p, List.replicate n true, rfl, SqL.of (by rw [List.map_replicate]; exact h), ?_⟩
  have e : (List.replicate n true).all id = true := by
    rw [List.all_eq_true]
    intro x hx
    rw [List.eq_of_mem_replicate hx]
    rfl
  rw [e]
  exact q
def AddOk (xs : List Int) : Prop := (1 ≤ xs.length ∧ xs.length ≤ 8) ∧ ∀ x ∈ xs, (0 ≤ x ∧ x ≤ 255) ∧ x ≠ 1 ∧ x ≠ 2
def TyTup (K : PySem.W.Frag) (H : Hp) (a : Addr) : Prop := TyX K H (.ref a) (.type "tuple")
theorem tyTup {K : PySem.W.Frag} {H : Hp} {a : Addr} {xs : List V} (h : SqT K H a xs) : TyX K H (.ref a) (.type "tuple") := by
  rcases h with (h | ⟨o, h⟩) | ⟨o, its, n, h, hc, _⟩
  · exact .base (.tup h)
  · exact .fTuple h
  · exact .kTuple h hc
def sp_are_added (K : PySem.W.Frag) : Sp := fun vs H Q _ => ∃ (a : Addr) (xs : List Int), vs = [.ref a] ∧ SqT K H a (xs.map .int) ∧ AddOk xs ∧ ∀ H', Kp [] H H' → Q (.bl true) H'
theorem ok_are_added {f : Addr} {fd : FuncData} (F : Fun K "are_added" "are_added" s_are_added f fd) (T : Txt K mg C D) (c_is_number : Cal P w K mg base 1 "is_number" sp_is_number) : FnOk P w K mg base CX0 2 f fd pr_are_added (sp_are_added K) := by
  have nd := sc_are_added.nd
  obtain ⟨aM, gMARKS, kM⟩ := T.MARKS
  refine F.ok sc_are_added (fun vs H Q E h => ?_) (fun cdv A outer s H vs Q E hr h => ?_)
  · obtain ⟨a, xs, rfl, _⟩ := h
    rfl
  · obtain ⟨a, xs, rfl, hs, ⟨hl, hx⟩, q⟩ := h
    refine ⟨_, (pss_cons (ps_if (PW.pt (pw_or (pt_not (pt_val (pe_callB call_isi (by rfl) T.z_isinstance bt_isinstance (pa_cons (pv 0) (pa_cons (pe_bltn (v := .ty "tuple") (by rfl) T.z_tuple bt_tuple rfl) pa_nil))))) (pw_or1 (pt_not (pt_chain op_le op_le pe_int (pe_callB call_len_seq (by rfl) T.z_len bt_len (pa_cons (pv 0) pa_nil)) (pe_gn rfl T.MOST_ADDED)))))) (pss_one (ps_ret pe_bl)) pss_nil)
      (pss_one (ps_ret (pe_callB (cr_all rfl) (by rfl) T.z_all bt_all (pa_cons (pe_lc (own := [("sign", 1)]) (g := gName 1) rfl nd (pi_tup (pv 0)) (blkOk_by (own := [("sign", 1)]) (N := nm_are_added) (sc := defScope s_are_added) (by decide +kernel)) (fun _ _ _ _ _ => pg_name (i := 1) nd rfl (Or.inl rfl)) (fun _ _ _ _ _ => pts_nil) (fun _ _ _ _ _ => (pe_and (pcal c_is_number hr (by decide) (pa_cons (pv 1) (pa_cons pe_int (pa_cons (pe_gn rfl T.LAST_SIGN) pa_nil)))) (pe_one (pe_cmpR (op_notInK K rfl) (pv 1) (pe_gt rfl gMARKS) rfl))))) pa_nil))))), ?_⟩
    refine ⟨_, rfl, _, _, _, _, true, rfl, .ty "tuple", tyTup hs, k_same _ _ (by decide +kernel), _, rfl, ?_⟩
    refine iteF ?_
    refine ⟨_, rfl, a, _, rfl, .inr hs, _, _, rfl, rfl, _, rfl, ?_⟩
    rw [List.length_map]
    refine ifT (decide_eq_true (by omega)) ⟨_, _, rfl, rfl, ?_⟩
    refine ⟨_, rfl, ?_⟩
    refine ifF (by rw [decide_eq_true (by omega)]; rfl) ?_
    refine ⟨_, rfl, a, rfl, ⟨_, hs⟩, fun D nD => lc_tup (xs := xs.map V.int) (fun i H1 => Kp [] H H1 ∧ H1 D = some (.lst (List.replicate i (.bl true)))) ⟨Kp.new nD, upd_same⟩ (fun i H1 _ h => Kp.sqT h.1.n hs) ?_ ?_⟩
    · rintro i x H1 hx1 ⟨kp, hD⟩
      rw [List.getElem?_map] at hx1
      cases e : xs[i]? with
      | none => rw [e] at hx1; cases hx1
      | some n =>
        rw [e] at hx1
        obtain rfl : V.int n = x := Option.some.inj hx1
        have hi : i < xs.length := (List.getElem?_eq_some_iff.mp e).1
        obtain ⟨hr1, hn1, hn2⟩ := hx n (List.mem_of_getElem? e)
        refine ⟨rfl, _, rfl, n, 0, 255, rfl, _, rfl, ?_⟩
        refine ifT (decide_eq_true hr1) ?_
        refine ⟨_, rfl, aM, _, rfl, .inr (kM.sq _), rfl, rfl, ?_⟩
        rw [if_pos rfl, not_marks hn1 hn2]
        refine ⟨_, hD, small1000 (by rw [List.length_replicate]; omega), kp.fresh nD, ?_⟩
        rw [upd_same, ← List.replicate_succ']
    · rintro H1 ⟨kp, hD⟩
      exact rall _ hD (q _ kp)
end
end K38

namespace K38
open PySem PySem.Spec PyProof.Rows L2 LamX
def wordOf : Deed → Str
  | .pass => "pass"
  | .drop => "drop"
  | .twice => "twice"
  | .late _ => "late"
  | .spoil _ _ => "spoil"
  | .add _ => "add"
def restOf : Deed → List PyData
  | .late t => [.int t]
  | .spoil p b => [.int p, .int b]
  | .add xs => [.tuple (xs.map .int)]
  | _ => []
theorem deedD_eq (d : Deed) : deedD d = .tuple (.str (wordOf d) :: restOf d) := by cases d <;> rfl
theorem dp_deed {K : PySem.W.Frag} {H : Hp} {v : V} {d : Deed} (h : Dp K H v (deedD d)) : ∃ a ys, v = .ref a ∧ SqT K H a (.str (wordOf d) :: ys) ∧ DpAll K H ys (restOf d) := by
  rw [deedD_eq] at h
  obtain ⟨a, xs, rfl, hs, hd⟩ := dp_tup h
  obtain ⟨y, ys, rfl, h1, h2⟩ := dp_cons hd
  obtain rfl := dp_str h1
  exact ⟨a, ys, rfl, hs, h2⟩
section
variable {P : Program} {w : World} {K : PySem.W.Frag} {mg : Str → Option Value} {base : Heap} {C D : Addr}
/-! ### is_deed -/
def sp_is_deed (K : PySem.W.Frag) : Sp := fun vs H Q _ => ∃ (v : V) (late : Int) (d : Deed), vs = [v, .int late] ∧ Dp K H v (deedD d) ∧ DeedOk late d ∧ ∀ H', Kp [] H H' → Q (.bl true) H'
theorem ok_is_deed {f : Addr} {fd : FuncData} (F : Fun K "is_deed" "is_deed" s_is_deed f fd) (T : Txt K mg C D) (c_is_number : Cal P w K mg base 1 "is_number" sp_is_number) (c_are_added : Cal P w K mg base 2 "are_added" (sp_are_added K)) :
    FnOk P w K mg base CX0 3 f fd pr_is_deed (sp_is_deed K) := by
  have nd := sc_is_deed.nd
  refine F.ok sc_is_deed (fun vs H Q E h => ?_) (fun cdv A outer s H vs Q E hr h => ?_)
  · obtain ⟨a, xs, d, rfl, _⟩ := h
    rfl
  · obtain ⟨v, late, d, rfl, hd, ho, q⟩ := h
    obtain ⟨a, ys, rfl, hs, hy⟩ := dp_deed hd
    refine ⟨_, (pss_cons (ps_if (PW.pt (pw_or (pt_not (pt_val (pe_callB call_isi (by rfl) T.z_isinstance bt_isinstance (pa_cons (pv 0) (pa_cons (pe_bltn (v := .ty "tuple") (by rfl) T.z_tuple bt_tuple rfl) pa_nil))))) (pw_or (pt_cmpR op_eq (pe_callB call_len_seq (by rfl) T.z_len bt_len (pa_cons (pv 0) pa_nil)) pe_int (nomark _)) (pw_or1 (pt_not (pt_val (pe_callB call_isi (by rfl) T.z_isinstance bt_isinstance (pa_cons (pe_ix ix_tup (pv 0) pe_int (fun _ _ => rfl)) (pa_cons (pe_bltn (v := .ty "str") (by rfl) T.z_str bt_str rfl) pa_nil))))))))) (pss_one (ps_ret pe_bl)) pss_nil)
      (pss_cons (ps_asg (pv 0) (pg_star2 (i := 2) (j := 3) rfl nd rfl rfl (Or.inl rfl) (Or.inl rfl)))
      (pss_cons (ps_if (pt_cmpR op_in_seq (pv 2) (pe_tup (pa_cons pe_str (pa_cons pe_str (pa_cons pe_str pa_nil)))) rfl) (pss_one (ps_ret (pe_cmpR (op_eqD hr.units) (pv 3) (pe_lst pa_nil) (nomark _)))) pss_nil)
      (pss_cons (ps_if (pt_cmpR op_eq (pv 2) pe_str (nomark _)) (pss_one (ps_ret (pe_and (pe_cmpR op_eq (pe_callB call_len_seq (by rfl) T.z_len bt_len (pa_cons (pv 3) pa_nil)) pe_int (nomark _)) (pe_one (pcal c_is_number hr (by decide) (pa_cons (pe_ix ix_list (pv 3) pe_int (fun _ _ => rfl)) (pa_cons pe_int (pa_cons (pv 1) pa_nil)))))))) pss_nil)
      (pss_cons (ps_if (pt_cmpR op_eq (pv 2) pe_str (nomark _)) (pss_one (ps_ret (pe_and (pe_cmpR op_eq (pe_callB call_len_seq (by rfl) T.z_len bt_len (pa_cons (pv 3) pa_nil)) pe_int (nomark _)) (pe_and (pcal c_is_number hr (by decide) (pa_cons (pe_ix ix_list (pv 3) pe_int (fun _ _ => rfl)) (pa_cons pe_int (pa_cons (pe_gn rfl T.MOST_PLACE) pa_nil)))) (pe_one (pcal c_is_number hr (by decide) (pa_cons (pe_ix ix_list (pv 3) pe_int (fun _ _ => rfl)) (pa_cons pe_int (pa_cons (pe_gn rfl T.MOST_BY) pa_nil))))))))) pss_nil)
      (pss_one (ps_ret (pe_and (pe_cmpR op_eq (pv 2) pe_str (nomark _)) (pe_and (pe_cmpR op_eq (pe_callB call_len_seq (by rfl) T.z_len bt_len (pa_cons (pv 3) pa_nil)) pe_int (nomark _)) (pe_one (pcal c_are_added hr (by decide) (pa_cons (pe_ix ix_list (pv 3) pe_int (fun _ _ => rfl)) pa_nil)))))))))))), ?_⟩
    refine ⟨_, rfl, _, _, _, _, true, rfl, .ty "tuple", tyTup hs, k_same _ _ (by decide +kernel), _, rfl, ?_⟩
    refine iteF ?_
    refine ⟨_, rfl, a, _, rfl, .inr hs, rfl, _, rfl, ?_⟩
    refine ifF (decide_eq_false fun z => by have := V.int.inj z; simp at this; omega) ?_
    refine ⟨_, rfl, a, _, _, _, rfl, rfl, hs, atI_nat (j := 0) rfl, _, _, _, _, true, rfl, .ty "str", .base (.str _), k_same _ _ (by decide +kernel), _, rfl, ?_⟩
    refine ⟨_, rfl, a, _, _, rfl, hs, fun p1 np1 => ⟨_, _, rfl, _, _, rfl, rfl, ?_⟩⟩
    have h1 : SqL K (upd H p1 (.lst ys)) p1 ys := SqL.of upd_same
    have k1 := Kn (o := .lst ys) np1
    have hy1 : ∀ o : HO, o = .lst ys → upd H p1 (.lst ys) p1 = some o := fun o e => by rw [e]; exact upd_same
    generalize upd H p1 (.lst ys) = H1 at h1 k1 hy1 ⊢
    refine ⟨_, rfl, sz (n := 3) (by decide), fun p2 np2 => ⟨p2, _, rfl, .inr (SqT.of upd_same), rfl, rfl, _, rfl, ?_⟩⟩
    have k2 := Kn (o := .tup [.str "pass", .str "drop", .str "twice"]) np2
    have h2 : SqL K (upd H1 p2 (.tup [.str "pass", .str "drop", .str "twice"])) p1 ys := Kp.sqF k2.n h1 List.not_mem_nil
    have hy2 := k2.at_ (hy1 _ rfl) List.not_mem_nil
    generalize upd H1 p2 (.tup [.str "pass", .str "drop", .str "twice"]) = H2 at h2 k2 hy2 ⊢
    have k12 := k1.trans k2
    have plain : ys = [] → ∀ σ : L2.St, σ[3]? = some (some (.ref p1)) → tOp (rEqD K) (tVar 3) (tLst tNil) σ H2 Q := fun e σ hσ => by
      subst e
      refine ⟨_, hσ, sz (n := 0) (by decide), fun p3 np3 => ⟨.list [], .list [], .lst (SqL.of ((Kn np3).at_ hy2 List.not_mem_nil)) .nil, .lst (SqL.of upd_same) .nil, by decide, by decide, ?_⟩⟩
      exact q _ (k12.trans (Kn np3))
    cases d with
    | pass =>
      refine ifT (by decide +kernel) ?_
      exact plain (dp_nil hy) _ rfl
    | drop =>
      refine ifT (by decide +kernel) ?_
      exact plain (dp_nil hy) _ rfl
    | twice =>
      refine ifT (by decide +kernel) ?_
      exact plain (dp_nil hy) _ rfl
    | late t =>
      obtain ⟨y1, ys1, rfl, d1, hy⟩ := dp_cons hy
      obtain rfl := dp_nil hy
      obtain rfl := dp_int d1
      refine ifF (by rfl) ?_
      refine ⟨_, rfl, rfl, _, rfl, ?_⟩
      refine ifT (by rfl) ?_
      refine ⟨_, rfl, p1, _, rfl, .inl h2, rfl, _, rfl, ?_⟩
      refine ifT (by rfl) ?_
      refine ⟨_, rfl, p1, _, _, _, rfl, rfl, h2, atI_nat (j := 0) rfl, _, rfl, t, 1, late, rfl, ?_⟩
      rw [decide_eq_true (show 1 ≤ t ∧ t ≤ late from ho)]
      exact q _ k12
    | spoil pl b =>
      obtain ⟨y1, ys1, rfl, d1, hy⟩ := dp_cons hy
      obtain ⟨y2, ys2, rfl, d2, hy⟩ := dp_cons hy
      obtain rfl := dp_nil hy
      obtain rfl := dp_int d1
      obtain rfl := dp_int d2
      refine ifF (by rfl) ?_
      refine ⟨_, rfl, rfl, _, rfl, ?_⟩
      refine ifF (by rfl) ?_
      refine ⟨_, rfl, rfl, _, rfl, ?_⟩
      refine ifT (by rfl) ?_
      refine ⟨_, rfl, p1, _, rfl, .inl h2, rfl, _, rfl, ?_⟩
      refine ifT (by rfl) ?_
      have ho : (0 ≤ pl ∧ pl ≤ 200) ∧ 1 ≤ b ∧ b ≤ 94 := ho
      refine ⟨_, rfl, p1, _, _, _, rfl, rfl, h2, atI_nat (j := 0) rfl, pl, 0, 200, rfl, _, rfl, ?_⟩
      refine ifT (decide_eq_true ho.1) ?_
      refine ⟨_, rfl, p1, _, _, _, rfl, rfl, h2, atI_nat (j := 1) rfl, b, 1, 94, rfl, ?_⟩
      rw [decide_eq_true ho.2]
      exact q _ k12
    | add xs =>
      obtain ⟨y1, ys1, rfl, d1, hy⟩ := dp_cons hy
      obtain rfl := dp_nil hy
      obtain ⟨b, zs, rfl, hb, hd⟩ := dp_tup d1
      obtain rfl := dp_ints hd
      refine ifF (by rfl) ?_
      refine ⟨_, rfl, rfl, _, rfl, ?_⟩
      refine ifF (by rfl) ?_
      refine ⟨_, rfl, rfl, _, rfl, ?_⟩
      refine ifF (by rfl) ?_
      refine ⟨_, rfl, rfl, _, rfl, ?_⟩
      refine ifT (by rfl) ?_
      refine ⟨_, rfl, p1, _, rfl, .inl h2, rfl, _, rfl, ?_⟩
      refine ifT (by rfl) ?_
      refine ⟨_, rfl, p1, _, _, _, rfl, rfl, h2, atI_nat (j := 0) rfl, b, xs, rfl, Kp.sqT k12.n hb, ho, fun H3 kp3 => ?_⟩
      exact q _ (k12.trans kp3)
end
end K38

namespace K38
open PySem PySem.Spec PyProof.Rows L2 LamX
def wayS (b : Bool) : Str := if b then "t" else "g"
def flyD (f : Fly) : PyData := .tuple [.int f.come, .str (wayS f.side), .tuple (f.seen.map .int)]
theorem flat_fly (f : Fly) : flat (flyD f) = true := by simp [flyD, flat, flatAll, flat_ints]
theorem flat_flies : ∀ fs : List Fly, flatAll (fs.map flyD) = true
  | [] => by simp [flatAll]
  | f :: fs => by simp [flatAll, flat_fly, flat_flies fs]
/-- values and what flies -/
inductive FlyAll (K : PySem.W.Frag) (H : Hp) : List V → List Fly → Prop where
  | nil : FlyAll K H [] []
  | cons {t s : Addr} {f : Fly} {ys : List V} {fs : List Fly} (h : H t = some (.tup [.int f.come, .str (wayS f.side), .ref s])) (hs : SqT K H s (f.seen.map .int)) (r : FlyAll K H ys fs) : FlyAll K H (.ref t :: ys) (f :: fs)
section
variable {K : PySem.W.Frag} {H H1 : Hp}
theorem FlyAll.kp {l : List Addr} (k : KpN l H H1) : ∀ {ys : List V} {fs : List Fly}, FlyAll K H ys fs → FlyAll K H1 ys fs
  | _, _, .nil => .nil
  | _, _, .cons h hs r => .cons (k _ _ h (fun _ z => nomatch z) fun _ => rfl) (Kp.sqT k hs) (FlyAll.kp k r)
theorem FlyAll.app : ∀ {ys : List V} {fs : List Fly} {zs : List V} {gs : List Fly}, FlyAll K H ys fs → FlyAll K H zs gs → FlyAll K H (ys ++ zs) (fs ++ gs)
  | _, _, _, _, .nil, h => h
  | _, _, _, _, .cons h hs r, h' => .cons h hs (FlyAll.app r h')
theorem FlyAll.len : ∀ {ys : List V} {fs : List Fly}, FlyAll K H ys fs → ys.length = fs.length
  | _, _, .nil => rfl
  | _, _, .cons _ _ r => congrArg Nat.succ r.len
theorem FlyAll.at_ : ∀ {ys : List V} {fs : List Fly} {i : Nat} {y : V}, FlyAll K H ys fs → ys[i]? = some y →
    ∃ t s f, y = .ref t ∧ fs[i]? = some f ∧ H t = some (.tup [.int f.come, .str (wayS f.side), .ref s]) ∧ SqT K H s (f.seen.map .int)
  | _, _, _, _, .nil, e => by simp at e
  | _, _, 0, _, .cons h hs r, e => by
    cases e
    exact ⟨_, _, _, rfl, rfl, h, hs⟩
  | _, _, i + 1, _, .cons h hs r, e => FlyAll.at_ (i := i) r (by simpa using e)
/-- the first of a tuple -/
def firstOf (H : Hp) : V → Int
  | .ref t => match H t with
    | some (.tup (.int c :: _)) => c
    | _ => 0
  | _ => 0
theorem FlyAll.pick (c : Int) : ∀ {ys : List V} {fs : List Fly}, FlyAll K H ys fs → FlyAll K H (ys.filter fun y => firstOf H y == c) (fs.filter fun f => f.come == c)
  | _, _, .nil => .nil
  | _, _, .cons (t := t) (f := f) h hs r => by
    have ih := FlyAll.pick c r
    have e : firstOf H (.ref t) = f.come := by
      show (match H t with | some (.tup (.int c :: _)) => c | _ => 0) = _
      rw [h]
    simp only [List.filter_cons, e]
    split
    · exact .cons h hs ih
    · exact ih
theorem FlyAll.firsts : ∀ {ys : List V} {fs : List Fly}, FlyAll K H ys fs → ∀ y ∈ ys, ∃ f ∈ fs, firstOf H y = f.come ∧ ∃ t zs, y = .ref t ∧ SqT K H t (.int (firstOf H y) :: zs)
  | _, _, .nil, y, m => absurd m List.not_mem_nil
  | _, _, .cons (t := t) (f := f) h hs r, y, m => by
    have e : firstOf H (.ref t) = f.come := by
      show (match H t with | some (.tup (.int c :: _)) => c | _ => 0) = _
      rw [h]
    rcases List.mem_cons.mp m with rfl | m
    · exact ⟨f, List.mem_cons_self .., e, t, _, rfl, by rw [e]; exact SqT.of h⟩
    · obtain ⟨g, hg, q⟩ := FlyAll.firsts r y m
      exact ⟨g, List.mem_cons_of_mem _ hg, q⟩
theorem FlyAll.joins {α : Type} {g : α → List V} {h : α → List Fly} : ∀ (cs : List α), (∀ c ∈ cs, FlyAll K H (g c) (h c)) → FlyAll K H (cs.flatMap g) (cs.flatMap h)
  | [], _ => .nil
  | c :: cs, q => by
    rw [List.flatMap_cons, List.flatMap_cons]
    exact (q c (List.mem_cons_self ..)).app (FlyAll.joins cs fun d hd => q d (List.mem_cons_of_mem _ hd))
end
def liF (cl gl ul : Addr) (la : Int) : List (Str × V) := [(("coming" : Str), .ref cl), (("given" : Str), .ref gl), (("under_way" : Str), .ref ul), (("latest" : Str), .int la), (("held" : Str), .bl false)]
structure LineAt (C : Addr) (K : PySem.W.Frag) (H : Hp) (p cl gl ul : Addr) (ds : List Deed) (n : Nat) (fs : List Fly) : Prop where
  ob : ∃ dx la, H p = some (.ins C dx (liF cl gl ul la))
  co : LstD K H cl (ds.map deedD)
  gi : ∃ gs, H gl = some (.lst gs) ∧ gs.length = n
  un : ∃ us, H ul = some (.lst us) ∧ FlyAll K H us fs
  ne : cl ≠ gl ∧ cl ≠ ul ∧ gl ≠ ul
section
variable {cl gl ul : Addr} {la : Int} {v : V}
theorem lk_coming : (liF cl gl ul la).lookup ("coming" : Str) = some (.ref cl) := rfl
theorem lk_given : (liF cl gl ul la).lookup ("given" : Str) = some (.ref gl) := rfl
theorem lk_under : (liF cl gl ul la).lookup ("under_way" : Str) = some (.ref ul) := rfl
theorem lk_latest : (liF cl gl ul la).lookup ("latest" : Str) = some (.int la) := rfl
theorem pf_latest {j : Int} : putF "latest" (.int j) (liF cl gl ul la) = liF cl gl ul j := rfl
theorem pf_under {j : Addr} : putF "under_way" (.ref j) (liF cl gl ul la) = liF cl gl j la := rfl
theorem liF_len : (liF cl gl ul la).length < 1000 := (by decide : (5 : Nat) < 1000)
end
section
variable {P : Program} {w : World} {K : PySem.W.Frag} {mg : Str → Option Value} {base : Heap} {C D : Addr}
/-! ### need_deeds -/
def sp_need_deeds (K : PySem.W.Frag) : Sp := fun vs H Q _ => ∃ (a : Addr) (late : Int) (ds : List Deed), vs = [.ref a, .int late] ∧ LstD K H a (ds.map deedD) ∧ ds.length ≤ 300 ∧ (∀ d ∈ ds, DeedOk late d) ∧ ∀ H', Kp [] H H' → Q .non H'
theorem ok_need_deeds {f : Addr} {fd : FuncData} (F : Fun K "need_deeds" "need_deeds" s_need_deeds f fd) (T : Txt K mg C D) (c_is_deed : Cal P w K mg base 3 "is_deed" (sp_is_deed K)) :
    FnOk P w K mg base CX0 4 f fd pr_need_deeds (sp_need_deeds K) := by
  have nd := sc_need_deeds.nd
  refine F.ok sc_need_deeds (fun vs H Q E h => ?_) (fun cdv A outer s H vs Q E hr h => ?_)
  · obtain ⟨a, l, d, rfl, _⟩ := h
    rfl
  · obtain ⟨a, late, ds, rfl, ⟨xs, hs, hd⟩, hl, ho, q⟩ := h
    have hxl := dp_len hd
    rw [List.length_map] at hxl
    refine ⟨_, (pss_cons (ps_if (PW.pt (pw_or (pt_not (pt_val (pe_callB call_isiT (by rfl) T.z_isinstance bt_isinstance (pa_cons (pv 0) (pa_cons (pe_tup (pa_cons (pe_bltn (v := .ty "list") (by rfl) T.z_list bt_list rfl) (pa_cons (pe_bltn (v := .ty "tuple") (by rfl) T.z_tuple bt_tuple rfl) pa_nil))) pa_nil))))) (pw_or1 (pt_cmpR op_gt (pe_callB call_len_seq (by rfl) T.z_len bt_len (pa_cons (pv 0) pa_nil)) (pe_gn rfl T.MOST_DEEDS) (nomark _))))) (pss_one ps_never) pss_nil)
      (pss_one (ps_for PassesOwn.never rfl (pi_enum (by rfl) T.z_enumerate (pa_cons (pv 0) pa_nil)) (pg_tup rfl (pgs_cons (pg_name (i := 2) nd rfl (Or.inl rfl)) (pgs_cons (pg_name (i := 3) nd rfl (Or.inl rfl)) pgs_nil))) (pss_one (ps_if (pt_not (pt_val (pcal c_is_deed hr (by decide) (pa_cons (pv 3) (pa_cons (pv 1) pa_nil))))) (pss_one ps_never) pss_nil))))), ?_⟩
    refine ⟨_, rfl, sz (n := 2) (by decide), fun p1 np1 => ?_⟩
    have k1 := Kn (o := .tup [.ty "list", .ty "tuple"]) np1
    have hs1 := k1.at_ hs List.not_mem_nil
    refine ⟨_, p1, _, _, _, true, rfl, upd_same, .cons (.ty "list") (.cons (.ty "tuple") .nil), .base (.lst hs1), ?_, _, rfl, ?_⟩
    · unfold PySem.W.kitAny
      rw [k_same _ _ (by decide +kernel)]
    generalize upd H p1 (.tup [.ty "list", .ty "tuple"]) = H1 at k1 hs1 ⊢
    refine iteF ?_
    refine ⟨_, rfl, a, _, rfl, .inl (SqL.of hs1), _, _, rfl, rfl, _, rfl, ?_⟩
    refine ifF (decide_eq_false (by omega)) ?_
    refine ⟨_, rfl, a, xs, rfl, SqL.of hs1, for_it (walk_enum (xs := xs)) (fun i σ H2 => ∃ v1 v2, σ = [some (.ref a), some (.int late), v1, v2] ∧ Kp [] H H2) ⟨none, none, rfl, k1⟩ (fun i σ H2 _ h => ?_) ?_ ?_⟩
    · obtain ⟨_, _, _, k⟩ := h
      exact SqL.of (k.at_ hs List.not_mem_nil)
    · rintro i x σ H2 H3 hi ⟨v1, v2, rfl, kp⟩ ⟨t, x1, y, rfl, nt, rfl, ex, ey⟩
      have k3 := kp.trans (Kn (o := .tup [x1, y]) nt)
      obtain rfl : V.int (i : Nat) = x1 := Option.some.inj ex
      have ey : xs[i]? = some y := ey
      refine ⟨t, _, rfl, SqT.of upd_same, rfl, _, _, rfl, _, _, rfl, rfl, ?_⟩
      have hdi : (ds.map deedD)[i]? = some (deedD (ds[i]'(by omega))) := by rw [List.getElem?_map, List.getElem?_eq_getElem]; rfl
      obtain ⟨y', ey', dy⟩ := dp_at hd hdi
      obtain rfl : y' = y := Option.some.inj (ey'.symm.trans ey)
      refine ⟨_, rfl, _, rfl, y', late, _, rfl, Kp.dp k3.n _ _ (flat_deed _) dy, ho _ (List.getElem_mem _), fun H4 kp4 => ⟨_, rfl, ?_⟩⟩
      refine iteF ?_
      exact ⟨_, _, rfl, k3.trans kp4⟩
    · rintro σ H2 ⟨_, _, _, k⟩
      exact q _ k
/-! ### Line.__init__ -/
def sp_Line_init (K : PySem.W.Frag) (C : Addr) : Sp := fun vs H Q _ => ∃ (x a : Addr) (late : Int) (ds : List Deed), vs = [.ref x, .ref a, .int late] ∧ (∃ dx, H x = some (.ins C dx [])) ∧ LstD K H a (ds.map deedD) ∧ ds.length ≤ 300 ∧
  (∀ d ∈ ds, DeedOk late d) ∧ ∀ cl gl ul H', H cl = none → H gl = none → H ul = none → Kp [x] H H' → LineAt C K H' x cl gl ul ds 0 [] → Q .non H'
theorem FunD.ok0 {x qual : Str} {st : Stmt} {dvs : List V} {kws : List (Str × V)} {f : Addr} {fd : FuncData} {N ps : List Str} {k : Nat} {sp : Sp} (F : FunD K x qual (defArgs st) (defBody st) (defScope st) dvs kws f fd) (S : FnScope N ps (defScope st)) (len : ∀ vs H Q E, sp vs H Q E → vs.length = ps.length)
    (hbody : ∀ (cdv : Value) (A : Around) (outer : List Env) (s : Shared) (H : Hp) (vs : List V) (Q : VK) (E : XK), Room k (A.deeper (envOfC qual (defScope st) s.heap.objs.size f cdv)) → sp vs H Q E →
      ∃ t, PSs (cxOf CX0 P w K mg base N qual (defScope st) f cdv A outer s H E).nox (defBody st) t ∧ t { nx := fun _ H' => Q .non H', rt := Q } (L2.start N vs) H) : FnOk P w K mg base CX0 (k + 1) f fd ps sp := by
  obtain ⟨oc, od, dV, kV, doc, pm, an, cdv, ct, osl, rfl, lk, hcd, _, _⟩ := F.ex
  refine fn_of lk hcd S len fun A outer s H vs Q E hr hsp => ?_
  obtain ⟨t, h, q⟩ := hbody cdv A outer s H vs Q E hr hsp
  exact ⟨t, h.nox, q⟩
theorem ok_Line_init {f : Addr} {fd : FuncData} {dvs : List V} {kws : List (Str × V)} (F : FunD K "__init__" "Line.__init__" (defArgs s_Line_init) (defBody s_Line_init) (defScope s_Line_init) dvs kws f fd) (T : Txt K mg C D)
    (c_need_deeds : CalK P w K mg base 4 "need_deeds" 1 ["late"] (sp_need_deeds K)) : FnOk P w K mg base CX0 5 f fd pr_Line_init (sp_Line_init K C) := by
  have nd := sc_Line_init.nd
  refine FunD.ok0 F sc_Line_init (fun vs H Q E h => ?_) (fun cdv A outer s H vs Q E hr h => ?_)
  · obtain ⟨a, l, d, ds, rfl, _⟩ := h
    rfl
  · obtain ⟨x, a, late, ds, rfl, ⟨dx, hx⟩, hd, hl, ho, q⟩ := h
    refine ⟨_, (pss_cons (ps_expr (pcalK c_need_deeds hr (by decide) (pa_cons (pv 1) pa_nil) (pk_cons (pv 2) pk_nil)))
      (pss_cons (ps_fld (pv 0) (pe_callTy call_list_of (by rfl) T.z_list bt_list (pa_cons (pv 1) pa_nil)) rfl)
      (pss_cons (ps_fld (pv 0) (pe_lst pa_nil) rfl)
      (pss_cons (ps_fld (pv 0) (pe_lst pa_nil) rfl)
      (pss_cons (ps_fld (pv 0) pe_int rfl)
      (pss_one (ps_fld (pv 0) pe_bl rfl))))))), ?_⟩
    have m : x ∈ [x] := List.mem_singleton_self x
    have L0 : ∀ b ∈ ([] : List Addr), b ∈ [x] := fun _ h => absurd h List.not_mem_nil
    refine ⟨_, rfl, _, rfl, rfl, rfl, a, late, ds, rfl, hd, hl, ho, fun H1 kp1 => ?_⟩
    have hx1 := kp1.at_ hx List.not_mem_nil
    have hd1 := hd.kp kp1.n List.not_mem_nil (flat_deeds ds)
    obtain ⟨xs, hs1, dd1⟩ := hd1
    refine ⟨_, rfl, a, xs, rfl, .inl (SqL.of hs1), fun cl ncl => ?_⟩
    have hxc : x ≠ cl := ne_of_none hx1 ncl
    refine ⟨_, rfl, x, C, dx, [], rfl, (upd_ne hxc).trans hx1, T.clC, T.a_coming, (by decide : (0 : Nat) < 1000), ?_⟩
    have K2 : Kp [x] H1 (upd (upd H1 cl (.lst xs)) x (.ins C dx (putF "coming" (.ref cl) []))) := (Kp.new ncl).trans (Kp.put ((upd_ne hxc).trans hx1) rfl m)
    have e2 : upd (upd H1 cl (.lst xs)) x (.ins C dx (putF "coming" (.ref cl) [])) x = some (.ins C dx (putF "coming" (.ref cl) [])) := upd_same
    have c2 : upd (upd H1 cl (.lst xs)) x (.ins C dx (putF "coming" (.ref cl) [])) cl = some (.lst xs) := (upd_ne hxc.symm).trans upd_same
    generalize upd (upd H1 cl (.lst xs)) x (.ins C dx (putF "coming" (.ref cl) [])) = H2 at K2 e2 c2 ⊢
    have fr : ∀ (H' : Hp), Kp [x] H1 H' → ∀ u, H' x = some u → ∀ b, H' b = none → H b = none := fun H' k u hu b nb => Kp.free ((kp1.mono L0).trans k) (fun c hc _ => by rw [List.mem_singleton.mp hc, hu]; exact fun z => nomatch z) nb
    refine ⟨Nat.zero_le _, fun gl ngl => ?_⟩
    have hxg : x ≠ gl := ne_of_none e2 ngl
    refine ⟨_, rfl, x, C, dx, _, rfl, (upd_ne hxg).trans e2, T.clC, T.a_given, (by decide : (1 : Nat) < 1000), ?_⟩
    have hcg : cl ≠ gl := ne_of_none c2 ngl
    have ngl' := fr H2 K2 _ e2 gl ngl
    have K3 : Kp [x] H1 (upd (upd H2 gl (.lst [])) x (.ins C dx (putF "given" (.ref gl) (putF "coming" (.ref cl) [])))) := K2.trans ((Kp.new ngl).trans (Kp.put ((upd_ne hxg).trans e2) rfl m))
    have e3 : upd (upd H2 gl (.lst [])) x (.ins C dx (putF "given" (.ref gl) (putF "coming" (.ref cl) []))) x = some (.ins C dx (putF "given" (.ref gl) (putF "coming" (.ref cl) []))) := upd_same
    have c3 : upd (upd H2 gl (.lst [])) x (.ins C dx (putF "given" (.ref gl) (putF "coming" (.ref cl) []))) cl = some (.lst xs) := (upd_ne hxc.symm).trans ((upd_ne hcg).trans c2)
    have g3 : upd (upd H2 gl (.lst [])) x (.ins C dx (putF "given" (.ref gl) (putF "coming" (.ref cl) []))) gl = some (.lst []) := (upd_ne hxg.symm).trans upd_same
    generalize upd (upd H2 gl (.lst [])) x (.ins C dx (putF "given" (.ref gl) (putF "coming" (.ref cl) []))) = H3 at K3 e3 c3 g3 ⊢
    refine ⟨Nat.zero_le _, fun ul nul => ?_⟩
    have hxu : x ≠ ul := ne_of_none e3 nul
    have hcu : cl ≠ ul := ne_of_none c3 nul
    have hgu : gl ≠ ul := ne_of_none g3 nul
    have nul' := fr H3 K3 _ e3 ul nul
    refine ⟨_, rfl, x, C, dx, _, rfl, (upd_ne hxu).trans e3, T.clC, T.a_under_way, (by decide : (2 : Nat) < 1000), ?_⟩
    refine ⟨_, rfl, x, C, dx, _, rfl, upd_same, T.clC, T.a_latest, (by decide : (3 : Nat) < 1000), ?_⟩
    refine ⟨_, rfl, x, C, dx, _, rfl, upd_same, T.clC, T.a_held, (by decide : (4 : Nat) < 1000), ?_⟩
    have K4 : Kp [x] H1 _ := ((K3.trans ((Kp.new nul (o := .lst [])).trans (Kp.put (o := .ins C dx (putF "under_way" (.ref ul) (putF "given" (.ref gl) (putF "coming" (.ref cl) [])))) ((upd_ne hxu).trans e3) rfl m))).trans
      (Kp.put (o := .ins C dx (putF "latest" (.int 0) (putF "under_way" (.ref ul) (putF "given" (.ref gl) (putF "coming" (.ref cl) []))))) upd_same rfl m)).trans
      (Kp.put (o := .ins C dx (putF "held" (.bl false) (putF "latest" (.int 0) (putF "under_way" (.ref ul) (putF "given" (.ref gl) (putF "coming" (.ref cl) [])))))) upd_same rfl m)
    refine q cl gl ul _ (fr H1 (Kp.refl H1) _ hx1 cl ncl) ngl' nul' ((kp1.mono L0).trans K4) ⟨⟨dx, 0, upd_same⟩, ⟨xs, ?_, Kp.dpAll K4.n _ _ (flat_deeds ds) dd1⟩, ⟨[], ?_, rfl⟩, ⟨[], ?_, .nil⟩, hcg, hcu, hgu⟩
    · rw [upd_ne hxc.symm, upd_ne hxc.symm, upd_ne hxc.symm, upd_ne hcu]
      exact c3
    · rw [upd_ne hxg.symm, upd_ne hxg.symm, upd_ne hxg.symm, upd_ne hgu]
      exact g3
    · rw [upd_ne hxu.symm, upd_ne hxu.symm, upd_ne hxu.symm]
      exact upd_same
end
end K38

namespace K38
open PySem PySem.Spec PyProof.Rows L2 LamX
/-- where ways of a statement meet again -/
theorem seq_pick {c : TT} {t u rest : TS} {D : Ends} {σ : L2.St} {H : Hp} (P : L2.St → Hp → Prop) (h2 : ∀ σ' H', P σ' H' → rest D σ' H') (h1 : (∀ σ' H', P σ' H' → rest D σ' H') → tSeq (tIfS c t u) rest D σ H) : tSeq (tIfS c t u) rest D σ H := h1 h2
theorem seq_cst {v : V} {i : Nat} {rest : TS} {D : Ends} {σ : L2.St} {H : Hp} (h : rest D (σ.set i (some v)) H) : tSeq (tAsg (tC v) (gName i)) rest D σ H := h
theorem gname {x : V} {i : Nat} {σ : L2.St} {H : Hp} {Q : L2.St → Hp → Prop} (h : Q (σ.set i (some x)) H) : gName i x σ H Q := h
theorem goes_eq (side : Bool) : (if decide (V.str (wayS side) = V.str "t") = true then (1 : Int) else 0) = goesOf side := by cases side <;> rfl
theorem times_get (d : Deed) : (valV (mergeK [] [((.inr "drop" : Key), .int 0), (.inr "twice", .int 2)]) (.inr (wordOf d))).getD (.int 1) = .int (timesOf d : Nat) := by cases d <;> rfl
theorem times_le (d : Deed) : timesOf d ≤ 2 := by cases d <;> simp [timesOf]
section
variable {P : Program} {w : World} {K : PySem.W.Frag} {mg : Str → Option Value} {base : Heap} {C D : Addr}
def sp_put (K : PySem.W.Frag) (C : Addr) : Sp := fun vs H Q _ => ∃ (p cl gl ul t : Addr) (ds : List Deed) (n : Nat) (fs : List Fly) (xs : List Int) (turn late : Int) (side : Bool),
  vs = [.ref p, .ref t, .int turn, .str (wayS side)] ∧ LineAt C K H p cl gl ul ds n fs ∧ SqT K H t (xs.map .int) ∧ (1 ≤ xs.length ∧ xs.length ≤ 800) ∧ (∀ d ∈ ds, DeedOk late d) ∧ n ≤ 1000 ∧ fs.length ≤ 100000 ∧
  ∀ v H', Kp [p, gl, ul] H H' → LineAt C K H' p cl gl ul ds (n + 1) (fs ++ List.replicate (timesOf (ds[n]?.getD .pass)) (flyOf (ds[n]?.getD .pass) turn side xs)) → Dp K H' v (deedD (ds[n]?.getD .pass)) → Q v H'
theorem ok_put {f : Addr} {fd : FuncData} (F : Fun K "put" "Line.put" s_put f fd) (T : Txt K mg C D) (c_spoiled : Cal P w K mg base 3 "spoiled" (sp_spoiled K)) : FnOk P w K mg base CX0 4 f fd pr_put (sp_put K C) := by
  have nd := sc_put.nd
  obtain ⟨aP, gPASS, kP⟩ := T.PASS
  refine F.ok sc_put (fun vs H Q E h => ?_) (fun cdv A outer s H vs Q E hr h => ?_)
  · obtain ⟨p, cl, gl, ul, t, ds, n, fs, xs, turn, late, side, rfl, _⟩ := h
    rfl
  · obtain ⟨p, cl, gl, ul, t, ds, n, fs, xs, turn, late, side, rfl, hL, ht, hxl, ho, hn, hfl, q⟩ := h
    have hu := hu_of hr
    refine ⟨_, (pss_cons (ps_set (i := 4) nd rfl (Or.inl rfl) (pe_gt rfl gPASS))
      (pss_cons (ps_if (pt_cmpR op_lt (pe_callB call_len_seq (by rfl) T.z_len bt_len (pa_cons (pe_fld (pv 0) rfl) pa_nil)) (pe_callB call_len_seq (by rfl) T.z_len bt_len (pa_cons (pe_fld (pv 0) rfl) pa_nil)) (nomark _)) (pss_one (ps_set (i := 4) nd rfl (Or.inl rfl) (pe_ix ix_list (pe_fld (pv 0) rfl) (pe_callB call_len_seq (by rfl) T.z_len bt_len (pa_cons (pe_fld (pv 0) rfl) pa_nil)) (fun _ _ => rfl)))) pss_nil)
      (pss_cons (ps_expr (pe_bm PySem.F.plainAttrs_list PySem.F.slot_list_append PySem.F.type_list_append mt_append (pe_fld (pv 0) rfl) (pa_cons (pv 4) pa_nil)))
      (pss_cons (ps_fld (pv 0) (pe_callB (call_max2 rfl) (by rfl) T.z_max bt_max (pa_cons (pe_fld (pv 0) rfl) (pa_cons (pv 2) pa_nil))) rfl)
      (pss_cons (ps_set (i := 5) nd rfl (Or.inl rfl) (pe_op op_add (pv 2) (pe_callTy call_int1 (by rfl) T.z_int bt_int (pa_cons (pe_cmpR op_eq (pv 3) pe_str (nomark _)) pa_nil))))
      (pss_cons (ps_set (i := 6) nd rfl (Or.inl rfl) (pe_callTy call_tuple_of (by rfl) T.z_tuple bt_tuple (pa_cons (pv 1) pa_nil)))
      (pss_cons (ps_if (pt_cmpR op_eq (pe_ix ix_tup (pv 4) pe_int (fun _ _ => rfl)) pe_str (nomark _)) (pss_one (ps_set (i := 5) nd rfl (Or.inl rfl) (pe_op op_add (pv 5) (pe_ix ix_tup (pv 4) pe_int (fun _ _ => rfl))))) (pss_one (ps_if (pt_cmpR op_eq (pe_ix ix_tup (pv 4) pe_int (fun _ _ => rfl)) pe_str (nomark _)) (pss_one (ps_set (i := 6) nd rfl (Or.inl rfl) (pcal c_spoiled hr (by decide) (pa_cons (pv 6) (pa_cons (pe_ix ix_tup (pv 4) pe_int (fun _ _ => rfl)) (pa_cons (pe_ix ix_tup (pv 4) pe_int (fun _ _ => rfl)) pa_nil)))))) (pss_one (ps_if (pt_cmpR op_eq (pe_ix ix_tup (pv 4) pe_int (fun _ _ => rfl)) pe_str (nomark _)) (pss_one (ps_set (i := 6) nd rfl (Or.inl rfl) (pe_op op_catA (pe_ix ix_tup (pv 4) pe_int (fun _ _ => rfl)) (pv 6)))) pss_nil)))))
      (pss_cons (ps_for PassesOwn.never rfl (pi_range1 (by rfl) T.z_range (pa_cons (pe_dget2 hu (pe_disp (pps_cons pe_str pe_int (pps_cons pe_str pe_int pps_nil)) (by rfl) (by rfl) (fun z => by cases z) (by decide)) (pe_ix ix_tup (pv 4) pe_int (fun _ _ => rfl)) pe_int (m2_get rfl)) pa_nil)) (pg_name (i := 7) nd rfl (Or.inl rfl)) (pss_one (ps_expr (pe_bm PySem.F.plainAttrs_list PySem.F.slot_list_append PySem.F.type_list_append mt_append (pe_fld (pv 0) rfl) (pa_cons (pe_tup (pa_cons (pv 5) (pa_cons (pv 3) (pa_cons (pv 6) pa_nil)))) pa_nil)))))
      (pss_one (ps_ret (pv 4))))))))))), ?_⟩
    obtain ⟨⟨dx, la, hp⟩, ⟨cs, hc, dc⟩, ⟨gs, hg, hgl⟩, ⟨us, hul, du⟩, hcg, hcu, hgu⟩ := hL
    have hpc : p ≠ cl := fun z => by rw [z, hc] at hp; cases hp
    have hpg : p ≠ gl := fun z => by rw [z, hg] at hp; cases hp
    have hpu : p ≠ ul := fun z => by rw [z, hul] at hp; cases hp
    have hcl := dp_len dc
    rw [List.length_map] at hcl
    have hdd : ∀ x, ds[n]? = some x → DeedOk late x := fun x e => ho x (List.mem_of_getElem? e)
    have hdok : DeedOk late (ds[n]?.getD .pass) := by
      cases e : ds[n]? with
      | none => exact trivial
      | some x => exact hdd x e
    refine seq_cst ?_
    refine seq_pick (fun σ' H' => H' = H ∧ ∃ v, σ' = [some (.ref p), some (.ref t), some (.int turn), some (.str (wayS side)), some v, none, none, none] ∧ Dp K H v (deedD (ds[n]?.getD .pass))) ?_ fun tail => ?_
    rotate_left
    · refine ⟨_, rfl, p, C, dx, _, _, rfl, hp, T.clC, T.a_given, lk_given, gl, gs, rfl, .inl (SqL.of hg), _, rfl, p, C, dx, _, _, rfl, hp, T.clC, T.a_coming, lk_coming, cl, cs, rfl, .inl (SqL.of hc), _, _, rfl, rfl, _, rfl, ?_⟩
      by_cases hlt : n < ds.length
      · refine ifT (decide_eq_true (by omega)) ?_
        have e1 : ds[n]? = some ds[n] := List.getElem?_eq_getElem hlt
        obtain ⟨v, ev, dv⟩ := dp_at (i := n) dc (by rw [List.getElem?_map, e1]; rfl)
        refine ⟨_, rfl, p, C, dx, _, _, rfl, hp, T.clC, T.a_coming, lk_coming, _, rfl, p, C, dx, _, _, rfl, hp, T.clC, T.a_given, lk_given, gl, gs, rfl, .inl (SqL.of hg), cl, cs, _, v, rfl, rfl, SqL.of hc, atI_nat (j := gs.length) (by rw [hgl]; exact ev), ?_⟩
        refine tail _ _ ⟨rfl, v, rfl, ?_⟩
        rw [e1]
        exact dv
      · refine ifF (decide_eq_false (by omega)) ?_
        refine tail _ _ ⟨rfl, .ref aP, rfl, ?_⟩
        rw [List.getElem?_eq_none (by omega)]
        exact .tup (kP.sq H) (.cons (.str _) .nil)
    generalize ds[n]?.getD .pass = d at q hdok ⊢
    rintro σ0 H0 ⟨rfl, v, rfl, dv⟩
    refine ⟨_, rfl, p, C, dx, _, _, rfl, hp, T.clC, T.a_given, lk_given, .inl ⟨rfl, _, SqL.of hg⟩, _, rfl, gl, gs, v, rfl, rfl, hg, small1000 (by omega), ?_⟩
    have k1 : Kp [p, gl, ul] H0 (upd H0 gl (.lst (gs ++ [v]))) := Kp.put hg rfl (by simp)
    have hp1 : upd H0 gl (.lst (gs ++ [v])) p = some (.ins C dx (liF cl gl ul la)) := (upd_ne hpg).trans hp
    have g1 : upd H0 gl (.lst (gs ++ [v])) gl = some (.lst (gs ++ [v])) := upd_same
    have u1 : upd H0 gl (.lst (gs ++ [v])) ul = some (.lst us) := (upd_ne hgu.symm).trans hul
    generalize upd H0 gl (.lst (gs ++ [v])) = H1 at k1 hp1 g1 u1 ⊢
    refine ⟨_, rfl, p, C, dx, _, _, rfl, hp1, T.clC, T.a_latest, lk_latest, _, rfl, la, turn, rfl, _, rfl, p, C, dx, _, rfl, hp1, T.clC, T.a_latest, liF_len, ?_⟩
    rw [pf_latest]
    have k2 : Kp [p, gl, ul] H0 (upd H1 p (.ins C dx (liF cl gl ul (if turn > la then turn else la)))) := k1.trans (Kp.put hp1 rfl (by simp))
    have hp2 : upd H1 p (.ins C dx (liF cl gl ul (if turn > la then turn else la))) p = some (.ins C dx (liF cl gl ul (if turn > la then turn else la))) := upd_same
    have g2 : upd H1 p (.ins C dx (liF cl gl ul (if turn > la then turn else la))) gl = some (.lst (gs ++ [v])) := (upd_ne hpg.symm).trans g1
    have u2 : upd H1 p (.ins C dx (liF cl gl ul (if turn > la then turn else la))) ul = some (.lst us) := (upd_ne hpu.symm).trans u1
    generalize upd H1 p (.ins C dx (liF cl gl ul (if turn > la then turn else la))) = H2 at k2 hp2 g2 u2 ⊢
    generalize (if turn > la then turn else la) = la2 at hp2
    refine ⟨_, rfl, _, rfl, rfl, .inr ⟨_, rfl, _, _, rfl, rfl, ?_⟩⟩
    rw [goes_eq]
    have t2 := Kp.sqT k2.n ht
    refine ⟨_, rfl, t, _, rfl, .inr ⟨t2, ?_⟩⟩
    have dv2 := Kp.dp k2.n _ _ (flat_deed d) dv
    obtain ⟨a, ys, rfl, ha, hy⟩ := dp_deed dv2
    refine gname ?_
    dsimp only
    refine seq_pick (fun σ' H' => Kp [] H2 H' ∧ ∃ b c, c = turn + goesOf side + lateOf d ∧ σ' = [some (.ref p), some (.ref t), some (.int turn), some (.str (wayS side)), some (.ref a), some (.int c), some (.ref b), none] ∧ SqT K H' b ((seenOf d xs).map .int)) ?_ fun tail => ?_
    rotate_left
    · have z0 : turn + goesOf side + 0 = turn + goesOf side := Int.add_zero _
      cases d with
      | pass =>
        refine ⟨_, rfl, a, _, _, _, rfl, rfl, ha, atI_nat (j := 0) rfl, rfl, _, rfl, ifF (by rfl) ?_⟩
        refine ⟨_, rfl, a, _, _, _, rfl, rfl, ha, atI_nat (j := 0) rfl, rfl, _, rfl, ifF (by rfl) ?_⟩
        refine ⟨_, rfl, a, _, _, _, rfl, rfl, ha, atI_nat (j := 0) rfl, rfl, _, rfl, ifF (by rfl) ?_⟩
        exact tail _ _ ⟨Kp.refl _, t, _, z0.symm, rfl, t2⟩
      | drop =>
        refine ⟨_, rfl, a, _, _, _, rfl, rfl, ha, atI_nat (j := 0) rfl, rfl, _, rfl, ifF (by rfl) ?_⟩
        refine ⟨_, rfl, a, _, _, _, rfl, rfl, ha, atI_nat (j := 0) rfl, rfl, _, rfl, ifF (by rfl) ?_⟩
        refine ⟨_, rfl, a, _, _, _, rfl, rfl, ha, atI_nat (j := 0) rfl, rfl, _, rfl, ifF (by rfl) ?_⟩
        exact tail _ _ ⟨Kp.refl _, t, _, z0.symm, rfl, t2⟩
      | twice =>
        refine ⟨_, rfl, a, _, _, _, rfl, rfl, ha, atI_nat (j := 0) rfl, rfl, _, rfl, ifF (by rfl) ?_⟩
        refine ⟨_, rfl, a, _, _, _, rfl, rfl, ha, atI_nat (j := 0) rfl, rfl, _, rfl, ifF (by rfl) ?_⟩
        refine ⟨_, rfl, a, _, _, _, rfl, rfl, ha, atI_nat (j := 0) rfl, rfl, _, rfl, ifF (by rfl) ?_⟩
        exact tail _ _ ⟨Kp.refl _, t, _, z0.symm, rfl, t2⟩
      | late l =>
        obtain ⟨y1, ys1, rfl, d1, hy⟩ := dp_cons hy
        obtain rfl := dp_nil hy
        obtain rfl := dp_int d1
        refine ⟨_, rfl, a, _, _, _, rfl, rfl, ha, atI_nat (j := 0) rfl, rfl, _, rfl, ifT (by rfl) ?_⟩
        refine ⟨_, rfl, _, rfl, a, _, _, _, rfl, rfl, ha, atI_nat (j := 1) rfl, _, _, rfl, rfl, ?_⟩
        exact tail _ _ ⟨Kp.refl _, t, _, rfl, rfl, t2⟩
      | spoil pl b =>
        obtain ⟨y1, ys1, rfl, d1, hy⟩ := dp_cons hy
        obtain ⟨y2, ys2, rfl, d2, hy⟩ := dp_cons hy
        obtain rfl := dp_nil hy
        obtain rfl := dp_int d1
        obtain rfl := dp_int d2
        refine ⟨_, rfl, a, _, _, _, rfl, rfl, ha, atI_nat (j := 0) rfl, rfl, _, rfl, ifF (by rfl) ?_⟩
        refine ⟨_, rfl, a, _, _, _, rfl, rfl, ha, atI_nat (j := 0) rfl, rfl, _, rfl, ifT (by rfl) ?_⟩
        refine ⟨_, rfl, _, rfl, a, _, _, _, rfl, rfl, ha, atI_nat (j := 1) rfl, _, rfl, a, _, _, _, rfl, rfl, ha, atI_nat (j := 2) rfl, t, xs, pl, b, rfl, t2, ⟨hxl.1, by omega⟩, fun r H3 kp3 h3 => ?_⟩
        exact tail _ _ ⟨kp3, r, _, z0.symm, rfl, h3⟩
      | add ns =>
        obtain ⟨y1, ys1, rfl, d1, hy⟩ := dp_cons hy
        obtain rfl := dp_nil hy
        obtain ⟨b, zs, rfl, hb, hd⟩ := dp_tup d1
        obtain rfl := dp_ints hd
        have hns : (1 ≤ ns.length ∧ ns.length ≤ 8) ∧ _ := hdok
        refine ⟨_, rfl, a, _, _, _, rfl, rfl, ha, atI_nat (j := 0) rfl, rfl, _, rfl, ifF (by rfl) ?_⟩
        refine ⟨_, rfl, a, _, _, _, rfl, rfl, ha, atI_nat (j := 0) rfl, rfl, _, rfl, ifF (by rfl) ?_⟩
        refine ⟨_, rfl, a, _, _, _, rfl, rfl, ha, atI_nat (j := 0) rfl, rfl, _, rfl, ifT (by rfl) ?_⟩
        refine ⟨_, rfl, a, _, _, _, rfl, rfl, ha, atI_nat (j := 1) rfl, _, rfl, ?_⟩
        refine catA hb t2 (by rw [List.length_map, List.length_map]; omega) fun r H3 kp3 h3 => ?_
        exact tail _ _ ⟨kp3, r, _, z0.symm, rfl, by rw [← List.map_append] at h3; exact h3⟩
    rintro σ3 H3 ⟨kp3, b, _, rfl, rfl, hb⟩
    have hp3 := kp3.at_ hp2 List.not_mem_nil
    have g3 := kp3.at_ g2 List.not_mem_nil
    have u3 := kp3.at_ u2 List.not_mem_nil
    have a3 := Kp.sqT kp3.n ha
    have k3 := k2.trans (kp3.mono fun _ h => absurd h List.not_mem_nil)
    refine fun q1 nq1 => ⟨upd_same, [(.inr "drop", .int 0), (.inr "twice", .int 2)], rfl, by decide, q1, rfl, .inl ⟨_, .inl upd_same⟩, ?_⟩
    rw [upd_upd]
    have k4 : Kp [] H3 (upd H3 q1 (.dK (mergeK [] [(.inr "drop", .int 0), (.inr "twice", .int 2)]))) := Kn nq1
    have e4 : upd H3 q1 (.dK (mergeK [] [(.inr "drop", .int 0), (.inr "twice", .int 2)])) q1 = some (.dK (mergeK [] [(.inr "drop", .int 0), (.inr "twice", .int 2)])) := upd_same
    generalize upd H3 q1 (.dK (mergeK [] [(.inr "drop", .int 0), (.inr "twice", .int 2)])) = H4 at k4 e4 ⊢
    refine ⟨_, rfl, a, _, _, _, rfl, rfl, Kp.sqT k4.n a3, atI_nat (j := 0) rfl, _, DGet.k (k := .inr (wordOf d)) e4, (timesOf d : Int), congrArg (fun v => [v]) (times_get d), by omega, by have := times_le d; omega, ?_⟩
    rw [Int.toNat_natCast]
    have hp4 := k4.at_ hp3 List.not_mem_nil
    have g4 := k4.at_ g3 List.not_mem_nil
    have u4 := k4.at_ u3 List.not_mem_nil
    have k04 := k3.trans (k4.mono fun _ h => absurd h List.not_mem_nil)
    have kl : Kp [ul] H2 H4 := (kp3.trans k4).mono fun _ h => absurd h List.not_mem_nil
    have ht2 := times_le d
    refine for_range (lo := 0) (n := timesOf d) (fun i σ Hi => ∃ x, σ = [some (.ref p), some (.ref t), some (.int turn), some (.str (wayS side)), some (.ref a), some (.int (turn + goesOf side + lateOf d)), some (.ref b), x] ∧ Kp [ul] H4 Hi ∧
      ∃ zs, Hi ul = some (.lst zs) ∧ FlyAll K Hi zs (fs ++ List.replicate i (flyOf d turn side xs))) ⟨none, rfl, Kp.refl _, us, u4, ?_⟩ ?_ ?_
    · rw [List.replicate_zero, List.append_nil]
      exact FlyAll.kp k04.n du
    · rintro i σ Hi hi ⟨x, rfl, ki, zs, hz, dz⟩
      have hzl := dz.len
      rw [List.length_append, List.length_replicate] at hzl
      refine ⟨_, rfl, p, C, dx, _, _, rfl, ki.at_ hp4 (by simp [hpu]), T.clC, T.a_under_way, lk_under, .inl ⟨rfl, _, SqL.of hz⟩, _, rfl, _, rfl, _, rfl, sz (n := 3) (by decide), fun r nr => ?_⟩
      have hur : ul ≠ r := ne_of_none hz nr
      have hz' : upd Hi r (.tup [.int (turn + goesOf side + lateOf d), .str (wayS side), .ref b]) ul = some (.lst zs) := (upd_ne hur).trans hz
      refine ⟨ul, zs, _, rfl, rfl, hz', Nat.lt_of_le_of_lt (m := 100002) (by omega) (by decide), ?_⟩
      have kk : Kp [ul] Hi (upd (upd Hi r (.tup [.int (turn + goesOf side + lateOf d), .str (wayS side), .ref b])) ul (.lst (zs ++ [.ref r]))) := (Kp.new nr).trans (Kp.put hz' rfl (by simp))
      refine ⟨_, rfl, ki.trans kk, zs ++ [.ref r], upd_same, ?_⟩
      rw [List.replicate_succ', ← List.append_assoc]
      refine (FlyAll.kp kk.n dz).app (.cons ((upd_ne hur.symm).trans upd_same) ?_ .nil)
      exact Kp.sqT ((k4.mono fun _ h => absurd h List.not_mem_nil).trans (ki.trans kk)).n hb
    · rintro σ H5 ⟨x, rfl, ki, hz⟩
      refine ⟨_, rfl, ?_⟩
      have k5 : Kp [p, gl, ul] H0 H5 := k04.trans (ki.mono (by simp))
      refine q _ H5 k5 ⟨⟨dx, la2, ki.at_ hp4 (by simp [hpu])⟩, ⟨cs, ?_, Kp.dpAll k5.n _ _ (flat_deeds ds) dc⟩, ⟨_, ki.at_ g4 (by simp [hgu]), by simp [hgl]⟩, hz, hcg, hcu, hgu⟩ (Kp.dp k5.n _ _ (flat_deed d) dv)
      exact k5.at_ hc (by simp [hpc.symm, hcg, hcu])
end
end K38

namespace K38
open PySem PySem.Spec PyProof.Rows L2 LamX
theorem way_eq (a b : Bool) : decide (V.str (wayS a) = V.str (wayS b)) = (a == b) := by cases a <;> cases b <;> rfl
/-- what comes out at a side, in order of coming -/
def outOf (side : Bool) (n : Nat) (fs : List Fly) : List Fly := (List.range (n + 1)).flatMap fun c : Nat => (fs.filter (dueB side n)).filter fun f => f.come == (c : Int)
abbrev lamName : Str := "Line.due.<locals>.<lambda>"
section
variable {P : Program} {w : World} {K : PySem.W.Frag} {mg : Str → Option Value} {base : Heap} {C D : Addr}
def sp_due (K : PySem.W.Frag) (C Pt : Addr) : Sp := fun vs H Q _ => ∃ (p cl gl ul : Addr) (ds : List Deed) (n : Nat) (fs : List Fly) (turn : Nat) (side : Bool),
  vs = [.ref p, .int turn, .str (wayS side)] ∧ LineAt C K H p cl gl ul ds n fs ∧ Tabs [(Pt, lamName)] H ∧ (∀ f ∈ fs, 0 ≤ f.come) ∧ fs.length ≤ 100000 ∧ ((outOf side turn fs).flatMap (·.seen)).length ≤ 1000000 ∧
  ∀ t ul' H', H ul' = none → KpN [p] H H' → Tabs [(Pt, lamName)] H' → LineAt C K H' p cl gl ul' ds n (fs.filter fun f => !dueB side turn f) → SqT K H' t (((outOf side turn fs).flatMap (·.seen)).map .int) → Q (.ref t) H'
theorem lam_s : Lam1 "row" { kind := .function, names := [("row", .local)], isGenerator := false, isCoroutine := false } := ⟨rfl, rfl, rfl, rfl⟩
theorem ok_due {f c Pt : Addr} {oc : Value} {od an : Option Addr} {osl : Array (Option Value)} {dV kV doc pm ct : Value}
    (lk : K.lookup f = some ⟨oc, od, .func (PySem.W.fnOf "due" "Line.due" (defArgs s_due) (defBody s_due) (defScope s_due) dV kV doc pm an (.ref c) ct), osl⟩) (hcd : PySem.W.codeIn K (.ref c) "Line.due" = true) (T : Txt K mg C D)
    (TB : TabB base mg c Pt) : FnOk P w K mg base CX0 4 f (PySem.W.fnOf "due" "Line.due" (defArgs s_due) (defBody s_due) (defScope s_due) dV kV doc pm an (.ref c) ct) pr_due (sp_due K C Pt) := by
  have nd := sc_due.nd
  refine fn_of lk hcd sc_due (fun vs H Q E h => ?_) (fun A outer s H vs Q E hr h => ?_)
  · obtain ⟨p, cl, gl, ul, ds, n, fs, turn, side, rfl, _⟩ := h
    rfl
  · obtain ⟨p, cl, gl, ul, ds, n, fs, turn, side, rfl, hL, hT, h0, hfl, hz, q⟩ := h
    have hmT : (Pt, (cxOf CX0 P w K mg base nm_due "Line.due" (defScope s_due) f (.ref c) A outer s H E).nox.env.qual ++ "<lambda>") ∈ [(Pt, lamName)] := List.mem_singleton.mpr (Prod.ext rfl (by rfl))
    have huT : ∀ z ∈ [(Pt, lamName)], z.1 = Pt → z.2 = (cxOf CX0 P w K mg base nm_due "Line.due" (defScope s_due) f (.ref c) A outer s H E).nox.env.qual ++ "<lambda>" := fun z hz _ => by
      rw [List.mem_singleton.mp hz]
      rfl
    have hrS : Room (1 + 2) (cxOf CX0 P w K mg base nm_due "Line.due" (defScope s_due) f (.ref c) A outer s H E).nox.A := hr
    refine Exists.intro _ (And.intro (PSs.nox ((pss_cons (ps_fld (pv 0) (pe_callB (call_max2 rfl) (by rfl) T.z_max bt_max (pa_cons (pe_fld (pv 0) rfl) (pa_cons (pv 1) pa_nil))) rfl)
      (pss_cons (ps_setLc (i := 3) (own := [("row", 8)]) (g := gName 8) rfl nd rfl rfl (sw_true rfl rfl rfl (by decide +kernel)) (pi_list (pe_fld (pv 0) rfl)) (blkOk_by (own := [("row", 8)]) (N := nm_due) (sc := defScope s_due) (by decide +kernel)) (fun _ _ _ _ _ => pg_name (i := 8) nd rfl (Or.inl rfl)) (fun _ _ _ _ _ => (pts_one (PW.pt (pw_and (pt_cmpR op_eq (pe_ix (ix_tupK K rfl) (pv 8) pe_int (fun _ _ => rfl)) (pv 2) (nomark _)) (pw_and1 (pt_cmpR op_le (pe_ix (ix_tupK K rfl) (pv 8) pe_int (fun _ _ => rfl)) (pv 1) (nomark _))))))) (fun _ _ _ _ _ => (pv 8)))
      (pss_cons (ps_fld (pv 0) (pe_lc (own := [("row", 8)]) (g := gName 8) rfl nd (pi_list (pe_fld (pv 0) rfl)) (blkOk_by (own := [("row", 8)]) (N := nm_due) (sc := defScope s_due) (by decide +kernel)) (fun _ _ _ _ _ => pg_name (i := 8) nd rfl (Or.inl rfl)) (fun _ _ _ _ _ => (pts_one (PW.pt (pw_or (pt_cmpR op_ne (pe_ix (ix_tupK K rfl) (pv 8) pe_int (fun _ _ => rfl)) (pv 2) (nomark _)) (pw_or1 (pt_cmpR op_gt (pe_ix (ix_tupK K rfl) (pv 8) pe_int (fun _ _ => rfl)) (pv 1) (nomark _))))))) (fun _ _ _ _ _ => (pv 8))) rfl)
      (pss_cons (ps_set (i := 4) nd rfl (Or.inl rfl) (pe_lst pa_nil))
      (pss_cons (ps_for PassesOwn.never rfl (pi_list (pe_sortLam rfl hrS (by rfl) T.z_sorted bt_sorted TB rfl hmT huT ⟨rfl, rfl, rfl, rfl⟩ (by decide) rfl (fun _ _ _ _ _ => rfl) (pv 3))) (pg_tup rfl (pgs_cons (pg_name (i := 5) nd rfl (Or.inl rfl)) (pgs_cons (pg_name (i := 6) nd rfl (Or.inl rfl)) (pgs_cons (pg_name (i := 7) nd rfl (Or.inl rfl)) pgs_nil)))) (pss_one (ps_expr (pe_bm PySem.F.plainAttrs_list PySem.F.slot_list_extend PySem.F.type_list_extend mt_extT (pv 4) (pa_cons (pv 7) pa_nil)))))
      (pss_one (ps_ret (pe_callTy call_tuple_of (by rfl) T.z_tuple bt_tuple (pa_cons (pv 4) pa_nil))))))))))) ?_)
    obtain ⟨⟨dx, la, hp⟩, ⟨cs, hc, dc⟩, ⟨gs, hg, hgl⟩, ⟨us, hul, du⟩, hcg, hcu, hgu⟩ := hL
    have hpc : p ≠ cl := fun z => by rw [z, hc] at hp; cases hp
    have hpg : p ≠ gl := fun z => by rw [z, hg] at hp; cases hp
    have hpu : p ≠ ul := fun z => by rw [z, hul] at hp; cases hp
    have hul2 := du.len
    refine ⟨_, rfl, p, C, dx, _, _, rfl, hp, T.clC, T.a_latest, lk_latest, _, rfl, la, turn, rfl, _, rfl, p, C, dx, _, rfl, hp, T.clC, T.a_latest, liF_len, ?_⟩
    rw [pf_latest]
    generalize (if (turn : Int) > la then (turn : Int) else la) = la2
    have k1 : Kp [p] H (upd H p (.ins C dx (liF cl gl ul la2))) := Kp.put hp rfl (by simp)
    have hp1 : upd H p (.ins C dx (liF cl gl ul la2)) p = some (.ins C dx (liF cl gl ul la2)) := upd_same
    generalize upd H p (.ins C dx (liF cl gl ul la2)) = H1 at k1 hp1 ⊢
    have u1 := k1.at_ hul (by simp [hpu.symm])
    have du1 := FlyAll.kp k1.n du
    -- the rows that came
    refine ⟨_, rfl, p, C, dx, _, _, rfl, hp1, T.clC, T.a_under_way, lk_under, ul, rfl, ⟨_, SqL.of u1⟩, fun D1 nD => lc_list (xs := us) (fun i Hi => Kp [] H1 Hi ∧ ∃ ys, Hi D1 = some (.lst ys) ∧ ys.length ≤ i ∧ FlyAll K Hi ys ((fs.take i).filter (dueB side turn)))
      ⟨Kp.new nD, [], upd_same, Nat.le_refl _, .nil⟩ (fun i Hi _ h => SqL.of (h.1.at_ u1 List.not_mem_nil)) ?_ ?_⟩
    · rintro i x Hi hx ⟨ki, ys, hy, hyl, fy⟩
      obtain ⟨t, s', g, rfl, hg', ht, hs'⟩ := (FlyAll.kp ki.n du1).at_ hx
      refine ⟨rfl, _, rfl, t, _, _, _, rfl, rfl, SqT.of ht, atI_nat (j := 1) rfl, _, rfl, rfl, _, rfl, ?_⟩
      rw [way_eq, List.take_add_one, hg', Option.toList_some, List.filter_append]
      by_cases h1 : (g.side == side) = true
      · refine ifT h1 ?_
        refine ⟨_, rfl, t, _, _, _, rfl, rfl, SqT.of ht, atI_nat (j := 0) rfl, _, rfl, _, _, rfl, rfl, _, rfl, ?_⟩
        by_cases h2 : g.come ≤ turn
        · refine ifT (decide_eq_true h2) ?_
          have hu1 : us.length ≤ 100000 := by omega
          have hil : i < us.length := (List.getElem?_eq_some_iff.mp hx).1
          refine ⟨_, rfl, ys, hy, Nat.lt_of_le_of_lt (m := 100000) (by omega) (by decide), ki.fresh nD, ys ++ [.ref t], upd_same, by rw [List.length_append]; exact Nat.succ_le_succ hyl, ?_⟩
          rw [List.filter_cons_of_pos (by unfold dueB; rw [h1, decide_eq_true h2]; rfl)]
          have kD : Kp [D1] Hi (upd Hi D1 (.lst (ys ++ [.ref t]))) := Kp.put hy rfl (by simp)
          exact (FlyAll.kp kD.n fy).app (.cons (kD.at_ ht (by simp; rintro rfl; rw [hy] at ht; cases ht)) (Kp.sqT kD.n hs') .nil)
        · refine ifF (decide_eq_false h2) ?_
          refine ⟨ki, ys, hy, Nat.le_succ_of_le hyl, ?_⟩
          rw [List.filter_cons_of_neg (by unfold dueB; rw [h1, decide_eq_false h2]; decide)]
          simpa using fy
      · refine ifF (by simpa using h1) ?_
        refine ⟨ki, ys, hy, Nat.le_succ_of_le hyl, ?_⟩
        rw [List.filter_cons_of_neg (by unfold dueB; intro z; exact h1 (Bool.and_eq_true_iff.mp z).1)]
        simpa using fy
    rintro H2 ⟨k2, ys, hy2, _, fy2⟩
    rw [hul2, List.take_length] at fy2
    have k02 : Kp [p] H H2 := k1.trans (k2.mono fun _ h => absurd h List.not_mem_nil)
    have hp2 := k2.at_ hp1 List.not_mem_nil
    have u2 := k2.at_ u1 List.not_mem_nil
    have du2 := FlyAll.kp k2.n du1
    -- the rows that stay
    refine ⟨_, rfl, p, C, dx, _, _, rfl, hp2, T.clC, T.a_under_way, lk_under, ul, rfl, ⟨_, SqL.of u2⟩, fun D2 nD2 => lc_list (xs := us) (fun i Hi => Kp [] H2 Hi ∧ ∃ zs, Hi D2 = some (.lst zs) ∧ zs.length ≤ i ∧ FlyAll K Hi zs ((fs.take i).filter fun f => !dueB side turn f))
      ⟨Kp.new nD2, [], upd_same, Nat.le_refl _, .nil⟩ (fun i Hi _ h => SqL.of (h.1.at_ u2 List.not_mem_nil)) ?_ ?_⟩
    · rintro i x Hi hx ⟨ki, zs, hz', hzl, fz⟩
      obtain ⟨t, s', g, rfl, hg', ht, hs'⟩ := (FlyAll.kp ki.n du2).at_ hx
      have hu1 : us.length ≤ 100000 := by omega
      have hil : i < us.length := (List.getElem?_eq_some_iff.mp hx).1
      have kD : Kp [D2] Hi (upd Hi D2 (.lst (zs ++ [.ref t]))) := Kp.put hz' rfl (by simp)
      have goes : dueB side turn g = false → ∃ zs', upd Hi D2 (.lst (zs ++ [.ref t])) D2 = some (.lst zs') ∧ zs'.length ≤ i + 1 ∧ FlyAll K (upd Hi D2 (.lst (zs ++ [.ref t]))) zs' ((fs.take (i + 1)).filter fun f => !dueB side turn f) := fun e => by
        refine ⟨_, upd_same, by rw [List.length_append]; exact Nat.succ_le_succ hzl, ?_⟩
        rw [List.take_add_one, hg', Option.toList_some, List.filter_append, List.filter_cons_of_pos (by rw [e]; rfl)]
        exact (FlyAll.kp kD.n fz).app (.cons (kD.at_ ht (by simp; rintro rfl; rw [hz'] at ht; cases ht)) (Kp.sqT kD.n hs') .nil)
      refine ⟨rfl, _, rfl, t, _, _, _, rfl, rfl, SqT.of ht, atI_nat (j := 1) rfl, _, rfl, rfl, _, rfl, ?_⟩
      rw [way_eq]
      by_cases h1 : (g.side == side) = true
      · refine ifF (by rw [h1]; rfl) ?_
        refine ⟨_, rfl, t, _, _, _, rfl, rfl, SqT.of ht, atI_nat (j := 0) rfl, _, rfl, _, _, rfl, rfl, _, rfl, ?_⟩
        by_cases h2 : g.come ≤ turn
        · refine ifF (decide_eq_false (by omega)) ?_
          refine ⟨ki, zs, hz', Nat.le_succ_of_le hzl, ?_⟩
          rw [List.take_add_one, hg', Option.toList_some, List.filter_append, List.filter_cons_of_neg (by unfold dueB; rw [h1, decide_eq_true h2]; decide)]
          simpa using fz
        · refine ifT (decide_eq_true (by omega)) ?_
          exact ⟨_, rfl, zs, hz', Nat.lt_of_le_of_lt (m := 100000) (by omega) (by decide), ki.fresh nD2, goes (by unfold dueB; rw [h1, decide_eq_false h2]; rfl)⟩
      · have h1' : (g.side == side) = false := by simpa using h1
        refine ifT (by rw [h1']; rfl) ?_
        exact ⟨_, rfl, zs, hz', Nat.lt_of_le_of_lt (m := 100000) (by omega) (by decide), ki.fresh nD2, goes (by unfold dueB; rw [h1']; rfl)⟩
    rintro H2' ⟨k3, zs, hz3, _, fz3⟩
    rw [hul2, List.take_length] at fz3
    have hp3 := k3.at_ hp2 List.not_mem_nil
    refine ⟨_, rfl, p, C, dx, _, rfl, hp3, T.clC, T.a_under_way, liF_len, ?_⟩
    rw [pf_under]
    have hpD1 : p ≠ D1 := fun z => by rw [z, hy2] at hp2; cases hp2
    have hpD2 : p ≠ D2 := ne_of_none hp2 nD2
    have kq : Kp [p] H2' (upd H2' p (.ins C dx (liF cl gl D2 la2))) := Kp.put hp3 rfl (by simp)
    have k03 : Kp [p] H (upd H2' p (.ins C dx (liF cl gl D2 la2))) := (k02.trans (k3.mono fun _ h => absurd h List.not_mem_nil)).trans kq
    have nD2' : H D2 = none := Kp.free k02 (fun b hb _ => by rw [List.mem_singleton.mp hb, hp2]; exact fun z => nomatch z) nD2
    have hcD : cl ≠ D2 := ne_of_none hc nD2'
    have hgD : gl ≠ D2 := ne_of_none hg nD2'
    have p3 : upd H2' p (.ins C dx (liF cl gl D2 la2)) p = some (.ins C dx (liF cl gl D2 la2)) := upd_same
    have y3 := kq.at_ (k3.at_ hy2 List.not_mem_nil) (by simp [hpD1.symm])
    have z3 := kq.at_ hz3 (by simp [hpD2.symm])
    have fy3 := FlyAll.kp kq.n (FlyAll.kp k3.n fy2)
    have fz4 := FlyAll.kp kq.n fz3
    have hT3 := k03.tabs hT
    generalize upd H2' p (.ins C dx (liF cl gl D2 la2)) = H3 at k03 p3 y3 z3 fy3 fz4 hT3 ⊢
    refine ⟨Nat.zero_le _, fun o no => ?_⟩
    have no' : H o = none := Kp.free k03 (fun b hb _ => by rw [List.mem_singleton.mp hb, p3]; exact fun z => nomatch z) no
    have ko := Kn (o := .lst []) no
    have y4 := ko.at_ y3 List.not_mem_nil
    have fy4 := FlyAll.kp ko.n fy3
    have hT4 := ko.tabs hT3
    have o4 : upd H3 o (.lst []) o = some (.lst []) := upd_same
    generalize upd H3 o (.lst []) = H4 at ko y4 fy4 hT4 o4 ⊢
    refine ⟨_, rfl, D1, ys, firstOf H4, rfl, SqL.of y4, fun y hy => ?_, hT4, fun H5 out r eN hT5 perm pw filt nr => ?_⟩
    · obtain ⟨f, _, _, t, zs', e, hs'⟩ := fy4.firsts y hy
      exact ⟨t, zs', e, hs'⟩
    have hout := sorted_is (n := turn + 1) pw perm filt fun y hy => by
      obtain ⟨f, hf, e, _⟩ := fy4.firsts y hy
      obtain ⟨hf1, hf2⟩ := List.mem_filter.mp hf
      have h2 : f.come ≤ turn := of_decide_eq_true (Bool.and_eq_true_iff.mp hf2).2
      have h1 := h0 f hf1
      omega
    have fo4 : FlyAll K H4 out (outOf side turn fs) := by
      rw [hout]
      exact FlyAll.joins _ fun c _ => FlyAll.pick c fy4
    have k45 : KpN [] H4 (upd H5 r (.lst out)) := KpN.trans (fun b u e n _ => eN b u e n) (Kn nr).n
    have fo5 := FlyAll.kp k45 fo4
    have hT5' := (Kn (o := .lst out) nr).tabs hT5
    have o5 := k45.at_ o4 List.not_mem_nil (fun _ z => nomatch z)
    have r5 : upd H5 r (.lst out) r = some (.lst out) := upd_same
    generalize upd H5 r (.lst out) = H6 at k45 fo5 hT5' o5 r5 ⊢
    have hro : r ≠ o := fun z => by
      rw [z] at nr
      have := eN o _ o4 (fun _ z => nomatch z)
      rw [nr] at this
      cases this
    have hfo := fo5.len
    refine ⟨r, rfl, ⟨_, SqL.of r5⟩, for_list (xs := out) (fun i σ Hi => ∃ v5 v6 v7, σ = [some (.ref p), some (.int turn), some (.str (wayS side)), some (.ref D1), some (.ref o), v5, v6, v7, none] ∧ Kp [o] H6 Hi ∧
      Hi o = some (.lst ((((outOf side turn fs).take i).flatMap (·.seen)).map .int))) ⟨none, none, none, rfl, Kp.refl _, o5⟩ (fun i σ Hi _ h => ?_) ?_ ?_⟩
    · obtain ⟨_, _, _, _, ki, _⟩ := h
      exact SqL.of (ki.at_ r5 (by simp [hro]))
    · rintro i x σ Hi hx ⟨v5, v6, v7, rfl, ki, ho⟩
      obtain ⟨t, s', g, rfl, hg', ht, hs'⟩ := (FlyAll.kp ki.n fo5).at_ hx
      refine ⟨t, _, rfl, SqT.of ht, rfl, _, _, rfl, _, _, rfl, _, _, rfl, rfl, ?_⟩
      have e1 : (outOf side turn fs).take (i + 1) = (outOf side turn fs).take i ++ [g] := by rw [List.take_add_one, hg']; rfl
      have hlen : (((outOf side turn fs).take (i + 1)).flatMap (·.seen)).length ≤ 1000000 := by
        refine Nat.le_trans ?_ hz
        conv => rhs; rw [← List.take_append_drop (i + 1) (outOf side turn fs), List.flatMap_append, List.length_append]
        exact Nat.le_add_right _ _
      rw [e1, List.flatMap_append, List.length_append] at hlen
      have e2 : [g].flatMap (·.seen) = g.seen := by simp
      rw [e2] at hlen
      refine ⟨_, rfl, .inl ⟨rfl, _, SqL.of ho⟩, _, rfl, o, s', _, _, rfl, rfl, ho, hs', ?_, ?_⟩
      · rw [List.length_map, List.length_map]
        exact Nat.le_trans hlen (by decide)
      · refine ⟨_, _, _, rfl, ki.trans (Kp.put ho rfl (by simp)), ?_⟩
        rw [upd_same, e1, List.flatMap_append, List.map_append, e2]
    · rintro σ H7 ⟨v5, v6, v7, rfl, k7, o7⟩
      rw [hfo, List.take_length] at o7
      refine ⟨_, rfl, o, _, rfl, .inl ⟨SqL.of o7, fun t nt => ?_⟩⟩
      -- from H3 to the end
      have kE : KpN [] H3 (upd H7 t (.tup (((outOf side turn fs).flatMap (·.seen)).map .int))) := KpN.trans (fun b u e n h => by
        have hbo : b ≠ o := fun z => by rw [z, no] at e; cases e
        exact k7 b u (k45 b u (ko b u e (fun h => absurd h List.not_mem_nil)) n (fun h => absurd h List.not_mem_nil)) fun m => absurd (List.mem_singleton.mp m) hbo) (Kn nt).n
      refine q t D2 _ nD2' (k03.n.trans (kE.mono fun _ h => absurd h List.not_mem_nil)) ((Kn nt).tabs (k7.tabs hT5')) ⟨⟨dx, la2, kE.at_ p3 List.not_mem_nil (fun _ z => nomatch z)⟩, ⟨cs, ?_, ?_⟩, ⟨gs, ?_, hgl⟩, ⟨zs, kE.at_ z3 List.not_mem_nil (fun _ z => nomatch z), FlyAll.kp kE fz4⟩, hcg, hcD, hgD⟩ (SqT.of upd_same)
      · exact kE.at_ (k03.at_ hc (by simp [hpc.symm])) List.not_mem_nil (fun _ z => nomatch z)
      · exact Kp.dpAll kE _ _ (flat_deeds ds) (Kp.dpAll k03.n _ _ (flat_deeds ds) dc)
      · exact kE.at_ (k03.at_ hg (by simp [hpg.symm])) List.not_mem_nil (fun _ z => nomatch z)
end
end K38

namespace K38
open PySem PySem.Spec PyProof.Rows L2 LamX
theorem FrL.kp {K : PySem.W.Frag} {l : List Addr} {H H1 : Hp} {a : Addr} {xs : List V} (h : FrL K H a xs) (k : KpN l H H1) : FrL K H1 a xs := by
  rcases h with ⟨o, h⟩ | h
  · exact .inl ⟨o, k _ _ h (fun _ z => nomatch z) fun _ => rfl⟩
  · exact .inr h
/-- the pen: how far it has come is at most b -/
def PenAt (K : PySem.W.Frag) (H : Hp) (pen : Addr) (b : Int) : Prop := ∃ (sc : Addr) (xs : List Int) (at_ dg : Int), H pen = some (.lst [.ref sc, .int at_, .int dg]) ∧ (0 ≤ at_ ∧ at_ ≤ b) ∧ 0 ≤ dg ∧ FrL K H sc (xs.map .int)
theorem PenAt.kp {K : PySem.W.Frag} {l : List Addr} {H H1 : Hp} {pen : Addr} {b : Int} (h : PenAt K H pen b) (k : KpN l H H1) (hp : pen ∉ l) : PenAt K H1 pen b := by
  obtain ⟨sc, xs, a, d, h, h1, h2, h3⟩ := h
  exact ⟨sc, xs, a, d, k.at_ h hp (fun _ z => nomatch z), h1, h2, h3.kp k⟩
theorem PenAt.mono {K : PySem.W.Frag} {H : Hp} {pen : Addr} {b b' : Int} (h : PenAt K H pen b) (hb : b ≤ b') : PenAt K H pen b' := by
  obtain ⟨sc, xs, a, d, h, h1, h2, h3⟩ := h
  exact ⟨sc, xs, a, d, h, ⟨h1.1, Int.le_trans h1.2 hb⟩, h2, h3⟩
section
variable {P : Program} {w : World} {K : PySem.W.Frag} {mg : Str → Option Value} {base : Heap} {C D : Addr}
def sp__law_draw (K : PySem.W.Frag) : Sp := fun vs H Q _ => ∃ (pen : Addr) (r b : Int), vs = [.ref pen, .int r] ∧ PenAt K H pen b ∧ b ≤ 1000000 ∧ (0 < r ∧ r ≤ 1000) ∧
  ∀ n H', 0 ≤ n → n < r → Kp [pen] H H' → PenAt K H' pen (b + 1) → Q (.int n) H'
theorem abs_nn (i : Int) : 0 ≤ (if i < 0 then -i else i) := by split <;> omega
theorem ok__law_draw {f : Addr} {fd : FuncData} (F : Fun K "_law_draw" "_law_draw" s__law_draw f fd) (T : Txt K mg C D) : FnOk P w K mg base CX0 1 f fd pr__law_draw (sp__law_draw K) := by
  have nd := sc__law_draw.nd
  refine F.ok sc__law_draw (fun vs H Q E h => ?_) (fun cdv A outer s H vs Q E hr h => ?_)
  · obtain ⟨pen, r, b, rfl, _⟩ := h
    rfl
  · obtain ⟨pen, r, b, rfl, ⟨sc, xs, at_, dg, hp, ⟨ha0, hab⟩, hd, hsc⟩, hb, ⟨hr0, hr1⟩, q⟩ := h
    have at9 : at_ ≤ 1000000 := Int.le_trans hab hb
    refine ⟨_, (pss_cons (ps_if (pt_cmpR op_gt (pe_ix ix_list (pv 0) pe_int (fun _ _ => rfl)) pe_int (nomark _)) (pss_cons (ps_set (i := 2) nd rfl (Or.inl rfl) (pe_op op_mod (pe_ix ix_list (pv 0) pe_int (fun _ _ => rfl)) (pv 1)))
        (pss_cons (ps_asg (pe_op op_fdiv (pe_ix ix_list (pv 0) pe_int (fun _ _ => rfl)) (pv 1)) (pg_sub (pv 0) pe_int set_list))
        (pss_one (ps_ret (pv 2))))) pss_nil)
      (pss_cons (ps_set (i := 3) nd rfl (Or.inl rfl) (pe_ix ix_list (pv 0) pe_int (fun _ _ => rfl)))
      (pss_cons (ps_asg (pe_op op_add (pv 3) pe_int) (pg_sub (pv 0) pe_int set_list))
      (pss_cons (ps_set (i := 4) nd rfl (Or.inl rfl) (pe_op op_add (pe_op op_mul pe_int (pv 3)) pe_int))
      (pss_cons (ps_if (pt_cmpR op_gt (pe_callB call_len_seq (by rfl) T.z_len bt_len (pa_cons (pe_ix ix_list (pv 0) pe_int (fun _ _ => rfl)) pa_nil)) pe_int (nomark _)) (pss_one (ps_set (i := 4) nd rfl (Or.inl rfl) (pe_ix ix_list (pe_ix ix_list (pv 0) pe_int (fun _ _ => rfl)) (pe_op op_mod (pv 3) (pe_callB call_len_seq (by rfl) T.z_len bt_len (pa_cons (pe_ix ix_list (pv 0) pe_int (fun _ _ => rfl)) pa_nil))) (fun _ _ => rfl)))) pss_nil)
      (pss_cons (ps_if (PW.pt (pw_and (pt_cmpR op_lt (pv 3) (pe_callB call_len_seq (by rfl) T.z_len bt_len (pa_cons (pe_ix ix_list (pv 0) pe_int (fun _ _ => rfl)) pa_nil)) (nomark _)) (pw_and1 (pt_cmpR op_ge (pe_callB call_abs (by rfl) T.z_abs bt_abs (pa_cons (pv 4) pa_nil)) (pe_op op_pow pe_int pe_int) (nomark _))))) (pss_cons (ps_asg (pe_op op_fdiv (pe_callB call_abs (by rfl) T.z_abs bt_abs (pa_cons (pv 4) pa_nil)) (pv 1)) (pg_sub (pv 0) pe_int set_list))
        (pss_one (ps_ret (pe_op op_mod (pe_callB call_abs (by rfl) T.z_abs bt_abs (pa_cons (pv 4) pa_nil)) (pv 1))))) pss_nil)
      (pss_cons (ps_set (i := 5) nd rfl (Or.inl rfl) (pe_op op_mod (pe_op op_pow (pe_op op_add (pe_op op_add (pe_op op_add (pe_op op_mod (pv 4) pe_int) (pe_op op_mul pe_int (pv 3))) (pe_op op_mul (pe_op op_mul pe_int (pv 3)) (pv 3))) pe_int) pe_int) pe_int))
      (pss_cons (ps_set (i := 5) nd rfl (Or.inl rfl) (pe_op op_mod (pe_op op_pow (pe_op op_add (pe_op op_add (pv 5) (pe_op op_mul pe_int (pv 3))) pe_int) pe_int) pe_int))
      (pss_one (ps_ret (pe_op op_mod (pe_op op_fdiv (pv 5) pe_int) (pv 1)))))))))))), ?_⟩
    have mem : pen ∈ [pen] := List.mem_singleton_self pen
    refine ⟨_, rfl, pen, _, _, _, rfl, rfl, SqL.of hp, atI_nat (j := 2) rfl, _, _, rfl, rfl, _, rfl, ?_⟩
    by_cases h1 : dg > 0
    · refine ifT (decide_eq_true h1) ?_
      refine ⟨_, rfl, pen, _, _, _, rfl, rfl, SqL.of hp, atI_nat (j := 2) rfl, _, rfl, _, _, rfl, rfl, hr0, ?_⟩
      refine ⟨_, rfl, pen, _, _, _, rfl, rfl, SqL.of hp, atI_nat (j := 2) rfl, _, rfl, _, _, rfl, rfl, ⟨hr0, by omega⟩, _, rfl, pen, _, 2, 2, rfl, rfl, hp, rfl, ?_⟩
      refine ⟨_, rfl, q _ _ (Int.emod_nonneg _ (by omega)) (Int.emod_lt_of_pos _ hr0) (Kp.put hp rfl mem) ⟨sc, xs, at_, dg / r, upd_same, ⟨ha0, by omega⟩, Int.ediv_nonneg hd (by omega), hsc.kp (Kp.put hp rfl mem).n⟩⟩
    refine ifF (decide_eq_false h1) ?_
    refine ⟨_, rfl, pen, _, _, _, rfl, rfl, SqL.of hp, atI_nat (j := 1) rfl, ?_⟩
    refine ⟨_, rfl, _, _, rfl, rfl, _, rfl, pen, _, 1, 1, rfl, rfl, hp, rfl, ?_⟩
    have k1 : Kp [pen] H (upd H pen (.lst ([.ref sc, .int at_, .int dg].set 1 (.int (at_ + 1))))) := Kp.put hp rfl mem
    have hp1 : upd H pen (.lst ([.ref sc, .int at_, .int dg].set 1 (.int (at_ + 1)))) pen = some (.lst [.ref sc, .int (at_ + 1), .int dg]) := upd_same
    have s1 := hsc.kp k1.n
    refine ⟨_, rfl, _, _, rfl, rfl, .inl ⟨by decide, by decide⟩, _, _, rfl, rfl, ?_⟩
    refine gname ?_
    dsimp only
    change upd H pen (.lst ([.ref sc, .int at_, .int dg].set 1 (.int (at_ + 1)))) pen = some (.lst [.ref sc, .int (at_ + 1), .int dg]) at hp1
    generalize upd H pen (.lst ([.ref sc, .int at_, .int dg].set 1 (.int (at_ + 1)))) = H1 at k1 hp1 s1 ⊢
    have pa1 : PenAt K H1 pen (b + 1) := ⟨sc, xs, at_ + 1, dg, hp1, ⟨by omega, by omega⟩, hd, s1⟩
    refine seq_pick (fun σ' H' => H' = H1 ∧ ∃ c, σ' = [some (.ref pen), some (.int r), none, some (.int at_), some (.int c), none]) ?_ fun tail => ?_
    rotate_left
    · refine ⟨_, rfl, pen, _, _, _, rfl, rfl, SqL.of hp1, atI_nat (j := 0) rfl, sc, _, rfl, .inl s1.sq, _, _, rfl, rfl, _, rfl, ?_⟩
      by_cases h2 : (((xs.map V.int).length : Int) > 0)
      · refine ifT (decide_eq_true h2) ?_
        have hxl : 0 < xs.length := by rw [List.length_map] at h2; omega
        have e1 := Int.emod_nonneg at_ (b := (xs.length : Int)) (by omega)
        have e2 := Int.emod_lt_of_pos at_ (b := (xs.length : Int)) (by omega)
        obtain ⟨j, hj⟩ : ∃ j : Nat, at_ % (xs.length : Int) = j := ⟨_, (Int.toNat_of_nonneg e1).symm⟩
        have hjl : j < xs.length := by omega
        refine ⟨_, rfl, pen, _, _, _, rfl, rfl, SqL.of hp1, atI_nat (j := 0) rfl, _, rfl, _, rfl, pen, _, _, _, rfl, rfl, SqL.of hp1, atI_nat (j := 0) rfl, sc, _, rfl, .inl s1.sq, _, _, rfl, rfl, h2, sc, _, _, .int xs[j], rfl, rfl, s1.sq, ?_, ?_⟩
        · rw [List.length_map, hj]
          exact atI_nat (j := j) (by rw [List.getElem?_map, List.getElem?_eq_getElem hjl]; rfl)
        · exact tail _ _ ⟨rfl, _, rfl⟩
      · refine ifF (decide_eq_false h2) ?_
        exact tail _ _ ⟨rfl, _, rfl⟩
    rintro σ1 H1' ⟨rfl, c, rfl⟩
    refine seq_pick (fun σ' H' => H' = H1' ∧ σ' = [some (.ref pen), some (.int r), none, some (.int at_), some (.int c), none]) ?_ fun tail => ?_
    rotate_left
    · refine ⟨_, rfl, _, rfl, pen, _, _, _, rfl, rfl, SqL.of hp1, atI_nat (j := 0) rfl, sc, _, rfl, .inl s1.sq, _, _, rfl, rfl, _, rfl, ?_⟩
      by_cases h2 : at_ < ((xs.map V.int).length : Int)
      · refine ifT (decide_eq_true h2) ?_
        refine ⟨_, rfl, _, rfl, _, _, rfl, rfl, ⟨by decide, by decide, by decide⟩, _, _, rfl, rfl, _, rfl, ?_⟩
        by_cases h3 : (if c < 0 then -c else c) ≥ (10 : Int) ^ (18 : Int).toNat
        · refine ifT (decide_eq_true h3) ?_
          refine ⟨_, rfl, _, rfl, _, rfl, _, _, rfl, rfl, ⟨hr0, by omega⟩, _, rfl, pen, _, 2, 2, rfl, rfl, hp1, rfl, ?_⟩
          refine ⟨_, rfl, _, rfl, _, rfl, _, _, rfl, rfl, hr0, ?_⟩
          refine q _ _ (Int.emod_nonneg _ (by omega)) (Int.emod_lt_of_pos _ hr0) (k1.trans (Kp.put hp1 rfl mem)) ⟨sc, xs, at_ + 1, _, upd_same, ⟨by omega, by omega⟩, Int.ediv_nonneg (abs_nn c) (by omega), s1.kp (Kp.put hp1 rfl mem).n⟩
        · refine ifF (decide_eq_false h3) ?_
          exact tail _ _ ⟨rfl, rfl⟩
      · refine ifF (decide_eq_false h2) ?_
        exact tail _ _ ⟨rfl, rfl⟩
    rintro σ2 H2' ⟨rfl, rfl⟩
    have sq1 : at_ * at_ ≤ 1000000 * 1000000 := Int.mul_le_mul at9 at9 ha0 (by decide)
    have sq0 : 0 ≤ at_ * at_ := Int.mul_nonneg ha0 ha0
    have c0 := Int.emod_nonneg c (b := 2147483629) (by decide)
    have c1 := Int.emod_lt_of_pos c (b := 2147483629) (by decide)
    have asc : 7919 * at_ * at_ = 7919 * (at_ * at_) := Int.mul_assoc ..
    refine ⟨_, rfl, _, _, rfl, rfl, (by decide : (0 : Int) < 2147483629), _, rfl, _, _, rfl, rfl, .inl ⟨by decide, by decide⟩, _, _, rfl, rfl, _, rfl, _, _, rfl, rfl, .inl ⟨by decide, by decide⟩, _, rfl, _, _, rfl, rfl, .inr ⟨by omega, by omega⟩,
      _, _, rfl, rfl, _, _, rfl, rfl, _, _, rfl, rfl, ⟨by decide, by decide, ?_⟩, _, _, rfl, rfl, (by decide : (0 : Int) < 2147483647), ?_⟩
    · rw [asc]
      omega
    have d0 := Int.emod_nonneg ((c % 2147483629 + 40709 * at_ + 7919 * at_ * at_ + 31) ^ (5 : Int).toNat) (b := 2147483647) (by decide)
    have d1 := Int.emod_lt_of_pos ((c % 2147483629 + 40709 * at_ + 7919 * at_ * at_ + 31) ^ (5 : Int).toNat) (b := 2147483647) (by decide)
    generalize (c % 2147483629 + 40709 * at_ + 7919 * at_ * at_ + 31) ^ (5 : Int).toNat % 2147483647 = m at d0 d1 ⊢
    refine ⟨_, rfl, _, rfl, _, _, rfl, rfl, .inl ⟨by decide, by decide⟩, _, _, rfl, rfl, _, _, rfl, rfl, _, _, rfl, rfl, ⟨by decide, by decide, ?_⟩, _, _, rfl, rfl, (by decide : (0 : Int) < 2147483587), ?_⟩
    · omega
    refine ⟨_, rfl, _, _, rfl, rfl, ⟨by decide, by decide⟩, _, rfl, _, _, rfl, rfl, hr0, ?_⟩
    exact q _ _ (Int.emod_nonneg _ (by omega)) (Int.emod_lt_of_pos _ hr0) k1 pa1
end
end K38

namespace K38
open PySem PySem.Spec PyProof.Rows L2 LamX
theorem atI_mem {xs : List V} {n : Int} (h0 : 0 ≤ n) (h1 : n < xs.length) : ∃ v ∈ xs, atI xs n = some v := by
  obtain ⟨j, rfl⟩ := Int.eq_ofNat_of_zero_le h0
  have hj : j < xs.length := by omega
  exact ⟨xs[j], List.getElem_mem hj, atI_nat (List.getElem?_eq_getElem hj)⟩
theorem PenAt.ne {K : PySem.W.Frag} {H : Hp} {pen l : Addr} {b : Int} (h : PenAt K H pen b) (nl : H l = none) : pen ≠ l := by
  obtain ⟨sc, xs, a, d, h, _⟩ := h
  exact ne_of_none h nl
/-- an item of a list just written, its place drawn -/
theorem pick {K : PySem.W.Frag} {H : Hp} {pen : Addr} {b r : Int} {items : List V} {Q : VK} (hp : PenAt K H pen b) (hb : b ≤ 1000000) (hr : r = items.length) (h0 : (decide (0 < items.length) && decide (items.length ≤ 1000)) = true)
    (q : ∀ x ∈ items, ∀ H', Kp [pen] H H' → PenAt K H' pen (b + 1) → Q x H') (l : Addr) (nl : H l = none) : sp__law_draw K [.ref pen, .int r] (upd H l (.lst items)) (fun y H3 => rIxL K (.ref l) y H3 Q) E0 := by
  have hn := hp.ne nl
  have h0 : 0 < items.length ∧ items.length ≤ 1000 := by simpa using h0
  refine ⟨pen, r, b, rfl, hp.kp (Kn nl).n List.not_mem_nil, hb, by omega, fun n H' n0 n1 k p' => ?_⟩
  obtain ⟨v, hv, ev⟩ := atI_mem (xs := items) n0 (by omega)
  exact ⟨l, items, n, v, rfl, rfl, SqL.of (k.at_ upd_same (by simp [hn.symm])), ev, q v hv H' ((Kp.new nl).trans k) p'⟩
section
variable {P : Program} {w : World} {K : PySem.W.Frag} {mg : Str → Option Value} {base : Heap} {C D : Addr}
def btD : Option (Option Pk) → PyData
  | none => .none
  | some none => .tuple [.str "bad", .none]
  | some (some p) => .tuple [.str "good", pkD p]
def bkD (b : Bk) : PyData := .tuple [btD b.told, .int b.ahead, .int b.size]
theorem flat_bt (b : Option (Option Pk)) : flat (btD b) = true := by
  rcases b with _ | _ | p <;> simp [btD, flat, flatAll, flat_pkD]
theorem flat_bk (b : Bk) : flat (bkD b) = true := by simp [bkD, flat, flatAll, flat_bt]
theorem Kp.to_none {H H1 : Hp} {b : Addr} (k : Kp [] H H1) (e : H1 b = none) : H b = none := Kp.free k (fun _ h => absurd h List.not_mem_nil) e
def sp__law_plain (K : PySem.W.Frag) : Sp := fun vs H Q _ => ∃ (pen : Addr) (b : Int), vs = [.ref pen] ∧ PenAt K H pen b ∧ b ≤ 900000 ∧ ∀ n H', plainI n → Kp [pen] H H' → PenAt K H' pen (b + 3) → Q (.int n) H'
theorem ok__law_plain {f : Addr} {fd : FuncData} (F : Fun K "_law_plain" "_law_plain" s__law_plain f fd) (T : Txt K mg C D) (c__law_draw : Cal P w K mg base 1 "_law_draw" (sp__law_draw K)) : FnOk P w K mg base CX0 2 f fd pr__law_plain (sp__law_plain K) := by
  have nd := sc__law_plain.nd
  refine F.ok sc__law_plain (fun vs H Q E h => ?_) (fun cdv A outer s H vs Q E hr h => ?_)
  · obtain ⟨pen, b, rfl, _⟩ := h
    rfl
  · obtain ⟨pen, b, rfl, hp, hb, q⟩ := h
    refine ⟨_, (pss_one (ps_ret (pe_op op_add pe_int (pe_ix ix_list (pe_lst (pa_cons pe_int (pa_cons pe_int (pa_cons (pe_op op_add pe_int (pcal c__law_draw hr (by decide) (pa_cons (pv 0) (pa_cons pe_int pa_nil)))) (pa_cons pe_int (pa_cons pe_int (pa_cons (pcal c__law_draw hr (by decide) (pa_cons (pv 0) (pa_cons pe_int pa_nil))) pa_nil))))))) (pcal c__law_draw hr (by decide) (pa_cons (pv 0) (pa_cons pe_int pa_nil))) (fun _ _ => rfl))))), ?_⟩
    refine ⟨_, rfl, pen, 3, b, rfl, hp, by omega, by omega, fun n1 H1 h10 h11 k1 p1 => ⟨_, _, rfl, rfl, ?_⟩⟩
    refine ⟨_, rfl, pen, 95, b + 1, rfl, p1, by omega, by omega, fun n2 H2 h20 h21 k2 p2 => ?_⟩
    refine ⟨sz (n := 6) (by decide), fun l nl => ⟨_, rfl, pick p2 (by omega) (by rfl) (by rfl) (fun x hx H3 k3 p3 => ?_) l nl⟩⟩
    have hx : ∃ m, x = .int m ∧ 0 ≤ m ∧ m ≤ 94 := by
      simp only [List.mem_cons, List.not_mem_nil, or_false] at hx
      rcases hx with rfl | rfl | rfl | rfl | rfl | rfl
      · exact ⟨_, rfl, by omega, by omega⟩
      · exact ⟨_, rfl, by omega, by omega⟩
      · exact ⟨_, rfl, by omega, by omega⟩
      · exact ⟨_, rfl, by omega, by omega⟩
      · exact ⟨_, rfl, by omega, by omega⟩
      · exact ⟨_, rfl, by omega, by omega⟩
    obtain ⟨m, rfl, m0, m1⟩ := hx
    exact ⟨_, _, rfl, rfl, q _ _ (by unfold plainI; omega) ((k1.trans k2).trans k3) (p3.mono (by omega))⟩
/-! ### deeds drawn -/
def sp__law_deed (K : PySem.W.Frag) : Sp := fun vs H Q _ => ∃ (pen : Addr) (b late size : Int), vs = [.ref pen, .int late, .int size] ∧ PenAt K H pen b ∧ b ≤ 800000 ∧ (0 ≤ late ∧ late ≤ 1000) ∧ (1 ≤ size ∧ size ≤ 200) ∧
  ∀ v d H', DeedOk late d → Dp K H' v (deedD d) → Kp [pen] H H' → PenAt K H' pen (b + 100) → Q v H'
theorem ok__law_deed {f : Addr} {fd : FuncData} (F : Fun K "_law_deed" "_law_deed" s__law_deed f fd) (T : Txt K mg C D) (c__law_draw : Cal P w K mg base 1 "_law_draw" (sp__law_draw K)) (c__law_plain : Cal P w K mg base 2 "_law_plain" (sp__law_plain K)) :
    FnOk P w K mg base CX0 3 f fd pr__law_deed (sp__law_deed K) := by
  have nd := sc__law_deed.nd
  refine F.ok sc__law_deed (fun vs H Q E h => ?_) (fun cdv A outer s H vs Q E hr h => ?_)
  · obtain ⟨pen, b, late, size, rfl, _⟩ := h
    rfl
  · obtain ⟨pen, b, late, size, rfl, hp, hb, hlate, hsize, q⟩ := h
    refine ⟨_, (pss_cons (ps_set (i := 3) nd rfl (Or.inl rfl) (pcal c__law_draw hr (by decide) (pa_cons (pv 0) (pa_cons pe_int pa_nil))))
      (pss_cons (ps_if (PW.pt (pw_and (pt_cmpR op_eq (pv 3) pe_int (nomark _)) (pw_and1 (pt_cmpR op_gt (pv 1) pe_int (nomark _))))) (pss_one (ps_ret (pe_tup (pa_cons pe_str (pa_cons (pe_ix ix_list (pe_lst (pa_cons pe_int (pa_cons (pv 1) (pa_cons (pe_op op_add pe_int (pcal c__law_draw hr (by decide) (pa_cons (pv 0) (pa_cons (pv 1) pa_nil)))) pa_nil)))) (pcal c__law_draw hr (by decide) (pa_cons (pv 0) (pa_cons pe_int pa_nil))) (fun _ _ => rfl)) pa_nil))))) pss_nil)
      (pss_cons (ps_if (pt_cmpR op_in_seq (pv 3) (pe_tup (pa_cons pe_int (pa_cons pe_int (pa_cons pe_int pa_nil)))) rfl) (pss_cons (ps_set (i := 4) nd rfl (Or.inl rfl) (pe_ix ix_list (pe_lst (pa_cons pe_int (pa_cons pe_int (pa_cons pe_int (pa_cons pe_int (pa_cons pe_int (pa_cons (pe_op op_sub (pv 2) pe_int) (pa_cons (pv 2) (pa_cons (pcal c__law_draw hr (by decide) (pa_cons (pv 0) (pa_cons pe_int pa_nil))) pa_nil))))))))) (pcal c__law_draw hr (by decide) (pa_cons (pv 0) (pa_cons pe_int pa_nil))) (fun _ _ => rfl)))
        (pss_one (ps_ret (pe_tup (pa_cons pe_str (pa_cons (pv 4) (pa_cons (pe_ix ix_list (pe_lst (pa_cons pe_int (pa_cons pe_int (pa_cons (pe_op op_add pe_int (pcal c__law_draw hr (by decide) (pa_cons (pv 0) (pa_cons pe_int pa_nil)))) pa_nil)))) (pcal c__law_draw hr (by decide) (pa_cons (pv 0) (pa_cons pe_int pa_nil))) (fun _ _ => rfl)) pa_nil))))))) pss_nil)
      (pss_cons (ps_if (pt_cmpR op_eq (pv 3) pe_int (nomark _)) (pss_cons (ps_setLc (i := 5) (own := [("_law_k", 6)]) (g := gName 6) rfl nd rfl rfl (sw_true rfl rfl rfl (by decide +kernel)) (pi_range1 (by rfl) T.z_range (pa_cons (pe_op op_add pe_int (pcal c__law_draw hr (by decide) (pa_cons (pv 0) (pa_cons pe_int pa_nil)))) pa_nil)) (blkOk_by (own := [("_law_k", 6)]) (N := nm__law_deed) (sc := defScope s__law_deed) (by decide +kernel)) (fun _ _ _ _ _ => pg_name (i := 6) nd rfl (Or.inl rfl)) (fun _ _ _ _ _ => pts_nil) (fun _ _ _ _ _ => (pe_ix (ix_listK K rfl) (pe_lst (pa_cons pe_int (pa_cons pe_int (pa_cons pe_int (pa_cons pe_int (pa_cons (pcal c__law_plain hr (by decide) (pa_cons (pv 0) pa_nil)) pa_nil)))))) (pcal c__law_draw hr (by decide) (pa_cons (pv 0) (pa_cons pe_int pa_nil))) (fun _ _ => rfl))))
        (pss_one (ps_ret (pe_tup (pa_cons pe_str (pa_cons (pe_callTy call_tuple_of (by rfl) T.z_tuple bt_tuple (pa_cons (pv 5) pa_nil)) pa_nil)))))) pss_nil)
      (pss_one (ps_ret (pe_tup (pa_cons (pe_ix ix_list (pe_lst (pa_cons pe_str (pa_cons pe_str (pa_cons pe_str pa_nil)))) (pe_op op_mod (pv 3) pe_int) (fun _ _ => rfl)) pa_nil)))))))), ?_⟩
    refine ⟨_, rfl, pen, 9, b, rfl, hp, by omega, by omega, fun side H1 s0 s9 k1 p1 => ?_⟩
    refine gname ?_
    dsimp only
    refine seq_pick (fun σ' H' => H' = H1 ∧ σ' = [some (.ref pen), some (.int late), some (.int size), some (.int side), none, none, none]) ?_ fun tail => ?_
    rotate_left
    · refine ⟨_, rfl, rfl, _, rfl, ?_⟩
      by_cases h1 : decide (V.int side = V.int 3) = true
      · refine ifT h1 ?_
        refine ⟨_, rfl, _, _, rfl, rfl, _, rfl, ?_⟩
        by_cases h2 : late > 0
        · refine ifT (decide_eq_true h2) ?_
          refine ⟨_, rfl, _, rfl, _, rfl, pen, late, b + 1, rfl, p1, by omega, by omega, fun n2 H2 h20 h21 k2 p2 => ⟨_, _, rfl, rfl, ?_⟩⟩
          refine ⟨sz (n := 3) (by decide), fun l nl => ⟨_, rfl, pick p2 (by omega) (by rfl) (by rfl) (fun x hx H3 k3 p3 => ?_) l nl⟩⟩
          have hx : ∃ t, x = .int t ∧ 1 ≤ t ∧ t ≤ late := by
            simp only [List.mem_cons, List.not_mem_nil, or_false] at hx
            rcases hx with rfl | rfl | rfl
            · exact ⟨_, rfl, by omega, by omega⟩
            · exact ⟨_, rfl, by omega, by omega⟩
            · exact ⟨_, rfl, by omega, by omega⟩
          obtain ⟨t, rfl, t0, t1⟩ := hx
          refine ⟨sz (n := 2) (by decide), fun r nr => ?_⟩
          exact q _ (.late t) _ ⟨t0, t1⟩ (.tup (SqT.of upd_same) (.cons (.str _) (.cons (.int _) .nil))) (((k1.trans k2).trans k3).trans (Kp.new nr)) ((p3.kp (Kn nr).n List.not_mem_nil).mono (by omega))
        · refine ifF (decide_eq_false h2) ?_
          exact tail _ _ ⟨rfl, rfl⟩
      · refine ifF (by simpa using h1) ?_
        exact tail _ _ ⟨rfl, rfl⟩
    rintro σ1 H1' ⟨rfl, rfl⟩
    -- spoil
    refine ⟨_, rfl, sz (n := 3) (by decide), fun t1 nt1 => ⟨t1, _, rfl, .inr (SqT.of upd_same), rfl, rfl, _, rfl, ?_⟩⟩
    have kt := Kn (o := .tup [.int 4, .int 5, .int 6]) nt1
    have pt := p1.kp kt.n List.not_mem_nil
    have k2 : Kp [pen] H (upd H1' t1 (.tup [.int 4, .int 5, .int 6])) := k1.trans (Kp.new nt1)
    generalize upd H1' t1 (.tup [.int 4, .int 5, .int 6]) = H2 at pt k2 ⊢
    by_cases h1 : inV (.int side) [.int 4, .int 5, .int 6] = true
    · refine ifT h1 ?_
      refine ⟨_, rfl, _, _, rfl, rfl, _, rfl, _, rfl, pen, 201, b + 1, rfl, pt, by omega, by omega, fun n3 H3 h30 h31 k3 p3 => ?_⟩
      refine ⟨sz (n := 8) (by decide), fun l nl => ⟨_, rfl, pick p3 (by omega) (by rfl) (by rfl) (fun x hx H4 k4 p4 => ?_) l nl⟩⟩
      have hx : ∃ t, x = .int t ∧ 0 ≤ t ∧ t ≤ 200 := by
        simp only [List.mem_cons, List.not_mem_nil, or_false] at hx
        rcases hx with rfl | rfl | rfl | rfl | rfl | rfl | rfl | rfl <;> exact ⟨_, rfl, by omega, by omega⟩
      obtain ⟨pl, rfl, pl0, pl1⟩ := hx
      refine ⟨_, rfl, _, rfl, pen, 94, b + 3, rfl, p4.mono (by omega), by omega, by omega, fun n5 H5 h50 h51 k5 p5 => ⟨_, _, rfl, rfl, ?_⟩⟩
      refine ⟨sz (n := 3) (by decide), fun l nl => ⟨_, rfl, pick p5 (by omega) (by rfl) (by rfl) (fun x hx H6 k6 p6 => ?_) l nl⟩⟩
      have hx : ∃ t, x = .int t ∧ 1 ≤ t ∧ t ≤ 94 := by
        simp only [List.mem_cons, List.not_mem_nil, or_false] at hx
        rcases hx with rfl | rfl | rfl <;> exact ⟨_, rfl, by omega, by omega⟩
      obtain ⟨by_, rfl, by0, by1⟩ := hx
      refine ⟨sz (n := 3) (by decide), fun r nr => ?_⟩
      exact q _ (.spoil pl by_) _ ⟨⟨pl0, pl1⟩, by0, by1⟩ (.tup (SqT.of upd_same) (.cons (.str _) (.cons (.int _) (.cons (.int _) .nil)))) ((((k2.trans k3).trans k4).trans (k5.trans k6)).trans (Kp.new nr)) ((p6.kp (Kn nr).n List.not_mem_nil).mono (by omega))
    refine ifF (by simpa using h1) ?_
    -- add
    refine ⟨_, rfl, rfl, _, rfl, ?_⟩
    by_cases h2 : decide (V.int side = V.int 7) = true
    · refine ifT h2 ?_
      refine ⟨_, rfl, pen, 8, b + 1, rfl, pt, by omega, by omega, fun n3 H3 h30 h31 k3 p3 => ⟨_, _, rfl, rfl, ?_⟩⟩
      obtain ⟨m, hm⟩ := Int.eq_ofNat_of_zero_le (a := 1 + n3) (by omega)
      dsimp only
      rw [hm]
      refine ⟨(m : Int), rfl, by omega, by omega, ?_⟩
      rw [Int.toNat_natCast]
      refine fun l nl => lc_range (lo := 0) (n := m) (fun i Hi => Kp [pen] H3 Hi ∧ PenAt K Hi pen (b + 2 + 4 * (i : Nat)) ∧ ∃ ns : List Int, Hi l = some (.lst (ns.map .int)) ∧ ns.length = i ∧ ∀ x ∈ ns, (0 ≤ x ∧ x ≤ 255) ∧ x ≠ 1 ∧ x ≠ 2)
        ⟨Kp.new nl, (p3.kp (Kn nl).n List.not_mem_nil).mono (by omega), [], upd_same, rfl, fun _ h => absurd h List.not_mem_nil⟩ ?_ ?_
      · rintro i Hi hi ⟨ki, pi, ns, hns, hnl, hnx⟩
        have hlp : l ≠ pen := (p3.ne nl).symm
        refine ⟨rfl, _, rfl, pen, _, rfl, pi, by omega, fun n4 H4 hn4 k4 p4 => ⟨sz (n := 5) (by decide), fun l2 nl2 => ⟨_, rfl, pick p4 (by omega) (by rfl) (by rfl) (fun x hx H5 k5 p5 => ?_) l2 nl2⟩⟩⟩
        have hx : ∃ t, x = .int t ∧ (0 ≤ t ∧ t ≤ 255) ∧ t ≠ 1 ∧ t ≠ 2 := by
          unfold plainI at hn4
          simp only [List.mem_cons, List.not_mem_nil, or_false] at hx
          rcases hx with rfl | rfl | rfl | rfl | rfl <;> exact ⟨_, rfl, by omega, by omega, by omega⟩
        obtain ⟨t, rfl, ht⟩ := hx
        have k45 := k4.trans k5
        have hns5 := k45.at_ hns (by simp [hlp])
        refine ⟨_, hns5, small1000 (by rw [List.length_map]; omega), (ki.trans k45).fresh nl, (p5.kp (Kp.put hns5 rfl (by simp) : Kp [l] H5 _).n (by simp [hlp.symm])).mono (by omega), ns ++ [t], ?_, by simp [hnl], fun y hy => ?_⟩
        · rw [upd_same, List.map_append]
          rfl
        · rcases List.mem_append.mp hy with hy | hy
          · exact hnx y hy
          · rw [List.mem_singleton.mp hy]
            exact ht
      · rintro H6 ⟨k6, p6, ns, hns, hnl, hnx⟩
        refine ⟨_, rfl, l, _, rfl, .inl ⟨SqL.of hns, fun t nt => ⟨sz (n := 2) (by decide), fun r nr => ?_⟩⟩⟩
        have ke : Kp [] H6 (upd (upd H6 t (.tup (ns.map .int))) r (.tup [.str "add", .ref t])) := (Kn nt).trans (Kn nr)
        refine q _ (.add ns) _ ⟨⟨by omega, by omega⟩, hnx⟩ (.tup (SqT.of upd_same) (.cons (.str _) (.cons (.tup (Kp.sqT (Kn nr).n (SqT.of upd_same)) (ints_dp _)) .nil))) ((((k2.trans k3).trans k6)).trans (ke.mono fun _ h => absurd h List.not_mem_nil)) ((p6.kp ke.n List.not_mem_nil).mono (by omega))
    refine ifF (by simpa using h2) ?_
    refine ⟨sz (n := 3) (by decide), fun l nl => ?_⟩
    obtain ⟨v, hv, ev⟩ := atI_mem (xs := [V.str "pass", .str "drop", .str "twice"]) (n := side % 3) (by omega) (by simp; omega)
    refine ⟨_, rfl, _, _, rfl, rfl, (by decide : (0 : Int) < 3), l, _, _, v, rfl, rfl, SqL.of upd_same, ev, sz (n := 1) (by decide), fun r nr => ?_⟩
    have ke : Kp [] H2 (upd (upd H2 l (.lst [.str "pass", .str "drop", .str "twice"])) r (.tup [v])) := (Kn nl).trans (Kn nr)
    simp only [List.mem_cons, List.not_mem_nil, or_false] at hv
    have hf := k2.trans (ke.mono fun _ h => absurd h List.not_mem_nil)
    have pf := (pt.kp ke.n List.not_mem_nil).mono (b' := b + 100) (by omega)
    rcases hv with rfl | rfl | rfl
    · exact q _ .pass _ trivial (.tup (SqT.of upd_same) (.cons (.str _) .nil)) hf pf
    · exact q _ .drop _ trivial (.tup (SqT.of upd_same) (.cons (.str _) .nil)) hf pf
    · exact q _ .twice _ trivial (.tup (SqT.of upd_same) (.cons (.str _) .nil)) hf pf
/-! ### packets drawn -/
def sp__law_packet (K : PySem.W.Frag) : Sp := fun vs H Q _ => ∃ (pen : Addr) (b : Int), vs = [.ref pen] ∧ PenAt K H pen b ∧ b ≤ 800000 ∧ ∀ v p H', PkOk p → Dp K H' v (pkD p) → Kp [pen] H H' → PenAt K H' pen (b + 300) → Q v H'
theorem big_letters : ("OPEFASDZBYN" : Str).cps.toList = letters := by decide +kernel
theorem ok__law_packet {f : Addr} {fd : FuncData} (F : Fun K "_law_packet" "_law_packet" s__law_packet f fd) (T : Txt K mg C D) (c__law_draw : Cal P w K mg base 1 "_law_draw" (sp__law_draw K)) (c__law_plain : Cal P w K mg base 2 "_law_plain" (sp__law_plain K)) :
    FnOk P w K mg base CX0 3 f fd pr__law_packet (sp__law_packet K) := by
  have nd := sc__law_packet.nd
  refine F.ok sc__law_packet (fun vs H Q E h => ?_) (fun cdv A outer s H vs Q E hr h => ?_)
  · obtain ⟨pen, b, rfl, _⟩ := h
    rfl
  · obtain ⟨pen, b, rfl, hp, hb, q⟩ := h
    refine ⟨_, (pss_cons (ps_set (i := 1) nd rfl (Or.inl rfl) (pe_ix ix_list (pe_lst (pa_cons pe_int (pa_cons pe_int (pa_cons pe_int (pa_cons pe_int (pa_cons pe_int (pa_cons (pcal c__law_draw hr (by decide) (pa_cons (pv 0) (pa_cons pe_int pa_nil))) pa_nil))))))) (pcal c__law_draw hr (by decide) (pa_cons (pv 0) (pa_cons pe_int pa_nil))) (fun _ _ => rfl)))
      (pss_cons (ps_set (i := 2) nd rfl (Or.inl rfl) (pe_ix ix_list (pe_lst (pa_cons pe_int (pa_cons pe_int (pa_cons (pcal c__law_draw hr (by decide) (pa_cons (pv 0) (pa_cons pe_int pa_nil))) pa_nil)))) (pcal c__law_draw hr (by decide) (pa_cons (pv 0) (pa_cons pe_int pa_nil))) (fun _ _ => rfl)))
      (pss_one (ps_ret (pe_tup (pa_cons (pv 2) (pa_cons (pe_item_str pe_str (pcal c__law_draw hr (by decide) (pa_cons (pv 0) (pa_cons pe_int pa_nil))) (fun _ _ => rfl)) (pa_cons (pe_callTy call_tuple_of (by rfl) T.z_tuple bt_tuple (pa_cons (pe_lc (own := [("_law_k", 3)]) (g := gName 3) rfl nd (pi_range1 (by rfl) T.z_range (pa_cons (pv 1) pa_nil)) (blkOk_by (own := [("_law_k", 3)]) (N := nm__law_packet) (sc := defScope s__law_packet) (by decide +kernel)) (fun _ _ _ _ _ => pg_name (i := 3) nd rfl (Or.inl rfl)) (fun _ _ _ _ _ => pts_nil) (fun _ _ _ _ _ => (pcal c__law_plain hr (by decide) (pa_cons (pv 0) pa_nil)))) pa_nil)) pa_nil)))))))), ?_⟩
    refine ⟨_, rfl, pen, 90, b, rfl, hp, by omega, by omega, fun n1 H1 h10 h11 k1 p1 => ?_⟩
    refine ⟨sz (n := 6) (by decide), fun l nl => ⟨_, rfl, pick p1 (by omega) (by rfl) (by rfl) (fun x hx H2 k2 p2 => ?_) l nl⟩⟩
    have hx : ∃ m : Nat, x = .int m ∧ m ≤ 89 := by
      have hx' : ∃ t : Int, x = .int t ∧ 0 ≤ t ∧ t ≤ 89 := by
        simp only [List.mem_cons, List.not_mem_nil, or_false] at hx
        rcases hx with rfl | rfl | rfl | rfl | rfl | rfl <;> exact ⟨_, rfl, by omega, by omega⟩
      obtain ⟨t, e, t0, t1⟩ := hx'
      exact ⟨t.toNat, by rw [Int.toNat_of_nonneg t0]; exact e, by omega⟩
    obtain ⟨m, rfl, hm⟩ := hx
    refine ⟨_, rfl, pen, 64, b + 2, rfl, p2.mono (by omega), by omega, by omega, fun n3 H3 h30 h31 k3 p3 => ?_⟩
    refine ⟨sz (n := 3) (by decide), fun l nl => ⟨_, rfl, pick p3 (by omega) (by rfl) (by rfl) (fun x hx H4 k4 p4 => ?_) l nl⟩⟩
    have hx : ∃ t : Int, x = .int t ∧ 0 ≤ t ∧ t ≤ 63 := by
      simp only [List.mem_cons, List.not_mem_nil, or_false] at hx
      rcases hx with rfl | rfl | rfl <;> exact ⟨_, rfl, by omega, by omega⟩
    obtain ⟨num, rfl, hnum⟩ := hx
    refine ⟨_, rfl, _, rfl, pen, 11, b + 4, rfl, p4.mono (by omega), by omega, by omega, fun n5 H5 h50 h51 k5 p5 => ?_⟩
    obtain ⟨j, rfl⟩ := Int.eq_ofNat_of_zero_le h50
    have hj : j < letters.length := by
      show j < 11
      omega
    have hcj : ("OPEFASDZBYN" : Str).cps[j]? = some letters[j] := by
      rw [← Array.getElem?_toList, big_letters]
      exact List.getElem?_eq_getElem hj
    refine ⟨_, _, letters[j], rfl, rfl, by omega, by omega, ?_, by rw [Int.toNat_natCast]; exact hcj, ?_⟩
    · show (j : Int) < ((11 : Nat) : Int)
      omega
    refine ⟨_, rfl, (m : Int), rfl, by omega, by omega, ?_⟩
    rw [Int.toNat_natCast]
    refine fun l nl => lc_range (lo := 0) (n := m) (fun i Hi => Kp [pen] H5 Hi ∧ PenAt K Hi pen (b + 5 + 3 * (i : Nat)) ∧ ∃ ns : List Int, Hi l = some (.lst (ns.map .int)) ∧ ns.length = i ∧ ∀ x ∈ ns, plainI x)
        ⟨Kp.new nl, (p5.kp (Kn nl).n List.not_mem_nil).mono (by omega), [], upd_same, rfl, fun _ h => absurd h List.not_mem_nil⟩ ?_ ?_
    · rintro i Hi hi ⟨ki, pi, ns, hns, hnl, hnx⟩
      have hlp : l ≠ pen := (p5.ne nl).symm
      refine ⟨rfl, _, rfl, pen, _, rfl, pi, by omega, fun t H6 ht k6 p6 => ?_⟩
      have hns6 := k6.at_ hns (by simp [hlp])
      refine ⟨_, hns6, small1000 (by rw [List.length_map]; omega), (ki.trans k6).fresh nl, (p6.kp (Kp.put hns6 rfl (by simp) : Kp [l] H6 _).n (by simp [hlp.symm])).mono (by omega), ns ++ [t], ?_, by simp [hnl], fun y hy => ?_⟩
      · rw [upd_same, List.map_append]
        rfl
      · rcases List.mem_append.mp hy with hy | hy
        · exact hnx y hy
        · rw [List.mem_singleton.mp hy]
          exact ht
    · rintro H6 ⟨k6, p6, ns, hns, hnl, hnx⟩
      refine ⟨l, _, rfl, .inl ⟨SqL.of hns, fun t nt => ⟨sz (n := 3) (by decide), fun r nr => ?_⟩⟩⟩
      have ke : Kp [] H6 (upd (upd H6 t (.tup (ns.map .int))) r (.tup [.int num, .str (sgn letters[j]), .ref t])) := (Kn nt).trans (Kn nr)
      refine q _ ⟨num, letters[j], ns⟩ _ ⟨hnum, List.getElem_mem hj, hnx, (show ns.length ≤ 89 by omega)⟩ (.tup (SqT.of upd_same) (.cons (.int _) (.cons (.str _) (.cons (.tup (Kp.sqT (Kn nr).n (SqT.of upd_same)) (ints_dp _)) .nil))))
        ((((((k1.trans k2).trans k3).trans k4).trans k5).trans k6).trans (ke.mono fun _ h => absurd h List.not_mem_nil)) ((p6.kp ke.n List.not_mem_nil).mono (by omega))
/-! ### what a deed makes of a packet, as rows of the book -/
def sp__law_rows (K : PySem.W.Frag) : Sp := fun vs H Q _ => ∃ (v u : V) (t : Addr) (d : Deed) (p : Pk) (xs : List Int), vs = [v, u, .ref t] ∧ Dp K H v (deedD d) ∧ Dp K H u (pkD p) ∧ SqT K H t (xs.map .int) ∧ 1 ≤ xs.length ∧
  ∀ l H', H l = none → Kp [] H H' → LstD K H' l ((rowsOf d p xs.length).map bkD) → Q (.ref l) H'
theorem ok__law_rows {f : Addr} {fd : FuncData} (F : Fun K "_law_rows" "_law_rows" s__law_rows f fd) (T : Txt K mg C D) : FnOk P w K mg base CX0 1 f fd pr__law_rows (sp__law_rows K) := by
  have nd := sc__law_rows.nd
  refine F.ok sc__law_rows (fun vs H Q E h => ?_) (fun cdv A outer s H vs Q E hr h => ?_)
  · obtain ⟨v, u, t, d, p, xs, rfl, _⟩ := h
    rfl
  · obtain ⟨v, u, t, d, p, xs, rfl, hd, hu, ht, hx1, q⟩ := h
    refine ⟨_, (pss_cons (ps_set (i := 3) nd rfl (Or.inl rfl) (pe_callB call_len_seq (by rfl) T.z_len bt_len (pa_cons (pv 2) pa_nil)))
      (pss_cons (ps_set (i := 4) nd rfl (Or.inl rfl) (pe_tup (pa_cons (pe_tup (pa_cons pe_str (pa_cons (pv 1) pa_nil))) (pa_cons pe_int (pa_cons (pv 3) pa_nil)))))
      (pss_cons (ps_if (pt_cmpR op_eq (pe_ix ix_tup (pv 0) pe_int (fun _ _ => rfl)) pe_str (nomark _)) (pss_one (ps_ret (pe_lst pa_nil))) pss_nil)
      (pss_cons (ps_if (pt_cmpR op_eq (pe_ix ix_tup (pv 0) pe_int (fun _ _ => rfl)) pe_str (nomark _)) (pss_one (ps_ret (pe_lst (pa_cons (pv 4) (pa_cons (pv 4) pa_nil))))) pss_nil)
      (pss_cons (ps_if (pt_cmpR op_eq (pe_ix ix_tup (pv 0) pe_int (fun _ _ => rfl)) pe_str (nomark _)) (pss_one (ps_ret (pe_lst (pa_cons (pe_tup (pa_cons (pe_tup (pa_cons pe_str (pa_cons (pv 1) pa_nil))) (pa_cons (pe_callB call_len_seq (by rfl) T.z_len bt_len (pa_cons (pe_ix ix_tup (pv 0) pe_int (fun _ _ => rfl)) pa_nil)) (pa_cons (pe_op op_add (pv 3) (pe_callB call_len_seq (by rfl) T.z_len bt_len (pa_cons (pe_ix ix_tup (pv 0) pe_int (fun _ _ => rfl)) pa_nil))) pa_nil)))) pa_nil)))) pss_nil)
      (pss_cons (ps_if (pt_cmpR op_eq (pe_ix ix_tup (pv 0) pe_int (fun _ _ => rfl)) pe_str (nomark _)) (pss_one (ps_ret (pe_lst (pa_cons (pe_tup (pa_cons (pe_ix ix_list (pe_lst (pa_cons (pe_tup (pa_cons pe_str (pa_cons pe_non pa_nil))) (pa_cons pe_non pa_nil))) (pe_callTy call_int1 (by rfl) T.z_int bt_int (pa_cons (pe_cmpR op_eq (pe_op op_mod (pe_ix ix_tup (pv 0) pe_int (fun _ _ => rfl)) (pv 3)) pe_int (nomark _)) pa_nil)) (fun _ _ => rfl)) (pa_cons pe_int (pa_cons (pv 3) pa_nil)))) pa_nil)))) pss_nil)
      (pss_one (ps_ret (pe_lst (pa_cons (pv 4) pa_nil)))))))))), ?_⟩
    refine ⟨_, rfl, t, _, rfl, .inr ht, ?_⟩
    rw [List.length_map]
    refine ⟨_, rfl, sz (n := 2) (by decide), fun a na => ?_⟩
    refine ⟨_, rfl, sz (n := 3) (by decide), fun g ng => ?_⟩
    have k1 : Kp [] H (upd (upd H a (.tup [.str "good", u])) g (.tup [.ref a, .int 0, .int xs.length])) := (Kn na).trans (Kn ng)
    have hd1 := Kp.dp k1.n _ _ (flat_deed d) hd
    have hu1 := Kp.dp k1.n _ _ (flat_pkD p) hu
    have good : Dp K (upd (upd H a (.tup [.str "good", u])) g (.tup [.ref a, .int 0, .int xs.length])) (.ref g) (bkD ⟨some (some p), 0, xs.length⟩) :=
      .tup (SqT.of upd_same) (.cons (.tup (SqT.of ((Kn ng).at_ upd_same List.not_mem_nil)) (.cons (.str _) (.cons hu1 .nil))) (.cons (.int _) (.cons (.int _) .nil)))
    generalize upd (upd H a (.tup [.str "good", u])) g (.tup [.ref a, .int 0, .int xs.length]) = H1 at k1 hd1 hu1 good ⊢
    obtain ⟨r, ys, rfl, ha, hy⟩ := dp_deed hd1
    have one : rowsOf d p xs.length = [⟨some (some p), 0, xs.length⟩] → ∀ σ : L2.St, σ[4]? = some (some (.ref g)) → tLst (tCons (tVar 4) tNil) σ H1 Q := fun e σ hσ => by
      refine ⟨_, hσ, sz (n := 1) (by decide), fun l nl => ?_⟩
      rw [e] at q
      exact q l _ (k1.to_none nl) (k1.trans (Kn nl)) ⟨_, upd_same, .cons (Kp.dp (Kn nl).n _ _ (flat_bk _) good) .nil⟩
    cases d with
    | pass =>
      refine ⟨_, rfl, r, _, _, _, rfl, rfl, ha, atI_nat (j := 0) rfl, rfl, _, rfl, ifF (by rfl) ?_⟩
      refine ⟨_, rfl, r, _, _, _, rfl, rfl, ha, atI_nat (j := 0) rfl, rfl, _, rfl, ifF (by rfl) ?_⟩
      refine ⟨_, rfl, r, _, _, _, rfl, rfl, ha, atI_nat (j := 0) rfl, rfl, _, rfl, ifF (by rfl) ?_⟩
      refine ⟨_, rfl, r, _, _, _, rfl, rfl, ha, atI_nat (j := 0) rfl, rfl, _, rfl, ifF (by rfl) ?_⟩
      exact one rfl _ rfl
    | late b =>
      refine ⟨_, rfl, r, _, _, _, rfl, rfl, ha, atI_nat (j := 0) rfl, rfl, _, rfl, ifF (by rfl) ?_⟩
      refine ⟨_, rfl, r, _, _, _, rfl, rfl, ha, atI_nat (j := 0) rfl, rfl, _, rfl, ifF (by rfl) ?_⟩
      refine ⟨_, rfl, r, _, _, _, rfl, rfl, ha, atI_nat (j := 0) rfl, rfl, _, rfl, ifF (by rfl) ?_⟩
      refine ⟨_, rfl, r, _, _, _, rfl, rfl, ha, atI_nat (j := 0) rfl, rfl, _, rfl, ifF (by rfl) ?_⟩
      exact one rfl _ rfl
    | drop =>
      refine ⟨_, rfl, r, _, _, _, rfl, rfl, ha, atI_nat (j := 0) rfl, rfl, _, rfl, ifT (by rfl) ?_⟩
      refine ⟨sz (n := 0) (by decide), fun l nl => ?_⟩
      exact q l _ (k1.to_none nl) (k1.trans (Kn nl)) ⟨_, upd_same, .nil⟩
    | twice =>
      refine ⟨_, rfl, r, _, _, _, rfl, rfl, ha, atI_nat (j := 0) rfl, rfl, _, rfl, ifF (by rfl) ?_⟩
      refine ⟨_, rfl, r, _, _, _, rfl, rfl, ha, atI_nat (j := 0) rfl, rfl, _, rfl, ifT (by rfl) ?_⟩
      refine ⟨_, rfl, _, rfl, sz (n := 2) (by decide), fun l nl => ?_⟩
      have gl := Kp.dp (Kn (o := .lst [.ref g, .ref g]) nl).n _ _ (flat_bk _) good
      exact q l _ (k1.to_none nl) (k1.trans (Kn nl)) ⟨_, upd_same, .cons gl (.cons gl .nil)⟩
    | add ns =>
      obtain ⟨y1, ys1, rfl, d1, hy⟩ := dp_cons hy
      obtain rfl := dp_nil hy
      obtain ⟨b, zs, rfl, hb, hn⟩ := dp_tup d1
      obtain rfl := dp_ints hn
      refine ⟨_, rfl, r, _, _, _, rfl, rfl, ha, atI_nat (j := 0) rfl, rfl, _, rfl, ifF (by rfl) ?_⟩
      refine ⟨_, rfl, r, _, _, _, rfl, rfl, ha, atI_nat (j := 0) rfl, rfl, _, rfl, ifF (by rfl) ?_⟩
      refine ⟨_, rfl, r, _, _, _, rfl, rfl, ha, atI_nat (j := 0) rfl, rfl, _, rfl, ifT (by rfl) ?_⟩
      refine ⟨_, rfl, sz (n := 2) (by decide), fun c nc => ?_⟩
      have k2 := Kn (o := .tup [.str "good", u]) nc
      have ha2 := Kp.sqT k2.n ha
      have hb2 := Kp.sqT k2.n hb
      refine ⟨_, rfl, r, _, _, _, rfl, rfl, ha2, atI_nat (j := 1) rfl, b, _, rfl, .inr hb2, ?_⟩
      rw [List.length_map]
      refine ⟨_, rfl, _, rfl, r, _, _, _, rfl, rfl, ha2, atI_nat (j := 1) rfl, b, _, rfl, .inr hb2, ?_⟩
      rw [List.length_map]
      refine ⟨_, _, rfl, rfl, sz (n := 3) (by decide), fun e ne => ⟨sz (n := 1) (by decide), fun l nl => ?_⟩⟩
      have k3 := (k2.trans (Kn (o := .tup [.ref c, .int ns.length, .int (xs.length + ns.length)]) ne)).trans (Kn (o := .lst [.ref e]) nl)
      refine q l _ ((k1.trans k2).to_none (Kn ne |>.to_none nl)) (k1.trans k3) ⟨_, upd_same, .cons ?_ .nil⟩
      exact .tup (SqT.of ((Kn nl).at_ upd_same List.not_mem_nil)) (.cons (.tup (SqT.of (((Kn ne).trans (Kn nl)).at_ upd_same List.not_mem_nil)) (.cons (.str _) (.cons (Kp.dp k3.n _ _ (flat_pkD p) hu1) .nil))) (.cons (.int _) (.cons (.int _) .nil)))
    | spoil pl by_ =>
      obtain ⟨y1, ys1, rfl, d1, hy⟩ := dp_cons hy
      obtain ⟨y2, ys2, rfl, d2, hy⟩ := dp_cons hy
      obtain rfl := dp_nil hy
      obtain rfl := dp_int d1
      obtain rfl := dp_int d2
      refine ⟨_, rfl, r, _, _, _, rfl, rfl, ha, atI_nat (j := 0) rfl, rfl, _, rfl, ifF (by rfl) ?_⟩
      refine ⟨_, rfl, r, _, _, _, rfl, rfl, ha, atI_nat (j := 0) rfl, rfl, _, rfl, ifF (by rfl) ?_⟩
      refine ⟨_, rfl, r, _, _, _, rfl, rfl, ha, atI_nat (j := 0) rfl, rfl, _, rfl, ifF (by rfl) ?_⟩
      refine ⟨_, rfl, r, _, _, _, rfl, rfl, ha, atI_nat (j := 0) rfl, rfl, _, rfl, ifT (by rfl) ?_⟩
      refine ⟨sz (n := 2) (by decide), fun c nc => ⟨sz (n := 2) (by decide), fun e ne => ?_⟩⟩
      have k2 := (Kn (o := .tup [.str "bad", .non]) nc).trans (Kn (o := .lst [.ref c, .non]) ne)
      have ha2 := Kp.sqT k2.n ha
      have hx0 : (0 : Int) < xs.length := by omega
      refine ⟨_, rfl, r, _, _, _, rfl, rfl, ha2, atI_nat (j := 1) rfl, _, rfl, _, _, rfl, rfl, hx0, rfl, .inr ⟨_, rfl, ?_⟩⟩
      by_cases hz : pl % (xs.length : Int) = 0
      · have e1 : decide (V.int (pl % (xs.length : Int)) = V.int 0) = true := by rw [hz]; rfl
        have er : rowsOf (.spoil pl by_) p xs.length = [⟨none, 0, xs.length⟩] := by
          show [(⟨if pl % (xs.length : Int) = 0 then none else some none, 0, xs.length⟩ : Bk)] = _
          rw [if_pos hz]
        refine ⟨e, _, _, .non, rfl, rfl, SqL.of upd_same, ?_, ?_⟩
        · rw [if_pos e1]
          exact atI_nat (j := 1) rfl
        refine ⟨_, rfl, sz (n := 3) (by decide), fun i ni => ⟨sz (n := 1) (by decide), fun l nl => ?_⟩⟩
        rw [er] at q
        have k3 := (k2.trans (Kn (o := .tup [.non, .int 0, .int xs.length]) ni)).trans (Kn (o := .lst [.ref i]) nl)
        refine q l _ ((k1.trans k2).to_none (Kn ni |>.to_none nl)) (k1.trans k3) ⟨_, upd_same, .cons ?_ .nil⟩
        exact .tup (SqT.of ((Kn nl).at_ upd_same List.not_mem_nil)) (.cons .non (.cons (.int _) (.cons (.int _) .nil)))
      · have e1 : ¬ decide (V.int (pl % (xs.length : Int)) = V.int 0) = true := by
          rw [decide_eq_false fun z => hz (V.int.inj z)]
          exact Bool.false_ne_true
        have er : rowsOf (.spoil pl by_) p xs.length = [⟨some none, 0, xs.length⟩] := by
          show [(⟨if pl % (xs.length : Int) = 0 then none else some none, 0, xs.length⟩ : Bk)] = _
          rw [if_neg hz]
        refine ⟨e, _, _, .ref c, rfl, rfl, SqL.of upd_same, ?_, ?_⟩
        · rw [if_neg e1]
          exact atI_nat (j := 0) rfl
        refine ⟨_, rfl, sz (n := 3) (by decide), fun i ni => ⟨sz (n := 1) (by decide), fun l nl => ?_⟩⟩
        rw [er] at q
        have k3 := (k2.trans (Kn (o := .tup [.ref c, .int 0, .int xs.length]) ni)).trans (Kn (o := .lst [.ref i]) nl)
        refine q l _ ((k1.trans k2).to_none (Kn ni |>.to_none nl)) (k1.trans k3) ⟨_, upd_same, .cons ?_ .nil⟩
        exact .tup (SqT.of ((Kn nl).at_ upd_same List.not_mem_nil)) (.cons (.tup (SqT.of ((((Kn ne).trans (Kn ni)).trans (Kn nl)).at_ upd_same List.not_mem_nil)) (.cons (.str _) (.cons .non .nil))) (.cons (.int _) (.cons (.int _) .nil)))
end
end K38

namespace K38
open PySem PySem.Spec PyProof.Rows L2 LamX
/-! ### data small enough to be shown -/
structure Sm (d : PyData) (n w : Nat) : Prop where
  sh : d.showable = true
  nd : d.hasDict = false
  dp : d.depth ≤ n
  lv : d.leavesShort 13 = true
  wt : d.weight ≤ w
structure SmAll (ds : List PyData) (n w : Nat) : Prop where
  sh : PyData.showableAll ds = true
  nd : PyData.hasDictAll ds = false
  dp : PyData.depthAll ds ≤ n
  lv : PyData.leavesShortAll 13 ds = true
  wt : PyData.weightAll ds ≤ w
theorem SmAll.nil {n w : Nat} : SmAll [] n w := ⟨rfl, rfl, Nat.zero_le _, rfl, Nat.zero_le _⟩
theorem SmAll.cons {d : PyData} {ds : List PyData} {n a b : Nat} (h : Sm d n a) (t : SmAll ds n b) : SmAll (d :: ds) n (a + 1 + b) := by
  refine ⟨?_, ?_, ?_, ?_, ?_⟩
  · rw [PyData.showableAll, h.sh, t.sh]; rfl
  · rw [PyData.hasDictAll, h.nd, t.nd]; rfl
  · rw [PyData.depthAll]
    exact Nat.max_le.mpr ⟨h.dp, t.dp⟩
  · rw [PyData.leavesShortAll, h.lv, t.lv]; rfl
  · rw [PyData.weightAll]
    have := h.wt
    have := t.wt
    omega
theorem Sm.tup {ds : List PyData} {n w : Nat} (h : SmAll ds n w) : Sm (.tuple ds) (n + 1) w := by
  refine ⟨?_, ?_, ?_, ?_, ?_⟩
  · rw [PyData.showable]; exact h.sh
  · rw [PyData.hasDict]; exact h.nd
  · rw [PyData.depth]
    have := h.dp
    omega
  · rw [PyData.leavesShort]; exact h.lv
  · rw [PyData.weight]; exact h.wt
theorem Sm.lst {ds : List PyData} {n w : Nat} (h : SmAll ds n w) : Sm (.list ds) (n + 1) w := by
  refine ⟨?_, ?_, ?_, ?_, ?_⟩
  · rw [PyData.showable]; exact h.sh
  · rw [PyData.hasDict]; exact h.nd
  · rw [PyData.depth]
    have := h.dp
    omega
  · rw [PyData.leavesShort]; exact h.lv
  · rw [PyData.weight]; exact h.wt
theorem Sm.mono {d : PyData} {n w n' w' : Nat} (h : Sm d n w) (hn : n ≤ n') (hw : w ≤ w') : Sm d n' w' := ⟨h.sh, h.nd, Nat.le_trans h.dp hn, h.lv, Nat.le_trans h.wt hw⟩
theorem SmAll.mono {d : List PyData} {n w n' w' : Nat} (h : SmAll d n w) (hn : n ≤ n') (hw : w ≤ w') : SmAll d n' w' := ⟨h.sh, h.nd, Nat.le_trans h.dp hn, h.lv, Nat.le_trans h.wt hw⟩
theorem Sm.int {i : Int} {n : Nat} (h0 : 0 ≤ i) (h1 : i ≤ 100000000000) (hn : 1 ≤ n) : Sm (.int i) n 40 := by
  have hl : i.natAbs ≠ 0 → i.natAbs.log2 < 40 := fun h => (Nat.log2_lt h).mpr (by omega)
  refine ⟨?_, rfl, ?_, ?_, ?_⟩
  · rw [PyData.showable]
    refine decide_eq_true ?_
    by_cases z : i.natAbs = 0
    · rw [z]; decide
    · exact Nat.lt_trans (hl z) (by decide)
  · simp [PyData.depth]
  · rw [PyData.leavesShort]
    exact decide_eq_true (PyData.shown_int_le2 (by omega) (by omega))
  · rw [PyData.weight]
    split
    · exact Nat.zero_le _
    · rename_i z
      have z' : i.natAbs ≠ 0 := fun q => z (by simp; omega)
      exact hl z'
theorem Sm.str {x : Str} {n w : Nat} (h : (x.cps.toList.all fun c => decide (c < 16 ^ 8)) = true) (hw : x.cps.size ≤ w) : Sm (.str x) n w := by
  refine ⟨rfl, rfl, ?_, ?_, ?_⟩
  · simp [PyData.depth]
  · rw [PyData.leavesShort]; exact h
  · rw [PyData.weight]; exact hw
theorem Sm.non {n w : Nat} : Sm .none n w := ⟨rfl, rfl, by simp [PyData.depth], rfl, by simp [PyData.weight]⟩
theorem SmAll.ints : ∀ {ns : List Int} {n : Nat}, (∀ x ∈ ns, 0 ≤ x ∧ x ≤ 1000) → 1 ≤ n → SmAll (ns.map .int) n (41 * ns.length)
  | [], _, _, _ => .nil
  | x :: ns, n, h, hn => by
    have hx := h x (List.mem_cons_self ..)
    have ih := SmAll.ints (fun y hy => h y (List.mem_cons_of_mem _ hy)) hn
    refine (SmAll.cons (Sm.int hx.1 (by omega) hn) ih).mono (Nat.le_refl _) ?_
    rw [List.length_cons]
    omega
theorem Sm.pk {p : Pk} (h : PkOk p) : Sm (pkD p) 3 4000 := by
  have h1 := h.num
  have h2 := h.len
  have hd : SmAll (p.data.map .int) 1 (41 * p.data.length) := SmAll.ints (fun x hx => by
    have := h.data x hx
    unfold plainI at this
    omega) (Nat.le_refl 1)
  have hl : p.let_ < 128 := by
    have := h.let_
    revert this
    generalize p.let_ = c
    intro h
    revert c
    unfold letters
    decide
  unfold pkD
  refine (Sm.tup (n := 2) (SmAll.cons (Sm.int h1.1 (by omega) (by decide)) (SmAll.cons (Sm.str (x := sgn p.let_) (w := 1) ?_ (Nat.le_refl 1)) (SmAll.cons ((Sm.tup hd)) .nil)))).mono (Nat.le_refl 3) (w := 40 + 1 + (1 + 1 + (41 * p.data.length + 1 + 0))) (by omega)
  show ([p.let_].all fun c => decide (c < 16 ^ 8)) = true
  have : p.let_ < 16 ^ 8 := Nat.lt_trans hl (by decide)
  simp [this]
theorem Sm.told {t : Told} (h : ToldOk 100000000000 t) : Sm (toldD t) 4 5000 := by
  cases t with
  | bad a =>
    have h : 0 ≤ a ∧ a ≤ 100000000000 := h
    exact (Sm.tup (n := 3) (SmAll.cons (Sm.str (w := 3) (by decide +kernel) (by decide +kernel)) (SmAll.cons (Sm.non (w := 0)) (SmAll.cons (Sm.int h.1 h.2 (by decide)) (.nil (w := 0)))))).mono (Nat.le_refl _) (by decide)
  | good p a =>
    have h : (0 ≤ a ∧ a ≤ 100000000000) ∧ PkOk p := h
    exact (Sm.tup (n := 3) (SmAll.cons (Sm.str (w := 4) (by decide +kernel) (by decide +kernel)) (SmAll.cons (Sm.pk h.2) (SmAll.cons (Sm.int h.1.1 h.1.2 (by decide)) (.nil (w := 0)))))).mono (Nat.le_refl _) (by decide)
theorem SmAll.tolds : ∀ {ts : List Told}, (∀ t ∈ ts, ToldOk 100000000000 t) → SmAll (ts.map toldD) 4 (5001 * ts.length)
  | [], _ => .nil
  | t :: ts, h => by
    refine (SmAll.cons (Sm.told (h t (List.mem_cons_self ..))) (SmAll.tolds fun u hu => h u (List.mem_cons_of_mem _ hu))).mono (Nat.le_refl _) ?_
    rw [List.length_cons]
    omega
theorem Sm.fits {d : PyData} {n w : Nat} (s : Sm d n w) (hn : n ≤ 60) (hw : w ≤ 1000000) : d.showable = true ∧ d.hasDict = false ∧ d.depth ≤ 60 ∧ d.shown.length ≤ sizeLine :=
  ⟨s.sh, s.nd, Nat.le_trans s.dp hn, PyData.shown_fits (by decide) (by decide) s.lv (Nat.le_trans s.wt (Nat.le_trans hw (by decide)))⟩
end K38

namespace K38
open PySem PySem.Spec PyProof.Rows L2 LamX
/-! ### frames over tables -/
def Fr (H : Hp) (a : Addr) : Prop := ∀ o, H a = some o → ∃ ps, o = .tbl ps
theorem Fr.of {H : Hp} {a : Addr} (h : H a = none) : Fr H a := fun o e => by rw [h] at e; cases e
theorem Fr.ne {H : Hp} {a b : Addr} {o : HO} (h : Fr H a) (e : H b = some o) (n : ∀ ps, o ≠ .tbl ps) : b ≠ a := fun z => by
  rw [z] at e
  obtain ⟨ps, q⟩ := h o e
  exact n ps q
theorem Fr.back {l : List Addr} {H H1 : Hp} {a : Addr} (h : Fr H1 a) (k : KpN l H H1) (hl : ∀ b ∈ l, ∃ o, H1 b = some o ∧ ∀ ps, o ≠ .tbl ps) : Fr H a := fun o e => by
  by_cases n : ∀ ps, o ≠ .tbl ps
  · by_cases m : a ∈ l
    · obtain ⟨u, e1, n1⟩ := hl a m
      obtain ⟨ps, q⟩ := h u e1
      exact absurd q (n1 ps)
    · obtain ⟨ps, q⟩ := h o (k a o e n fun z => absurd z m)
      exact absurd q (n ps)
  · exact Classical.byContradiction fun z => n fun ps q => z ⟨ps, q⟩
theorem KpN.drop {l : List Addr} {H H1 H2 : Hp} {o : Addr} (k1 : KpN l H H1) (k2 : KpN (o :: l) H1 H2) (ho : H o = none) : KpN l H H2 := fun b u e n h => k2 b u (k1 b u e n h) n fun m => by
  rcases List.mem_cons.mp m with rfl | m
  · rw [ho] at e; cases e
  · exact h m
theorem Kp.drop {l : List Addr} {H H1 H2 : Hp} {o : Addr} (k1 : Kp l H H1) (k2 : Kp (o :: l) H1 H2) (ho : H o = none) : Kp l H H2 := fun b u e h => k2 b u (k1 b u e h) fun m => by
  rcases List.mem_cons.mp m with rfl | m
  · rw [ho] at e; cases e
  · exact h m
theorem ScAt.kpN {D : Addr} {l : List Addr} {H H1 : Hp} {p a : Addr} {s : Sc} (h : ScAt D H p a s) (k : KpN l H H1) (hp : p ∉ l) (ha : a ∉ l) : ScAt D H1 p a s := by
  obtain ⟨⟨dx, h1⟩, h2⟩ := h
  exact ⟨⟨dx, k.at_ h1 hp (fun _ z => nomatch z)⟩, k.at_ h2 ha (fun _ z => nomatch z)⟩
theorem LineAt.kpN {C : Addr} {K : PySem.W.Frag} {l : List Addr} {H H1 : Hp} {p cl gl ul : Addr} {ds : List Deed} {n : Nat} {fs : List Fly} (h : LineAt C K H p cl gl ul ds n fs) (k : KpN l H H1) (hp : p ∉ l) (h1 : cl ∉ l) (h2 : gl ∉ l) (h3 : ul ∉ l) :
    LineAt C K H1 p cl gl ul ds n fs := by
  obtain ⟨⟨dx, la, ho⟩, hc, ⟨gs, hg, hgl⟩, ⟨us, hu, du⟩, ne⟩ := h
  exact ⟨⟨dx, la, k.at_ ho hp (fun _ z => nomatch z)⟩, hc.kp k h1 (flat_deeds ds), ⟨gs, k.at_ hg h2 (fun _ z => nomatch z), hgl⟩, ⟨us, k.at_ hu h3 (fun _ z => nomatch z), FlyAll.kp k du⟩, ne⟩
/-! ### the book -/
def recD (r : Rec) : PyData := .tuple [.int r.fly.come, .str (wayS r.fly.side), bkD r.bk]
theorem flat_rec (r : Rec) : flat (recD r) = true := by simp [recD, flat, flatAll, flat_bk]
theorem flat_recs : ∀ rs : List Rec, flatAll (rs.map recD) = true
  | [] => by simp [flatAll]
  | r :: rs => by simp [flatAll, flat_rec, flat_recs rs]
def bkS (side : Bool) (rl : Addr) (f g : Int) : List (Key × V) := if side then [(.inr "rows", .ref rl), (.inr "g", .int g), (.inr "t", .int f)] else [(.inr "rows", .ref rl), (.inr "g", .int f), (.inr "t", .int g)]
structure BookAt (K : PySem.W.Frag) (H : Hp) (b rl : Addr) (side : Bool) (f g : Int) (R : List Rec) : Prop where
  ob : H b = some (.dK (bkS side rl f g))
  ro : LstD K H rl (R.map recD)
section
variable {side : Bool} {rl rl' : Addr} {f g h : Int} {H : Hp} {b : Addr}
theorem get_rows (e : H b = some (.dK (bkS side rl f g))) : DGet H b (.str "rows") (some (.ref rl)) := .inl ⟨_, .inr "rows", .inl e, rfl, by cases side <;> rfl⟩
theorem get_side (e : H b = some (.dK (bkS side rl f g))) : DGet H b (.str (wayS side)) (some (.int f)) := .inl ⟨_, .inr (wayS side), .inl e, rfl, by cases side <;> rfl⟩
theorem put_side (e : H b = some (.dK (bkS side rl f g))) : DPut H b (.str (wayS side)) (.int h) (upd H b (.dK (bkS side rl h g))) := .inl ⟨_, .inr (wayS side), e, rfl, by cases side <;> exact small1000 (n := 3) (by decide), by cases side <;> rfl⟩
theorem put_rows (e : H b = some (.dK (bkS side rl f g))) : DPut H b (.str "rows") (.ref rl') (upd H b (.dK (bkS side rl' f g))) := .inl ⟨_, .inr "rows", e, rfl, by cases side <;> exact small1000 (n := 3) (by decide), by cases side <;> rfl⟩
end
theorem rec_at {K : PySem.W.Frag} {H : Hp} {xs : List V} {R : List Rec} {j : Nat} {x : V} (h : DpAll K H xs (R.map recD)) (e : xs[j]? = some x) : ∃ r, R[j]? = some r ∧ Dp K H x (recD r) := by
  have hl := dp_len h
  rw [List.length_map] at hl
  have hj : j < xs.length := (List.getElem?_eq_some_iff.mp e).1
  have e1 : (R.map recD)[j]? = some (recD (R[j]'(by omega))) := by rw [List.getElem?_map, List.getElem?_eq_getElem]; rfl
  obtain ⟨y, ey, dy⟩ := dp_at h e1
  obtain rfl : y = x := Option.some.inj (ey.symm.trans e)
  exact ⟨_, List.getElem?_eq_getElem (by omega), dy⟩
def tkD : Option Pk → List PyData
  | none => [.str "bad", .none]
  | some p => [.str "good", pkD p]
def tellOf : Option Pk → Int → Told
  | none, a => .bad a
  | some p, a => .good p a
theorem tk_told (t : Option Pk) (a : Int) : toldD (tellOf t a) = .tuple (tkD t ++ [.int a]) := by cases t <;> rfl
theorem tk_bt (t : Option Pk) : btD (some t) = .tuple (tkD t) := by cases t <;> rfl
theorem tk_tolds (t : Option Pk) (a z f : Int) : toldsOf ⟨some t, a, z⟩ f = [tellOf t (f + a)] := by cases t <;> rfl
theorem flat_tk (t : Option Pk) : flatAll (tkD t) = true := by cases t <;> simp [tkD, flatAll, flat, flat_pkD]
theorem tk_ne (t : Option Pk) : (tkD t).length = 2 := by cases t <;> rfl
end K38

namespace K38
open PySem PySem.Spec PyProof.Rows L2 LamX
theorem Fr.back1 {H H1 : Hp} {a b : Addr} {o : HO} (h : Fr H1 a) (k : KpN [b] H H1) (e : H1 b = some o) (n : ∀ ps, o ≠ .tbl ps) : Fr H a := h.back k fun c hc => by
  rw [List.mem_singleton.mp hc]
  exact ⟨o, e, n⟩
theorem KpN.trans_to {l : List Addr} {H H1 H2 : Hp} (a : KpN [] H H1) (c : KpN l H1 H2) : KpN l H H2 := (a.mono fun _ h => absurd h List.not_mem_nil).trans c
def RecOk (k : Nat) (r : Rec) : Prop := 0 ≤ r.fly.come ∧ r.fly.seen.length ≤ 900 ∧ BkOk r.bk ∧ TellsR k r
section
variable {P : Program} {w : World} {K : PySem.W.Frag} {mg : Str → Option Value} {base : Heap} {C D : Addr}
def sp__law_heard (K : PySem.W.Frag) (C D Pt : Addr) : Sp := fun vs H Q _ => ∃ (b p q rl l cl gl ul : Addr) (s : Sc) (ds : List Deed) (n : Nat) (R : List Rec) (when_ : Nat) (side : Bool) (g : Int),
  vs = [.ref b, .ref p, .ref q, .int when_, .str (wayS side)] ∧ BookAt K H b rl side s.fed g R ∧ ScAt D H p l s ∧ ScOk s ∧ s.at_ = none ∧ LineAt C K H q cl gl ul ds n (R.map (·.fly)) ∧ Tabs [(Pt, lamName)] H ∧
  (∀ r ∈ R, RecOk s.kind r) ∧ R.length ≤ 100 ∧ (0 ≤ s.fed ∧ s.fed ≤ 10000000000) ∧ when_ ≤ 1000000 ∧ (l ≠ rl ∧ l ≠ cl ∧ l ≠ gl ∧ l ≠ ul) ∧
  ∀ H' rl' ul' l' (s' : Sc), Fr H rl' → Fr H ul' → (l' = l ∨ Fr H l') → rl' ≠ ul' → l' ≠ rl' → l' ≠ ul' → KpN [b, p, l, q] H H' → Tabs [(Pt, lamName)] H' →
    BookAt K H' b rl' side s'.fed g (R.filter fun r => !dueB side when_ r.fly) → ScAt D H' p l' s' → ScOk s' → s'.at_ = none → s'.kind = s.kind → (0 ≤ s'.fed ∧ s'.fed ≤ s.fed + 100000) →
    LineAt C K H' q cl gl ul' ds n ((R.filter fun r => !dueB side when_ r.fly).map (·.fly)) → Q (.bl true) H'
theorem ok__law_heard {f : Addr} {fd : FuncData} {Pt : Addr} (F : Fun K "_law_heard" "_law_heard" s__law_heard f fd) (T : Txt K mg C D) (m_feed : Met P w K mg base 5 D "feed" (sp_feed K D)) (m_due : MetK P w K mg base 4 C "due" 0 ["turn", "way"] (sp_due K C Pt))
    (m_is_open : Met P w K mg base 1 D "is_open" (sp_is_open D)) (m_fed : Met P w K mg base 1 D "fed" (sp_fed D)) : FnG P w K mg base 6 f fd pr__law_heard (sp__law_heard K C D Pt) := by
  have nd := sc__law_heard.nd
  refine fnG_of F sc__law_heard (fun vs H Q E h => ?_) (fun cdv A outer s0 H vs Q E hG hr h => ?_)
  · obtain ⟨b, p, q, rl, l, cl, gl, ul, s, ds, n, R, wh, side, g, rfl, _⟩ := h
    rfl
  · obtain ⟨b, p, q, rl, l, cl, gl, ul, s, ds, n, R, wh, side, g, rfl, ⟨hb, rs, hrl, drs⟩, hs, hso, hat, hL, hT, hR, hRl, hfed, hwh, ⟨n1, n2, n3, n4⟩, qq⟩ := h
    have hu := hu_of hr
    have hu64 := hr.units
    refine ⟨_, (pss_cons (ps_set (i := 5) nd rfl (Or.inl rfl) (pe_lst pa_nil))
      (pss_cons (ps_for PassesOwn.never rfl (pi_range1 (by rfl) T.z_range (pa_cons (pe_op op_add (pv 3) pe_int) pa_nil)) (pg_name (i := 6) nd rfl (Or.inl rfl)) (pss_one (ps_for PassesOwn.never rfl (pi_list (pe_dget hu (pv 0) pe_str (fun _ _ => rfl))) (pg_name (i := 7) nd rfl (Or.inl rfl)) (pss_one (ps_if (PW.pt (pw_and (pt_cmpR op_eq (pe_ix ix_tup (pv 7) pe_int (fun _ _ => rfl)) (pv 6) (nomark _)) (pw_and1 (pt_cmpR op_eq (pe_ix ix_tup (pv 7) pe_int (fun _ _ => rfl)) (pv 4) (nomark _))))) (pss_cons (ps_asg (pe_ix ix_tup (pv 7) pe_int (fun _ _ => rfl)) (pg_tup rfl (pgs_cons (pg_name (i := 8) nd rfl (Or.inl rfl)) (pgs_cons (pg_name (i := 9) nd rfl (Or.inl rfl)) (pgs_cons (pg_name (i := 10) nd rfl (Or.inl rfl)) pgs_nil)))))
            (pss_cons (ps_if (pt_cmpR op_notN (pv 8) pe_non (nomark _)) (pss_one (ps_expr (pe_bm PySem.F.plainAttrs_list PySem.F.slot_list_append PySem.F.type_list_append mt_append (pv 5) (pa_cons (pe_op op_catA (pv 8) (pe_tup (pa_cons (pe_op op_add (pe_dget hu (pv 0) (pv 4) (fun _ _ => rfl)) (pv 9)) pa_nil))) pa_nil)))) pss_nil)
            (pss_one (ps_dput hu (pv 0) (pv 4) (pe_op op_add (pe_dget hu (pv 0) (pv 4) (fun _ _ => rfl)) (pv 10)) rfl)))) pss_nil)))))
      (pss_cons (ps_dput hu (pv 0) pe_str (pe_lc (own := [("_law_row", 7)]) (g := gName 7) rfl nd (pi_list (pe_dget hu (pv 0) pe_str (fun _ _ => rfl))) (blkOk_by (own := [("_law_row", 7)]) (N := nm__law_heard) (sc := defScope s__law_heard) (by decide +kernel)) (fun _ _ _ _ _ => pg_name (i := 7) nd rfl (Or.inl rfl)) (fun _ _ _ _ _ => (pts_one (PW.pt (pw_or (pt_cmpR op_ne (pe_ix (ix_tupK K rfl) (pv 7) pe_int (fun _ _ => rfl)) (pv 4) (nomark _)) (pw_or1 (pt_cmpR op_gt (pe_ix (ix_tupK K rfl) (pv 7) pe_int (fun _ _ => rfl)) (pv 3) (nomark _))))))) (fun _ _ _ _ _ => (pv 7))) rfl)
      (pss_cons (ps_set (i := 11) nd rfl (Or.inl rfl) (pmet m_feed hr (by decide) (pv 1) (pa_cons (pmetK0 m_due hr (by decide) (pv 2) (pk_cons (pv 3) (pk_cons (pv 4) pk_nil))) pa_nil)))
      (pss_cons (ps_if (PW.pt (pw_or (pt_not (pt_val (pe_callB call_isi (by rfl) T.z_isinstance bt_isinstance (pa_cons (pv 11) (pa_cons (pe_bltn (v := .ty "list") (by rfl) T.z_list bt_list rfl) pa_nil))))) (pw_or1 (pt_cmpR op_ne (pe_callB (cr_repr hG hu64) (by rfl) T.z_repr bt_repr (pa_cons (pv 11) pa_nil)) (pe_callB (cr_repr hG hu64) (by rfl) T.z_repr bt_repr (pa_cons (pv 5) pa_nil)) (nomark _))))) (pss_one (ps_ret pe_bl)) pss_nil)
      (pss_one (ps_ret (pe_and (pe_cmpR op_isBl (pmet0 m_is_open hr (by decide) (pv 1)) pe_bl (nomark _)) (pe_one (pe_cmpR op_eq (pmet0 m_fed hr (by decide) (pv 1)) (pe_dget hu (pv 0) (pv 4) (fun _ _ => rfl)) (nomark _))))))))))), ?_⟩
    have hrl' := dp_len drs
    rw [List.length_map] at hrl'
    have hbrl : b ≠ rl := fun z => by rw [z, hrl] at hb; cases hb
    refine ⟨Nat.zero_le _, fun o no => ?_⟩
    have hbo : b ≠ o := ne_of_none hb no
    have hro : rl ≠ o := ne_of_none hrl no
    have ko : Kp [] H (upd H o (.lst [])) := Kn no
    have hb0 := ko.at_ hb List.not_mem_nil
    have hrl0 := ko.at_ hrl List.not_mem_nil
    have drs0 := Kp.dpAll ko.n _ _ (flat_recs R) drs
    have ho0 : upd H o (.lst []) o = some (.lst []) := upd_same
    generalize upd H o (.lst []) = H0 at ko hb0 hrl0 drs0 ho0 ⊢
    have ew : (wh : Int) + 1 = ((wh + 1 : Nat) : Int) := by omega
    refine ⟨_, rfl, _, _, rfl, rfl, ((wh + 1 : Nat) : Int), congrArg (fun z => [V.int z]) ew, by omega, by omega, ?_⟩
    rw [Int.toNat_natCast]
    refine for_range (lo := 0) (n := wh + 1) (fun i σ Hi => ∃ v6 v7 v8 v9 v10, σ = [some (.ref b), some (.ref p), some (.ref q), some (.int wh), some (.str (wayS side)), some (.ref o), v6, v7, v8, v9, v10, none] ∧ Kp [b, o] H0 Hi ∧
      Hi b = some (.dK (bkS side rl (fedOf s.fed (doneTo side i R)) g)) ∧ LstD K Hi o ((dueOf s.fed (doneTo side i R)).map toldD)) ⟨none, none, none, none, none, rfl, Kp.refl _, hb0, [], ho0, .nil⟩ ?_ ?_
    · rintro i σ Hi hi ⟨v6, v7, v8, v9, v10, rfl, ki, hbi, hoi⟩
      have hrli := ki.at_ hrl0 (by simp [hbrl.symm, hro])
      refine ⟨_, rfl, b, _, rfl, get_rows hbi, rl, rfl, ⟨_, SqL.of hrli⟩, ?_⟩
      refine for_list (xs := rs) (fun j σ Hj => ∃ v7 v8 v9 v10, σ = [some (.ref b), some (.ref p), some (.ref q), some (.int wh), some (.str (wayS side)), some (.ref o), some (.int (0 + (i : Nat))), v7, v8, v9, v10, none] ∧ Kp [b, o] H0 Hj ∧
        Hj b = some (.dK (bkS side rl (fedOf s.fed (doneTo side i R ++ picks side i (R.take j))) g)) ∧ LstD K Hj o ((dueOf s.fed (doneTo side i R ++ picks side i (R.take j))).map toldD)) ⟨v7, v8, v9, v10, rfl, ki, ?_, ?_⟩ (fun j σ Hj _ h => ?_) ?_ ?_
      · rw [List.take_zero, show picks side (i : Int) [] = [] from rfl, List.append_nil]
        exact hbi
      · rw [List.take_zero, show picks side (i : Int) [] = [] from rfl, List.append_nil]
        exact hoi
      · obtain ⟨_, _, _, _, _, kj, _⟩ := h
        exact SqL.of (kj.at_ hrl0 (by simp [hbrl.symm, hro]))
      · rintro j x σ Hj hx ⟨v7, v8, v9, v10, rfl, kj, hbj, os, hoj, doj⟩
        obtain ⟨r, er, dr⟩ := rec_at (Kp.dpAll kj.n _ _ (flat_recs R) drs0) hx
        obtain ⟨t, ys, rfl, ht, dy⟩ := dp_tup dr
        obtain ⟨y1, ys, rfl, d1, dy⟩ := dp_cons dy
        obtain ⟨y2, ys, rfl, d2, dy⟩ := dp_cons dy
        obtain ⟨y3, ys, rfl, d3, dy⟩ := dp_cons dy
        obtain rfl := dp_nil dy
        obtain rfl := dp_int d1
        obtain rfl := dp_str d2
        obtain ⟨t3, zs, rfl, ht3, dz⟩ := dp_tup d3
        obtain ⟨z1, zs, rfl, e1, dz⟩ := dp_cons dz
        obtain ⟨z2, zs, rfl, e2, dz⟩ := dp_cons dz
        obtain ⟨z3, zs, rfl, e3, dz⟩ := dp_cons dz
        obtain rfl := dp_nil dz
        obtain rfl := dp_int e2
        obtain rfl := dp_int e3
        have epk : picks side (i : Int) (R.take (j + 1)) = picks side (i : Int) (R.take j) ++ (if (r.fly.come == (i : Int) && r.fly.side == side) = true then [r] else []) := by
          unfold picks
          rw [List.take_add_one, er, Option.toList_some, List.filter_append, List.filter_cons, List.filter_nil]
        have skip : (r.fly.come == (i : Int) && r.fly.side == side) = false → picks side (i : Int) (R.take (j + 1)) = picks side (i : Int) (R.take j) := fun e => by
          rw [epk, e]
          simp
        refine ⟨_, rfl, t, _, _, _, rfl, rfl, ht, atI_nat (j := 0) rfl, _, rfl, rfl, _, rfl, ?_⟩
        by_cases h1 : r.fly.come = (i : Int)
        · refine ifT (decide_eq_true (by rw [h1]; simp)) ?_
          refine ⟨_, rfl, t, _, _, _, rfl, rfl, ht, atI_nat (j := 1) rfl, _, rfl, rfl, _, rfl, ?_⟩
          rw [way_eq]
          by_cases h2 : (r.fly.side == side) = true
          · refine ifT h2 ?_
            have take1 : picks side (i : Int) (R.take (j + 1)) = picks side (i : Int) (R.take j) ++ [r] := by
              rw [epk, h2, h1]
              simp
            have ef : ∀ f0, fedOf f0 (doneTo side i R ++ picks side (i : Int) (R.take (j + 1))) = fedOf f0 (doneTo side i R ++ picks side (i : Int) (R.take j)) + r.bk.size := fun f0 => by
              rw [take1, ← List.append_assoc, fedOf_app]
              rfl
            have ed : dueOf s.fed (doneTo side i R ++ picks side (i : Int) (R.take (j + 1))) = dueOf s.fed (doneTo side i R ++ picks side (i : Int) (R.take j)) ++ toldsOf r.bk (fedOf s.fed (doneTo side i R ++ picks side (i : Int) (R.take j))) := by
              rw [take1, ← List.append_assoc, dueOf_app]
              show _ ++ (toldsOf r.bk _ ++ []) = _
              rw [List.append_nil]
            rw [ef, ed]
            have hol : os.length ≤ 10000 := by
              have h3 := dp_len doj
              rw [List.length_map] at h3
              have h4 := dueOf_len (doneTo side i R ++ picks side (i : Int) (R.take j)) s.fed
              have h5 := done_le side i R
              rw [done_next, List.length_append] at h5
              have h6 : (picks side (i : Int) (R.take j)).length ≤ (picks side (i : Int) R).length := ((List.take_sublist j R).filter _).length_le
              rw [List.length_append] at h4
              omega
            generalize fedOf s.fed (doneTo side i R ++ picks side (i : Int) (R.take j)) = f0 at hbj ed ⊢
            generalize dueOf s.fed (doneTo side i R ++ picks side (i : Int) (R.take j)) = ts at doj ⊢
            refine ⟨_, rfl, t, _, _, _, rfl, rfl, ht, atI_nat (j := 2) rfl, t3, _, rfl, ht3, rfl, _, _, rfl, _, _, rfl, _, _, rfl, rfl, ?_⟩
            dsimp only
            refine seq_pick (fun σ' H' => ∃ v8, σ' = [some (.ref b), some (.ref p), some (.ref q), some (.int wh), some (.str (wayS side)), some (.ref o), some (.int (0 + (i : Nat))), some (.ref t), v8, some (.int r.bk.ahead), some (.int r.bk.size), none] ∧ Kp [b, o] H0 H' ∧
              H' b = some (.dK (bkS side rl f0 g)) ∧ LstD K H' o ((ts ++ toldsOf r.bk f0).map toldD)) ?_ fun tail => ?_
            · rintro σ' H' ⟨v8, rfl, k', hb', ho'⟩
              refine ⟨_, rfl, _, rfl, b, _, rfl, get_side hb', _, rfl, _, _, rfl, rfl, _, rfl, _, rfl, b, _, rfl, put_side hb', ?_⟩
              have kp : Kp [b] H' (upd H' b (.dK (bkS side rl (f0 + r.bk.size) g))) := Kp.put hb' rfl (by simp)
              exact ⟨_, _, _, _, rfl, k'.trans (kp.mono (by simp)), upd_same, ho'.kp kp.n (by simp [hbo.symm]) (flat_told _)⟩
            · cases htold : r.bk.told with
              | none =>
                have er0 : toldsOf r.bk f0 = [] := by unfold toldsOf; rw [htold]
                rw [htold] at e1
                obtain rfl := dp_non e1
                refine ⟨_, rfl, rfl, _, rfl, ifF (by rfl) ?_⟩
                refine tail _ _ ⟨_, rfl, kj, hbj, ?_⟩
                rw [er0, List.append_nil]
                exact ⟨os, hoj, doj⟩
              | some tk =>
                have er0 : toldsOf r.bk f0 = [tellOf tk (f0 + r.bk.ahead)] := by
                  have := tk_tolds tk r.bk.ahead r.bk.size f0
                  rw [← htold] at this
                  exact this
                rw [htold, tk_bt] at e1
                obtain ⟨t4, us, rfl, ht4, du⟩ := dp_tup e1
                have hul := dp_len du
                rw [tk_ne] at hul
                refine ⟨_, rfl, rfl, _, rfl, ifT (by rfl) ?_⟩
                refine ⟨_, rfl, .inl ⟨rfl, _, SqL.of hoj⟩, _, rfl, _, rfl, _, rfl, b, _, rfl, get_side hbj, _, rfl, _, _, rfl, rfl, sz (n := 1) (by decide), fun a na => ?_⟩
                have ka := Kn (o := .tup [.int (f0 + r.bk.ahead)]) na
                refine catA (Kp.sqT ka.n ht4) (SqT.of upd_same) (by rw [hul]; exact (by decide : (3 : Nat) ≤ 1000)) fun c H' kc hc => ?_
                have k2 := ka.trans kc
                have ho2 := k2.at_ hoj List.not_mem_nil
                refine ⟨o, os, _, rfl, rfl, ho2, Nat.lt_of_le_of_lt hol (by decide), ?_⟩
                have kp : Kp [o] H' (upd H' o (.lst (os ++ [.ref c]))) := Kp.put ho2 rfl (by simp)
                have kk : Kp [o] Hj (upd H' o (.lst (os ++ [.ref c]))) := (k2.mono fun _ h => absurd h List.not_mem_nil).trans kp
                refine tail _ _ ⟨_, rfl, kj.trans (kk.mono (by simp)), kk.at_ hbj (by simp [hbo]), os ++ [.ref c], upd_same, ?_⟩
                rw [er0, List.map_append, List.map_cons, List.map_nil, tk_told]
                exact dp_app (Kp.dpAll kk.n _ _ (flat_told ts) doj) (.cons (.tup (Kp.sqT kp.n hc) (dp_app (Kp.dpAll kk.n _ _ (flat_tk tk) du) (.cons (.int _) .nil))) .nil)
          · refine ifF (by simpa using h2) ?_
            have e := skip (by rw [show (r.fly.side == side) = false by simpa using h2, Bool.and_false])
            rw [e]
            exact ⟨_, _, _, _, rfl, kj, hbj, os, hoj, doj⟩
        · refine ifF (decide_eq_false fun z => h1 (by have := V.int.inj z; omega)) ?_
          have e := skip (by rw [show (r.fly.come == (i : Int)) = false by simp [h1], Bool.false_and])
          rw [e]
          exact ⟨_, _, _, _, rfl, kj, hbj, os, hoj, doj⟩
      · rintro σ Hj ⟨v7, v8, v9, v10, rfl, kj, hbj, hoj⟩
        rw [hrl', List.take_length, ← done_next] at hbj hoj
        exact ⟨_, _, _, _, _, rfl, kj, hbj, hoj⟩
    rintro σ Ha ⟨v6, v7, v8, v9, v10, rfl, ka, hba, hoa⟩
    -- what holds behind the loops
    have hdl := done_le side wh R
    have hdm : ∀ r ∈ doneTo side (wh + 1) R, RecOk s.kind r := fun r hr => hR r (done_mem hr)
    have hfo := fedOf_le (B := 1000) (doneTo side (wh + 1) R) s.fed (fun r hr => (hdm r hr).2.2.1.2.1) hfed.1 (by decide)
    have hdt := dueOf_ok (B := 100000000000) (doneTo side (wh + 1) R) s.fed (fun r hr => (hdm r hr).2.2.1) hfed.1 (by omega)
    have hdn := dueOf_len (doneTo side (wh + 1) R) s.fed
    obtain ⟨s', ef, hso', hat', hk', hf'⟩ := tells_all (doneTo side (wh + 1) R) (fun r hr => (hdm r hr).2.2.2) s hso hat rfl
    rw [← hf'] at hba hfo
    have hfl := flat_len (B := 900) (doneTo side (wh + 1) R) (fun r hr => (hdm r hr).2.1)
    generalize dueOf s.fed (doneTo side (wh + 1) R) = ts at hoa hdt hdn ef
    have eout : outOf side wh (R.map (·.fly)) = (doneTo side (wh + 1) R).map (·.fly) := (done_fly side wh R).symm
    have eflat : (outOf side wh (R.map (·.fly))).flatMap (·.seen) = (doneTo side (wh + 1) R).flatMap fun r => r.fly.seen := by
      rw [eout, List.flatMap_map]
    have kHa : Kp [b] H Ha := Kp.drop (ko.mono fun _ h => absurd h List.not_mem_nil) (ka.mono (by simp)) no
    have hrla := kHa.at_ hrl (by simp [hbrl.symm])
    have drsa := Kp.dpAll kHa.n _ _ (flat_recs R) drs
    -- the rows that stay
    refine ⟨_, rfl, b, _, rfl, get_rows hba, rl, rfl, ⟨_, SqL.of hrla⟩, fun D2 nD2 => lc_list (xs := rs) (fun j Hj => Kp [] Ha Hj ∧ ∃ zs, Hj D2 = some (.lst zs) ∧ zs.length ≤ j ∧ DpAll K Hj zs (((R.take j).filter fun r => !dueB side wh r.fly).map recD))
      ⟨Kp.new nD2, [], upd_same, Nat.le_refl _, .nil⟩ (fun j Hj _ h => SqL.of (h.1.at_ hrla List.not_mem_nil)) ?_ ?_⟩
    · rintro j x Hj hx ⟨kj, zs, hz, hzl, dz⟩
      obtain ⟨r, er, dr⟩ := rec_at (Kp.dpAll kj.n _ _ (flat_recs R) drsa) hx
      have hjl : j < rs.length := (List.getElem?_eq_some_iff.mp hx).1
      have dr0 := dr
      obtain ⟨t, ys, rfl, ht, dy⟩ := dp_tup dr
      obtain ⟨y1, ys, rfl, d1, dy⟩ := dp_cons dy
      obtain ⟨y2, ys, rfl, d2, dy⟩ := dp_cons dy
      obtain rfl := dp_int d1
      obtain rfl := dp_str d2
      have kD : Kp [D2] Hj (upd Hj D2 (.lst (zs ++ [.ref t]))) := Kp.put hz rfl (by simp)
      have goes : dueB side wh r.fly = false → ∃ zs', upd Hj D2 (.lst (zs ++ [.ref t])) D2 = some (.lst zs') ∧ zs'.length ≤ j + 1 ∧ DpAll K (upd Hj D2 (.lst (zs ++ [.ref t]))) zs' (((R.take (j + 1)).filter fun r => !dueB side wh r.fly).map recD) := fun e => by
        refine ⟨_, upd_same, by rw [List.length_append]; exact Nat.succ_le_succ hzl, ?_⟩
        rw [List.take_add_one, er, Option.toList_some, List.filter_append, List.filter_cons_of_pos (by rw [e]; rfl), List.map_append]
        exact dp_app (Kp.dpAll kD.n _ _ (flat_recs _) dz) (.cons (Kp.dp kD.n _ _ (flat_rec r) dr0) .nil)
      have stays : dueB side wh r.fly = true → ((R.take (j + 1)).filter fun r => !dueB side wh r.fly) = (R.take j).filter fun r => !dueB side wh r.fly := fun e => by
        rw [List.take_add_one, er, Option.toList_some, List.filter_append, List.filter_cons_of_neg (by rw [e]; decide)]
        simp
      refine ⟨rfl, _, rfl, t, _, _, _, rfl, rfl, ht, atI_nat (j := 1) rfl, _, rfl, rfl, _, rfl, ?_⟩
      rw [way_eq]
      by_cases h1 : (r.fly.side == side) = true
      · refine ifF (by rw [h1]; rfl) ?_
        refine ⟨_, rfl, t, _, _, _, rfl, rfl, ht, atI_nat (j := 0) rfl, _, rfl, _, _, rfl, rfl, _, rfl, ?_⟩
        by_cases h2 : r.fly.come ≤ wh
        · refine ifF (decide_eq_false (by omega)) ?_
          refine ⟨kj, zs, hz, Nat.le_succ_of_le hzl, ?_⟩
          rw [stays (by unfold dueB; rw [h1, decide_eq_true h2]; rfl)]
          exact dz
        · refine ifT (decide_eq_true (by omega)) ?_
          exact ⟨_, rfl, zs, hz, Nat.lt_of_le_of_lt (m := 100000) (by omega) (by decide), kj.fresh nD2, goes (by unfold dueB; rw [h1, decide_eq_false h2]; rfl)⟩
      · have h1' : (r.fly.side == side) = false := by simpa using h1
        refine ifT (by rw [h1']; rfl) ?_
        exact ⟨_, rfl, zs, hz, Nat.lt_of_le_of_lt (m := 100000) (by omega) (by decide), kj.fresh nD2, goes (by unfold dueB; rw [h1']; rfl)⟩
    rintro Hb ⟨kb, zs, hz, _, dz⟩
    rw [hrl', List.take_length] at dz
    have hbb := kb.at_ hba List.not_mem_nil
    refine ⟨_, rfl, b, _, rfl, put_rows hbb, ?_⟩
    have hbD : b ≠ D2 := ne_of_none hba nD2
    have kc : Kp [b] Hb (upd Hb b (.dK (bkS side D2 s'.fed g))) := Kp.put hbb rfl (by simp)
    have kHc : Kp [b] H (upd Hb b (.dK (bkS side D2 s'.fed g))) := (kHa.trans (kb.mono fun _ h => absurd h List.not_mem_nil)).trans kc
    have frD : Fr H D2 := (Fr.of nD2).back1 kHa.n hba (fun _ z => nomatch z)
    have hbc : upd Hb b (.dK (bkS side D2 s'.fed g)) b = some (.dK (bkS side D2 s'.fed g)) := upd_same
    have hzc := kc.at_ hz (by simp [hbD.symm])
    have dzc := Kp.dpAll kc.n _ _ (flat_recs _) dz
    have hoc : LstD K (upd Hb b (.dK (bkS side D2 s'.fed g))) o (ts.map toldD) := hoa.kp (kb.n.trans_to kc.n) (by simp [hbo.symm]) (flat_told ts)
    generalize upd Hb b (.dK (bkS side D2 s'.fed g)) = Hc at kc kHc hbc hzc dzc hoc ⊢
    -- the line
    obtain ⟨⟨dxp, hp⟩, hl⟩ := hs
    obtain ⟨⟨dxq, la, hq⟩, ⟨cs, hcl, dcl⟩, ⟨gs, hgl, hgn⟩, ⟨us, hul, dul⟩, hne⟩ := hL
    have hpb : p ≠ b := fun z => by rw [z, hb] at hp; cases hp
    have hqb : q ≠ b := fun z => by rw [z, hb] at hq; cases hq
    have hlb : l ≠ b := fun z => by rw [z, hb] at hl; cases hl
    have hclb : cl ≠ b := fun z => by rw [z, hb] at hcl; cases hcl
    have hglb : gl ≠ b := fun z => by rw [z, hb] at hgl; cases hgl
    have hulb : ul ≠ b := fun z => by rw [z, hb] at hul; cases hul
    have hpq : p ≠ q := fun z => by
      rw [z, hq] at hp
      have h1 := congrArg (fun o : Option HO => match o with | some (.ins _ _ fs) => fs.length | _ => 0) hp
      exact absurd h1 (by show ¬ (5 : Nat) = 6; decide)
    have hlp : l ≠ p := fun z => by rw [z, hp] at hl; cases hl
    have hlq : l ≠ q := fun z => by rw [z, hq] at hl; cases hl
    have hclp : cl ≠ p := fun z => by rw [z, hp] at hcl; cases hcl
    have hglp : gl ≠ p := fun z => by rw [z, hp] at hgl; cases hgl
    have hclq : cl ≠ q := fun z => by rw [z, hq] at hcl; cases hcl
    have hglq : gl ≠ q := fun z => by rw [z, hq] at hgl; cases hgl
    have hulq : ul ≠ q := fun z => by rw [z, hq] at hul; cases hul
    have hs : ScAt D H p l s := ⟨⟨dxp, hp⟩, hl⟩
    have hL : LineAt C K H q cl gl ul ds n (R.map (·.fly)) := ⟨⟨dxq, la, hq⟩, ⟨cs, hcl, dcl⟩, ⟨gs, hgl, hgn⟩, ⟨us, hul, dul⟩, hne⟩
    have hsc := hs.kpN kHc.n (by simp [hpb]) (by simp [hlb])
    have hLc := hL.kpN kHc.n (by simp [hqb]) (by simp [hclb]) (by simp [hglb]) (by simp [hulb])
    obtain ⟨dxp2, hpc⟩ := hsc.ob
    obtain ⟨dxq2, la2, hqc⟩ := hLc.ob
    have hTc := kHc.tabs hT
    refine ⟨_, rfl, p, dxp2, _, rfl, hpc, rfl, ?_⟩
    refine ⟨_, rfl, q, dxq2, _, rfl, hqc, rfl, _, rfl, _, rfl, rfl, rfl, q, cl, gl, ul, ds, n, R.map (·.fly), wh, side, rfl, hLc, hTc, ?_, by rw [List.length_map]; omega, ?_, fun t ul' Hd nul kd hTd hLd hsq => ?_⟩
    · intro f hf
      obtain ⟨r, hr, rfl⟩ := List.mem_map.mp hf
      exact (hR r hr).1
    · rw [eflat]
      refine Nat.le_trans hfl (Nat.le_trans (Nat.mul_le_mul_left 900 hdl) (by omega))
    rw [eflat] at hsq
    have hsd := hsc.kpN kd (by simp [hpq]) (by simp [hlq])
    have hlu : l ≠ ul' := ne_of_none hsc.li nul
    refine ⟨p, l, t, s, _, rfl, hsd, hso, hsq, Nat.le_trans hfl (Nat.le_trans (Nat.mul_le_mul_left 900 hdl) (by omega)), fun fl l' He nfl hl' ke hse hfle => ?_⟩
    rw [ef] at hse hfle
    dsimp only at hse hfle
    have frU : Fr H ul' := (Fr.of nul).back1 kHc.n hbc (fun _ z => nomatch z)
    have hlD : l ≠ D2 := frD.ne hl (fun _ z => nomatch z)
    have hlo : l ≠ o := ne_of_none hl no
    have hoD : o ≠ D2 := by
      obtain ⟨os, hos, _⟩ := hoa
      exact ne_of_none hos nD2
    have hoq : o ≠ q := (ne_of_none hq no).symm
    have hop : o ≠ p := (ne_of_none hp no).symm
    have hDq : D2 ≠ q := fun z => frD.ne hq (fun _ z => nomatch z) z.symm
    have hDp : D2 ≠ p := fun z => frD.ne hp (fun _ z => nomatch z) z.symm
    have hdD := kd.at_ hzc (by simp [hDq]) (fun _ z => nomatch z)
    have hDu : D2 ≠ ul' := ne_of_none hzc nul
    have hup : ul' ≠ p := fun z => frU.ne hp (fun _ z => nomatch z) z.symm
    have kcd : KpN [b, p, l, q] H Hd := (kHc.n.mono (by simp)).trans (kd.mono (by simp))
    have kce : KpN [b, p, l, q] H He := kcd.trans (ke.n.mono (by simp))
    have hod := hoc.kp kd (by simp [hoq]) (flat_told ts)
    have hoe := hod.kp ke.n (by simp [hop, hlo.symm]) (flat_told ts)
    have hbd := kd.at_ hbc (by simp [hqb.symm]) (fun _ z => nomatch z)
    have hbe := ke.at_ hbd (by simp [hpb.symm, hlb.symm])
    have hze := ke.at_ hdD (by simp [hDp, hlD.symm])
    have dze := Kp.dpAll ((kd.mono (l' := [p, l, q]) (by simp)).trans (ke.n.mono (by simp))) _ _ (flat_recs _) dzc
    have hLe := hLd.kpN ke.n (by simp [hpq.symm, hlq.symm]) (by simp [hclp, n2.symm]) (by simp [hglp, n3.symm]) (by simp [hup, hlu.symm])
    have smt := SmAll.tolds hdt
    have sml : Sm (.list (ts.map toldD)) 5 (5001 * ts.length) := Sm.lst smt
    have hwt : 5001 * ts.length ≤ 1000000 := by omega
    obtain ⟨os, hos, dos⟩ := hoe
    obtain ⟨fs, hfs, dfs⟩ := hfle
    refine ⟨_, rfl, _, _, _, _, true, rfl, .ty "list", .base (.lst hfs), k_same _ _ (by decide +kernel), _, rfl, ?_⟩
    refine ifF (by rfl) ?_
    obtain ⟨f1, f2, f3, f4⟩ := sml.fits (by decide) hwt
    refine ⟨_, rfl, fl, _, rfl, .lst (SqL.of hfs) dfs, f1, f2, f3, f4, _, rfl, o, _, rfl, .lst (SqL.of hos) dos, f1, f2, f3, f4, rfl, _, rfl, ?_⟩
    refine ifF (by rw [decide_eq_true rfl]; rfl) ?_
    obtain ⟨dxp3, hpe⟩ := hse.ob
    refine ⟨_, rfl, p, dxp3, _, rfl, hpe, rfl, p, l', s', rfl, hse, _, _, rfl, rfl, _, rfl, ?_⟩
    refine ifT (by rw [hat']; rfl) ?_
    refine ⟨_, rfl, p, dxp3, _, rfl, hpe, rfl, p, l', s', rfl, hse, _, rfl, _, rfl, b, _, rfl, get_side hbe, rfl, ?_⟩
    rw [decide_eq_true rfl]
    have frl : l' = l ∨ Fr H l' := hl'.imp id fun h => (Fr.of h).back (kHc.n.mono (l' := [b, q]) (by simp) |>.trans (kd.mono (by simp))) fun c hc => by
      rcases List.mem_cons.mp hc with rfl | hc
      · exact ⟨_, hbd, fun _ z => nomatch z⟩
      · obtain ⟨dx, la, h⟩ := hLd.ob
        rw [List.mem_singleton.mp hc]
        exact ⟨_, h, fun _ z => nomatch z⟩
    have hlD' : l' ≠ D2 := hl'.elim (fun z => by rw [z]; exact hlD) fun h => (ne_of_none hdD h).symm
    have hlu' : l' ≠ ul' := hl'.elim (fun z => by rw [z]; exact hlu) fun h => by
      obtain ⟨us', hus', _⟩ := hLd.un
      exact (ne_of_none hus' h).symm
    have hRf : (R.map (·.fly)).filter (fun f => !dueB side wh f) = (R.filter fun r => !dueB side wh r.fly).map (·.fly) := List.filter_map
    rw [hRf] at hLe
    refine qq He D2 ul' l' s' frD frU frl hDu hlD' hlu' kce (ke.tabs hTd) ⟨hbe, _, hze, dze⟩ hse hso' hat' hk' ⟨by omega, by omega⟩ hLe
end
end K38

namespace K38
open PySem PySem.Spec PyProof.Rows L2 LamX
/-- kinds of objects -/
def tag : HO → Nat
  | .lst _ => 0
  | .dK _ => 1
  | .tup _ => 2
  | .tbl _ => 3
  | .ins _ _ fs => 10 + fs.length
  | _ => 4
theorem ne_tag {H : Hp} {a b : Addr} {o u : HO} (e : H a = some o) (f : H b = some u) (h : tag o ≠ tag u) : a ≠ b := fun z => by
  rw [z, f] at e
  exact h (by rw [Option.some.inj e])
theorem flat_all_pk : ∀ ps : List Pk, flatAll (ps.map pkD) = true
  | [] => by simp [flatAll]
  | p :: ps => by simp [flatAll, flat_pkD, flat_all_pk ps]
theorem get_sc {H : Hp} {sd : Addr} {p : Bool → Addr} (b : Bool) (e : H sd = some (.dK [(.inr "g", .ref (p false)), (.inr "t", .ref (p true))])) : DGet H sd (.str (wayS b)) (some (.ref (p b))) := .inl ⟨_, .inr (wayS b), .inl e, rfl, by cases b <;> rfl⟩
def scK (pg pt : Addr) : List (Key × V) := [(.inr "g", .ref pg), (.inr "t", .ref pt)]
theorem book_any {K : PySem.W.Frag} {H : Hp} {b rl : Addr} {f : Bool → Int} {R : List Rec} (side : Bool) : BookAt K H b rl false (f false) (f true) R ↔ BookAt K H b rl side (f side) (f !side) R := by
  cases side
  · exact Iff.rfl
  · exact ⟨fun h => ⟨h.ob, h.ro⟩, fun h => ⟨h.ob, h.ro⟩⟩
/-- the law's things in the heap -/
structure LawSt (K : PySem.W.Frag) (C D Pt : Addr) (k : Nat) (pen pl dl ln cl gl sd bk : Addr) (p : Bool → Addr) (pks : List Pk) (ds : List Deed) (H : Hp) (bnd : Int) (ul rl : Addr) (l : Bool → Addr) (s : Bool → Sc) (n : Nat) (R : List Rec) (fs : List Fly) (B : Int) : Prop where
  pe : PenAt K H pen bnd
  pk : LstD K H pl (pks.map pkD)
  de : LstD K H dl (ds.map deedD)
  li : LineAt C K H ln cl gl ul ds n fs
  sc : H sd = some (.dK (scK (p false) (p true)))
  at_ : ∀ b, ScAt D H (p b) (l b) (s b)
  ok : ∀ b, ScOk (s b) ∧ (s b).at_ = none ∧ (s b).kind = k ∧ (0 ≤ (s b).fed ∧ (s b).fed ≤ B)
  bo : BookAt K H bk rl false (s false).fed (s true).fed R
  tb : Tabs [(Pt, lamName)] H
  re : ∀ r ∈ R, RecOk k r
  pp : p false ≠ p true
  sb : sd ≠ bk
  no : [pen, pl, dl, cl, gl, ul, rl, l false, l true].Nodup
def setB {α : Type} (f : Bool → α) (b : Bool) (x : α) : Bool → α := fun c => if c = b then x else f c
theorem setB_same {α : Type} (f : Bool → α) (b : Bool) (x : α) : setB f b x b = x := if_pos rfl
theorem setB_ne {α : Type} (f : Bool → α) {b c : Bool} (x : α) (h : c ≠ b) : setB f b x c = f c := if_neg h
section
variable {K : PySem.W.Frag} {C D Pt : Addr} {k : Nat} {pen pl dl ln cl gl sd bk : Addr} {p : Bool → Addr} {pks : List Pk} {ds : List Deed} {H : Hp} {bnd : Int} {ul rl : Addr} {l : Bool → Addr} {s : Bool → Sc} {n : Nat} {R : List Rec} {fs : List Fly} {B : Int}
theorem LawSt.mono (S : LawSt K C D Pt k pen pl dl ln cl gl sd bk p pks ds H bnd ul rl l s n R fs B) {bnd' B' : Int} (h1 : bnd ≤ bnd') (h2 : B ≤ B') : LawSt K C D Pt k pen pl dl ln cl gl sd bk p pks ds H bnd' ul rl l s n R fs B' :=
  ⟨S.pe.mono h1, S.pk, S.de, S.li, S.sc, S.at_, fun b => let ⟨a, b', c, d⟩ := S.ok b; ⟨a, b', c, d.1, Int.le_trans d.2 h2⟩, S.bo, S.tb, S.re, S.pp, S.sb, S.no⟩
/-- what changes only the pen and things not tracked -/
theorem LawSt.penKp {H1 : Hp} {bnd' : Int} (S : LawSt K C D Pt k pen pl dl ln cl gl sd bk p pks ds H bnd ul rl l s n R fs B) (kp : Kp [pen] H H1) (hp : PenAt K H1 pen bnd') : LawSt K C D Pt k pen pl dl ln cl gl sd bk p pks ds H1 bnd' ul rl l s n R fs B := by
  obtain ⟨sc, xs, a, d, epen, _⟩ := S.pe
  have no := S.no
  simp only [List.nodup_cons, List.mem_cons, not_or, List.not_mem_nil, not_false_eq_true, and_true, List.nodup_nil] at no
  obtain ⟨⟨a1, a2, a3, a4, a5, a6, a7, a8⟩, _⟩ := no
  obtain ⟨⟨dx, la, h1⟩, _⟩ := S.li
  have hl : ln ≠ pen := ne_tag h1 epen (by simp [tag])
  have hs : sd ≠ pen := ne_tag S.sc epen (by simp [tag])
  have hb : bk ≠ pen := ne_tag S.bo.ob epen (by simp [tag])
  have hpb : ∀ b, p b ≠ pen := fun b => by
    obtain ⟨dx, h⟩ := (S.at_ b).ob
    exact ne_tag h epen (by simp [tag])
  have hlb : ∀ b, l b ≠ pen := fun b => by cases b <;> first | exact Ne.symm a7 | exact Ne.symm a8
  refine ⟨hp, S.pk.kp kp.n (by simp [Ne.symm a1]) (flat_all_pk pks), S.de.kp kp.n (by simp [Ne.symm a2]) (flat_deeds ds), S.li.kpN kp.n (by simp [hl]) (by simp [Ne.symm a3]) (by simp [Ne.symm a4]) (by simp [Ne.symm a5]), kp.at_ S.sc (by simp [hs]),
    fun b => (S.at_ b).kpN kp.n (by simp [hpb b]) (by simp [hlb b]), S.ok, ⟨kp.at_ S.bo.ob (by simp [hb]), S.bo.ro.kp kp.n (by simp [Ne.symm a6]) (flat_recs R)⟩, kp.tabs S.tb, S.re, S.pp, S.sb, S.no⟩
/-- what changes nothing that is tracked -/
theorem LawSt.kp {H1 : Hp} (S : LawSt K C D Pt k pen pl dl ln cl gl sd bk p pks ds H bnd ul rl l s n R fs B) (kp : Kp [] H H1) : LawSt K C D Pt k pen pl dl ln cl gl sd bk p pks ds H1 bnd ul rl l s n R fs B :=
  S.penKp (kp.mono fun _ h => absurd h List.not_mem_nil) (S.pe.kp kp.n List.not_mem_nil)
/-- a packet put on the line -/
theorem LawSt.put {H1 : Hp} {n' : Nat} {fs' : List Fly} (S : LawSt K C D Pt k pen pl dl ln cl gl sd bk p pks ds H bnd ul rl l s n R fs B) (kp : Kp [ln, gl, ul] H H1) (L : LineAt C K H1 ln cl gl ul ds n' fs') : LawSt K C D Pt k pen pl dl ln cl gl sd bk p pks ds H1 bnd ul rl l s n' R fs' B := by
  have no := S.no
  simp only [List.nodup_cons, List.mem_cons, not_or, List.not_mem_nil, not_false_eq_true, and_true, List.nodup_nil] at no
  obtain ⟨⟨a1, a2, a3, a4, a5, a6, a7, a8⟩, ⟨b1, b2, b3, b4, b5, b6, b7⟩, ⟨c1, c2, c3, c4, c5, c6⟩, ⟨d1, d2, d3, d4, d5⟩, ⟨e1, e2, e3, e4⟩, ⟨f1, f2, f3⟩, ⟨g1, g2⟩, h1⟩ := no
  obtain ⟨sc0, xs0, a0, d0, epen, _⟩ := id S.pe
  obtain ⟨vpl, epl, dpl⟩ := id S.pk
  obtain ⟨vdl, edl, ddl⟩ := id S.de
  obtain ⟨⟨dx, la, eln⟩, ⟨vcl, ecl, dcl⟩, ⟨vgl, egl, _⟩, ⟨vul, eul, _⟩, _⟩ := id S.li
  obtain ⟨hbk, ⟨vrl, erl, drl⟩⟩ := id S.bo
  have ll : ∀ {a : Addr} {vs : List V}, H a = some (.lst vs) → a ≠ ln := fun e => ne_tag e eln (by simp only [tag]; omega)
  have hp : ∀ b, p b ∉ [ln, gl, ul] := fun b => by
    obtain ⟨dxb, h⟩ := (S.at_ b).ob
    have h1 := ne_tag h eln (by simp [tag, scF, liF])
    have h2 := ne_tag h egl (by simp only [tag]; omega)
    have h3 := ne_tag h eul (by simp only [tag]; omega)
    simp [h1, h2, h3]
  have hl : ∀ b, l b ∉ [ln, gl, ul] := fun b => by
    have h1 := ll (S.at_ b).li
    cases b
    · simp [h1, Ne.symm e3, Ne.symm f2]
    · simp [h1, Ne.symm e4, Ne.symm f3]
  have hs : sd ∉ [ln, gl, ul] := by
    have h1 := ne_tag S.sc eln (by simp only [tag]; omega)
    have h2 := ne_tag S.sc egl (by simp [tag])
    have h3 := ne_tag S.sc eul (by simp [tag])
    simp [h1, h2, h3]
  have hb : bk ∉ [ln, gl, ul] := by
    have h1 := ne_tag hbk eln (by simp only [tag]; omega)
    have h2 := ne_tag hbk egl (by simp [tag])
    have h3 := ne_tag hbk eul (by simp [tag])
    simp [h1, h2, h3]
  exact ⟨S.pe.kp kp.n (by simp [ll epen, a4, a5]), S.pk.kp kp.n (by simp [ll epl, b3, b4]) (flat_all_pk pks), S.de.kp kp.n (by simp [ll edl, c2, c3]) (flat_deeds ds), L, kp.at_ S.sc hs, fun b => (S.at_ b).kpN kp.n (hp b) (hl b), S.ok,
    ⟨kp.at_ S.bo.ob hb, S.bo.ro.kp kp.n (by simp [ll erl, Ne.symm e2, Ne.symm f1]) (flat_recs R)⟩, kp.tabs S.tb, S.re, S.pp, S.sb, S.no⟩
/-- the book's rows -/
theorem LawSt.row {H1 : Hp} {R' : List Rec} (S : LawSt K C D Pt k pen pl dl ln cl gl sd bk p pks ds H bnd ul rl l s n R fs B) (kp : Kp [rl] H H1) (hr : LstD K H1 rl (R'.map recD)) (ho : ∀ r ∈ R', RecOk k r) : LawSt K C D Pt k pen pl dl ln cl gl sd bk p pks ds H1 bnd ul rl l s n R' fs B := by
  have no := S.no
  simp only [List.nodup_cons, List.mem_cons, not_or, List.not_mem_nil, not_false_eq_true, and_true, List.nodup_nil] at no
  obtain ⟨⟨a1, a2, a3, a4, a5, a6, a7, a8⟩, ⟨b1, b2, b3, b4, b5, b6, b7⟩, ⟨c1, c2, c3, c4, c5, c6⟩, ⟨d1, d2, d3, d4, d5⟩, ⟨e1, e2, e3, e4⟩, ⟨f1, f2, f3⟩, ⟨g1, g2⟩, h1⟩ := no
  obtain ⟨vrl, erl, drl⟩ := id S.bo.ro
  obtain ⟨⟨dx, la, eln⟩, _⟩ := id S.li
  have hp : ∀ b, p b ∉ [rl] := fun b => by
    obtain ⟨dxb, h⟩ := (S.at_ b).ob
    have h1 := ne_tag h erl (by simp only [tag]; omega)
    simp [h1]
  have hl : ∀ b, l b ∉ [rl] := fun b => by
    cases b
    · simp [Ne.symm g1]
    · simp [Ne.symm g2]
  have hs := ne_tag S.sc erl (by simp [tag])
  have hb := ne_tag S.bo.ob erl (by simp [tag])
  have hn := ne_tag eln erl (by simp only [tag]; omega)
  exact ⟨S.pe.kp kp.n (by simp [a6]), S.pk.kp kp.n (by simp [b5]) (flat_all_pk pks), S.de.kp kp.n (by simp [c4]) (flat_deeds ds), S.li.kpN kp.n (by simp [hn]) (by simp [d3]) (by simp [e2]) (by simp [f1]), kp.at_ S.sc (by simp [hs]), fun b => (S.at_ b).kpN kp.n (hp b) (hl b), S.ok,
    ⟨kp.at_ S.bo.ob (by simp [hb]), hr⟩, kp.tabs S.tb, ho, S.pp, S.sb, S.no⟩
/-- heard, as a step of the law -/
theorem LawSt.heard {Q : VK} (S : LawSt K C D Pt k pen pl dl ln cl gl sd bk p pks ds H bnd ul rl l s n R (R.map (·.fly)) B) (side : Bool) {t : Int} (wh : Nat) (ht : t = wh) (hwh : wh ≤ 1000000) (hR : R.length ≤ 100) (hB : B ≤ 10000000000)
    (q : ∀ H' ul' rl' l' s', (∀ a xs, H a = some (.tup xs) → H' a = some (.tup xs)) → LawSt K C D Pt k pen pl dl ln cl gl sd bk p pks ds H' bnd ul' rl' l' s' n (R.filter fun r => !dueB side wh r.fly) ((R.filter fun r => !dueB side wh r.fly).map (·.fly)) (B + 100000) → Q (.bl true) H') :
    sp__law_heard K C D Pt [.ref bk, .ref (p side), .ref ln, .int t, .str (wayS side)] H Q E0 := by
  subst ht
  have no := S.no
  obtain ⟨sc0, xs0, a0, d0, epen, _⟩ := S.pe
  obtain ⟨vpl, epl, dpl⟩ := S.pk
  obtain ⟨vdl, edl, ddl⟩ := S.de
  have hL := S.li
  obtain ⟨⟨dx, la, eln⟩, ⟨vcl, ecl, dcl⟩, ⟨vgl, egl, _⟩, ⟨vul, eul, _⟩, _⟩ := S.li
  have hat := S.at_
  obtain ⟨hbk, ⟨vrl, erl, drl⟩⟩ := S.bo
  have hsd := S.sc
  have ep : ∀ b, ∃ dx, H (p b) = some (.ins D dx (scF (s b) (l b))) := fun b => (hat b).ob
  have el : ∀ b, H (l b) = some (.lst ((s b).signs.map .int)) := fun b => (hat b).li
  have hne : p side ≠ p !side := by
    cases side
    · exact S.pp
    · exact S.pp.symm
  have hls : ∀ b, l b ≠ pen ∧ l b ≠ pl ∧ l b ≠ dl ∧ l b ≠ cl ∧ l b ≠ gl ∧ l b ≠ ul ∧ l b ≠ rl := fun b => by
    simp only [List.nodup_cons, List.mem_cons, not_or, List.not_mem_nil, not_false_eq_true, and_true, List.nodup_nil] at no
    obtain ⟨⟨a1, a2, a3, a4, a5, a6, a7, a8⟩, ⟨b1, b2, b3, b4, b5, b6, b7⟩, ⟨c1, c2, c3, c4, c5, c6⟩, ⟨d1, d2, d3, d4, d5⟩, ⟨e1, e2, e3, e4⟩, ⟨f1, f2, f3⟩, ⟨g1, g2⟩, h1⟩ := no
    cases b
    · exact ⟨Ne.symm a7, Ne.symm b6, Ne.symm c5, Ne.symm d4, Ne.symm e3, Ne.symm f2, Ne.symm g1⟩
    · exact ⟨Ne.symm a8, Ne.symm b7, Ne.symm c6, Ne.symm d5, Ne.symm e4, Ne.symm f3, Ne.symm g2⟩
  have hll : l side ≠ l !side := by
    simp only [List.nodup_cons, List.mem_cons, not_or, List.not_mem_nil, not_false_eq_true, and_true, List.nodup_nil] at no
    cases side
    · exact no.2.2.2.2.2.2.2
    · exact Ne.symm no.2.2.2.2.2.2.2
  obtain ⟨o1, o2, o3, o4⟩ := S.ok side
  obtain ⟨hl1, hl2, hl3, hl4, hl5, hl6, hl7⟩ := hls side
  refine ⟨bk, p side, ln, rl, l side, cl, gl, ul, s side, ds, n, R, wh, side, (s !side).fed, rfl, (book_any (f := fun b => (s b).fed) side).mp S.bo, hat side, o1, o2, hL, S.tb, ?_, hR, ⟨o4.1, Int.le_trans o4.2 hB⟩, hwh, ⟨hl7, hl4, hl5, hl6⟩,
    fun H' rl' ul' l' s' fr fu fl nru nlr nlu kp tb' bk' sc' ok' at' ki' fd' li' => ?_⟩
  · rw [o3]
    exact S.re
  obtain ⟨dxp, eps⟩ := ep side
  obtain ⟨dxq, epo⟩ := ep (!side)
  -- what heard may change: the book, one scanner and its list, the line
  have out : ∀ {a : Addr} {vs : List V}, H a = some (.lst vs) → a ≠ l side → a ∉ [bk, p side, l side, ln] := fun {a vs} e h => by
    have h1 := ne_tag e hbk (by simp [tag])
    have h2 := ne_tag e eps (by simp only [tag]; omega)
    have h3 := ne_tag e eln (by simp only [tag]; omega)
    simp [h1, h2, h3, h]
  have opo : p (!side) ∉ [bk, p side, l side, ln] := by
    have h1 := ne_tag epo hbk (by simp [tag]; omega)
    have h2 := ne_tag epo (el side) (by simp [tag])
    have h3 := ne_tag epo eln (by simp [tag, scF, liF])
    simp [h1, h2, h3, hne.symm]
  have osd : sd ∉ [bk, p side, l side, ln] := by
    have h1 := S.sb
    have h2 := ne_tag hsd eps (by simp [tag]; omega)
    have h3 := ne_tag hsd (el side) (by simp [tag])
    have h4 := ne_tag hsd eln (by simp [tag]; omega)
    simp [h1, h2, h3, h4]
  have hlo := hls (!side)
  have frl : l' ≠ pen ∧ l' ≠ pl ∧ l' ≠ dl ∧ l' ≠ cl ∧ l' ≠ gl ∧ l' ≠ l (!side) := by
    rcases fl with rfl | fl
    · exact ⟨hl1, hl2, hl3, hl4, hl5, hll⟩
    · exact ⟨(fl.ne epen fun _ z => nomatch z).symm, (fl.ne epl fun _ z => nomatch z).symm, (fl.ne edl fun _ z => nomatch z).symm, (fl.ne ecl fun _ z => nomatch z).symm, (fl.ne egl fun _ z => nomatch z).symm, (fl.ne (el !side) fun _ z => nomatch z).symm⟩
  refine q H' ul' rl' (setB l side l') (setB s side s') (fun a xs e => kp a _ e (fun _ z => nomatch z) fun _ => rfl) ⟨S.pe.kp kp (out epen hl1.symm), S.pk.kp kp (out epl hl2.symm) (flat_all_pk pks), S.de.kp kp (out edl hl3.symm) (flat_deeds ds), li', kp.at_ hsd osd (fun _ z => nomatch z), fun b => ?_, fun b => ?_, ?_, tb', fun r hr => S.re r (List.mem_filter.mp hr).1, S.pp, S.sb, ?_⟩
  · by_cases e : b = side
    · subst e
      rw [setB_same, setB_same]
      exact sc'
    · have e2 : b = !side := by cases b <;> cases side <;> first | rfl | exact absurd rfl e
      subst e2
      rw [setB_ne _ _ e, setB_ne _ _ e]
      exact (hat _).kpN kp opo (out (el _) hll.symm)
  · by_cases e : b = side
    · subst e
      rw [setB_same]
      exact ⟨ok', at', ki'.trans o3, fd'.1, by omega⟩
    · rw [setB_ne _ _ e]
      obtain ⟨z1, z2, z3, z4⟩ := S.ok b
      exact ⟨z1, z2, z3, z4.1, by omega⟩
  · refine (book_any (f := fun b => (setB s side s' b).fed) side).mpr ?_
    rw [setB_same, setB_ne _ _ (by cases side <;> decide)]
    exact bk'
  · simp only [List.nodup_cons, List.mem_cons, not_or, List.not_mem_nil, not_false_eq_true, and_true, List.nodup_nil] at no ⊢
    obtain ⟨⟨a1, a2, a3, a4, a5, a6, a7, a8⟩, ⟨b1, b2, b3, b4, b5, b6, b7⟩, ⟨c1, c2, c3, c4, c5, c6⟩, ⟨d1, d2, d3, d4, d5⟩, ⟨e1, e2, e3, e4⟩, ⟨f1, f2, f3⟩, ⟨g1, g2⟩, h1⟩ := no
    have nt : ∀ {vs : List V} (ps : Array Value), HO.lst vs ≠ .tbl ps := fun _ z => nomatch z
    obtain ⟨x1, x2, x3, x4, x5, x6⟩ := frl
    have u1 := fu.ne epen nt
    have u2 := fu.ne epl nt
    have u3 := fu.ne edl nt
    have u4 := fu.ne ecl nt
    have u5 := fu.ne egl nt
    have u6 := fu.ne (el (!side)) nt
    have r1 := fr.ne epen nt
    have r2 := fr.ne epl nt
    have r3 := fr.ne edl nt
    have r4 := fr.ne ecl nt
    have r5 := fr.ne egl nt
    have r6 := fr.ne (el (!side)) nt
    cases side
    · simp only [setB_same, setB_ne l l' (show true ≠ false by decide)] at *
      exact ⟨⟨a1, a2, a3, a4, u1, r1, x1.symm, a8⟩, ⟨b1, b2, b3, u2, r2, x2.symm, b7⟩, ⟨c1, c2, u3, r3, x3.symm, c6⟩, ⟨d1, u4, r4, x4.symm, d5⟩, ⟨u5, r5, x5.symm, e4⟩, ⟨nru.symm, nlu.symm, u6.symm⟩, ⟨nlr.symm, r6.symm⟩, x6⟩
    · simp only [setB_same, setB_ne l l' (show false ≠ true by decide)] at *
      exact ⟨⟨a1, a2, a3, a4, u1, r1, a7, x1.symm⟩, ⟨b1, b2, b3, u2, r2, b6, x2.symm⟩, ⟨c1, c2, u3, r3, c5, x3.symm⟩, ⟨d1, u4, r4, d4, x4.symm⟩, ⟨u5, r5, e3, x5.symm⟩, ⟨nru.symm, u6.symm, nlu.symm⟩, ⟨r6.symm, nlr.symm⟩, x6.symm⟩
end
/-! ### what is put down for a packet -/
def newsOf (d : Deed) (p : Pk) (turn : Int) (side : Bool) (xs : List Int) : List Rec := (rowsOf d p xs.length).map fun b => ⟨flyOf d turn side xs, b⟩
theorem news_fly (d : Deed) (p : Pk) (turn : Int) (side : Bool) (xs : List Int) : (newsOf d p turn side xs).map (·.fly) = List.replicate (timesOf d) (flyOf d turn side xs) := by cases d <;> rfl
theorem news_len (d : Deed) (p : Pk) (turn : Int) (side : Bool) (xs : List Int) : (newsOf d p turn side xs).length ≤ 2 := by cases d <;> simp [newsOf, rowsOf]
theorem late_bd {late : Int} {d : Deed} (h : DeedOk late d) (hl : 0 ≤ late) : 0 ≤ lateOf d ∧ lateOf d ≤ late := by
  cases d with
  | late t =>
    have h : 1 ≤ t ∧ t ≤ late := h
    exact ⟨show (0 : Int) ≤ t by omega, h.2⟩
  | _ => exact ⟨Int.le_refl 0, hl⟩
theorem news_ok {late turn : Int} {d : Deed} {p : Pk} {k : Nat} {side : Bool} (hd : DeedOk late d) (hl : 0 ≤ late) (hp : PkOk p) (hk : 1 ≤ k ∧ k ≤ 3) (ht : 0 ≤ turn) : ∀ r ∈ newsOf d p turn side (putAs p k), RecOk k r ∧ r.fly.come ≤ turn + late + 1 := by
  intro r hr
  obtain ⟨b, hb, rfl⟩ := List.mem_map.mp hr
  have h1 := late_bd hd hl
  have h2 := tells_deed hp hk hd b hb
  have h3 := put_len hk.1 hp
  have h4 := checkOf_le (c := p.let_) hk
  have h5 := hp.len
  have hg : 0 ≤ goesOf side ∧ goesOf side ≤ 1 := by cases side <;> exact ⟨by decide, by decide⟩
  refine ⟨⟨?_, ?_, ?_, h2⟩, ?_⟩
  · show 0 ≤ turn + goesOf side + lateOf d
    omega
  · show (seenOf d (putAs p k)).length ≤ 900
    cases d with
    | spoil pl by_ =>
      show (spoilAt _ _ _).length ≤ 900
      rw [spoilAt_len _ _ (by omega)]
      omega
    | add xs =>
      have hd : (1 ≤ xs.length ∧ xs.length ≤ 8) ∧ _ := hd
      show (xs ++ putAs p k).length ≤ 900
      rw [List.length_append]
      omega
    | _ => exact (show (putAs p k).length ≤ 900 by omega)
  · have good : BkOk ⟨some (some p), 0, ((putAs p k).length : Nat)⟩ := ⟨⟨(by decide : (0 : Int) ≤ 0), (by decide : (0 : Int) ≤ 1000)⟩, ⟨show (0 : Int) ≤ ((putAs p k).length : Nat) by omega, show ((putAs p k).length : Int) ≤ 1000 by omega⟩, fun q e => by cases e; exact hp⟩
    cases d with
    | spoil pl by_ =>
      rw [List.mem_singleton.mp hb]
      refine ⟨⟨(by decide : (0 : Int) ≤ 0), (by decide : (0 : Int) ≤ 1000)⟩, ⟨show (0 : Int) ≤ ((putAs p k).length : Nat) by omega, show ((putAs p k).length : Int) ≤ 1000 by omega⟩, fun q e => ?_⟩
      dsimp only at e
      split at e <;> cases e
    | add xs =>
      have hd : (1 ≤ xs.length ∧ xs.length ≤ 8) ∧ _ := hd
      rw [List.mem_singleton.mp hb]
      exact ⟨⟨show (0 : Int) ≤ (xs.length : Nat) by omega, show (xs.length : Int) ≤ 1000 by omega⟩, ⟨show (0 : Int) ≤ ((putAs p k).length : Nat) + (xs.length : Nat) by omega, show ((putAs p k).length : Int) + (xs.length : Nat) ≤ 1000 by omega⟩, fun q e => by cases e; exact hp⟩
    | drop => exact absurd hb List.not_mem_nil
    | twice =>
      have hb : b ∈ [(⟨some (some p), 0, ((putAs p k).length : Nat)⟩ : Bk), ⟨some (some p), 0, ((putAs p k).length : Nat)⟩] := hb
      have e : b = ⟨some (some p), 0, ((putAs p k).length : Nat)⟩ := by simpa using hb
      rw [e]
      exact good
    | pass => rw [List.mem_singleton.mp hb]; exact good
    | late t => rw [List.mem_singleton.mp hb]; exact good
  · show turn + goesOf side + lateOf d ≤ turn + late + 1
    omega
theorem Sm.deed {late : Int} {d : Deed} (h : DeedOk late d) (hl : late ≤ 1000) : Sm (deedD d) 3 1000 := by
  have st : ∀ x : Str, (x.cps.toList.all fun c => decide (c < 16 ^ 8)) = true → x.cps.size ≤ 5 → Sm (.str x) 2 5 := fun x h1 h2 => Sm.str h1 h2
  cases d with
  | pass => exact (Sm.tup (n := 2) (SmAll.cons (st _ (by decide +kernel) (by decide +kernel)) (.nil (w := 0)))).mono (by decide) (by decide)
  | drop => exact (Sm.tup (n := 2) (SmAll.cons (st _ (by decide +kernel) (by decide +kernel)) (.nil (w := 0)))).mono (by decide) (by decide)
  | twice => exact (Sm.tup (n := 2) (SmAll.cons (st _ (by decide +kernel) (by decide +kernel)) (.nil (w := 0)))).mono (by decide) (by decide)
  | late t =>
    have h : 1 ≤ t ∧ t ≤ late := h
    exact (Sm.tup (n := 2) (SmAll.cons (st _ (by decide +kernel) (by decide +kernel)) (SmAll.cons (Sm.int (by omega) (by omega) (by decide)) (.nil (w := 0))))).mono (by decide) (by decide)
  | spoil pl by_ =>
    have h : (0 ≤ pl ∧ pl ≤ 200) ∧ 1 ≤ by_ ∧ by_ ≤ 94 := h
    exact (Sm.tup (n := 2) (SmAll.cons (st _ (by decide +kernel) (by decide +kernel)) (SmAll.cons (Sm.int (by omega) (by omega) (by decide)) (SmAll.cons (Sm.int (by omega) (by omega) (by decide)) (.nil (w := 0)))))).mono (by decide) (by decide)
  | add xs =>
    have h : (1 ≤ xs.length ∧ xs.length ≤ 8) ∧ ∀ x ∈ xs, (0 ≤ x ∧ x ≤ 255) ∧ x ≠ 1 ∧ x ≠ 2 := h
    have hi : SmAll (xs.map .int) 1 (41 * xs.length) := SmAll.ints (fun x hx => by
      have := (h.2 x hx).1
      omega) (by decide)
    exact (Sm.tup (n := 2) (SmAll.cons (st _ (by decide +kernel) (by decide +kernel)) (SmAll.cons (Sm.tup hi) (.nil (w := 0))))).mono (by decide) (by omega)
end K38

namespace K38
open PySem PySem.Spec PyProof.Rows L2 LamX
section
variable {P : Program} {w : World} {K : PySem.W.Frag} {mg : Str → Option Value} {base : Heap} {C D : Addr}
theorem LstD.ne {H : Hp} {a l : Addr} {ds : List PyData} (h : LstD K H a ds) (n : H l = none) : a ≠ l := by
  obtain ⟨xs, e, _⟩ := h
  exact ne_of_none e n
theorem tnil {σ : L2.St} {H : Hp} {Q : List V → Hp → Prop} (h : Q [] H) : tNil σ H Q := h
theorem flat_bks : ∀ bs : List Bk, flatAll (bs.map bkD) = true
  | [] => by simp [flatAll]
  | b :: bs => by simp [flatAll, flat_bk, flat_bks bs]
/-! ### the pen -/
def sp__law_pen (K : PySem.W.Frag) : Sp := fun vs H Q _ => ∃ (sc : Addr) (xs : List Int), vs = [.ref sc] ∧ FrL K H sc (xs.map .int) ∧ ∀ pen H', Kp [] H H' → PenAt K H' pen 0 → Q (.ref pen) H'
theorem ok__law_pen {f : Addr} {fd : FuncData} (F : Fun K "_law_pen" "_law_pen" s__law_pen f fd) (T : Txt K mg C D) : FnOk P w K mg base CX0 1 f fd pr__law_pen (sp__law_pen K) := by
  have nd := sc__law_pen.nd
  refine F.ok sc__law_pen (fun vs H Q E h => ?_) (fun cdv A outer s H vs Q E hr h => ?_)
  · obtain ⟨sc, xs, rfl, _⟩ := h
    rfl
  · obtain ⟨sc, xs, rfl, hs, q⟩ := h
    refine ⟨_, (pss_one (ps_ret (pe_lst (pa_cons (pv 0) (pa_cons pe_int (pa_cons pe_int pa_nil)))))), ?_⟩
    exact ⟨_, rfl, sz (n := 3) (by decide), fun a na => q a _ (Kn na) ⟨sc, xs, 0, 0, upd_same, ⟨Int.le_refl 0, Int.le_refl 0⟩, Int.le_refl 0, hs.kp (Kn na).n⟩⟩
/-! ### the law -/
def sp_law (K : PySem.W.Frag) (Pt : Addr) : Sp := fun vs H Q _ => ∃ (sc : Addr) (xs : List Int), vs = [.ref sc] ∧ FrL K H sc (xs.map .int) ∧ Tabs [(Pt, lamName)] H ∧ ∀ H', Q (.bl true) H'
theorem ok_law {f : Addr} {fd : FuncData} {Pt : Addr} (F : Fun K "law" "law" s_law f fd) (T : Txt K mg C D) (c__law_pen : Cal P w K mg base 1 "_law_pen" (sp__law_pen K)) (c__law_draw : Cal P w K mg base 1 "_law_draw" (sp__law_draw K))
    (c__law_packet : Cal P w K mg base 3 "_law_packet" (sp__law_packet K)) (c__law_deed : Cal P w K mg base 3 "_law_deed" (sp__law_deed K)) (k_Line : MakK P w K mg base 5 "Line" C 1 ["late"] (sp_Line_init K C))
    (k_Scanner : MakK P w K mg base 1 "Scanner" D 0 ["kind"] (sp_Scanner_init D)) (c_put_as : CalK P w K mg base 3 "put_as" 1 ["kind"] (sp_put_as K)) (m_put : MetK P w K mg base 4 C "put" 1 ["turn", "way"] (sp_put K C))
    (c__law_rows : Cal P w K mg base 1 "_law_rows" (sp__law_rows K)) (c__law_heard : CalG P w K mg base 6 "_law_heard" (sp__law_heard K C D Pt)) : FnG P w K mg base 7 f fd pr_law (sp_law K Pt) := by
  have nd := sc_law.nd
  refine fnG_of F sc_law (fun vs H Q E h => ?_) (fun cdv A outer s0 H vs Q E hG hr h => ?_)
  · obtain ⟨sc, xs, rfl, _⟩ := h
    rfl
  · obtain ⟨sc, xs, rfl, hsc, hT, q⟩ := h
    have hu := hu_of hr
    have hu64 := hr.units
    refine ⟨_, (pss_cons (ps_set (i := 1) nd rfl (Or.inr rfl) (pcal c__law_pen hr (by decide) (pa_cons (pv 0) pa_nil)))
      (pss_cons (ps_set (i := 2) nd rfl (Or.inr rfl) (pe_ix ix_list (pe_lst (pa_cons pe_int (pa_cons pe_int (pa_cons pe_int (pa_cons pe_int (pa_cons (pcal c__law_draw hr (by decide) (pa_cons (pv 1) (pa_cons pe_int pa_nil))) pa_nil)))))) (pcal c__law_draw hr (by decide) (pa_cons (pv 1) (pa_cons pe_int pa_nil))) (fun _ _ => rfl)))
      (pss_cons (ps_set (i := 3) nd rfl (Or.inr rfl) (pe_op op_add pe_int (pcal c__law_draw hr (by decide) (pa_cons (pv 1) (pa_cons pe_int pa_nil)))))
      (pss_cons (ps_set (i := 5) nd rfl (Or.inr rfl) (pe_lc (own := [("_law_k", 4)]) (g := gName 4) rfl nd (pi_range1 (by rfl) T.z_range (pa_cons (pe_op op_add pe_int (pcal c__law_draw hr (by decide) (pa_cons (pv 1) (pa_cons pe_int pa_nil)))) pa_nil)) (blkOk_by (own := [("_law_k", 4)]) (N := nm_law) (sc := defScope s_law) (by decide +kernel)) (fun _ _ _ _ _ => pg_name (i := 4) nd rfl (Or.inl rfl)) (fun _ _ _ _ _ => pts_nil) (fun _ _ _ _ _ => (pcal c__law_packet hr (by decide) (pa_cons (pv 1) pa_nil)))))
      (pss_cons (ps_setLc (i := 6) (own := [("_law_k", 4)]) (g := gName 4) rfl nd rfl rfl (sw_true rfl rfl rfl (by decide +kernel)) (pi_range1 (by rfl) T.z_range (pa_cons (pcal c__law_draw hr (by decide) (pa_cons (pv 1) (pa_cons pe_int pa_nil))) pa_nil)) (blkOk_by (own := [("_law_k", 4)]) (N := nm_law) (sc := defScope s_law) (by decide +kernel)) (fun _ _ _ _ _ => pg_name (i := 4) nd rfl (Or.inl rfl)) (fun _ _ _ _ _ => pts_nil) (fun _ _ _ _ _ => (pcal c__law_deed hr (by decide) (pa_cons (pv 1) (pa_cons (pv 2) (pa_cons (pe_op op_add (pe_op op_add (pe_callB (call_lenK K rfl) (by rfl) T.z_len bt_len (pa_cons (pe_ix (ix_tupK K rfl) (pe_ix (ix_listK K rfl) (pv 5) pe_int (fun _ _ => rfl)) pe_int (fun _ _ => rfl)) pa_nil)) pe_int) (pv 3)) pa_nil))))))
      (pss_cons (ps_set (i := 7) nd rfl (Or.inl rfl) (pmakK k_Line hr (by decide) (pa_cons (pv 6) pa_nil) (pk_cons (pv 2) pk_nil)))
      (pss_cons (ps_set (i := 8) nd rfl (Or.inl rfl) (pe_disp (pps_cons pe_str (pmakK0 k_Scanner hr (by decide) (pk_cons (pv 3) pk_nil)) (pps_cons pe_str (pmakK0 k_Scanner hr (by decide) (pk_cons (pv 3) pk_nil)) pps_nil)) (by rfl) (by rfl) (fun z => by cases z) (by decide)))
      (pss_cons (ps_set (i := 9) nd rfl (Or.inl rfl) (pe_disp (pps_cons pe_str (pe_lst pa_nil) (pps_cons pe_str pe_int (pps_cons pe_str pe_int pps_nil))) (by rfl) (by rfl) (fun z => by cases z) (by decide)))
      (pss_cons (ps_set (i := 10) nd rfl (Or.inl rfl) pe_int)
      (pss_cons (ps_for PassesOwn.never rfl (pi_range1 (by rfl) T.z_range (pa_cons (pe_callB call_len_seq (by rfl) T.z_len bt_len (pa_cons (pv 5) pa_nil)) pa_nil)) (pg_name (i := 4) nd rfl (Or.inl rfl)) (pss_cons (ps_set (i := 11) nd rfl (Or.inl rfl) (pe_ix ix_list (pv 5) (pe_ix ix_list (pe_lst (pa_cons (pv 4) (pa_cons pe_int pa_nil))) (pe_callTy call_int1 (by rfl) T.z_int bt_int (pa_cons (pe_cmpR op_eq (pcal c__law_draw hr (by decide) (pa_cons (pv 1) (pa_cons pe_int pa_nil))) pe_int (nomark _)) pa_nil)) (fun _ _ => rfl)) (fun _ _ => rfl)))
        (pss_cons (ps_set (i := 12) nd rfl (Or.inl rfl) (pe_ix ix_list (pe_lst (pa_cons pe_str (pa_cons pe_str pa_nil))) (pcal c__law_draw hr (by decide) (pa_cons (pv 1) (pa_cons pe_int pa_nil))) (fun _ _ => rfl)))
        (pss_cons (ps_set (i := 13) nd rfl (Or.inl rfl) (pcalK c_put_as hr (by decide) (pa_cons (pv 11) pa_nil) (pk_cons (pv 3) pk_nil)))
        (pss_cons (ps_set (i := 14) nd rfl (Or.inl rfl) (pmetK m_put hr (by decide) (pv 7) (pa_cons (pv 13) pa_nil) (pk_cons (pv 10) (pk_cons (pv 12) pk_nil))))
        (pss_cons (ps_if (pt_cmpR op_ne (pe_callB (cr_repr hG hu64) (by rfl) T.z_repr bt_repr (pa_cons (pv 14) pa_nil)) (pe_callB (cr_repr hG hu64) (by rfl) T.z_repr bt_repr (pa_cons (pe_ix ix_list (pe_op op_cat (pv 6) (pe_op op_rep (pe_lst (pa_cons (pe_tup (pa_cons pe_str pa_nil)) pa_nil)) (pe_op op_add (pv 4) pe_int))) (pv 4) (fun _ _ => rfl)) pa_nil)) (nomark _)) (pss_one (ps_ret pe_bl)) pss_nil)
        (pss_cons (ps_set (i := 15) nd rfl (Or.inl rfl) (pe_op op_add (pv 10) (pe_callTy call_int1 (by rfl) T.z_int bt_int (pa_cons (pe_cmpR op_eq (pv 12) pe_str (nomark _)) pa_nil))))
        (pss_cons (ps_if (pt_cmpR op_eq (pe_ix ix_tup (pv 14) pe_int (fun _ _ => rfl)) pe_str (nomark _)) (pss_one (ps_set (i := 15) nd rfl (Or.inl rfl) (pe_op op_add (pv 15) (pe_ix ix_tup (pv 14) pe_int (fun _ _ => rfl))))) pss_nil)
        (pss_cons (ps_for PassesOwn.never rfl (pi_list (pcal c__law_rows hr (by decide) (pa_cons (pv 14) (pa_cons (pv 11) (pa_cons (pv 13) pa_nil))))) (pg_name (i := 16) nd rfl (Or.inl rfl)) (pss_one (ps_expr (pe_bm PySem.F.plainAttrs_list PySem.F.slot_list_append PySem.F.type_list_append mt_append (pe_dget hu (pv 9) pe_str (fun _ _ => rfl)) (pa_cons (pe_tup (pa_cons (pv 15) (pa_cons (pv 12) (pa_cons (pv 16) pa_nil)))) pa_nil)))))
        (pss_cons (ps_set (i := 17) nd rfl (Or.inl rfl) (pv 10))
        (pss_cons (ps_set (i := 10) nd rfl (Or.inl rfl) (pe_op op_add (pv 10) (pe_ix ix_list (pe_lst (pa_cons pe_int (pa_cons pe_int (pa_cons pe_int (pa_cons pe_int (pa_cons pe_int (pa_cons pe_int pa_nil))))))) (pcal c__law_draw hr (by decide) (pa_cons (pv 1) (pa_cons pe_int pa_nil))) (fun _ _ => rfl))))
        (pss_one (ps_for PassesOwn.never rfl (pi_tup (pe_tup (pa_cons pe_str (pa_cons pe_str pa_nil)))) (pg_name (i := 18) nd rfl (Or.inl rfl)) (pss_one (ps_if (PW.pt (pw_and (pt_cmpR op_gt (pv 10) (pv 17) (nomark _)) (pw_and1 (pt_not (pt_val (pcalG c__law_heard hG hr (by decide) (pa_cons (pv 9) (pa_cons (pe_dget hu (pv 8) (pv 18) (fun _ _ => rfl)) (pa_cons (pv 7) (pa_cons (pe_op op_sub (pv 10) pe_int) (pa_cons (pv 18) pa_nil))))))))))) (pss_one (ps_ret pe_bl)) pss_nil)))))))))))))))
      (pss_cons (ps_for PassesOwn.never rfl (pi_tup (pe_tup (pa_cons pe_str (pa_cons pe_str pa_nil)))) (pg_name (i := 18) nd rfl (Or.inl rfl)) (pss_one (ps_if (pt_not (pt_val (pcalG c__law_heard hG hr (by decide) (pa_cons (pv 9) (pa_cons (pe_dget hu (pv 8) (pv 18) (fun _ _ => rfl)) (pa_cons (pv 7) (pa_cons (pe_op op_add (pe_op op_add (pv 10) (pv 2)) pe_int) (pa_cons (pv 18) pa_nil)))))))) (pss_one (ps_ret pe_bl)) pss_nil)))
      (pss_one (ps_ret (pe_cmpR (op_eqD hr.units) (pe_dget hu (pv 9) pe_str (fun _ _ => rfl)) (pe_lst pa_nil) (nomark _))))))))))))))), ?_⟩
    refine ⟨_, rfl, sc, xs, rfl, hsc, fun pen H1 k1 p1 => ?_⟩
    have T1 := k1.tabs hT
    -- how late
    refine ⟨_, rfl, pen, 10, 0, rfl, p1, by decide, by omega, fun n2 H2 h20 h21 k2 p2 => ⟨sz (n := 5) (by decide), fun l nl => ⟨_, rfl, pick p2 (by omega) (by rfl) (by rfl) (fun x hx H3 k3 p3 => ?_) l nl⟩⟩⟩
    have hx : ∃ t, x = .int t ∧ 0 ≤ t ∧ t ≤ 9 := by
      simp only [List.mem_cons, List.not_mem_nil, or_false] at hx
      rcases hx with rfl | rfl | rfl | rfl | rfl <;> exact ⟨_, rfl, by omega, by omega⟩
    obtain ⟨late, rfl, hlate⟩ := hx
    have T3 := (k2.trans k3).tabs T1
    clear k1 k2 k3 p1 p2
    -- the kind of check
    refine ⟨_, rfl, pen, 3, 2, rfl, p3.mono (by omega), by decide, by omega, fun n4 H4 h40 h41 k4 p4 => ⟨_, _, rfl, rfl, ?_⟩⟩
    obtain ⟨own, hown⟩ := Int.eq_ofNat_of_zero_le (a := 1 + n4) (by omega)
    refine gname ?_
    dsimp only
    rw [hown]
    have hk : own = 1 ∨ own = 2 ∨ own = 3 := by omega
    have T4 := k4.tabs T3
    clear k4 p3
    -- the packets
    refine ⟨_, rfl, pen, 25, 3, rfl, p4, by decide, by omega, fun n5 H5 h50 h51 k5 p5 => ?_⟩
    obtain ⟨N, hN⟩ := Int.eq_ofNat_of_zero_le (a := 6 + n5) (by omega)
    refine ⟨_, _, rfl, rfl, (N : Int), congrArg (fun z => [V.int z]) hN, by omega, by omega, ?_⟩
    rw [Int.toNat_natCast]
    have T5 := k5.tabs T4
    refine fun pl npl => lc_range (lo := 0) (n := N) (fun i Hi => Kp [pen] H5 Hi ∧ PenAt K Hi pen (4 + 300 * (i : Nat)) ∧ ∃ ps : List Pk, LstD K Hi pl (ps.map pkD) ∧ ps.length = i ∧ ∀ p ∈ ps, PkOk p)
      ⟨Kp.new npl, p5.kp (Kn npl).n List.not_mem_nil |>.mono (by omega), [], ⟨[], upd_same, .nil⟩, rfl, fun _ h => absurd h List.not_mem_nil⟩ ?_ ?_
    · rintro i Hi hi ⟨ki, pi, ps, ⟨vs, hvs, dvs⟩, hpl, hpo⟩
      have hlp : pl ≠ pen := (p5.ne npl).symm
      refine ⟨rfl, _, rfl, pen, _, rfl, pi, by omega, fun v p H6 hp dp k6 p6 => ?_⟩
      have hv6 := k6.at_ hvs (by simp [hlp])
      have hvl := dp_len dvs
      rw [List.length_map] at hvl
      have kp : Kp [pl] H6 (upd H6 pl (.lst (vs ++ [v]))) := Kp.put hv6 rfl (by simp)
      refine ⟨_, hv6, small1000 (by omega), (ki.trans k6).fresh npl, (p6.kp kp.n (by simp [hlp.symm])).mono (by omega), ps ++ [p], ⟨_, upd_same, ?_⟩, by simp [hpl], fun y hy => ?_⟩
      · rw [List.map_append]
        exact dp_app (Kp.dpAll ((k6.mono (l' := [pen, pl]) (by simp)).trans (kp.mono (by simp))).n _ _ (flat_all_pk ps) dvs) (.cons (Kp.dp kp.n _ _ (flat_pkD p) dp) .nil)
      · rcases List.mem_append.mp hy with hy | hy
        · exact hpo y hy
        · rw [List.mem_singleton.mp hy]
          exact hp
    rintro H6 ⟨k6, p6, pks, hpk, hpn, hpo⟩
    have T6 := k6.tabs T5
    have npp : pen ≠ pl := p5.ne npl
    clear k5 k6 p4 p5 npl
    -- the deeds
    refine ⟨_, rfl, pen, 31, 13000, rfl, p6.mono (by omega), by decide, by omega, fun n7 H7 h70 h71 k7 p7 => ?_⟩
    obtain ⟨M, rfl⟩ := Int.eq_ofNat_of_zero_le h70
    refine ⟨(M : Int), rfl, by omega, by omega, ?_⟩
    rw [Int.toNat_natCast]
    have T7 := k7.tabs T6
    have hpk7 := hpk.kp k7.n (by simp [npp.symm]) (flat_all_pk pks)
    refine fun dl ndl => lc_range (lo := 0) (n := M) (fun i Hi => Kp [pen] H7 Hi ∧ PenAt K Hi pen (13001 + 100 * (i : Nat)) ∧ ∃ ds : List Deed, LstD K Hi dl (ds.map deedD) ∧ ds.length = i ∧ ∀ d ∈ ds, DeedOk late d)
      ⟨Kp.new ndl, p7.kp (Kn ndl).n List.not_mem_nil |>.mono (by omega), [], ⟨[], upd_same, .nil⟩, rfl, fun _ h => absurd h List.not_mem_nil⟩ ?_ ?_
    · rintro i Hi hi ⟨ki, pi, ds, ⟨vs, hvs, dvs⟩, hdl, hdo⟩
      have hlp : dl ≠ pen := (p7.ne ndl).symm
      obtain ⟨ws, hws, dws⟩ := hpk7.kp ki.n (by simp [npp.symm]) (flat_all_pk pks)
      have hp0 : (pks.map pkD)[0]? = some (pkD (pks[0]'(by omega))) := by rw [List.getElem?_map, List.getElem?_eq_getElem]; rfl
      obtain ⟨v0, ev0, dv0⟩ := dp_at dws hp0
      have hpo0 := hpo (pks[0]'(by omega)) (List.getElem_mem _)
      generalize pks[0]'(by omega) = pk0 at dv0 hpo0
      obtain ⟨t0, ys, rfl, ht0, dy⟩ := dp_tup dv0
      obtain ⟨y1, ys, rfl, d1, dy⟩ := dp_cons dy
      obtain ⟨y2, ys, rfl, d2, dy⟩ := dp_cons dy
      obtain ⟨y3, ys, rfl, d3, dy⟩ := dp_cons dy
      obtain rfl := dp_nil dy
      obtain ⟨b0, zs, rfl, hb0, dz⟩ := dp_tup d3
      obtain rfl := dp_ints dz
      have hln := hpo0.len
      refine ⟨rfl, _, rfl, _, rfl, _, rfl, pl, ws, 0, _, rfl, rfl, SqL.of hws, atI_nat (j := 0) ev0, t0, _, 2, _, rfl, rfl, ht0, atI_nat (j := 2) rfl, b0, _, rfl, .inr hb0, _, _, rfl, rfl, _, rfl, _, _, rfl, rfl, ?_⟩
      rw [List.length_map]
      refine ⟨pen, _, late, _, rfl, pi, by omega, by omega, by omega, fun v d H8 hd dd k8 p8 => ?_⟩
      have hv8 := k8.at_ hvs (by simp [hlp])
      have hvl := dp_len dvs
      rw [List.length_map] at hvl
      have kp : Kp [dl] H8 (upd H8 dl (.lst (vs ++ [v]))) := Kp.put hv8 rfl (by simp)
      refine ⟨_, hv8, small1000 (by omega), (ki.trans k8).fresh ndl, (p8.kp kp.n (by simp [hlp.symm])).mono (by omega), ds ++ [d], ⟨_, upd_same, ?_⟩, by simp [hdl], fun y hy => ?_⟩
      · rw [List.map_append]
        exact dp_app (Kp.dpAll ((k8.mono (l' := [pen, dl]) (by simp)).trans (kp.mono (by simp))).n _ _ (flat_deeds ds) dvs) (.cons (Kp.dp kp.n _ _ (flat_deed d) dd) .nil)
      · rcases List.mem_append.mp hy with hy | hy
        · exact hdo y hy
        · rw [List.mem_singleton.mp hy]
          exact hd
    rintro H8 ⟨k8, p8, ds, hde, hdn, hdo⟩
    have T8 := k8.tabs T7
    have npd : pen ≠ dl := p7.ne ndl
    have nld : pl ≠ dl := hpk7.ne ndl
    have hpk8 := hpk7.kp k8.n (by simp [npp.symm]) (flat_all_pk pks)
    clear k7 k8 p6 p7 ndl hpk hpk7
    have p8 := p8.mono (b' := 17000) (by omega)
    -- the line
    refine ⟨_, rfl, _, rfl, rfl, rfl, fun ln dx nln ndx hne => ⟨ln, dl, late, ds, rfl, ⟨dx, upd_same⟩, hde.kp ((Kn ndx).trans (Kn ((upd_ne hne.symm).trans nln))).n List.not_mem_nil (flat_deeds ds), by omega, hdo, fun cl gl ul H9 ncl ngl nul k9 hL => ⟨rfl, ?_⟩⟩⟩
    have kx : Kp [] H8 (upd (upd H8 dx (.own ln)) ln (.ins C dx [])) := (Kn ndx).trans (Kn ((upd_ne hne.symm).trans nln))
    have k89 : Kp [] H8 H9 := Kp.drop kx (k9.mono (by simp)) nln
    have ncl := kx.to_none ncl
    have ngl := kx.to_none ngl
    have nul := kx.to_none nul
    have q1 := p8.ne ncl
    have q2 := p8.ne ngl
    have q3 := p8.ne nul
    have q4 := hpk8.ne ncl
    have q5 := hpk8.ne ngl
    have q6 := hpk8.ne nul
    have q7 := hde.ne ncl
    have q8 := hde.ne ngl
    have q9 := hde.ne nul
    have p9 := p8.kp k89.n List.not_mem_nil
    have hpk9 := hpk8.kp k89.n List.not_mem_nil (flat_all_pk pks)
    have hde9 := hde.kp k89.n List.not_mem_nil (flat_deeds ds)
    have T9 := k89.tabs T8
    clear p8 hpk8 hde T8 kx k9 k89 ncl ngl nul
    obtain ⟨⟨dx9, la9, eln⟩, ⟨vcl, ecl, _⟩, ⟨vgl, egl, _⟩, ⟨vul, eul, _⟩, hcg, hcu, hgu⟩ := id hL
    -- the scanners
    refine fun sd nsd => ⟨_, rfl, rfl, rfl, fun pg dxg npg ndxg hneg => ⟨pg, own, rfl, ⟨dxg, upd_same⟩, fun lg H11 nlg kg sg => ⟨rfl, ?_⟩⟩⟩
    have ks := Kn (o := .dK []) nsd
    have ksg : Kp [] (upd H9 sd (.dK [])) (upd (upd (upd H9 sd (.dK [])) dxg (.own pg)) pg (.ins D dxg [])) := (Kn ndxg).trans (Kn ((upd_ne hneg.symm).trans npg))
    have k10 : Kp [] (upd H9 sd (.dK [])) H11 := Kp.drop ksg (kg.mono (by simp)) npg
    have esd11 := k10.at_ (b := sd) upd_same List.not_mem_nil
    have nlg9 : H9 lg = none := ks.to_none (ksg.to_none nlg)
    have npg9 : H9 pg = none := ks.to_none npg
    have k911 : Kp [] H9 H11 := ks.trans k10
    refine ⟨_, rfl, rfl, rfl, fun pt dxt npt ndxt hnet => ⟨pt, own, rfl, ⟨dxt, upd_same⟩, fun lt H13 nlt kt st => ⟨rfl, ?_⟩⟩⟩
    have kst : Kp [] H11 (upd (upd H11 dxt (.own pt)) pt (.ins D dxt [])) := (Kn ndxt).trans (Kn ((upd_ne hnet.symm).trans npt))
    have k12 : Kp [] H11 H13 := Kp.drop kst (kt.mono (by simp)) npt
    have esd13 := k12.at_ esd11 List.not_mem_nil
    have nlt11 : H11 lt = none := kst.to_none nlt
    have nlt9 : H9 lt = none := k911.to_none nlt11
    obtain ⟨dg2, epg⟩ := sg.ob
    have hpp : pg ≠ pt := ne_of_none epg npt
    have hll : lg ≠ lt := ne_of_none sg.li nlt11
    have sg13 := sg.kp k12
    refine ⟨esd13, [(.inr "g", .ref pg), (.inr "t", .ref pt)], rfl, (show (2 : Nat) ≤ 15 by decide), ?_⟩
    have kd : Kp [sd] H13 (upd H13 sd (.dK (mergeK [] [(.inr "g", .ref pg), (.inr "t", .ref pt)]))) := Kp.put esd13 rfl (by simp)
    have esd : upd H13 sd (.dK (mergeK [] [(.inr "g", .ref pg), (.inr "t", .ref pt)])) sd = some (.dK (scK pg pt)) := upd_same
    have k914 : Kp [] H9 (upd H13 sd (.dK (mergeK [] [(.inr "g", .ref pg), (.inr "t", .ref pt)]))) := Kp.drop ks ((k10.trans k12 |>.mono (by simp)).trans kd) nsd
    obtain ⟨dg3, epg13⟩ := sg13.ob
    obtain ⟨dt3, ept13⟩ := st.ob
    have sg14 := sg13.kpN kd.n (by simp; exact fun z => ne_tag epg13 esd13 (by simp [tag]; omega) z) (by simp; exact fun z => ne_tag sg13.li esd13 (by simp [tag]) z)
    have st14 := st.kpN kd.n (by simp; exact fun z => ne_tag ept13 esd13 (by simp [tag]; omega) z) (by simp; exact fun z => ne_tag st.li esd13 (by simp [tag]) z)
    generalize upd H13 sd (.dK (mergeK [] [(.inr "g", .ref pg), (.inr "t", .ref pt)])) = H14 at k914 esd sg14 st14 ⊢
    -- the book
    refine fun bk nbk => ⟨Nat.zero_le _, fun rl nrl => ⟨upd_ne (ne_of_none upd_same nrl) |>.trans upd_same, [(.inr "rows", .ref rl), (.inr "g", .int 0), (.inr "t", .int 0)], rfl, (show (3 : Nat) ≤ 15 by decide), ?_⟩⟩
    have kb : Kp [] H14 (upd H14 bk (.dK [])) := Kn nbk
    have nrl14 : H14 rl = none := kb.to_none nrl
    have hbr : bk ≠ rl := ne_of_none upd_same nrl
    have kr : Kp [] (upd H14 bk (.dK [])) (upd (upd H14 bk (.dK [])) rl (.lst [])) := Kn nrl
    have kq : Kp [bk] (upd (upd H14 bk (.dK [])) rl (.lst [])) (upd (upd (upd H14 bk (.dK [])) rl (.lst [])) bk (.dK (mergeK [] [(.inr "rows", .ref rl), (.inr "g", .int 0), (.inr "t", .int 0)]))) := Kp.put ((upd_ne hbr).trans upd_same) rfl (by simp)
    have k1416 : Kp [] H14 (upd (upd (upd H14 bk (.dK [])) rl (.lst [])) bk (.dK (mergeK [] [(.inr "rows", .ref rl), (.inr "g", .int 0), (.inr "t", .int 0)]))) := Kp.drop kb ((kr.mono (by simp)).trans kq) nbk
    have ebk : upd (upd (upd H14 bk (.dK [])) rl (.lst [])) bk (.dK (mergeK [] [(.inr "rows", .ref rl), (.inr "g", .int 0), (.inr "t", .int 0)])) bk = some (.dK (bkS false rl 0 0)) := upd_same
    have erl : upd (upd (upd H14 bk (.dK [])) rl (.lst [])) bk (.dK (mergeK [] [(.inr "rows", .ref rl), (.inr "g", .int 0), (.inr "t", .int 0)])) rl = some (.lst []) := (upd_ne hbr.symm).trans upd_same
    generalize upd (upd (upd H14 bk (.dK [])) rl (.lst [])) bk (.dK (mergeK [] [(.inr "rows", .ref rl), (.inr "g", .int 0), (.inr "t", .int 0)])) = H16 at k1416 ebk erl ⊢
    have nrl9 : H9 rl = none := k914.to_none nrl14
    have k916 := k914.trans k1416
    have S0 : LawSt K C D Pt own pen pl dl ln cl gl sd bk (fun b => if b then pt else pg) pks ds H16 17000 ul rl (fun b => if b then lt else lg) (fun _ => ⟨own, 0, none, 1, own, []⟩) 0 [] [] 0 := by
      refine ⟨p9.kp k916.n List.not_mem_nil, hpk9.kp k916.n List.not_mem_nil (flat_all_pk pks), hde9.kp k916.n List.not_mem_nil (flat_deeds ds), hL.kpN k916.n List.not_mem_nil List.not_mem_nil List.not_mem_nil List.not_mem_nil, k1416.at_ esd List.not_mem_nil, fun b => ?_,
        fun b => ⟨⟨by dsimp only; omega, by dsimp only; omega, fun z => absurd rfl z, fun z => absurd rfl z⟩, rfl, rfl, Int.le_refl 0, Int.le_refl 0⟩, ⟨ebk, _, erl, .nil⟩, k916.tabs T9, fun r h => absurd h List.not_mem_nil, hpp, ?_, ?_⟩
      · cases b
        · exact sg14.kp k1416
        · exact st14.kp k1416
      · exact ne_of_none esd nbk
      · have a1 := p9.ne nlg9
        have a2 := p9.ne nlt9
        have a3 := p9.ne nrl9
        have b1 := hpk9.ne nlg9
        have b2 := hpk9.ne nlt9
        have b3 := hpk9.ne nrl9
        have c1 := hde9.ne nlg9
        have c2 := hde9.ne nlt9
        have c3 := hde9.ne nrl9
        have d1 := ne_of_none ecl nlg9
        have d2 := ne_of_none ecl nlt9
        have d3 := ne_of_none ecl nrl9
        have e1 := ne_of_none egl nlg9
        have e2 := ne_of_none egl nlt9
        have e3 := ne_of_none egl nrl9
        have f1 := ne_of_none eul nlg9
        have f2 := ne_of_none eul nlt9
        have f3 := ne_of_none eul nrl9
        have g1 := (ne_of_none sg14.li nrl14).symm
        have g2 := (ne_of_none st14.li nrl14).symm
        simp only [List.nodup_cons, List.mem_cons, not_or, List.not_mem_nil, not_false_eq_true, and_true, List.nodup_nil, if_true, if_false, Bool.false_eq_true]
        exact ⟨⟨npp, npd, q1, q2, q3, a3, a1, a2⟩, ⟨nld, q4, q5, q6, b3, b1, b2⟩, ⟨q7, q8, q9, c3, c1, c2⟩, ⟨hcg, hcu, d3, d1, d2⟩, ⟨hgu, e3, e1, e2⟩, ⟨f3, f1, f2⟩, ⟨g1, g2⟩, hll⟩
    have hM : ds.length ≤ 300 := by omega
    clear k914 k1416 ebk erl esd sg14 st14 nrl9 k916 p9 hpk9 hde9 T9 hL eln ecl egl eul sg13 esd13 esd11 epg13 ept13 kd kb kr kq k10 k12 kg kt ksg kst ks sg st nsd npg ndxg hneg npt ndxt hnet nlg nlt nlg9 nlt9 nlt11 npg9 nbk nrl nrl14 k911 epg npp npd nld q1 q2 q3 q4 q5 q6 q7 q8 q9
    generalize (fun b : Bool => if b then pt else pg) = pf at S0
    generalize (fun b : Bool => if b then lt else lg) = lf at S0
    obtain ⟨vpk, epk, dpk⟩ := id S0.pk
    have hvl := dp_len dpk
    rw [List.length_map, hpn] at hvl
    refine ⟨_, rfl, pl, vpk, rfl, .inl (SqL.of epk), (N : Int), congrArg (fun z : Nat => [V.int z]) hvl, by omega, by omega, ?_⟩
    rw [Int.toNat_natCast]
    clear epk dpk hvl
    refine for_range (lo := 0) (n := N) (fun i σ Hi => ∃ (v4 v11 v12 v13 v14 v15 v16 v17 v18 : Option V) (wh : Nat) (ul rl : Addr) (lf : Bool → Addr) (sf : Bool → Sc) (R : List Rec),
      σ = [some (.ref sc), some (.ref pen), some (.int late), some (.int own), v4, some (.ref pl), some (.ref dl), some (.ref ln), some (.ref sd), some (.ref bk), some (.int wh), v11, v12, v13, v14, v15, v16, v17, v18] ∧
      LawSt K C D Pt own pen pl dl ln cl gl sd bk pf pks ds Hi (17000 + 10 * (i : Nat)) ul rl lf sf i R (R.map (·.fly)) (200000 * (i : Nat)) ∧ R.length ≤ 2 * i ∧ (1 ≤ wh ∧ wh ≤ 1 + 11 * i) ∧ ∀ r ∈ R, r.fly.come ≤ wh + late + 1)
      ⟨none, none, none, none, none, none, none, none, none, 1, ul, rl, lf, _, [], rfl, S0.mono (by omega) (by omega), Nat.le_refl _, ⟨Nat.le_refl 1, by omega⟩, fun r h => absurd h List.not_mem_nil⟩ ?_ ?_
    · clear S0
      rintro i σ H20 hi ⟨v4, v11, v12, v13, v14, v15, v16, v17, v18, wh, ul, rl, lf, sf, R, rfl, S, hRl, hwh, hRc⟩
      -- which packet
      refine ⟨_, rfl, _, rfl, sz (n := 2) (by decide), fun l2 nl2 => ?_⟩
      have S1 := S.kp (Kn (o := .lst [.int (0 + (i : Nat)), .int 0]) nl2)
      have el2 : upd H20 l2 (.lst [.int (0 + (i : Nat)), .int 0]) l2 = some (.lst [.int (0 + (i : Nat)), .int 0]) := upd_same
      have npl2 : pen ≠ l2 := S.pe.ne nl2
      generalize upd H20 l2 (.lst [.int (0 + (i : Nat)), .int 0]) = H21 at S1 el2 ⊢
      refine ⟨_, rfl, pen, 5, _, rfl, S1.pe, by omega, by omega, fun n5 H22 g0 g1 k22 p22 => ?_⟩
      have S2 := S1.penKp k22 p22
      obtain ⟨j, hj, ej⟩ : ∃ j : Nat, j < pks.length ∧ atI [V.int (0 + (i : Nat)), .int 0] (if decide (V.int n5 = V.int 0) = true then 1 else 0) = some (.int j) := by
        by_cases e : n5 = 0
        · refine ⟨0, by omega, ?_⟩
          rw [e, if_pos (by rfl)]
          rfl
        · refine ⟨i, by omega, ?_⟩
          rw [if_neg (by rw [decide_eq_false fun z => e (V.int.inj z)]; exact Bool.false_ne_true), show (0 : Int) + (i : Nat) = (i : Nat) by omega]
          rfl
      obtain ⟨vp, evp, dvp⟩ := S2.pk
      have hpj : (pks.map pkD)[j]? = some (pkD pks[j]) := by rw [List.getElem?_map, List.getElem?_eq_getElem hj]; rfl
      obtain ⟨vk, evk, dvk⟩ := dp_at dvp hpj
      have hpok := hpo pks[j] (List.getElem_mem hj)
      generalize pks[j] = pk at dvk hpok
      refine ⟨rfl, .inr ⟨_, rfl, l2, _, _, .int j, rfl, rfl, SqL.of (k22.at_ el2 (by simp [npl2.symm])), ej, pl, _, _, vk, rfl, rfl, SqL.of evp, atI_nat (j := j) evk, ?_⟩⟩
      clear S S1 evp dvp hpj evk el2 npl2 ej
      -- which side
      refine ⟨sz (n := 2) (by decide), fun l3 nl3 => ⟨_, rfl, pick S2.pe (by omega) (by rfl) (by rfl) (fun x hx H23 k23 p23 => ?_) l3 nl3⟩⟩
      have S3 := S2.penKp k23 p23
      have dvk := Kp.dp k23.n _ _ (flat_pkD pk) dvk
      have hx : ∃ side : Bool, x = .str (wayS side) := by
        simp only [List.mem_cons, List.not_mem_nil, or_false] at hx
        rcases hx with rfl | rfl
        · exact ⟨false, rfl⟩
        · exact ⟨true, rfl⟩
      obtain ⟨side, rfl⟩ := hx
      clear S2
      -- its signs
      refine ⟨_, rfl, _, rfl, rfl, rfl, vk, pk, own, rfl, dvk, hpok, hk, fun ta H24 k24 h24 => ?_⟩
      have S4 := S3.kp k24
      have dvk := Kp.dp k24.n _ _ (flat_pkD pk) dvk
      have hpl := put_len (k := own) (by omega) hpok
      have hckl := checkOf_le (c := pk.let_) (k := own) (by omega)
      have hdl := hpok.len
      clear S3
      -- put on the line
      obtain ⟨⟨dx24, la24, eln⟩, _⟩ := id S4.li
      refine ⟨_, rfl, ln, dx24, _, rfl, eln, rfl, _, rfl, _, rfl, _, rfl, rfl, rfl, ?_⟩
      refine ⟨ln, cl, gl, ul, ta, ds, i, R.map (·.fly), putAs pk own, wh, late, side, rfl, S4.li, h24, by omega, hdo, by omega, by rw [List.length_map]; omega, fun vd H25 k25 L25 d25 => ?_⟩
      have S5 := S4.put k25 L25
      have hdd : DeedOk late (ds[i]?.getD .pass) := by
        cases e : ds[i]? with
        | none => exact trivial
        | some x => exact hdo x (List.mem_of_getElem? e)
      have dvk := Kp.dp k25.n _ _ (flat_pkD pk) dvk
      have h24 := Kp.sqT k25.n h24
      clear S4 L25 k25
      -- the deed that it hands back
      obtain ⟨a25, ys25, rfl, _⟩ := dp_deed d25
      obtain ⟨f1, f2, f3, f4⟩ := (Sm.deed hdd (by omega)).fits (by decide) (by decide)
      refine ⟨_, rfl, a25, _, rfl, d25, f1, f2, f3, f4, ?_⟩
      refine ⟨_, rfl, sz (n := 1) (by decide), fun tp ntp => ⟨sz (n := 1) (by decide), fun tl ntl => ?_⟩⟩
      have ka := (Kn (o := .tup [.str "pass"]) ntp).trans (Kn (o := .lst [.ref tp]) ntl)
      have etl : upd (upd H25 tp (.tup [.str "pass"])) tl (.lst [.ref tp]) tl = some (.lst [.ref tp]) := upd_same
      have etp : upd (upd H25 tp (.tup [.str "pass"])) tl (.lst [.ref tp]) tp = some (.tup [.str "pass"]) := (Kn ntl).at_ upd_same List.not_mem_nil
      generalize upd (upd H25 tp (.tup [.str "pass"])) tl (.lst [.ref tp]) = H26 at ka etl etp ⊢
      refine ⟨_, rfl, _, _, rfl, rfl, tl, _, _, rfl, rfl, etl, by omega, by omega, ?_, fun tr ntr => ?_⟩
      · have : ((0 : Int) + (i : Nat) + 1).toNat = i + 1 := by omega
        rw [this]
        exact sz (n := [V.ref tp].length * (i + 1)) (by show 1 * (i + 1) ≤ 1000; omega)
      have er : (List.replicate ((0 : Int) + (i : Nat) + 1).toNat [V.ref tp]).flatten = List.replicate (i + 1) (V.ref tp) := by
        have : ((0 : Int) + (i : Nat) + 1).toNat = i + 1 := by omega
        rw [this, List.flatten_replicate_singleton]
      have kb := ka.trans (Kn (o := .lst ((List.replicate ((0 : Int) + (i : Nat) + 1).toNat [V.ref tp]).flatten)) ntr)
      have etr : upd H26 tr (.lst ((List.replicate ((0 : Int) + (i : Nat) + 1).toNat [V.ref tp]).flatten)) tr = some (.lst (List.replicate (i + 1) (V.ref tp))) := by rw [← er]; exact upd_same
      have etp := (Kn (o := .lst ((List.replicate ((0 : Int) + (i : Nat) + 1).toNat [V.ref tp]).flatten)) ntr).at_ etp List.not_mem_nil
      generalize upd H26 tr (.lst ((List.replicate ((0 : Int) + (i : Nat) + 1).toNat [V.ref tp]).flatten)) = H27 at kb etr etp ⊢
      obtain ⟨dvs, edl, ddl⟩ := S5.de.kp kb.n List.not_mem_nil (flat_deeds ds)
      have hdl2 := dp_len ddl
      rw [List.length_map] at hdl2
      refine ⟨dl, tr, _, _, rfl, rfl, edl, etr, sz (by rw [List.length_replicate]; omega), fun tc ntc => ?_⟩
      have kc := kb.trans (Kn (o := .lst (dvs ++ List.replicate (i + 1) (V.ref tp))) ntc)
      have ddl := Kp.dpAll (Kn (o := .lst (dvs ++ List.replicate (i + 1) (V.ref tp))) ntc).n _ _ (flat_deeds ds) ddl
      have etp := (Kn (o := .lst (dvs ++ List.replicate (i + 1) (V.ref tp))) ntc).at_ etp List.not_mem_nil
      have etc : upd H27 tc (.lst (dvs ++ List.replicate (i + 1) (V.ref tp))) tc = some (.lst (dvs ++ List.replicate (i + 1) (V.ref tp))) := upd_same
      generalize upd H27 tc (.lst (dvs ++ List.replicate (i + 1) (V.ref tp))) = H28 at kc ddl etp etc ⊢
      obtain ⟨vx, evx, dvx⟩ : ∃ vx, (dvs ++ List.replicate (i + 1) (V.ref tp))[i]? = some vx ∧ Dp K H28 vx (deedD (ds[i]?.getD .pass)) := by
        by_cases hi2 : i < ds.length
        · have e1 : ds[i]? = some ds[i] := List.getElem?_eq_getElem hi2
          obtain ⟨v, ev, dv⟩ := dp_at (i := i) ddl (by rw [List.getElem?_map, e1]; rfl)
          refine ⟨v, ?_, by rw [e1]; exact dv⟩
          rw [List.getElem?_append_left (by omega)]
          exact ev
        · refine ⟨.ref tp, ?_, ?_⟩
          · rw [List.getElem?_append_right (by omega), List.getElem?_replicate, if_pos (by omega)]
          · rw [List.getElem?_eq_none (by omega)]
            exact .tup (SqT.of etp) (.cons (.str _) .nil)
      obtain ⟨ax, ysx, rfl, _⟩ := dp_deed dvx
      refine ⟨_, rfl, tc, _, _, .ref ax, rfl, rfl, SqL.of etc, ?_, ax, _, rfl, dvx, f1, f2, f3, f4, rfl, _, rfl, ?_⟩
      · rw [show (0 : Int) + (i : Nat) = (i : Nat) by omega]
        exact atI_nat (j := i) evx
      refine ifF (by rw [decide_eq_true rfl]; rfl) ?_
      have S6 := S5.kp kc
      have d25 := Kp.dp kc.n _ _ (flat_deed _) d25
      have dvk := Kp.dp kc.n _ _ (flat_pkD pk) dvk
      have h24 := Kp.sqT kc.n h24
      clear S5 ka kb kc etl etr etp etc edl ddl evx dvx ntp ntl ntr ntc f1 f2 f3 f4 hdl2 er
      generalize ds[i]?.getD .pass = d at d25 hdd S6 ⊢
      -- when it comes
      refine ⟨_, rfl, _, rfl, rfl, .inr ⟨_, rfl, _, _, rfl, rfl, ?_⟩⟩
      rw [goes_eq]
      refine gname ?_
      dsimp only
      obtain ⟨a26, ys26, e26, ha26, hy26⟩ := dp_deed d25
      obtain rfl : a25 = a26 := V.ref.inj e26
      refine seq_pick (fun σ' H' => H' = H28 ∧ ∃ c, c = (wh : Int) + goesOf side + lateOf d ∧ σ' = [some (.ref sc), some (.ref pen), some (.int late), some (.int own), some (.int (0 + (i : Nat))), some (.ref pl), some (.ref dl), some (.ref ln), some (.ref sd), some (.ref bk), some (.int wh), some vk, some (.str (wayS side)), some (.ref ta), some (.ref a25), some (.int c), v16, v17, v18]) ?_ fun tail => ?_
      rotate_left
      · refine ⟨_, rfl, a25, _, _, _, rfl, rfl, ha26, atI_nat (j := 0) rfl, rfl, _, rfl, ?_⟩
        have z0 : (wh : Int) + goesOf side + 0 = wh + goesOf side := Int.add_zero _
        cases d with
        | late t =>
          obtain ⟨y1, ys1, rfl, d1, hy⟩ := dp_cons hy26
          obtain rfl := dp_nil hy
          obtain rfl := dp_int d1
          refine ifT (by rfl) ?_
          refine ⟨_, rfl, _, rfl, a25, _, _, _, rfl, rfl, ha26, atI_nat (j := 1) rfl, _, _, rfl, rfl, ?_⟩
          exact tail _ _ ⟨rfl, _, rfl, rfl⟩
        | pass => exact ifF (by rfl) (tail _ _ ⟨rfl, _, z0.symm, rfl⟩)
        | drop => exact ifF (by rfl) (tail _ _ ⟨rfl, _, z0.symm, rfl⟩)
        | twice => exact ifF (by rfl) (tail _ _ ⟨rfl, _, z0.symm, rfl⟩)
        | spoil pl by_ => exact ifF (by rfl) (tail _ _ ⟨rfl, _, z0.symm, rfl⟩)
        | add xs => exact ifF (by rfl) (tail _ _ ⟨rfl, _, z0.symm, rfl⟩)
      rintro σ28 H28' ⟨rfl, _, rfl, rfl⟩
      clear hy26
      -- the rows of the book
      have hnl := news_len d pk wh side (putAs pk own)
      have hnk := news_ok (late := late) (turn := wh) (side := side) hdd hlate.1 hpok (k := own) (by omega) (by omega)
      refine ⟨_, rfl, _, rfl, _, rfl, .ref a25, vk, ta, d, pk, putAs pk own, rfl, d25, dvk, h24, by omega, fun lr H29 nlr k29 r29 => ?_⟩
      have S7 := S6.kp k29
      obtain ⟨rvs, erv, drv⟩ := r29
      have hlrr : lr ≠ rl := (S6.bo.ro.ne nlr).symm
      have hrvl := dp_len drv
      rw [List.length_map] at hrvl
      have hnr : (newsOf d pk wh side (putAs pk own)).length = rvs.length := by
        unfold newsOf
        rw [List.length_map]
        exact hrvl.symm
      have ebk := S7.bo.ob
      have hbr : bk ≠ rl := by
        obtain ⟨vr, er, _⟩ := S7.bo.ro
        exact ne_tag ebk er (by simp [tag])
      refine ⟨lr, rfl, ⟨_, SqL.of erv⟩, for_list (xs := rvs) (fun j σ Hj => ∃ v16, σ = [some (.ref sc), some (.ref pen), some (.int late), some (.int own), some (.int (0 + (i : Nat))), some (.ref pl), some (.ref dl), some (.ref ln), some (.ref sd), some (.ref bk), some (.int wh), some vk, some (.str (wayS side)), some (.ref ta), some (.ref a25), some (.int ((wh : Int) + goesOf side + lateOf d)), v16, v17, v18] ∧
        Kp [rl] H29 Hj ∧ LstD K Hj rl ((R ++ (newsOf d pk wh side (putAs pk own)).take j).map recD)) ⟨v16, rfl, Kp.refl _, by rw [List.take_zero, List.append_nil]; exact S7.bo.ro⟩ (fun j σ Hj _ h => ?_) ?_ ?_⟩
      · obtain ⟨_, _, kj, _⟩ := h
        exact SqL.of (kj.at_ erv (by simp [hlrr]))
      · rintro j x σ Hj hx ⟨v16, rfl, kj, zs, ezs, dzs⟩
        have hj : j < rvs.length := (List.getElem?_eq_some_iff.mp hx).1
        have hjr : j < (rowsOf d pk ((putAs pk own).length : Nat)).length := by omega
        obtain ⟨y, ey, dy⟩ := dp_at (i := j) (d := bkD ((rowsOf d pk ((putAs pk own).length : Nat))[j])) (Kp.dpAll kj.n _ _ (flat_bks _) drv) (by rw [List.getElem?_map, List.getElem?_eq_getElem hjr]; rfl)
        obtain rfl : y = x := Option.some.inj (ey.symm.trans hx)
        have enj : (newsOf d pk wh side (putAs pk own))[j]? = some ⟨flyOf d wh side (putAs pk own), (rowsOf d pk ((putAs pk own).length : Nat))[j]⟩ := by
          unfold newsOf
          rw [List.getElem?_map, List.getElem?_eq_getElem hjr]
          rfl
        have hzl := dp_len dzs
        rw [List.length_map, List.length_append, List.length_take] at hzl
        have ebj := kj.at_ ebk (by simp [hbr])
        refine ⟨_, rfl, bk, _, rfl, get_rows ebj, .inl ⟨rfl, _, SqL.of ezs⟩, _, rfl, _, rfl, _, rfl, sz (n := 3) (by decide), fun ar nar => ?_⟩
        have hra : rl ≠ ar := ne_of_none ezs nar
        have ezs' : upd Hj ar (.tup [.int ((wh : Int) + goesOf side + lateOf d), .str (wayS side), y]) rl = some (.lst zs) := (upd_ne hra).trans ezs
        refine ⟨rl, zs, _, rfl, rfl, ezs', small1000 (by omega), ?_⟩
        have kk : Kp [rl] Hj (upd (upd Hj ar (.tup [.int ((wh : Int) + goesOf side + lateOf d), .str (wayS side), y])) rl (.lst (zs ++ [.ref ar]))) := (Kp.new nar).trans (Kp.put ezs' rfl (by simp))
        refine ⟨_, rfl, kj.trans kk, zs ++ [.ref ar], upd_same, ?_⟩
        rw [List.take_add_one, enj, Option.toList_some, ← List.append_assoc, List.map_append]
        refine dp_app (Kp.dpAll kk.n _ _ (flat_recs _) dzs) (.cons ?_ .nil)
        exact .tup (SqT.of ((upd_ne hra.symm).trans upd_same)) (.cons (.int _) (.cons (.str _) (.cons (Kp.dp kk.n _ _ (flat_bk _) dy) .nil)))
      rintro σ30 H30 ⟨v16, rfl, k30, r30⟩
      rw [← hnr, List.take_length] at r30
      have S8 := S7.row k30 r30 fun r hr => (List.mem_append.mp hr).elim (S7.re r) fun h => (hnk r h).1
      have efs : R.map (·.fly) ++ List.replicate (timesOf d) (flyOf d wh side (putAs pk own)) = (R ++ newsOf d pk wh side (putAs pk own)).map (·.fly) := by rw [List.map_append, news_fly]
      rw [efs] at S8
      have hRl2 : (R ++ newsOf d pk wh side (putAs pk own)).length ≤ 2 * (i + 1) := by rw [List.length_append]; omega
      have hRc2 : ∀ r ∈ R ++ newsOf d pk wh side (putAs pk own), r.fly.come ≤ wh + late + 1 := fun r hr => (List.mem_append.mp hr).elim (hRc r) fun h => (hnk r h).2
      clear S6 S7 d25 dvk h24 erv drv hrvl hnr ebk hnk hnl k29 k30 r30 nlr hlrr hbr efs hRl hRc ha26 e26 k22 k23 k24 g0 g1
      generalize R ++ newsOf d pk wh side (putAs pk own) = R at S8 hRl2 hRc2
      -- on with the time
      refine ⟨_, rfl, _, rfl, sz (n := 6) (by decide), fun l5 nl5 => ⟨_, rfl, pick S8.pe (by omega) (by rfl) (by rfl) (fun x hx H31 k31 p31 => ?_) l5 nl5⟩⟩
      have S9 := S8.penKp k31 p31
      have hx : ∃ dw : Nat, x = .int dw ∧ dw ≤ 11 := by
        simp only [List.mem_cons, List.not_mem_nil, or_false] at hx
        rcases hx with rfl | rfl | rfl | rfl | rfl | rfl
        · exact ⟨0, rfl, by omega⟩
        · exact ⟨0, rfl, by omega⟩
        · exact ⟨1, rfl, by omega⟩
        · exact ⟨1, rfl, by omega⟩
        · exact ⟨2, rfl, by omega⟩
        · exact ⟨11, rfl, by omega⟩
      obtain ⟨dw, rfl, hdw⟩ := hx
      refine ⟨_, _, rfl, rfl, ?_⟩
      refine gname ?_
      dsimp only
      have eW : (wh : Int) + (dw : Int) = ((wh + dw : Nat) : Int) := by omega
      rw [eW]
      -- both sides hear
      refine ⟨sz (n := 2) (by decide), fun tt ntt => ⟨tt, rfl, ⟨_, SqT.of upd_same⟩, ?_⟩⟩
      have S10 := S9.kp (Kn (o := .tup [.str "t", .str "g"]) ntt)
      have ett : upd H31 tt (.tup [.str "t", .str "g"]) tt = some (.tup [.str "t", .str "g"]) := upd_same
      generalize upd H31 tt (.tup [.str "t", .str "g"]) = H32 at S10 ett ⊢
      refine for_tup (xs := [.str "t", .str "g"]) (fun m σ Hm => ∃ (v18 : Option V) (ul rl : Addr) (lf : Bool → Addr) (sf : Bool → Sc) (R : List Rec),
        σ = [some (.ref sc), some (.ref pen), some (.int late), some (.int own), some (.int (0 + (i : Nat))), some (.ref pl), some (.ref dl), some (.ref ln), some (.ref sd), some (.ref bk), some (.int ((wh + dw : Nat) : Int)), some vk, some (.str (wayS side)), some (.ref ta), some (.ref a25), some (.int ((wh : Int) + goesOf side + lateOf d)), v16, some (.int wh), v18] ∧
        LawSt K C D Pt own pen pl dl ln cl gl sd bk pf pks ds Hm (17000 + 10 * (i : Nat) + 3) ul rl lf sf (i + 1) R (R.map (·.fly)) (200000 * (i : Nat) + 100000 * (m : Nat)) ∧ R.length ≤ 2 * (i + 1) ∧ (∀ r ∈ R, r.fly.come ≤ wh + late + 1) ∧ Hm tt = some (.tup [.str "t", .str "g"]))
        ⟨v18, ul, rl, lf, sf, R, rfl, S10.mono (by omega) (by omega), hRl2, hRc2, ett⟩ (fun m σ Hm _ h => ?_) ?_ ?_
      · obtain ⟨_, _, _, _, _, _, _, _, _, _, e⟩ := h
        exact SqT.of e
      · clear S8 S9 S10 hRl2 hRc2 ett
        rintro m x σ Hm hx ⟨v18, ul, rl, lf, sf, R, rfl, S, hRl, hRc, ett⟩
        obtain ⟨b, rfl, hm1⟩ : ∃ b : Bool, x = .str (wayS b) ∧ m ≤ 1 := by
          match m, hx with
          | 0, hx => exact ⟨true, (Option.some.inj hx).symm, by omega⟩
          | 1, hx => exact ⟨false, (Option.some.inj hx).symm, by omega⟩
          | m + 2, hx => simp at hx
        refine ⟨_, rfl, _, rfl, _, _, rfl, rfl, _, rfl, ?_⟩
        by_cases hgt : ((wh + dw : Nat) : Int) > (wh : Int)
        · refine ifT (decide_eq_true hgt) ?_
          refine ⟨_, rfl, _, rfl, _, rfl, sd, _, rfl, get_sc b S.sc, _, rfl, _, rfl, _, _, rfl, rfl, _, rfl, ?_⟩
          refine tnil ?_
          refine S.heard b (wh + dw - 1) (by omega) (by omega) (by omega) (by omega) fun H' ul' rl' l' s' kt S' => ⟨_, rfl, ?_⟩
          refine ifF (by rfl) ?_
          refine ⟨_, ul', rl', l', s', _, rfl, S'.mono (Int.le_refl _) (by omega), Nat.le_trans (List.length_filter_le _ _) hRl, fun r hr => hRc r (List.mem_filter.mp hr).1, kt _ _ ett⟩
        · refine ifF (decide_eq_false hgt) ?_
          exact ⟨_, ul, rl, lf, sf, R, rfl, S.mono (Int.le_refl _) (by omega), hRl, hRc, ett⟩
      · clear S8 S9 S10 hRl2 hRc2 ett
        rintro σ Hm ⟨v18, ul, rl, lf, sf, R, rfl, S, hRl, hRc, _⟩
        exact ⟨_, _, _, _, _, _, _, _, _, wh + dw, ul, rl, lf, sf, R, rfl, S.mono (by omega) (by show (200000 : Int) * (i : Nat) + 100000 * ((2 : Nat) : Int) ≤ 200000 * ((i + 1 : Nat) : Int); omega), hRl, ⟨by omega, by omega⟩, fun r hr => by have := hRc r hr; omega⟩
    · clear S0
      rintro σ H40 ⟨v4, v11, v12, v13, v14, v15, v16, v17, v18, wh, ul, rl, lf, sf, R, rfl, S, hRl, hwh, hRc⟩
      obtain ⟨W, hW⟩ := Int.eq_ofNat_of_zero_le (a := (wh : Int) + late + 1) (by omega)
      refine ⟨sz (n := 2) (by decide), fun tt ntt => ⟨tt, rfl, ⟨_, SqT.of upd_same⟩, ?_⟩⟩
      have S1 := S.kp (Kn (o := .tup [.str "g", .str "t"]) ntt)
      have ett : upd H40 tt (.tup [.str "g", .str "t"]) tt = some (.tup [.str "g", .str "t"]) := upd_same
      generalize upd H40 tt (.tup [.str "g", .str "t"]) = H41 at S1 ett ⊢
      refine for_tup (xs := [.str "g", .str "t"]) (fun m σ Hm => ∃ (v18 : Option V) (ul rl : Addr) (lf : Bool → Addr) (sf : Bool → Sc) (R : List Rec),
        σ = [some (.ref sc), some (.ref pen), some (.int late), some (.int own), v4, some (.ref pl), some (.ref dl), some (.ref ln), some (.ref sd), some (.ref bk), some (.int wh), v11, v12, v13, v14, v15, v16, v17, v18] ∧
        LawSt K C D Pt own pen pl dl ln cl gl sd bk pf pks ds Hm (17000 + 10 * (N : Nat)) ul rl lf sf N R (R.map (·.fly)) (200000 * (N : Nat) + 100000 * (m : Nat)) ∧ R.length ≤ 2 * N ∧ (∀ r ∈ R, r.fly.come ≤ W ∧ (1 ≤ m → r.fly.side ≠ false) ∧ (2 ≤ m → r.fly.side ≠ true)) ∧ Hm tt = some (.tup [.str "g", .str "t"]))
        ⟨v18, ul, rl, lf, sf, R, rfl, S1.mono (by omega) (by omega), hRl, fun r hr => ⟨by have := hRc r hr; omega, fun z => absurd z (by omega), fun z => absurd z (by omega)⟩, ett⟩ (fun m σ Hm _ h => ?_) ?_ ?_
      · obtain ⟨_, _, _, _, _, _, _, _, _, _, e⟩ := h
        exact SqT.of e
      · clear S S1 hRl hRc ett
        rintro m x σ Hm hx ⟨v18, ul, rl, lf, sf, R, rfl, S, hRl, hRc, ett⟩
        obtain ⟨b, rfl, hm⟩ : ∃ b : Bool, x = .str (wayS b) ∧ (m = 0 ∧ b = false ∨ m = 1 ∧ b = true) := by
          match m, hx with
          | 0, hx => exact ⟨false, (Option.some.inj hx).symm, .inl ⟨rfl, rfl⟩⟩
          | 1, hx => exact ⟨true, (Option.some.inj hx).symm, .inr ⟨rfl, rfl⟩⟩
          | m + 2, hx => simp at hx
        refine ⟨_, rfl, _, rfl, _, rfl, sd, _, rfl, get_sc b S.sc, _, rfl, _, rfl, _, rfl, _, _, rfl, rfl, _, _, rfl, rfl, _, rfl, ?_⟩
        refine tnil ?_
        refine S.heard b W hW (by omega) (by omega) (by omega) fun H' ul' rl' l' s' kt S' => ⟨_, rfl, ?_⟩
        refine ifF (by rfl) ?_
        refine ⟨_, ul', rl', l', s', _, rfl, S'.mono (Int.le_refl _) (by omega), Nat.le_trans (List.length_filter_le _ _) hRl, fun r hr => ?_, kt _ _ ett⟩
        obtain ⟨hr1, hr2⟩ := List.mem_filter.mp hr
        obtain ⟨c1, c2, c3⟩ := hRc r hr1
        have hns : r.fly.side ≠ b := fun z => by
          unfold dueB at hr2
          rw [z, decide_eq_true c1] at hr2
          simp at hr2
        rcases hm with ⟨rfl, rfl⟩ | ⟨rfl, rfl⟩
        · exact ⟨c1, fun _ => hns, fun z => absurd z (by omega)⟩
        · exact ⟨c1, fun _ => c2 (Nat.le_refl 1), fun _ => hns⟩
      · clear S S1 hRl hRc ett
        rintro σ Hm ⟨v18, ul, rl, lf, sf, R, rfl, S, hRl, hRc, _⟩
        have hR0 : R = [] := by
          cases R with
          | nil => rfl
          | cons r rs =>
            obtain ⟨_, c2, c3⟩ := hRc r (List.mem_cons_self ..)
            cases e : r.fly.side
            · exact absurd e (c2 (by show 1 ≤ 2; omega))
            · exact absurd e (c3 (Nat.le_refl 2))
        subst hR0
        obtain ⟨vr, er, dr⟩ := S.bo.ro
        obtain rfl := dp_nil dr
        refine ⟨_, rfl, bk, _, rfl, get_rows S.bo.ob, sz (n := 0) (by decide), fun lz nlz => ⟨.list [], .list [], .lst (SqL.of ((Kn nlz).at_ er List.not_mem_nil)) .nil, .lst (SqL.of upd_same) .nil, by decide, by decide, ?_⟩⟩
        exact q _
end
end K38

namespace K38
open PySem PySem.Spec PyProof.Rows L2 LamX
/-! ### how the arguments bind -/
theorem kb_fun {K : PySem.W.Frag} {x qual : Str} {st : Stmt} {f : Addr} {fd : FuncData} {ps : List Str} (F : Fun K x qual st f fd) (n : Nat) (ks : List Str)
    (h : ∀ (kV doc pm : Value) (an : Option Addr) (cdv ct : Value) (us ws : List Value), us.length = n → ws.length = ks.length → bindArgs (PySem.W.fnOf x qual (defArgs st) (defBody st) (defScope st) .none kV doc pm an cdv ct) ⟨us, ks.zip ws⟩ = pure (ps.zip (us ++ ws))) :
    KBn K fd ps n ks (fun us ws => us ++ ws) (fun vs zs => vs ++ zs) := by
  obtain ⟨oc, od, kV, doc, pm, an, cdv, ct, osl, rfl, lk, hcd⟩ := F.ex
  exact ⟨fun s us ws X l1 l2 => BindsTo.of_looks fun M => by rw [h kV doc pm an cdv ct us ws l1 l2]; exact .of_pure rfl, fun r1 r2 => r1.append r2⟩
theorem tabs0 {H : Hp} {Pt : Addr} (h : H Pt = some (.tbl #[])) : Tabs [(Pt, lamName)] H := fun p hp => by
  rw [List.mem_singleton.mp hp]
  exact ⟨#[], h, True.intro, fun pos cv e => by cases e⟩
theorem kint_by {K : PySem.W.Frag} {a : Addr} {n : Nat} {t0 t1 t2 t3 t4 t5 : Tok} (h : K.lookup a = some ⟨.type "dict", none, .dict #[⟨1, .int 1 t0, .int 95 t1⟩, ⟨2, .int 2 t2, .int 9013 t3⟩, ⟨3, .int 3 t4, .int 857369 t5⟩] n, #[]⟩) :
    KInt K a (fun k => if k = 1 then some (.int 95) else if k = 2 then some (.int 9013) else if k = 3 then some (.int 857369) else none) := by
  refine ⟨_, n, h, fun e he => ?_, fun k v e => ?_⟩
  · simp only [List.mem_toArray, List.mem_cons, List.not_mem_nil, or_false] at he
    rcases he with rfl | rfl | rfl
    · exact ⟨1, rfl, (by decide +kernel : (1 : Int) = hashInt 1)⟩
    · exact ⟨2, rfl, (by decide +kernel : (2 : Int) = hashInt 2)⟩
    · exact ⟨3, rfl, (by decide +kernel : (3 : Int) = hashInt 3)⟩
  · by_cases h1 : k = 1
    · subst h1
      cases e
      exact ⟨.int 95 t1, by rfl, _, rfl⟩
    · by_cases h2 : k = 2
      · subst h2
        cases e
        exact ⟨.int 9013 t3, by rfl, _, rfl⟩
      · by_cases h3 : k = 3
        · subst h3
          cases e
          exact ⟨.int 857369 t5, by rfl, _, rfl⟩
        · simp [h1, h2, h3] at e

theorem all_mk {l : PySem.W.OpenLaw} {w : World} {K : PySem.W.Frag} {h : Heap} {mg : Str → Option Value} {fa aC aD cD Pt a_OPENING a_LETTERS a_MARKS a_PASS a_BY f_is_plain f_written f_number_in f_value_at f_spoiled f_is_number f_are_added f_is_deed f_need_deeds f_Line_init a_dfl a_emp f_put f_due f_left_of f_values_of f_check f_mark_of f_check_of f_put_as f_letter_of f_Scanner_init f_fed f_is_open f_feed f_begin f_bad f_known f_read f__law_pen f__law_draw f__law_plain f__law_deed f__law_packet f__law_rows f__law_heard f_law : Addr} (X : K.In h) (G : h.Ns mainGlobals mg) (hfa : mg "law" = some (.ref fa))
    {d_OPENING d_LETTERS d_MARKS d_PASS od_is_plain an_is_plain od_written an_written od_number_in an_number_in od_value_at an_value_at od_spoiled an_spoiled od_is_number an_is_number od_are_added an_are_added od_is_deed an_is_deed od_need_deeds an_need_deeds od_Line_init an_Line_init od_dfl od_put an_put od_due an_due od_left_of an_left_of od_values_of an_values_of od_check an_check od_mark_of an_mark_of od_check_of an_check_of od_put_as an_put_as od_letter_of an_letter_of od_Scanner_init an_Scanner_init od_fed an_fed od_is_open an_is_open od_feed an_feed od_begin an_begin od_bad an_bad od_known an_known od_read an_read od__law_pen an__law_pen od__law_draw an__law_draw od__law_plain an__law_plain od__law_deed an__law_deed od__law_packet an__law_packet od__law_rows an__law_rows od__law_heard an__law_heard od_law an_law : Option Addr} {m_OPENING m_LETTERS m_MARKS m_PASS m_BY m_dfl : Nat} {t_LEAST_PLAIN t_LAST_PLAIN t_BASE t_MOST_DEEDS t_MOST_PLACE t_MOST_BY t_MOST_ADDED t_LAST_SIGN t_VALUES t_MARK t_OPENING_MARK t_MOST_NUMBER t_MOST_SIZE t_AROUND t_SIZES t_OPENING_0 t_OPENING_1 t_OPENING_2 t_LETTERS_0 t_LETTERS_1 t_LETTERS_2 t_LETTERS_3 t_LETTERS_4 t_LETTERS_5 t_LETTERS_6 t_LETTERS_7 t_LETTERS_8 t_LETTERS_9 t_LETTERS_10 t_MARKS_0 t_MARKS_1 t_PASS_0 t_BY_0 t_BY_1 t_BY_2 t_BY_3 t_BY_4 t_BY_5 : Tok} {sl_OPENING sl_LETTERS sl_MARKS sl_PASS sl_is_plain sl_written sl_number_in sl_value_at sl_spoiled sl_is_number sl_are_added sl_is_deed sl_need_deeds sl_Line_init sl_dfl sl_put sl_due sl_left_of sl_values_of sl_check sl_mark_of sl_check_of sl_put_as sl_letter_of sl_Scanner_init sl_fed sl_is_open sl_feed sl_begin sl_bad sl_known sl_read sl__law_pen sl__law_draw sl__law_plain sl__law_deed sl__law_packet sl__law_rows sl__law_heard sl_law : Array (Option Value)} {oc_is_plain kV_is_plain dc_is_plain pm_is_plain ct_is_plain cd_is_plain oc_written kV_written dc_written pm_written ct_written cd_written oc_number_in kV_number_in dc_number_in pm_number_in ct_number_in cd_number_in oc_value_at kV_value_at dc_value_at pm_value_at ct_value_at cd_value_at oc_spoiled kV_spoiled dc_spoiled pm_spoiled ct_spoiled cd_spoiled oc_is_number kV_is_number dc_is_number pm_is_number ct_is_number cd_is_number oc_are_added kV_are_added dc_are_added pm_are_added ct_are_added cd_are_added oc_is_deed kV_is_deed dc_is_deed pm_is_deed ct_is_deed cd_is_deed oc_need_deeds kV_need_deeds dc_need_deeds pm_need_deeds ct_need_deeds cd_need_deeds oc_Line_init kV_Line_init dc_Line_init pm_Line_init ct_Line_init cd_Line_init oc_dfl oc_put kV_put dc_put pm_put ct_put cd_put oc_due kV_due dc_due pm_due ct_due oc_left_of kV_left_of dc_left_of pm_left_of ct_left_of cd_left_of oc_values_of kV_values_of dc_values_of pm_values_of ct_values_of cd_values_of oc_check kV_check dc_check pm_check ct_check cd_check oc_mark_of kV_mark_of dc_mark_of pm_mark_of ct_mark_of cd_mark_of oc_check_of kV_check_of dc_check_of pm_check_of ct_check_of cd_check_of oc_put_as kV_put_as dc_put_as pm_put_as ct_put_as cd_put_as oc_letter_of kV_letter_of dc_letter_of pm_letter_of ct_letter_of cd_letter_of oc_Scanner_init kV_Scanner_init dc_Scanner_init pm_Scanner_init ct_Scanner_init cd_Scanner_init oc_fed kV_fed dc_fed pm_fed ct_fed cd_fed oc_is_open kV_is_open dc_is_open pm_is_open ct_is_open cd_is_open oc_feed kV_feed dc_feed pm_feed ct_feed cd_feed oc_begin kV_begin dc_begin pm_begin ct_begin cd_begin oc_bad kV_bad dc_bad pm_bad ct_bad cd_bad oc_known kV_known dc_known pm_known ct_known cd_known oc_read kV_read dc_read pm_read ct_read cd_read oc__law_pen kV__law_pen dc__law_pen pm__law_pen ct__law_pen cd__law_pen oc__law_draw kV__law_draw dc__law_draw pm__law_draw ct__law_draw cd__law_draw oc__law_plain kV__law_plain dc__law_plain pm__law_plain ct__law_plain cd__law_plain oc__law_deed kV__law_deed dc__law_deed pm__law_deed ct__law_deed cd__law_deed oc__law_packet kV__law_packet dc__law_packet pm__law_packet ct__law_packet cd__law_packet oc__law_rows kV__law_rows dc__law_rows pm__law_rows ct__law_rows cd__law_rows oc__law_heard kV__law_heard dc__law_heard pm__law_heard ct__law_heard cd__law_heard oc_law kV_law dc_law pm_law ct_law cd_law : Value}
    (xC : PySem.W.nsIn K mainGlobals "Line" = some (some (.ref aC)))
    (xD : PySem.W.nsIn K mainGlobals "Scanner" = some (some (.ref aD)))
    (pgC : PySem.W.plainGet K aC Str.empty = true)
    (hdC : PySem.W.hasDictIn K aC = true)
    (poC : PySem.W.plainOver K aC = true)
    (saC : PySem.W.findIn K (.ref aC) "__setattr__" = some (some (.builtin "object.__setattr__")))
    (mkC : PySem.W.makesIn K aC = true)
    (kcC : PySem.W.keepIn K (.ref aC) = true)
    (pgD : PySem.W.plainGet K aD Str.empty = true)
    (hdD : PySem.W.hasDictIn K aD = true)
    (poD : PySem.W.plainOver K aD = true)
    (saD : PySem.W.findIn K (.ref aD) "__setattr__" = some (some (.builtin "object.__setattr__")))
    (mkD : PySem.W.makesIn K aD = true)
    (kcD : PySem.W.keepIn K (.ref aD) = true)
    (n_coming : PySem.W.findIn K (.ref aC) "coming" = some none)
    (n_given : PySem.W.findIn K (.ref aC) "given" = some none)
    (n_under_way : PySem.W.findIn K (.ref aC) "under_way" = some none)
    (n_latest : PySem.W.findIn K (.ref aC) "latest" = some none)
    (n_held : PySem.W.findIn K (.ref aC) "held" = some none)
    (n_now_kind : PySem.W.findIn K (.ref aD) "now_kind" = some none)
    (n_many_fed : PySem.W.findIn K (.ref aD) "many_fed" = some none)
    (n_begun_at : PySem.W.findIn K (.ref aD) "begun_at" = some none)
    (n_begun_mark : PySem.W.findIn K (.ref aD) "begun_mark" = some none)
    (n_begun_check : PySem.W.findIn K (.ref aD) "begun_check" = some none)
    (n_begun_signs : PySem.W.findIn K (.ref aD) "begun_signs" = some none)
    (c_LEAST_PLAIN : PySem.W.nsIn K mainGlobals "LEAST_PLAIN" = some (some (.int 32 t_LEAST_PLAIN)))
    (c_LAST_PLAIN : PySem.W.nsIn K mainGlobals "LAST_PLAIN" = some (some (.int 126 t_LAST_PLAIN)))
    (c_BASE : PySem.W.nsIn K mainGlobals "BASE" = some (some (.int 95 t_BASE)))
    (c_MOST_DEEDS : PySem.W.nsIn K mainGlobals "MOST_DEEDS" = some (some (.int 300 t_MOST_DEEDS)))
    (c_MOST_PLACE : PySem.W.nsIn K mainGlobals "MOST_PLACE" = some (some (.int 200 t_MOST_PLACE)))
    (c_MOST_BY : PySem.W.nsIn K mainGlobals "MOST_BY" = some (some (.int 94 t_MOST_BY)))
    (c_MOST_ADDED : PySem.W.nsIn K mainGlobals "MOST_ADDED" = some (some (.int 8 t_MOST_ADDED)))
    (c_LAST_SIGN : PySem.W.nsIn K mainGlobals "LAST_SIGN" = some (some (.int 255 t_LAST_SIGN)))
    (c_VALUES : PySem.W.nsIn K mainGlobals "VALUES" = some (some (.int 95 t_VALUES)))
    (c_MARK : PySem.W.nsIn K mainGlobals "MARK" = some (some (.int 1 t_MARK)))
    (c_OPENING_MARK : PySem.W.nsIn K mainGlobals "OPENING_MARK" = some (some (.int 2 t_OPENING_MARK)))
    (c_MOST_NUMBER : PySem.W.nsIn K mainGlobals "MOST_NUMBER" = some (some (.int 63 t_MOST_NUMBER)))
    (c_MOST_SIZE : PySem.W.nsIn K mainGlobals "MOST_SIZE" = some (some (.int 94 t_MOST_SIZE)))
    (c_AROUND : PySem.W.nsIn K mainGlobals "AROUND" = some (some (.int 2 t_AROUND)))
    (c_SIZES : PySem.W.nsIn K mainGlobals "SIZES" = some (some (.int 2 t_SIZES)))
    (z_abs : PySem.W.nsIn K mainGlobals "abs" = some none)
    (z_all : PySem.W.nsIn K mainGlobals "all" = some none)
    (z_bool : PySem.W.nsIn K mainGlobals "bool" = some none)
    (z_divmod : PySem.W.nsIn K mainGlobals "divmod" = some none)
    (z_enumerate : PySem.W.nsIn K mainGlobals "enumerate" = some none)
    (z_int : PySem.W.nsIn K mainGlobals "int" = some none)
    (z_isinstance : PySem.W.nsIn K mainGlobals "isinstance" = some none)
    (z_len : PySem.W.nsIn K mainGlobals "len" = some none)
    (z_list : PySem.W.nsIn K mainGlobals "list" = some none)
    (z_max : PySem.W.nsIn K mainGlobals "max" = some none)
    (z_ord : PySem.W.nsIn K mainGlobals "ord" = some none)
    (z_range : PySem.W.nsIn K mainGlobals "range" = some none)
    (z_repr : PySem.W.nsIn K mainGlobals "repr" = some none)
    (z_reversed : PySem.W.nsIn K mainGlobals "reversed" = some none)
    (z_sorted : PySem.W.nsIn K mainGlobals "sorted" = some none)
    (z_str : PySem.W.nsIn K mainGlobals "str" = some none)
    (z_sum : PySem.W.nsIn K mainGlobals "sum" = some none)
    (z_tuple : PySem.W.nsIn K mainGlobals "tuple" = some none)
    (x_OPENING : PySem.W.nsIn K mainGlobals "OPENING" = some (some (.ref a_OPENING)))
    (l_OPENING : K.lookup a_OPENING = some ⟨.type "tuple", d_OPENING, .seq #[.str "O" t_OPENING_0, .str "P" t_OPENING_1, .str "E" t_OPENING_2] m_OPENING, sl_OPENING⟩)
    (x_LETTERS : PySem.W.nsIn K mainGlobals "LETTERS" = some (some (.ref a_LETTERS)))
    (l_LETTERS : K.lookup a_LETTERS = some ⟨.type "tuple", d_LETTERS, .seq #[.str "O" t_LETTERS_0, .str "P" t_LETTERS_1, .str "E" t_LETTERS_2, .str "F" t_LETTERS_3, .str "A" t_LETTERS_4, .str "S" t_LETTERS_5, .str "D" t_LETTERS_6, .str "Z" t_LETTERS_7, .str "B" t_LETTERS_8, .str "Y" t_LETTERS_9, .str "N" t_LETTERS_10] m_LETTERS, sl_LETTERS⟩)
    (x_MARKS : PySem.W.nsIn K mainGlobals "MARKS" = some (some (.ref a_MARKS)))
    (l_MARKS : K.lookup a_MARKS = some ⟨.type "tuple", d_MARKS, .seq #[.int 1 t_MARKS_0, .int 2 t_MARKS_1] m_MARKS, sl_MARKS⟩)
    (x_PASS : PySem.W.nsIn K mainGlobals "PASS" = some (some (.ref a_PASS)))
    (l_PASS : K.lookup a_PASS = some ⟨.type "tuple", d_PASS, .seq #[.str "pass" t_PASS_0] m_PASS, sl_PASS⟩)
    (x_BY : PySem.W.nsIn K mainGlobals "BY" = some (some (.ref a_BY)))
    (l_BY : K.lookup a_BY = some ⟨.type "dict", none, .dict #[⟨1, .int 1 t_BY_0, .int 95 t_BY_1⟩, ⟨2, .int 2 t_BY_2, .int 9013 t_BY_3⟩, ⟨3, .int 3 t_BY_4, .int 857369 t_BY_5⟩] m_BY, #[]⟩)
    (a_is_plain_ : PySem.W.nsIn K mainGlobals "is_plain" = some (some (.ref f_is_plain)))
    (l_is_plain : K.lookup f_is_plain = some ⟨oc_is_plain, od_is_plain, .func (PySem.W.fnOf "is_plain" "is_plain" (defArgs s_is_plain) (defBody s_is_plain) (defScope s_is_plain) .none kV_is_plain dc_is_plain pm_is_plain an_is_plain cd_is_plain ct_is_plain), sl_is_plain⟩)
    (k_is_plain : PySem.W.codeIn K cd_is_plain "is_plain" = true)
    (p_is_plain : PySem.W.keepIn K (.ref f_is_plain) = true)
    (a_written_ : PySem.W.nsIn K mainGlobals "written" = some (some (.ref f_written)))
    (l_written : K.lookup f_written = some ⟨oc_written, od_written, .func (PySem.W.fnOf "written" "written" (defArgs s_written) (defBody s_written) (defScope s_written) .none kV_written dc_written pm_written an_written cd_written ct_written), sl_written⟩)
    (k_written : PySem.W.codeIn K cd_written "written" = true)
    (p_written : PySem.W.keepIn K (.ref f_written) = true)
    (a_number_in_ : PySem.W.nsIn K mainGlobals "number_in" = some (some (.ref f_number_in)))
    (l_number_in : K.lookup f_number_in = some ⟨oc_number_in, od_number_in, .func (PySem.W.fnOf "number_in" "number_in" (defArgs s_number_in) (defBody s_number_in) (defScope s_number_in) .none kV_number_in dc_number_in pm_number_in an_number_in cd_number_in ct_number_in), sl_number_in⟩)
    (k_number_in : PySem.W.codeIn K cd_number_in "number_in" = true)
    (p_number_in : PySem.W.keepIn K (.ref f_number_in) = true)
    (a_value_at_ : PySem.W.nsIn K mainGlobals "value_at" = some (some (.ref f_value_at)))
    (l_value_at : K.lookup f_value_at = some ⟨oc_value_at, od_value_at, .func (PySem.W.fnOf "value_at" "value_at" (defArgs s_value_at) (defBody s_value_at) (defScope s_value_at) .none kV_value_at dc_value_at pm_value_at an_value_at cd_value_at ct_value_at), sl_value_at⟩)
    (k_value_at : PySem.W.codeIn K cd_value_at "value_at" = true)
    (p_value_at : PySem.W.keepIn K (.ref f_value_at) = true)
    (a_spoiled_ : PySem.W.nsIn K mainGlobals "spoiled" = some (some (.ref f_spoiled)))
    (l_spoiled : K.lookup f_spoiled = some ⟨oc_spoiled, od_spoiled, .func (PySem.W.fnOf "spoiled" "spoiled" (defArgs s_spoiled) (defBody s_spoiled) (defScope s_spoiled) .none kV_spoiled dc_spoiled pm_spoiled an_spoiled cd_spoiled ct_spoiled), sl_spoiled⟩)
    (k_spoiled : PySem.W.codeIn K cd_spoiled "spoiled" = true)
    (p_spoiled : PySem.W.keepIn K (.ref f_spoiled) = true)
    (a_is_number_ : PySem.W.nsIn K mainGlobals "is_number" = some (some (.ref f_is_number)))
    (l_is_number : K.lookup f_is_number = some ⟨oc_is_number, od_is_number, .func (PySem.W.fnOf "is_number" "is_number" (defArgs s_is_number) (defBody s_is_number) (defScope s_is_number) .none kV_is_number dc_is_number pm_is_number an_is_number cd_is_number ct_is_number), sl_is_number⟩)
    (k_is_number : PySem.W.codeIn K cd_is_number "is_number" = true)
    (p_is_number : PySem.W.keepIn K (.ref f_is_number) = true)
    (a_are_added_ : PySem.W.nsIn K mainGlobals "are_added" = some (some (.ref f_are_added)))
    (l_are_added : K.lookup f_are_added = some ⟨oc_are_added, od_are_added, .func (PySem.W.fnOf "are_added" "are_added" (defArgs s_are_added) (defBody s_are_added) (defScope s_are_added) .none kV_are_added dc_are_added pm_are_added an_are_added cd_are_added ct_are_added), sl_are_added⟩)
    (k_are_added : PySem.W.codeIn K cd_are_added "are_added" = true)
    (p_are_added : PySem.W.keepIn K (.ref f_are_added) = true)
    (a_is_deed_ : PySem.W.nsIn K mainGlobals "is_deed" = some (some (.ref f_is_deed)))
    (l_is_deed : K.lookup f_is_deed = some ⟨oc_is_deed, od_is_deed, .func (PySem.W.fnOf "is_deed" "is_deed" (defArgs s_is_deed) (defBody s_is_deed) (defScope s_is_deed) .none kV_is_deed dc_is_deed pm_is_deed an_is_deed cd_is_deed ct_is_deed), sl_is_deed⟩)
    (k_is_deed : PySem.W.codeIn K cd_is_deed "is_deed" = true)
    (p_is_deed : PySem.W.keepIn K (.ref f_is_deed) = true)
    (a_need_deeds_ : PySem.W.nsIn K mainGlobals "need_deeds" = some (some (.ref f_need_deeds)))
    (l_need_deeds : K.lookup f_need_deeds = some ⟨oc_need_deeds, od_need_deeds, .func (PySem.W.fnOf "need_deeds" "need_deeds" (defArgs s_need_deeds) (defBody s_need_deeds) (defScope s_need_deeds) .none kV_need_deeds dc_need_deeds pm_need_deeds an_need_deeds cd_need_deeds ct_need_deeds), sl_need_deeds⟩)
    (k_need_deeds : PySem.W.codeIn K cd_need_deeds "need_deeds" = true)
    (p_need_deeds : PySem.W.keepIn K (.ref f_need_deeds) = true)
    (a_Line_init_ : PySem.W.findIn K (.ref aC) "__init__" = some (some (.ref f_Line_init)))
    (i_Line_init : PySem.W.isFn K (.ref f_Line_init) = true)
    (l_Line_init : K.lookup f_Line_init = some ⟨oc_Line_init, od_Line_init, .func (PySem.W.fnOf "__init__" "Line.__init__" (defArgs s_Line_init) (defBody s_Line_init) (defScope s_Line_init) (.ref a_dfl) kV_Line_init dc_Line_init pm_Line_init an_Line_init cd_Line_init ct_Line_init), sl_Line_init⟩)
    (l_dfl : K.lookup a_dfl = some ⟨oc_dfl, od_dfl, .seq #[.ref a_emp] m_dfl, sl_dfl⟩)
    (k_Line_init : PySem.W.codeIn K cd_Line_init "Line.__init__" = true)
    (p_Line_init : PySem.W.keepIn K (.ref f_Line_init) = true)
    (a_put_ : PySem.W.findIn K (.ref aC) "put" = some (some (.ref f_put)))
    (i_put : PySem.W.isFn K (.ref f_put) = true)
    (l_put : K.lookup f_put = some ⟨oc_put, od_put, .func (PySem.W.fnOf "put" "Line.put" (defArgs s_put) (defBody s_put) (defScope s_put) .none kV_put dc_put pm_put an_put cd_put ct_put), sl_put⟩)
    (k_put : PySem.W.codeIn K cd_put "Line.put" = true)
    (p_put : PySem.W.keepIn K (.ref f_put) = true)
    (a_due_ : PySem.W.findIn K (.ref aC) "due" = some (some (.ref f_due)))
    (i_due : PySem.W.isFn K (.ref f_due) = true)
    (l_due : K.lookup f_due = some ⟨oc_due, od_due, .func (PySem.W.fnOf "due" "Line.due" (defArgs s_due) (defBody s_due) (defScope s_due) .none kV_due dc_due pm_due an_due (.ref cD) ct_due), sl_due⟩)
    (k_due : PySem.W.codeIn K (.ref cD) "Line.due" = true)
    (p_due : PySem.W.keepIn K (.ref f_due) = true)
    (a_left_of_ : PySem.W.nsIn K mainGlobals "left_of" = some (some (.ref f_left_of)))
    (l_left_of : K.lookup f_left_of = some ⟨oc_left_of, od_left_of, .func (PySem.W.fnOf "left_of" "left_of" (defArgs s_left_of) (defBody s_left_of) (defScope s_left_of) .none kV_left_of dc_left_of pm_left_of an_left_of cd_left_of ct_left_of), sl_left_of⟩)
    (k_left_of : PySem.W.codeIn K cd_left_of "left_of" = true)
    (p_left_of : PySem.W.keepIn K (.ref f_left_of) = true)
    (a_values_of_ : PySem.W.nsIn K mainGlobals "values_of" = some (some (.ref f_values_of)))
    (l_values_of : K.lookup f_values_of = some ⟨oc_values_of, od_values_of, .func (PySem.W.fnOf "values_of" "values_of" (defArgs s_values_of) (defBody s_values_of) (defScope s_values_of) .none kV_values_of dc_values_of pm_values_of an_values_of cd_values_of ct_values_of), sl_values_of⟩)
    (k_values_of : PySem.W.codeIn K cd_values_of "values_of" = true)
    (p_values_of : PySem.W.keepIn K (.ref f_values_of) = true)
    (a_check_ : PySem.W.nsIn K mainGlobals "check" = some (some (.ref f_check)))
    (l_check : K.lookup f_check = some ⟨oc_check, od_check, .func (PySem.W.fnOf "check" "check" (defArgs s_check) (defBody s_check) (defScope s_check) .none kV_check dc_check pm_check an_check cd_check ct_check), sl_check⟩)
    (k_check : PySem.W.codeIn K cd_check "check" = true)
    (p_check : PySem.W.keepIn K (.ref f_check) = true)
    (a_mark_of_ : PySem.W.nsIn K mainGlobals "mark_of" = some (some (.ref f_mark_of)))
    (l_mark_of : K.lookup f_mark_of = some ⟨oc_mark_of, od_mark_of, .func (PySem.W.fnOf "mark_of" "mark_of" (defArgs s_mark_of) (defBody s_mark_of) (defScope s_mark_of) .none kV_mark_of dc_mark_of pm_mark_of an_mark_of cd_mark_of ct_mark_of), sl_mark_of⟩)
    (k_mark_of : PySem.W.codeIn K cd_mark_of "mark_of" = true)
    (p_mark_of : PySem.W.keepIn K (.ref f_mark_of) = true)
    (a_check_of_ : PySem.W.nsIn K mainGlobals "check_of" = some (some (.ref f_check_of)))
    (l_check_of : K.lookup f_check_of = some ⟨oc_check_of, od_check_of, .func (PySem.W.fnOf "check_of" "check_of" (defArgs s_check_of) (defBody s_check_of) (defScope s_check_of) .none kV_check_of dc_check_of pm_check_of an_check_of cd_check_of ct_check_of), sl_check_of⟩)
    (k_check_of : PySem.W.codeIn K cd_check_of "check_of" = true)
    (p_check_of : PySem.W.keepIn K (.ref f_check_of) = true)
    (a_put_as_ : PySem.W.nsIn K mainGlobals "put_as" = some (some (.ref f_put_as)))
    (l_put_as : K.lookup f_put_as = some ⟨oc_put_as, od_put_as, .func (PySem.W.fnOf "put_as" "put_as" (defArgs s_put_as) (defBody s_put_as) (defScope s_put_as) .none kV_put_as dc_put_as pm_put_as an_put_as cd_put_as ct_put_as), sl_put_as⟩)
    (k_put_as : PySem.W.codeIn K cd_put_as "put_as" = true)
    (p_put_as : PySem.W.keepIn K (.ref f_put_as) = true)
    (a_letter_of_ : PySem.W.nsIn K mainGlobals "letter_of" = some (some (.ref f_letter_of)))
    (l_letter_of : K.lookup f_letter_of = some ⟨oc_letter_of, od_letter_of, .func (PySem.W.fnOf "letter_of" "letter_of" (defArgs s_letter_of) (defBody s_letter_of) (defScope s_letter_of) .none kV_letter_of dc_letter_of pm_letter_of an_letter_of cd_letter_of ct_letter_of), sl_letter_of⟩)
    (k_letter_of : PySem.W.codeIn K cd_letter_of "letter_of" = true)
    (p_letter_of : PySem.W.keepIn K (.ref f_letter_of) = true)
    (a_Scanner_init_ : PySem.W.findIn K (.ref aD) "__init__" = some (some (.ref f_Scanner_init)))
    (i_Scanner_init : PySem.W.isFn K (.ref f_Scanner_init) = true)
    (l_Scanner_init : K.lookup f_Scanner_init = some ⟨oc_Scanner_init, od_Scanner_init, .func (PySem.W.fnOf "__init__" "Scanner.__init__" (defArgs s_Scanner_init) (defBody s_Scanner_init) (defScope s_Scanner_init) .none kV_Scanner_init dc_Scanner_init pm_Scanner_init an_Scanner_init cd_Scanner_init ct_Scanner_init), sl_Scanner_init⟩)
    (k_Scanner_init : PySem.W.codeIn K cd_Scanner_init "Scanner.__init__" = true)
    (p_Scanner_init : PySem.W.keepIn K (.ref f_Scanner_init) = true)
    (a_fed_ : PySem.W.findIn K (.ref aD) "fed" = some (some (.ref f_fed)))
    (i_fed : PySem.W.isFn K (.ref f_fed) = true)
    (l_fed : K.lookup f_fed = some ⟨oc_fed, od_fed, .func (PySem.W.fnOf "fed" "Scanner.fed" (defArgs s_fed) (defBody s_fed) (defScope s_fed) .none kV_fed dc_fed pm_fed an_fed cd_fed ct_fed), sl_fed⟩)
    (k_fed : PySem.W.codeIn K cd_fed "Scanner.fed" = true)
    (p_fed : PySem.W.keepIn K (.ref f_fed) = true)
    (a_is_open_ : PySem.W.findIn K (.ref aD) "is_open" = some (some (.ref f_is_open)))
    (i_is_open : PySem.W.isFn K (.ref f_is_open) = true)
    (l_is_open : K.lookup f_is_open = some ⟨oc_is_open, od_is_open, .func (PySem.W.fnOf "is_open" "Scanner.is_open" (defArgs s_is_open) (defBody s_is_open) (defScope s_is_open) .none kV_is_open dc_is_open pm_is_open an_is_open cd_is_open ct_is_open), sl_is_open⟩)
    (k_is_open : PySem.W.codeIn K cd_is_open "Scanner.is_open" = true)
    (p_is_open : PySem.W.keepIn K (.ref f_is_open) = true)
    (a_feed_ : PySem.W.findIn K (.ref aD) "feed" = some (some (.ref f_feed)))
    (i_feed : PySem.W.isFn K (.ref f_feed) = true)
    (l_feed : K.lookup f_feed = some ⟨oc_feed, od_feed, .func (PySem.W.fnOf "feed" "Scanner.feed" (defArgs s_feed) (defBody s_feed) (defScope s_feed) .none kV_feed dc_feed pm_feed an_feed cd_feed ct_feed), sl_feed⟩)
    (k_feed : PySem.W.codeIn K cd_feed "Scanner.feed" = true)
    (p_feed : PySem.W.keepIn K (.ref f_feed) = true)
    (a_begin_ : PySem.W.findIn K (.ref aD) "begin" = some (some (.ref f_begin)))
    (i_begin : PySem.W.isFn K (.ref f_begin) = true)
    (l_begin : K.lookup f_begin = some ⟨oc_begin, od_begin, .func (PySem.W.fnOf "begin" "Scanner.begin" (defArgs s_begin) (defBody s_begin) (defScope s_begin) .none kV_begin dc_begin pm_begin an_begin cd_begin ct_begin), sl_begin⟩)
    (k_begin : PySem.W.codeIn K cd_begin "Scanner.begin" = true)
    (p_begin : PySem.W.keepIn K (.ref f_begin) = true)
    (a_bad_ : PySem.W.findIn K (.ref aD) "bad" = some (some (.ref f_bad)))
    (i_bad : PySem.W.isFn K (.ref f_bad) = true)
    (l_bad : K.lookup f_bad = some ⟨oc_bad, od_bad, .func (PySem.W.fnOf "bad" "Scanner.bad" (defArgs s_bad) (defBody s_bad) (defScope s_bad) .none kV_bad dc_bad pm_bad an_bad cd_bad ct_bad), sl_bad⟩)
    (k_bad : PySem.W.codeIn K cd_bad "Scanner.bad" = true)
    (p_bad : PySem.W.keepIn K (.ref f_bad) = true)
    (a_known_ : PySem.W.findIn K (.ref aD) "known" = some (some (.ref f_known)))
    (i_known : PySem.W.isFn K (.ref f_known) = true)
    (l_known : K.lookup f_known = some ⟨oc_known, od_known, .func (PySem.W.fnOf "known" "Scanner.known" (defArgs s_known) (defBody s_known) (defScope s_known) .none kV_known dc_known pm_known an_known cd_known ct_known), sl_known⟩)
    (k_known : PySem.W.codeIn K cd_known "Scanner.known" = true)
    (p_known : PySem.W.keepIn K (.ref f_known) = true)
    (a_read_ : PySem.W.findIn K (.ref aD) "read" = some (some (.ref f_read)))
    (i_read : PySem.W.isFn K (.ref f_read) = true)
    (l_read : K.lookup f_read = some ⟨oc_read, od_read, .func (PySem.W.fnOf "read" "Scanner.read" (defArgs s_read) (defBody s_read) (defScope s_read) .none kV_read dc_read pm_read an_read cd_read ct_read), sl_read⟩)
    (k_read : PySem.W.codeIn K cd_read "Scanner.read" = true)
    (p_read : PySem.W.keepIn K (.ref f_read) = true)
    (a__law_pen_ : PySem.W.nsIn K mainGlobals "_law_pen" = some (some (.ref f__law_pen)))
    (l__law_pen : K.lookup f__law_pen = some ⟨oc__law_pen, od__law_pen, .func (PySem.W.fnOf "_law_pen" "_law_pen" (defArgs s__law_pen) (defBody s__law_pen) (defScope s__law_pen) .none kV__law_pen dc__law_pen pm__law_pen an__law_pen cd__law_pen ct__law_pen), sl__law_pen⟩)
    (k__law_pen : PySem.W.codeIn K cd__law_pen "_law_pen" = true)
    (p__law_pen : PySem.W.keepIn K (.ref f__law_pen) = true)
    (a__law_draw_ : PySem.W.nsIn K mainGlobals "_law_draw" = some (some (.ref f__law_draw)))
    (l__law_draw : K.lookup f__law_draw = some ⟨oc__law_draw, od__law_draw, .func (PySem.W.fnOf "_law_draw" "_law_draw" (defArgs s__law_draw) (defBody s__law_draw) (defScope s__law_draw) .none kV__law_draw dc__law_draw pm__law_draw an__law_draw cd__law_draw ct__law_draw), sl__law_draw⟩)
    (k__law_draw : PySem.W.codeIn K cd__law_draw "_law_draw" = true)
    (p__law_draw : PySem.W.keepIn K (.ref f__law_draw) = true)
    (a__law_plain_ : PySem.W.nsIn K mainGlobals "_law_plain" = some (some (.ref f__law_plain)))
    (l__law_plain : K.lookup f__law_plain = some ⟨oc__law_plain, od__law_plain, .func (PySem.W.fnOf "_law_plain" "_law_plain" (defArgs s__law_plain) (defBody s__law_plain) (defScope s__law_plain) .none kV__law_plain dc__law_plain pm__law_plain an__law_plain cd__law_plain ct__law_plain), sl__law_plain⟩)
    (k__law_plain : PySem.W.codeIn K cd__law_plain "_law_plain" = true)
    (p__law_plain : PySem.W.keepIn K (.ref f__law_plain) = true)
    (a__law_deed_ : PySem.W.nsIn K mainGlobals "_law_deed" = some (some (.ref f__law_deed)))
    (l__law_deed : K.lookup f__law_deed = some ⟨oc__law_deed, od__law_deed, .func (PySem.W.fnOf "_law_deed" "_law_deed" (defArgs s__law_deed) (defBody s__law_deed) (defScope s__law_deed) .none kV__law_deed dc__law_deed pm__law_deed an__law_deed cd__law_deed ct__law_deed), sl__law_deed⟩)
    (k__law_deed : PySem.W.codeIn K cd__law_deed "_law_deed" = true)
    (p__law_deed : PySem.W.keepIn K (.ref f__law_deed) = true)
    (a__law_packet_ : PySem.W.nsIn K mainGlobals "_law_packet" = some (some (.ref f__law_packet)))
    (l__law_packet : K.lookup f__law_packet = some ⟨oc__law_packet, od__law_packet, .func (PySem.W.fnOf "_law_packet" "_law_packet" (defArgs s__law_packet) (defBody s__law_packet) (defScope s__law_packet) .none kV__law_packet dc__law_packet pm__law_packet an__law_packet cd__law_packet ct__law_packet), sl__law_packet⟩)
    (k__law_packet : PySem.W.codeIn K cd__law_packet "_law_packet" = true)
    (p__law_packet : PySem.W.keepIn K (.ref f__law_packet) = true)
    (a__law_rows_ : PySem.W.nsIn K mainGlobals "_law_rows" = some (some (.ref f__law_rows)))
    (l__law_rows : K.lookup f__law_rows = some ⟨oc__law_rows, od__law_rows, .func (PySem.W.fnOf "_law_rows" "_law_rows" (defArgs s__law_rows) (defBody s__law_rows) (defScope s__law_rows) .none kV__law_rows dc__law_rows pm__law_rows an__law_rows cd__law_rows ct__law_rows), sl__law_rows⟩)
    (k__law_rows : PySem.W.codeIn K cd__law_rows "_law_rows" = true)
    (p__law_rows : PySem.W.keepIn K (.ref f__law_rows) = true)
    (a__law_heard_ : PySem.W.nsIn K mainGlobals "_law_heard" = some (some (.ref f__law_heard)))
    (l__law_heard : K.lookup f__law_heard = some ⟨oc__law_heard, od__law_heard, .func (PySem.W.fnOf "_law_heard" "_law_heard" (defArgs s__law_heard) (defBody s__law_heard) (defScope s__law_heard) .none kV__law_heard dc__law_heard pm__law_heard an__law_heard cd__law_heard ct__law_heard), sl__law_heard⟩)
    (k__law_heard : PySem.W.codeIn K cd__law_heard "_law_heard" = true)
    (p__law_heard : PySem.W.keepIn K (.ref f__law_heard) = true)
    (a_law_ : PySem.W.nsIn K mainGlobals "law" = some (some (.ref f_law)))
    (l_law : K.lookup f_law = some ⟨oc_law, od_law, .func (PySem.W.fnOf "law" "law" (defArgs s_law) (defBody s_law) (defScope s_law) .none kV_law dc_law pm_law an_law cd_law ct_law), sl_law⟩)
    (k_law : PySem.W.codeIn K cd_law "law" = true)
    (p_law : PySem.W.keepIn K (.ref f_law) = true)
    : ∃ fd : FuncData, (∀ (s : Shared) (v : Value), BindsTo s fd ⟨[v], []⟩ [("_law_script", v)]) ∧ ∀ base : Heap, K.In base → base.Ns mainGlobals mg → TabB base mg cD Pt → FnG l.prog w K mg base 7 fa fd ["_law_script"] (sp_law K Pt) := by
  have e := hfa.symm.trans (PySem.W.mg_of X G a_law_)
  cases e
  have clC : Cls K aC := ⟨pgC, hdC, poC, saC⟩
  have clD : Cls K aD := ⟨pgD, hdD, poD, saD⟩
  have T : Txt K mg aC aD := ⟨⟨_, PySem.W.mg_of X G c_LEAST_PLAIN, _, rfl⟩, ⟨_, PySem.W.mg_of X G c_LAST_PLAIN, _, rfl⟩, ⟨_, PySem.W.mg_of X G c_BASE, _, rfl⟩, ⟨_, PySem.W.mg_of X G c_MOST_DEEDS, _, rfl⟩, ⟨_, PySem.W.mg_of X G c_MOST_PLACE, _, rfl⟩, ⟨_, PySem.W.mg_of X G c_MOST_BY, _, rfl⟩, ⟨_, PySem.W.mg_of X G c_MOST_ADDED, _, rfl⟩, ⟨_, PySem.W.mg_of X G c_LAST_SIGN, _, rfl⟩, ⟨_, PySem.W.mg_of X G c_VALUES, _, rfl⟩, ⟨_, PySem.W.mg_of X G c_MARK, _, rfl⟩, ⟨_, PySem.W.mg_of X G c_OPENING_MARK, _, rfl⟩, ⟨_, PySem.W.mg_of X G c_MOST_NUMBER, _, rfl⟩, ⟨_, PySem.W.mg_of X G c_MOST_SIZE, _, rfl⟩, ⟨_, PySem.W.mg_of X G c_AROUND, _, rfl⟩, ⟨_, PySem.W.mg_of X G c_SIZES, _, rfl⟩, PySem.W.mg_none_of X G z_abs, PySem.W.mg_none_of X G z_all, PySem.W.mg_none_of X G z_bool, PySem.W.mg_none_of X G z_divmod, PySem.W.mg_none_of X G z_enumerate, PySem.W.mg_none_of X G z_int, PySem.W.mg_none_of X G z_isinstance, PySem.W.mg_none_of X G z_len, PySem.W.mg_none_of X G z_list, PySem.W.mg_none_of X G z_max, PySem.W.mg_none_of X G z_ord, PySem.W.mg_none_of X G z_range, PySem.W.mg_none_of X G z_repr, PySem.W.mg_none_of X G z_reversed, PySem.W.mg_none_of X G z_sorted, PySem.W.mg_none_of X G z_str, PySem.W.mg_none_of X G z_sum, PySem.W.mg_none_of X G z_tuple, ⟨_, PySem.W.mg_of X G x_OPENING, _, _, _, l_OPENING, rfl, rfl, (show (3 : Nat) ≤ sizeLine by decide), .cons ⟨_, rfl⟩ (.cons ⟨_, rfl⟩ (.cons ⟨_, rfl⟩ (.nil)))⟩, ⟨_, PySem.W.mg_of X G x_LETTERS, _, _, _, l_LETTERS, rfl, rfl, (show (11 : Nat) ≤ sizeLine by decide), .cons ⟨_, rfl⟩ (.cons ⟨_, rfl⟩ (.cons ⟨_, rfl⟩ (.cons ⟨_, rfl⟩ (.cons ⟨_, rfl⟩ (.cons ⟨_, rfl⟩ (.cons ⟨_, rfl⟩ (.cons ⟨_, rfl⟩ (.cons ⟨_, rfl⟩ (.cons ⟨_, rfl⟩ (.cons ⟨_, rfl⟩ (.nil)))))))))))⟩, ⟨_, PySem.W.mg_of X G x_MARKS, _, _, _, l_MARKS, rfl, rfl, (show (2 : Nat) ≤ sizeLine by decide), .cons ⟨_, rfl⟩ (.cons ⟨_, rfl⟩ (.nil))⟩, ⟨_, PySem.W.mg_of X G x_PASS, _, _, _, l_PASS, rfl, rfl, (show (1 : Nat) ≤ sizeLine by decide), .cons ⟨_, rfl⟩ (.nil)⟩, ⟨_, PySem.W.mg_of X G x_BY, kint_by l_BY⟩, clC, clD, n_coming, n_given, n_under_way, n_latest, n_held, n_now_kind, n_many_fed, n_begun_at, n_begun_mark, n_begun_check, n_begun_signs⟩
  have F_is_plain := fun_mk (st := s_is_plain) l_is_plain k_is_plain p_is_plain
  have b_is_plain := F_is_plain.binds (ps := pr_is_plain) fun _ _ _ _ _ _ us hl => match us, hl with | [_], _ => rfl
  have F_written := fun_mk (st := s_written) l_written k_written p_written
  have b_written := F_written.binds (ps := pr_written) fun _ _ _ _ _ _ us hl => match us, hl with | [_, _], _ => rfl
  have F_number_in := fun_mk (st := s_number_in) l_number_in k_number_in p_number_in
  have b_number_in := F_number_in.binds (ps := pr_number_in) fun _ _ _ _ _ _ us hl => match us, hl with | [_], _ => rfl
  have F_value_at := fun_mk (st := s_value_at) l_value_at k_value_at p_value_at
  have b_value_at := F_value_at.binds (ps := pr_value_at) fun _ _ _ _ _ _ us hl => match us, hl with | [_, _], _ => rfl
  have F_spoiled := fun_mk (st := s_spoiled) l_spoiled k_spoiled p_spoiled
  have b_spoiled := F_spoiled.binds (ps := pr_spoiled) fun _ _ _ _ _ _ us hl => match us, hl with | [_, _, _], _ => rfl
  have F_is_number := fun_mk (st := s_is_number) l_is_number k_is_number p_is_number
  have b_is_number := F_is_number.binds (ps := pr_is_number) fun _ _ _ _ _ _ us hl => match us, hl with | [_, _, _], _ => rfl
  have F_are_added := fun_mk (st := s_are_added) l_are_added k_are_added p_are_added
  have b_are_added := F_are_added.binds (ps := pr_are_added) fun _ _ _ _ _ _ us hl => match us, hl with | [_], _ => rfl
  have F_is_deed := fun_mk (st := s_is_deed) l_is_deed k_is_deed p_is_deed
  have b_is_deed := F_is_deed.binds (ps := pr_is_deed) fun _ _ _ _ _ _ us hl => match us, hl with | [_, _], _ => rfl
  have F_need_deeds := fun_mk (st := s_need_deeds) l_need_deeds k_need_deeds p_need_deeds
  have b_need_deeds := kb_fun F_need_deeds (ps := pr_need_deeds) 1 ["late"] fun _ _ _ _ _ _ us ws l1 l2 => match us, ws, l1, l2 with | [_], [_], _, _ => rfl
  have F_put := fun_mk (st := s_put) l_put k_put p_put
  have b_put := kb_fun F_put (ps := pr_put) 2 ["turn", "way"] fun _ _ _ _ _ _ us ws l1 l2 => match us, ws, l1, l2 with | [_, _], [_, _], _, _ => rfl
  have F_left_of := fun_mk (st := s_left_of) l_left_of k_left_of p_left_of
  have b_left_of := kb_fun F_left_of (ps := pr_left_of) 1 ["base", "by"] fun _ _ _ _ _ _ us ws l1 l2 => match us, ws, l1, l2 with | [_], [_, _], _, _ => rfl
  have F_values_of := fun_mk (st := s_values_of) l_values_of k_values_of p_values_of
  have b_values_of := F_values_of.binds (ps := pr_values_of) fun _ _ _ _ _ _ us hl => match us, hl with | [_], _ => rfl
  have F_check := fun_mk (st := s_check) l_check k_check p_check
  have b_check := F_check.binds (ps := pr_check) fun _ _ _ _ _ _ us hl => match us, hl with | [_, _], _ => rfl
  have F_mark_of := fun_mk (st := s_mark_of) l_mark_of k_mark_of p_mark_of
  have b_mark_of := F_mark_of.binds (ps := pr_mark_of) fun _ _ _ _ _ _ us hl => match us, hl with | [_], _ => rfl
  have F_check_of := fun_mk (st := s_check_of) l_check_of k_check_of p_check_of
  have b_check_of := F_check_of.binds (ps := pr_check_of) fun _ _ _ _ _ _ us hl => match us, hl with | [_, _], _ => rfl
  have F_put_as := fun_mk (st := s_put_as) l_put_as k_put_as p_put_as
  have b_put_as := kb_fun F_put_as (ps := pr_put_as) 1 ["kind"] fun _ _ _ _ _ _ us ws l1 l2 => match us, ws, l1, l2 with | [_], [_], _, _ => rfl
  have F_letter_of := fun_mk (st := s_letter_of) l_letter_of k_letter_of p_letter_of
  have b_letter_of := F_letter_of.binds (ps := pr_letter_of) fun _ _ _ _ _ _ us hl => match us, hl with | [_, _], _ => rfl
  have F_Scanner_init := fun_mk (st := s_Scanner_init) l_Scanner_init k_Scanner_init p_Scanner_init
  have b_Scanner_init := kb_fun F_Scanner_init (ps := pr_Scanner_init) 1 ["kind"] fun _ _ _ _ _ _ us ws l1 l2 => match us, ws, l1, l2 with | [_], [_], _, _ => rfl
  have F_fed := fun_mk (st := s_fed) l_fed k_fed p_fed
  have b_fed := F_fed.binds (ps := pr_fed) fun _ _ _ _ _ _ us hl => match us, hl with | [_], _ => rfl
  have F_is_open := fun_mk (st := s_is_open) l_is_open k_is_open p_is_open
  have b_is_open := F_is_open.binds (ps := pr_is_open) fun _ _ _ _ _ _ us hl => match us, hl with | [_], _ => rfl
  have F_feed := fun_mk (st := s_feed) l_feed k_feed p_feed
  have b_feed := F_feed.binds (ps := pr_feed) fun _ _ _ _ _ _ us hl => match us, hl with | [_, _], _ => rfl
  have F_begin := fun_mk (st := s_begin) l_begin k_begin p_begin
  have b_begin := F_begin.binds (ps := pr_begin) fun _ _ _ _ _ _ us hl => match us, hl with | [_, _], _ => rfl
  have F_bad := fun_mk (st := s_bad) l_bad k_bad p_bad
  have b_bad := F_bad.binds (ps := pr_bad) fun _ _ _ _ _ _ us hl => match us, hl with | [_], _ => rfl
  have F_known := fun_mk (st := s_known) l_known k_known p_known
  have b_known := F_known.binds (ps := pr_known) fun _ _ _ _ _ _ us hl => match us, hl with | [_], _ => rfl
  have F_read := fun_mk (st := s_read) l_read k_read p_read
  have b_read := F_read.binds (ps := pr_read) fun _ _ _ _ _ _ us hl => match us, hl with | [_], _ => rfl
  have F__law_pen := fun_mk (st := s__law_pen) l__law_pen k__law_pen p__law_pen
  have b__law_pen := F__law_pen.binds (ps := pr__law_pen) fun _ _ _ _ _ _ us hl => match us, hl with | [_], _ => rfl
  have F__law_draw := fun_mk (st := s__law_draw) l__law_draw k__law_draw p__law_draw
  have b__law_draw := F__law_draw.binds (ps := pr__law_draw) fun _ _ _ _ _ _ us hl => match us, hl with | [_, _], _ => rfl
  have F__law_plain := fun_mk (st := s__law_plain) l__law_plain k__law_plain p__law_plain
  have b__law_plain := F__law_plain.binds (ps := pr__law_plain) fun _ _ _ _ _ _ us hl => match us, hl with | [_], _ => rfl
  have F__law_deed := fun_mk (st := s__law_deed) l__law_deed k__law_deed p__law_deed
  have b__law_deed := F__law_deed.binds (ps := pr__law_deed) fun _ _ _ _ _ _ us hl => match us, hl with | [_, _, _], _ => rfl
  have F__law_packet := fun_mk (st := s__law_packet) l__law_packet k__law_packet p__law_packet
  have b__law_packet := F__law_packet.binds (ps := pr__law_packet) fun _ _ _ _ _ _ us hl => match us, hl with | [_], _ => rfl
  have F__law_rows := fun_mk (st := s__law_rows) l__law_rows k__law_rows p__law_rows
  have b__law_rows := F__law_rows.binds (ps := pr__law_rows) fun _ _ _ _ _ _ us hl => match us, hl with | [_, _, _], _ => rfl
  have F__law_heard := fun_mk (st := s__law_heard) l__law_heard k__law_heard p__law_heard
  have b__law_heard := F__law_heard.binds (ps := pr__law_heard) fun _ _ _ _ _ _ us hl => match us, hl with | [_, _, _, _, _], _ => rfl
  have F_law := fun_mk (st := s_law) l_law k_law p_law
  have F_due : Fun K "due" "Line.due" s_due f_due _ := fun_mk (st := s_due) l_due k_due p_due
  have b_due := kb_fun F_due (ps := pr_due) 1 ["turn", "way"] fun _ _ _ _ _ _ us ws l1 l2 => match us, ws, l1, l2 with | [_], [_, _], _, _ => rfl
  have F_Line_init : FunD K "__init__" "Line.__init__" (defArgs s_Line_init) (defBody s_Line_init) (defScope s_Line_init) [.ref a_emp] [] f_Line_init _ := ⟨⟨_, _, _, _, _, _, _, _, _, _, rfl, l_Line_init, k_Line_init, .inr ⟨by simp, a_dfl, _, [.ref a_emp], m_dfl, rfl, l_dfl, rfl, .cons rfl .nil⟩, .inl rfl⟩, p_Line_init⟩
  obtain ⟨its, b_Line_init⟩ := F_Line_init.kbindsD (ps := pr_Line_init) 2 ["late"] (fun us _ ws => us ++ ws) (by simp) (fun r1 _ r3 => r1.append r3) fun _ _ _ _ _ _ _ us its ws l1 l2 l3 => match us, its, ws, l1, l2, l3 with | [_, _], [_], [_], _, _, _ => ⟨_, rfl, rfl⟩
  refine ⟨PySem.W.fnOf "law" "law" (defArgs s_law) (defBody s_law) (defScope s_law) .none kV_law dc_law pm_law an_law cd_law ct_law, fun s v => .of_eq rfl, fun base _ _ TB => ?_⟩
  have c_is_plain : Cal l.prog w K mg base 1 "is_plain" _ := ⟨⟨_, _, _, ok_is_plain F_is_plain T, PySem.W.mg_of X G a_is_plain_, p_is_plain, b_is_plain⟩⟩
  have c_written : Cal l.prog w K mg base 1 "written" _ := ⟨⟨_, _, _, ok_written F_written T, PySem.W.mg_of X G a_written_, p_written, b_written⟩⟩
  have c_number_in : Cal l.prog w K mg base 1 "number_in" _ := ⟨⟨_, _, _, ok_number_in F_number_in T, PySem.W.mg_of X G a_number_in_, p_number_in, b_number_in⟩⟩
  have c_left_of : CalK l.prog w K mg base 1 "left_of" 1 ["base", "by"] _ := ⟨⟨_, _, _, _, ok_left_of F_left_of T, PySem.W.mg_of X G a_left_of_, p_left_of, b_left_of⟩⟩
  have c_values_of : Cal l.prog w K mg base 1 "values_of" _ := ⟨⟨_, _, _, ok_values_of F_values_of T, PySem.W.mg_of X G a_values_of_, p_values_of, b_values_of⟩⟩
  have c_check : Cal l.prog w K mg base 2 "check" _ := ⟨⟨_, _, _, ok_check F_check T c_values_of c_written c_left_of, PySem.W.mg_of X G a_check_, p_check, b_check⟩⟩
  have c_mark_of : Cal l.prog w K mg base 1 "mark_of" _ := ⟨⟨_, _, _, ok_mark_of F_mark_of T, PySem.W.mg_of X G a_mark_of_, p_mark_of, b_mark_of⟩⟩
  have c_check_of : Cal l.prog w K mg base 1 "check_of" _ := ⟨⟨_, _, _, ok_check_of F_check_of T, PySem.W.mg_of X G a_check_of_, p_check_of, b_check_of⟩⟩
  have c_put_as : CalK l.prog w K mg base 3 "put_as" 1 ["kind"] _ := ⟨⟨_, _, _, _, ok_put_as F_put_as T c_check_of c_written c_mark_of c_check, PySem.W.mg_of X G a_put_as_, p_put_as, b_put_as⟩⟩
  have c_letter_of : Cal l.prog w K mg base 2 "letter_of" _ := ⟨⟨_, _, _, ok_letter_of F_letter_of T c_mark_of, PySem.W.mg_of X G a_letter_of_, p_letter_of, b_letter_of⟩⟩
  have k_Scanner : MakK l.prog w K mg base 1 "Scanner" aD 0 ["kind"] (sp_Scanner_init aD) := ⟨⟨_, _, _, _, ⟨mkD, a_Scanner_init_, i_Scanner_init, kcD⟩, ok_Scanner_init F_Scanner_init T, PySem.W.mg_of X G xD, b_Scanner_init⟩⟩
  have m_fed : Met l.prog w K mg base 1 aD "fed" _ := ⟨⟨_, _, _, clD, ⟨a_fed_, i_fed, p_fed⟩, ok_fed F_fed T, b_fed⟩⟩
  have m_is_open : Met l.prog w K mg base 1 aD "is_open" _ := ⟨⟨_, _, _, clD, ⟨a_is_open_, i_is_open, p_is_open⟩, ok_is_open F_is_open T, b_is_open⟩⟩
  have m_begin : Met l.prog w K mg base 1 aD "begin" _ := ⟨⟨_, _, _, clD, ⟨a_begin_, i_begin, p_begin⟩, ok_begin F_begin T, b_begin⟩⟩
  have m_bad : Met l.prog w K mg base 1 aD "bad" _ := ⟨⟨_, _, _, clD, ⟨a_bad_, i_bad, p_bad⟩, ok_bad F_bad T, b_bad⟩⟩
  have m_read : Met l.prog w K mg base 3 aD "read" _ := ⟨⟨_, _, _, clD, ⟨a_read_, i_read, p_read⟩, ok_read F_read T c_number_in c_letter_of c_check, b_read⟩⟩
  have m_known : Met l.prog w K mg base 4 aD "known" _ := ⟨⟨_, _, _, clD, ⟨a_known_, i_known, p_known⟩, ok_known F_known T c_number_in m_bad m_read, b_known⟩⟩
  have m_feed : Met l.prog w K mg base 5 aD "feed" _ := ⟨⟨_, _, _, clD, ⟨a_feed_, i_feed, p_feed⟩, ok_feed F_feed T c_is_plain m_bad m_begin m_known, b_feed⟩⟩
  have c_value_at : Cal l.prog w K mg base 2 "value_at" _ := ⟨⟨_, _, _, ok_value_at F_value_at T c_is_plain c_number_in, PySem.W.mg_of X G a_value_at_, p_value_at, b_value_at⟩⟩
  have c_spoiled : Cal l.prog w K mg base 3 "spoiled" _ := ⟨⟨_, _, _, ok_spoiled F_spoiled T c_value_at c_written, PySem.W.mg_of X G a_spoiled_, p_spoiled, b_spoiled⟩⟩
  have c_is_number : Cal l.prog w K mg base 1 "is_number" _ := ⟨⟨_, _, _, ok_is_number F_is_number T, PySem.W.mg_of X G a_is_number_, p_is_number, b_is_number⟩⟩
  have c_are_added : Cal l.prog w K mg base 2 "are_added" _ := ⟨⟨_, _, _, ok_are_added F_are_added T c_is_number, PySem.W.mg_of X G a_are_added_, p_are_added, b_are_added⟩⟩
  have c_is_deed : Cal l.prog w K mg base 3 "is_deed" _ := ⟨⟨_, _, _, ok_is_deed F_is_deed T c_is_number c_are_added, PySem.W.mg_of X G a_is_deed_, p_is_deed, b_is_deed⟩⟩
  have c_need_deeds : CalK l.prog w K mg base 4 "need_deeds" 1 ["late"] _ := ⟨⟨_, _, _, _, ok_need_deeds F_need_deeds T c_is_deed, PySem.W.mg_of X G a_need_deeds_, p_need_deeds, b_need_deeds⟩⟩
  have k_Line : MakK l.prog w K mg base 5 "Line" aC 1 ["late"] (sp_Line_init K aC) := ⟨⟨_, _, _, _, ⟨mkC, a_Line_init_, i_Line_init, kcC⟩, ok_Line_init F_Line_init T c_need_deeds, PySem.W.mg_of X G xC, b_Line_init⟩⟩
  have m_put : MetK l.prog w K mg base 4 aC "put" 1 ["turn", "way"] _ := ⟨⟨_, _, _, _, clC, ⟨a_put_, i_put, p_put⟩, ok_put F_put T c_spoiled, b_put⟩⟩
  have m_due : MetK l.prog w K mg base 4 aC "due" 0 ["turn", "way"] _ := ⟨⟨_, _, _, _, clC, ⟨a_due_, i_due, p_due⟩, ok_due l_due k_due T TB, b_due⟩⟩
  have c__law_pen : Cal l.prog w K mg base 1 "_law_pen" _ := ⟨⟨_, _, _, ok__law_pen F__law_pen T, PySem.W.mg_of X G a__law_pen_, p__law_pen, b__law_pen⟩⟩
  have c__law_draw : Cal l.prog w K mg base 1 "_law_draw" _ := ⟨⟨_, _, _, ok__law_draw F__law_draw T, PySem.W.mg_of X G a__law_draw_, p__law_draw, b__law_draw⟩⟩
  have c__law_plain : Cal l.prog w K mg base 2 "_law_plain" _ := ⟨⟨_, _, _, ok__law_plain F__law_plain T c__law_draw, PySem.W.mg_of X G a__law_plain_, p__law_plain, b__law_plain⟩⟩
  have c__law_deed : Cal l.prog w K mg base 3 "_law_deed" _ := ⟨⟨_, _, _, ok__law_deed F__law_deed T c__law_draw c__law_plain, PySem.W.mg_of X G a__law_deed_, p__law_deed, b__law_deed⟩⟩
  have c__law_packet : Cal l.prog w K mg base 3 "_law_packet" _ := ⟨⟨_, _, _, ok__law_packet F__law_packet T c__law_draw c__law_plain, PySem.W.mg_of X G a__law_packet_, p__law_packet, b__law_packet⟩⟩
  have c__law_rows : Cal l.prog w K mg base 1 "_law_rows" _ := ⟨⟨_, _, _, ok__law_rows F__law_rows T, PySem.W.mg_of X G a__law_rows_, p__law_rows, b__law_rows⟩⟩
  have c__law_heard : CalG l.prog w K mg base 6 "_law_heard" (sp__law_heard K aC aD Pt) := ⟨⟨_, _, _, ok__law_heard F__law_heard T m_feed m_due m_is_open m_fed, PySem.W.mg_of X G a__law_heard_, p__law_heard, b__law_heard⟩⟩
  exact ok_law F_law T c__law_pen c__law_draw c__law_packet c__law_deed k_Line k_Scanner c_put_as m_put c__law_rows c__law_heard
theorem walk {l : PySem.W.OpenLaw} {q : Program} {loose : List Str} {XP : (Str → Option Value) → Heap → Prop} {YP : World → Heap → Prop} {d : DefRec} {K : Params → PySem.W.Frag} {c T : Addr} (hn : l.most = some 63) (hdf : d.params.defaults = [])
    (hY : ∀ (w : World) (h : Heap), YP w h → (K w.params).In h) (hT : ∀ (w : World) (h : Heap), YP w h → h.get? T = some { cls := .none, data := .fields #[] })
    (nT : ∀ w : World, (K w.params).lookup T = none) (hC : ∀ w : World, PySem.W.codeHdIn (K w.params) c T = true)
    (F : ∀ (w : World) (mg : Str → Option Value) (fa : Addr) (h : Heap), (K w.params).In h → h.Ns mainGlobals mg → mg d.name = some (.ref fa) →
      ∃ fd : FuncData, (∀ (s : Shared) (u : Value), BindsTo s fd ⟨[u], []⟩ [("_law_script", u)]) ∧ ∀ base : Heap, (K w.params).In base → base.Ns mainGlobals mg → TabB base mg c T → FnG l.prog w (K w.params) mg base 7 fa fd ["_law_script"] (sp_law (K w.params) T)) :
    PySem.W.WalkO q loose XP YP l.row.toRowW d [] (fun f vs => PySem.call f vs) :=
  walk_endG (n := 63) (k := 7) (x := "_law_script") (sp := fun w => sp_law (K w.params) T) hn (by decide) hdf ⟨rfl, by decide, by decide⟩ hY hT nT hC F fun w H a ns _ hT hS => ⟨a, ns, rfl, hS, tabs0 hT, fun _ => rfl⟩
end K38

set_option pp.maxSteps 600
set_option pp.deepTerms false
open PySem PySem.W PyProof.Rows
set_option maxRecDepth 100000 in
set_option maxHeartbeats 0 in
theorem PySem.Challenge.cw_numberedpackets_k38_whole_good_ones_are_holds : PySem.Challenge.rw_numberedpackets_k38_whole_good_ones_are.Holds := by
  w_on; o_law; k_head; (case hw => w_witness2)
  k_fill
  refine' K38.walk (l := PySem.Challenge.rw_numberedpackets_k38_whole_good_ones_are) (T := 143) rfl rfl (fun w h Y => PySem.W.km_in_of Y) (fun w h Y => PySem.W.km_tabs_of Y 143 (List.mem_singleton_self _)) ?nT ?hC ?F
  case F =>
    intro w mg fa h KX G hmg
    refine' K38.all_mk KX G hmg ?xC ?xD ?pgC ?hdC ?poC ?saC ?mkC ?kcC ?pgD ?hdD ?poD ?saD ?mkD ?kcD ?n_coming ?n_given ?n_under_way ?n_latest ?n_held ?n_now_kind ?n_many_fed ?n_begun_at ?n_begun_mark ?n_begun_check ?n_begun_signs ?c_LEAST_PLAIN ?c_LAST_PLAIN ?c_BASE ?c_MOST_DEEDS ?c_MOST_PLACE ?c_MOST_BY ?c_MOST_ADDED ?c_LAST_SIGN ?c_VALUES ?c_MARK ?c_OPENING_MARK ?c_MOST_NUMBER ?c_MOST_SIZE ?c_AROUND ?c_SIZES ?z_abs ?z_all ?z_bool ?z_divmod ?z_enumerate ?z_int ?z_isinstance ?z_len ?z_list ?z_max ?z_ord ?z_range ?z_repr ?z_reversed ?z_sorted ?z_str ?z_sum ?z_tuple ?x_OPENING ?l_OPENING ?x_LETTERS ?l_LETTERS ?x_MARKS ?l_MARKS ?x_PASS ?l_PASS ?x_BY ?l_BY ?a_is_plain_ ?l_is_plain ?k_is_plain ?p_is_plain ?a_written_ ?l_written ?k_written ?p_written ?a_number_in_ ?l_number_in ?k_number_in ?p_number_in ?a_value_at_ ?l_value_at ?k_value_at ?p_value_at ?a_spoiled_ ?l_spoiled ?k_spoiled ?p_spoiled ?a_is_number_ ?l_is_number ?k_is_number ?p_is_number ?a_are_added_ ?l_are_added ?k_are_added ?p_are_added ?a_is_deed_ ?l_is_deed ?k_is_deed ?p_is_deed ?a_need_deeds_ ?l_need_deeds ?k_need_deeds ?p_need_deeds ?a_Line_init_ ?i_Line_init ?l_Line_init ?l_dfl ?k_Line_init ?p_Line_init ?a_put_ ?i_put ?l_put ?k_put ?p_put ?a_due_ ?i_due ?l_due ?k_due ?p_due ?a_left_of_ ?l_left_of ?k_left_of ?p_left_of ?a_values_of_ ?l_values_of ?k_values_of ?p_values_of ?a_check_ ?l_check ?k_check ?p_check ?a_mark_of_ ?l_mark_of ?k_mark_of ?p_mark_of ?a_check_of_ ?l_check_of ?k_check_of ?p_check_of ?a_put_as_ ?l_put_as ?k_put_as ?p_put_as ?a_letter_of_ ?l_letter_of ?k_letter_of ?p_letter_of ?a_Scanner_init_ ?i_Scanner_init ?l_Scanner_init ?k_Scanner_init ?p_Scanner_init ?a_fed_ ?i_fed ?l_fed ?k_fed ?p_fed ?a_is_open_ ?i_is_open ?l_is_open ?k_is_open ?p_is_open ?a_feed_ ?i_feed ?l_feed ?k_feed ?p_feed ?a_begin_ ?i_begin ?l_begin ?k_begin ?p_begin ?a_bad_ ?i_bad ?l_bad ?k_bad ?p_bad ?a_known_ ?i_known ?l_known ?k_known ?p_known ?a_read_ ?i_read ?l_read ?k_read ?p_read ?a__law_pen_ ?l__law_pen ?k__law_pen ?p__law_pen ?a__law_draw_ ?l__law_draw ?k__law_draw ?p__law_draw ?a__law_plain_ ?l__law_plain ?k__law_plain ?p__law_plain ?a__law_deed_ ?l__law_deed ?k__law_deed ?p__law_deed ?a__law_packet_ ?l__law_packet ?k__law_packet ?p__law_packet ?a__law_rows_ ?l__law_rows ?k__law_rows ?p__law_rows ?a__law_heard_ ?l__law_heard ?k__law_heard ?p__law_heard ?a_law_ ?l_law ?k_law ?p_law
    (case xC => k_is)
    (case xD => k_is)
    (case pgC => k_is)
    (case hdC => k_is)
    (case poC => k_is)
    (case saC => k_is)
    (case mkC => k_is)
    (case kcC => k_is)
    (case pgD => k_is)
    (case hdD => k_is)
    (case poD => k_is)
    (case saD => k_is)
    (case mkD => k_is)
    (case kcD => k_is)
    (case n_coming => k_is)
    (case n_given => k_is)
    (case n_under_way => k_is)
    (case n_latest => k_is)
    (case n_held => k_is)
    (case n_now_kind => k_is)
    (case n_many_fed => k_is)
    (case n_begun_at => k_is)
    (case n_begun_mark => k_is)
    (case n_begun_check => k_is)
    (case n_begun_signs => k_is)
    (case c_LEAST_PLAIN => k_is)
    (case c_LAST_PLAIN => k_is)
    (case c_BASE => k_is)
    (case c_MOST_DEEDS => k_is)
    (case c_MOST_PLACE => k_is)
    (case c_MOST_BY => k_is)
    (case c_MOST_ADDED => k_is)
    (case c_LAST_SIGN => k_is)
    (case c_VALUES => k_is)
    (case c_MARK => k_is)
    (case c_OPENING_MARK => k_is)
    (case c_MOST_NUMBER => k_is)
    (case c_MOST_SIZE => k_is)
    (case c_AROUND => k_is)
    (case c_SIZES => k_is)
    (case z_abs => k_is)
    (case z_all => k_is)
    (case z_bool => k_is)
    (case z_divmod => k_is)
    (case z_enumerate => k_is)
    (case z_int => k_is)
    (case z_isinstance => k_is)
    (case z_len => k_is)
    (case z_list => k_is)
    (case z_max => k_is)
    (case z_ord => k_is)
    (case z_range => k_is)
    (case z_repr => k_is)
    (case z_reversed => k_is)
    (case z_sorted => k_is)
    (case z_str => k_is)
    (case z_sum => k_is)
    (case z_tuple => k_is)
    (case x_OPENING => k_is)
    (case l_OPENING => k_is)
    (case x_LETTERS => k_is)
    (case l_LETTERS => k_is)
    (case x_MARKS => k_is)
    (case l_MARKS => k_is)
    (case x_PASS => k_is)
    (case l_PASS => k_is)
    (case x_BY => k_is)
    (case l_BY => k_is)
    (case a_is_plain_ => k_is)
    (case l_is_plain => k_is)
    (case k_is_plain => k_is)
    (case p_is_plain => k_is)
    (case a_written_ => k_is)
    (case l_written => k_is)
    (case k_written => k_is)
    (case p_written => k_is)
    (case a_number_in_ => k_is)
    (case l_number_in => k_is)
    (case k_number_in => k_is)
    (case p_number_in => k_is)
    (case a_value_at_ => k_is)
    (case l_value_at => k_is)
    (case k_value_at => k_is)
    (case p_value_at => k_is)
    (case a_spoiled_ => k_is)
    (case l_spoiled => k_is)
    (case k_spoiled => k_is)
    (case p_spoiled => k_is)
    (case a_is_number_ => k_is)
    (case l_is_number => k_is)
    (case k_is_number => k_is)
    (case p_is_number => k_is)
    (case a_are_added_ => k_is)
    (case l_are_added => k_is)
    (case k_are_added => k_is)
    (case p_are_added => k_is)
    (case a_is_deed_ => k_is)
    (case l_is_deed => k_is)
    (case k_is_deed => k_is)
    (case p_is_deed => k_is)
    (case a_need_deeds_ => k_is)
    (case l_need_deeds => k_is)
    (case k_need_deeds => k_is)
    (case p_need_deeds => k_is)
    (case a_Line_init_ => k_is)
    (case i_Line_init => k_is)
    (case l_Line_init => k_is)
    (case l_dfl => k_is)
    (case k_Line_init => k_is)
    (case p_Line_init => k_is)
    (case a_put_ => k_is)
    (case i_put => k_is)
    (case l_put => k_is)
    (case k_put => k_is)
    (case p_put => k_is)
    (case a_due_ => k_is)
    (case i_due => k_is)
    (case l_due => k_is)
    (case k_due => k_is)
    (case p_due => k_is)
    (case a_left_of_ => k_is)
    (case l_left_of => k_is)
    (case k_left_of => k_is)
    (case p_left_of => k_is)
    (case a_values_of_ => k_is)
    (case l_values_of => k_is)
    (case k_values_of => k_is)
    (case p_values_of => k_is)
    (case a_check_ => k_is)
    (case l_check => k_is)
    (case k_check => k_is)
    (case p_check => k_is)
    (case a_mark_of_ => k_is)
    (case l_mark_of => k_is)
    (case k_mark_of => k_is)
    (case p_mark_of => k_is)
    (case a_check_of_ => k_is)
    (case l_check_of => k_is)
    (case k_check_of => k_is)
    (case p_check_of => k_is)
    (case a_put_as_ => k_is)
    (case l_put_as => k_is)
    (case k_put_as => k_is)
    (case p_put_as => k_is)
    (case a_letter_of_ => k_is)
    (case l_letter_of => k_is)
    (case k_letter_of => k_is)
    (case p_letter_of => k_is)
    (case a_Scanner_init_ => k_is)
    (case i_Scanner_init => k_is)
    (case l_Scanner_init => k_is)
    (case k_Scanner_init => k_is)
    (case p_Scanner_init => k_is)
    (case a_fed_ => k_is)
    (case i_fed => k_is)
    (case l_fed => k_is)
    (case k_fed => k_is)
    (case p_fed => k_is)
    (case a_is_open_ => k_is)
    (case i_is_open => k_is)
    (case l_is_open => k_is)
    (case k_is_open => k_is)
    (case p_is_open => k_is)
    (case a_feed_ => k_is)
    (case i_feed => k_is)
    (case l_feed => k_is)
    (case k_feed => k_is)
    (case p_feed => k_is)
    (case a_begin_ => k_is)
    (case i_begin => k_is)
    (case l_begin => k_is)
    (case k_begin => k_is)
    (case p_begin => k_is)
    (case a_bad_ => k_is)
    (case i_bad => k_is)
    (case l_bad => k_is)
    (case k_bad => k_is)
    (case p_bad => k_is)
    (case a_known_ => k_is)
    (case i_known => k_is)
    (case l_known => k_is)
    (case k_known => k_is)
    (case p_known => k_is)
    (case a_read_ => k_is)
    (case i_read => k_is)
    (case l_read => k_is)
    (case k_read => k_is)
    (case p_read => k_is)
    (case a__law_pen_ => k_is)
    (case l__law_pen => k_is)
    (case k__law_pen => k_is)
    (case p__law_pen => k_is)
    (case a__law_draw_ => k_is)
    (case l__law_draw => k_is)
    (case k__law_draw => k_is)
    (case p__law_draw => k_is)
    (case a__law_plain_ => k_is)
    (case l__law_plain => k_is)
    (case k__law_plain => k_is)
    (case p__law_plain => k_is)
    (case a__law_deed_ => k_is)
    (case l__law_deed => k_is)
    (case k__law_deed => k_is)
    (case p__law_deed => k_is)
    (case a__law_packet_ => k_is)
    (case l__law_packet => k_is)
    (case k__law_packet => k_is)
    (case p__law_packet => k_is)
    (case a__law_rows_ => k_is)
    (case l__law_rows => k_is)
    (case k__law_rows => k_is)
    (case p__law_rows => k_is)
    (case a__law_heard_ => k_is)
    (case l__law_heard => k_is)
    (case k__law_heard => k_is)
    (case p__law_heard => k_is)
    (case a_law_ => k_is)
    (case l_law => k_is)
    (case k_law => k_is)
    (case p_law => k_is)
  case nT => intro w; kernel_rfl
  case hC => intro w; kernel_rfl
