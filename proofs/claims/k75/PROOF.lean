import PyProof.Rows.All
import Wide.All
import OpenK.AllK
import Wide.FinOn
import KE.KStateDown
import HandS.ForMost
import HandS.More
import HandS.Codes
import HandS.NoneIn
import HandS.IsInst
import HandS.TupAny
import HandS.TupMul
import HandS.TupSets
import HandS.AnyAll
import HandS.EndTab
import HandS.Head2
import HandS.HeadHook4
import HandS.HeadWalk
import PySem.Challenge.RW_translatory_k75_whole_runs_go_on_after_p
import HandS.Zip
import HandS.JoinGen
import PyProof.GenCompT
import KE.KDictSum
import KE.KDictCopyH
set_option Elab.async false
set_option linter.all false
set_option maxRecDepth 100000
set_option maxHeartbeats 8000000
namespace K75

/-! ## orbits -/
def orb {α : Type} (step : α → Option α) (c : α) : Nat → Option α
  | 0 => some c
  | n + 1 => (orb step c n).bind step
theorem orb_zero {α : Type} (step : α → Option α) (c : α) : orb step c 0 = some c := rfl
theorem orb_succ {α : Type} {step : α → Option α} {c : α} {n : Nat} {x : α} (h : orb step c n = some x) : orb step c (n + 1) = step x := by
  show (orb step c n).bind step = step x
  rw [h]; rfl
theorem orb_none {α : Type} {step : α → Option α} {c : α} {n : Nat} (h : orb step c n = none) : orb step c (n + 1) = none := by
  show (orb step c n).bind step = none
  rw [h]; rfl
theorem orb_prev {α : Type} {step : α → Option α} {c : α} {n : Nat} {y : α} (h : orb step c (n + 1) = some y) : ∃ x, orb step c n = some x ∧ step x = some y := by
  cases e : orb step c n with
  | none => rw [orb_none e] at h; cases h
  | some x => exact ⟨x, rfl, by rw [← h, orb_succ e]⟩
theorem orb_le {α : Type} {step : α → Option α} {c : α} {n : Nat} {y : α} (h : orb step c n = some y) : ∀ m, m ≤ n → ∃ x, orb step c m = some x := by
  induction n generalizing y with
  | zero => intro m hm; have : m = 0 := by omega
            subst this; exact ⟨y, h⟩
  | succ n ih =>
    intro m hm
    obtain ⟨x, hx, _⟩ := orb_prev h
    by_cases e : m = n + 1
    · subst e; exact ⟨y, h⟩
    · exact ih hx m (by omega)
theorem orb_good {α : Type} {step : α → Option α} {c : α} {G : α → Prop} (h0 : G c) (hs : ∀ x y, G x → step x = some y → G y) : ∀ n y, orb step c n = some y → G y := by
  intro n
  induction n with
  | zero => intro y h; have : c = y := Option.some.inj h
            subst this; exact h0
  | succ n ih =>
    intro y h
    obtain ⟨x, hx, hy⟩ := orb_prev h
    exact hs x y (ih x hx) hy
theorem orb_congr {α : Type} {step step' : α → Option α} {c : α} {G : α → Prop} (h0 : G c) (hs : ∀ x y, G x → step x = some y → G y) (he : ∀ x, G x → step' x = step x) : ∀ n, orb step' c n = orb step c n := by
  intro n
  induction n with
  | zero => rfl
  | succ n ih =>
    cases e : orb step c n with
    | none => rw [e] at ih; rw [orb_none e, orb_none ih]
    | some x =>
      rw [e] at ih
      rw [orb_succ e, orb_succ ih]
      exact he x (orb_good h0 hs n x e)

/-- cs: the run from c, of at most n steps -/
structure IsRun {α : Type} (step : α → Option α) (c : α) (n : Nat) (cs : List α) : Prop where
  pos : 0 < cs.length
  le : cs.length ≤ n + 1
  at_ : ∀ i, i < cs.length → cs[i]? = orb step c i
  fin : cs.length < n + 1 → orb step c cs.length = none
theorem IsRun.get {α : Type} {step : α → Option α} {c : α} {n : Nat} {cs : List α} (R : IsRun step c n cs) {i : Nat} {x : α} (h : cs[i]? = some x) : orb step c i = some x := by
  have hi := (List.getElem?_eq_some_iff.mp h).1
  rw [← R.at_ i hi, h]
theorem IsRun.full {α : Type} {step : α → Option α} {c : α} {n : Nat} {cs : List α} (R : IsRun step c n cs) (h : ∀ k, k ≤ n → orb step c k ≠ none) : cs.length = n + 1 := by
  have h1 := R.le
  by_cases e : cs.length < n + 1
  · exact absurd (R.fin e) (h _ (by omega))
  · omega
/-- the loop's state: k + 1 configurations -/
structure Part {α : Type} (step : α → Option α) (c : α) (k : Nat) (cs : List α) : Prop where
  len : cs.length = k + 1
  at_ : ∀ i, i < cs.length → cs[i]? = orb step c i
theorem Part.one {α : Type} (step : α → Option α) (c : α) : Part step c 0 [c] := by
  refine ⟨rfl, fun i hi => ?_⟩
  have : i = 0 := by simp at hi; omega
  subst this
  rfl
theorem Part.last {α : Type} {step : α → Option α} {c : α} {k : Nat} {cs : List α} (P : Part step c k cs) : ∃ x, cs[k]? = some x ∧ orb step c k = some x := by
  have hk : k < cs.length := by rw [P.len]; omega
  refine ⟨cs[k], List.getElem?_eq_getElem hk, ?_⟩
  rw [← P.at_ k hk]; exact List.getElem?_eq_getElem hk
theorem Part.next {α : Type} {step : α → Option α} {c : α} {k : Nat} {cs : List α} (P : Part step c k cs) {x y : α} (hx : orb step c k = some x) (hy : step x = some y) : Part step c (k + 1) (cs ++ [y]) := by
  refine ⟨by rw [List.length_append, P.len]; rfl, fun i hi => ?_⟩
  rw [List.length_append, P.len] at hi
  have hi' : i < k + 1 + 1 := hi
  by_cases e : i < k + 1
  · rw [List.getElem?_append_left (by rw [P.len]; exact e)]
    exact P.at_ i (by rw [P.len]; exact e)
  · have : i = k + 1 := by omega
    subst this
    rw [List.getElem?_append_right (by rw [P.len]; exact Nat.le_refl _), P.len, Nat.sub_self, orb_succ hx, hy]
    rfl
theorem Part.run {α : Type} {step : α → Option α} {c : α} {k n : Nat} {cs : List α} (P : Part step c k cs) (h : k ≤ n) (hf : k < n → orb step c (k + 1) = none) : IsRun step c n cs :=
  ⟨by rw [P.len]; omega, by rw [P.len]; omega, P.at_, fun e => by rw [P.len]; rw [P.len] at e; exact hf (by omega)⟩

/-! ## repeats -/
theorem repeat_go {α : Type} {step : α → Option α} {c x : α} {i j : Nat} (hij : i < j) (hi : orb step c i = some x) (hj : orb step c j = some x) :
    ∀ t, orb step c (j + t) = orb step c (i + t) ∧ orb step c (i + t) ≠ none := by
  intro t
  induction t using Nat.strongRecOn with
  | ind t ih =>
    cases t with
    | zero => exact ⟨by rw [Nat.add_zero, Nat.add_zero, hi, hj], by rw [Nat.add_zero, hi]; exact fun z => nomatch z⟩
    | succ t =>
      obtain ⟨e, n⟩ := ih t (Nat.lt_succ_self t)
      have ex : orb step c (j + (t + 1)) = orb step c (i + (t + 1)) := by
        show (orb step c (j + t)).bind step = (orb step c (i + t)).bind step
        rw [e]
      refine ⟨ex, ?_⟩
      by_cases h : t + 1 ≤ j - i
      · obtain ⟨y, hy⟩ := orb_le hj (i + (t + 1)) (by omega)
        rw [hy]; exact fun z => nomatch z
      · have e2 : i + (t + 1) = j + (i + (t + 1) - j) := by omega
        obtain ⟨e3, n3⟩ := ih (i + (t + 1) - j) (by omega)
        rw [e2, e3]; exact n3

/-! ## Turing machines -/
abbrev Tab : Type := Int → Int → Option (Int × Int × Int)
structure TC where
  q : Int
  l : List Int
  h : Int
  r : List Int
def mvd (b : List Int) (w : Int) (a : List Int) : List Int × Int × List Int := (if w ≠ 0 ∨ b ≠ [] then w :: b else b, a.headD 0, a.tail)
def tstep (tab : Tab) (c : TC) : Option TC := match tab c.q c.h with
  | none => none
  | some (w, m, f) => if m = 0 then some ⟨f, c.l, w, c.r⟩ else if m = 1 then some ⟨f, (mvd c.l w c.r).1, (mvd c.l w c.r).2.1, (mvd c.l w c.r).2.2⟩ else some ⟨f, (mvd c.r w c.l).2.2, (mvd c.r w c.l).2.1, (mvd c.r w c.l).1⟩
def strip : List Int → List Int
  | [] => []
  | x :: xs => if x = 0 ∧ strip xs = [] then [] else x :: strip xs
def lstep (tab : Tab) (c : TC) : Option TC := match tab c.q c.h with
  | none => none
  | some (w, m, f) => if m = 0 then some ⟨f, c.l, w, c.r⟩ else if m = 1 then some ⟨f, strip (w :: c.l), c.r.headD 0, c.r.tail⟩ else some ⟨f, c.l.tail, c.l.headD 0, strip (w :: c.r)⟩
def Strd (l : List Int) : Prop := strip l = l
theorem strd_nil : Strd [] := rfl
theorem strip_cons (x : Int) (xs : List Int) : strip (x :: xs) = if x = 0 ∧ strip xs = [] then [] else x :: strip xs := rfl
theorem strd_tail {l : List Int} (h : Strd l) : Strd l.tail := by
  cases l with
  | nil => exact h
  | cons x xs =>
    have h1 : strip (x :: xs) = x :: xs := h
    rw [strip_cons] at h1
    split at h1
    · cases h1
    · injection h1
theorem strd_cons {w : Int} {l : List Int} (h : Strd l) (hw : w ≠ 0 ∨ l ≠ []) : Strd (w :: l) := by
  show strip (w :: l) = w :: l
  rw [strip_cons, h]
  rw [if_neg]
  rintro ⟨h1, h2⟩
  rcases hw with z | z
  · exact z h1
  · exact z h2
theorem strip_mvd {w : Int} {l : List Int} (h : Strd l) : strip (w :: l) = if w ≠ 0 ∨ l ≠ [] then w :: l else l := by
  by_cases hw : w ≠ 0 ∨ l ≠ []
  · rw [if_pos hw]; exact strd_cons h hw
  · rw [if_neg hw]
    have h1 : w = 0 := Classical.byContradiction fun z => hw (.inl z)
    have h2 : l = [] := Classical.byContradiction fun z => hw (.inr z)
    subst h1; subst h2
    rfl
theorem strd_mvd {w : Int} {l : List Int} (h : Strd l) : Strd (if w ≠ 0 ∨ l ≠ [] then w :: l else l) := by
  by_cases hw : w ≠ 0 ∨ l ≠ []
  · rw [if_pos hw]; exact strd_cons h hw
  · rw [if_neg hw]; exact h
/-- strip, by the place of the last that is no blank -/
theorem strip_zeros : ∀ l : List Int, (∀ x ∈ l, x = 0) → strip l = []
  | [], _ => rfl
  | x :: xs, h => by
    rw [strip_cons, if_pos ⟨h x List.mem_cons_self, strip_zeros xs fun y hy => h y (List.mem_cons_of_mem _ hy)⟩]
theorem strip_take : ∀ (l : List Int) (n : Nat), n ≤ l.length → (∀ i x, n ≤ i → l[i]? = some x → x = 0) → (n = 0 ∨ ∃ x, l[n - 1]? = some x ∧ x ≠ 0) → l.take n = strip l
  | l, 0, _, hz, _ => by
    rw [List.take_zero]
    exact (strip_zeros l fun x hx => by
      obtain ⟨i, hi, e⟩ := List.getElem_of_mem hx
      exact hz i x (Nat.zero_le _) (by rw [List.getElem?_eq_getElem hi, e])).symm
  | [], n + 1, h, _, _ => absurd h (by simp)
  | x :: xs, 1, h, hz, hl => by
    have hx : x ≠ 0 := by
      rcases hl with z | ⟨y, e, ny⟩
      · cases z
      · have : x = y := Option.some.inj e
        rw [this]; exact ny
    have e0 := strip_take xs 0 (Nat.zero_le _) (fun i y _ e => hz (i + 1) y (by omega) e) (.inl rfl)
    rw [strip_cons, if_neg (fun z => hx z.1), ← e0]
    rfl
  | x :: xs, n + 2, h, hz, hl => by
    have e0 := strip_take xs (n + 1) (by simp at h; omega) (fun i y hi e => hz (i + 1) y (by omega) e) (.inr (by
      rcases hl with z | ⟨y, e, ny⟩
      · cases z
      · exact ⟨y, e, ny⟩))
    have hne : ¬ (x = 0 ∧ strip xs = []) := by
      rintro ⟨_, z⟩
      rw [← e0] at z
      cases xs with
      | nil => simp at h
      | cons y ys => rw [List.take_succ_cons] at z; cases z
    rw [strip_cons, if_neg hne, ← e0]
    rfl
theorem strd_strip : ∀ l : List Int, Strd (strip l)
  | [] => rfl
  | x :: xs => by
    have ih := strd_strip xs
    by_cases h : x = 0 ∧ strip xs = []
    · rw [strip_cons, if_pos h]; rfl
    · rw [strip_cons, if_neg h]
      show strip (x :: strip xs) = x :: strip xs
      rw [strip_cons, ih, if_neg h]
theorem strip_mem : ∀ (l : List Int) (x : Int), x ∈ strip l → x ∈ l
  | [], _, h => h
  | y :: ys, x, h => by
    rw [strip_cons] at h
    split at h
    · cases h
    · rcases List.mem_cons.mp h with z | z
      · rw [z]; exact List.mem_cons_self
      · exact List.mem_cons_of_mem _ (strip_mem ys x z)
def TGood (c : TC) : Prop := Strd c.l ∧ Strd c.r
theorem tgood_step {tab : Tab} {c c' : TC} (g : TGood c) (h : tstep tab c = some c') : TGood c' := by
  unfold tstep at h
  split at h
  · cases h
  · rename_i w m f e
    split at h
    · cases h; exact g
    · split at h
      · cases h; exact ⟨strd_mvd g.1, strd_tail g.2⟩
      · cases h; exact ⟨strd_tail g.1, strd_mvd g.2⟩
theorem lstep_eq {tab : Tab} {c : TC} (g : TGood c) : lstep tab c = tstep tab c := by
  unfold tstep lstep mvd
  split
  · rfl
  · rw [strip_mvd g.1, strip_mvd g.2]

/-- the symbol in the cell y to the right of the head -/
def cell (c : TC) (y : Int) : Int := if y = 0 then c.h else if 0 < y then c.r.getD (y - 1).toNat 0 else c.l.getD (-y - 1).toNat 0
theorem getD_tail (l : List Int) (k : Nat) : l.tail.getD k 0 = l.getD (k + 1) 0 := by
  cases l with
  | nil => rfl
  | cons x xs => rfl
theorem headD_getD (l : List Int) : l.headD 0 = l.getD 0 0 := by
  cases l with
  | nil => rfl
  | cons x xs => rfl
theorem getD_mvd (w : Int) (b : List Int) (k : Nat) : (if w ≠ 0 ∨ b ≠ [] then w :: b else b).getD k 0 = if k = 0 then w else b.getD (k - 1) 0 := by
  by_cases hw : w ≠ 0 ∨ b ≠ []
  · rw [if_pos hw]
    cases k with
    | zero => rfl
    | succ k => rfl
  · rw [if_neg hw]
    have h1 : w = 0 := Classical.byContradiction fun z => hw (.inl z)
    have h2 : b = [] := Classical.byContradiction fun z => hw (.inr z)
    subst h1; subst h2
    cases k with
    | zero => rfl
    | succ k => rfl
theorem toNat_eq {a : Int} {n : Nat} (h : a = (n : Int)) : a.toNat = n := by omega
theorem cell_step {tab : Tab} {c c' : TC} {w m f : Int} (e : tab c.q c.h = some (w, m, f)) (hm : m = -1 ∨ m = 0 ∨ m = 1) (h : tstep tab c = some c') : c'.q = f ∧ ∀ y, cell c' y = if y + m = 0 then w else cell c (y + m) := by
  unfold tstep at h
  rw [e] at h
  rcases hm with rfl | rfl | rfl
  · -- left
    have h' : some (⟨f, (mvd c.r w c.l).2.2, (mvd c.r w c.l).2.1, (mvd c.r w c.l).1⟩ : TC) = some c' := h
    cases h'
    refine ⟨rfl, fun y => ?_⟩
    unfold cell mvd
    dsimp only
    by_cases h0 : y = 0
    · subst h0
      rw [if_pos rfl, if_neg (by decide), if_neg (by decide), if_neg (by decide), headD_getD]
      rfl
    · rw [if_neg h0]
      by_cases h1 : 0 < y
      · rw [if_pos h1, getD_mvd]
        by_cases h2 : y + -1 = 0
        · rw [if_pos h2, if_pos (by omega)]
        · rw [if_neg (show ¬ (y - 1).toNat = 0 by omega), if_neg h2, if_neg h2, if_pos (show 0 < y + -1 by omega)]
          congr 1
          omega
      · rw [if_neg h1, getD_tail, if_neg (by omega), if_neg (by omega), if_neg (by omega)]
        congr 1
        omega
  · have h' : some (⟨f, c.l, w, c.r⟩ : TC) = some c' := h
    cases h'
    refine ⟨rfl, fun y => ?_⟩
    unfold cell
    dsimp only
    rw [Int.add_zero]
    by_cases h0 : y = 0
    · rw [if_pos h0, if_pos h0]
    · rw [if_neg h0, if_neg h0, if_neg h0]
  · have h' : some (⟨f, (mvd c.l w c.r).1, (mvd c.l w c.r).2.1, (mvd c.l w c.r).2.2⟩ : TC) = some c' := h
    cases h'
    refine ⟨rfl, fun y => ?_⟩
    unfold cell mvd
    dsimp only
    by_cases h0 : y = 0
    · subst h0
      rw [if_pos rfl, if_neg (by decide), if_neg (by decide), if_pos (by decide), headD_getD]
      rfl
    · rw [if_neg h0]
      by_cases h1 : 0 < y
      · rw [if_pos h1, getD_tail, if_neg (by omega), if_neg (by omega), if_pos (by omega)]
        congr 1
        omega
      · rw [if_neg h1, getD_mvd]
        by_cases h2 : y + 1 = 0
        · rw [if_pos h2, if_pos (by omega)]
        · rw [if_neg h2, if_neg h2, if_neg (by omega), if_neg (by omega)]
          congr 1
          omega
theorem tstep_none {tab : Tab} {c : TC} (h : tstep tab c = none) : tab c.q c.h = none := by
  unfold tstep at h
  split at h
  · assumption
  · split at h
    · cases h
    · split at h <;> cases h
theorem tstep_some {tab : Tab} {c : TC} {w m f : Int} (e : tab c.q c.h = some (w, m, f)) : ∃ c', tstep tab c = some c' := by
  cases h : tstep tab c with
  | none => rw [tstep_none h] at e; cases e
  | some c' => exact ⟨c', rfl⟩

/-- how far a step moves the head -/
def mv (tab : Tab) (c : TC) : Int := match tab c.q c.h with
  | some (_, m, _) => m
  | none => 0
/-- the head's cell behind n steps -/
def hgt (tab : Tab) (c : TC) : Nat → Int
  | 0 => 0
  | n + 1 => hgt tab c n + (match orb (tstep tab) c n with
    | some x => mv tab x
    | none => 0)
theorem hgt_succ {tab : Tab} {c x : TC} {n : Nat} (h : orb (tstep tab) c n = some x) : hgt tab c (n + 1) = hgt tab c n + mv tab x := by
  show hgt tab c n + _ = _
  rw [h]
def TabOk (tab : Tab) : Prop := ∀ s b w m f, tab s b = some (w, m, f) → m = -1 ∨ m = 0 ∨ m = 1

/-- what a paper of the kind shift says -/
structure ShiftOk (tab : Tab) (c : TC) (i j : Nat) : Prop where
  lt : i < j
  ex : ∃ ci cj : TC, orb (tstep tab) c i = some ci ∧ orb (tstep tab) c j = some cj ∧ ci.q = cj.q ∧ ci.h = cj.h ∧ ∃ lo hi : Int,
    (∀ t, i ≤ t → t ≤ j → lo ≤ hgt tab c t ∧ hgt tab c t ≤ hi) ∧
    (hgt tab c j - hgt tab c i ≤ 0 → ∀ k : Nat, (k : Int) < hi - hgt tab c i → ci.r.getD k 0 = cj.r.getD k 0) ∧
    (0 ≤ hgt tab c j - hgt tab c i → ∀ k : Nat, (k : Int) < hgt tab c i - lo → ci.l.getD k 0 = cj.l.getD k 0) ∧
    (0 < hgt tab c j - hgt tab c i → ci.r = cj.r) ∧ (hgt tab c j - hgt tab c i < 0 → ci.l = cj.l)

theorem cell_neg {c : TC} {y : Int} (h : y < 0) : cell c y = c.l.getD (-y - 1).toNat 0 := by
  unfold cell
  rw [if_neg (by omega), if_neg (by omega)]
theorem cell_pos {c : TC} {y : Int} (h : 0 < y) : cell c y = c.r.getD (y - 1).toNat 0 := by
  unfold cell
  rw [if_neg (by omega), if_pos h]
theorem cell_zero {c : TC} : cell c 0 = c.h := by
  unfold cell
  rw [if_pos rfl]

theorem shift_core {tab : Tab} (ok : TabOk tab) {c : TC} {i j : Nat} (hij : i < j) (S : Int → Prop) {ci cj : TC} (hi : orb (tstep tab) c i = some ci) (hj : orb (tstep tab) c j = some cj) (hq : ci.q = cj.q)
    (hS : ∀ t, i ≤ t → t ≤ j → S (hgt tab c t)) (hd : ∀ x, S x → S (x + (hgt tab c j - hgt tab c i))) (h0 : ∀ x, S x → cell ci (x - hgt tab c i) = cell cj (x - hgt tab c i)) :
    ∀ t, ∃ x y, orb (tstep tab) c (i + t) = some x ∧ orb (tstep tab) c (j + t) = some y ∧ x.q = y.q ∧ hgt tab c (j + t) = hgt tab c (i + t) + (hgt tab c j - hgt tab c i) ∧ S (hgt tab c (i + t)) ∧
      ∀ z, S z → cell x (z - hgt tab c (i + t)) = cell y (z - hgt tab c (i + t)) := by
  intro t
  induction t using Nat.strongRecOn with
  | ind t ih =>
    cases t with
    | zero => exact ⟨ci, cj, hi, hj, hq, by rw [Nat.add_zero, Nat.add_zero]; omega, hS i (Nat.le_refl _) (by omega), h0⟩
    | succ t =>
      obtain ⟨x, y, hx, hy, q1, g1, s1, k1⟩ := ih t (Nat.lt_succ_self t)
      -- the next configuration is there
      have nx : ∃ x', orb (tstep tab) c (i + (t + 1)) = some x' := by
        by_cases h : i + (t + 1) ≤ j
        · exact orb_le hj _ h
        · obtain ⟨_, y', _, hy', _⟩ := ih (i + (t + 1) - j) (by omega)
          exact ⟨y', by rw [show i + (t + 1) = j + (i + (t + 1) - j) by omega]; exact hy'⟩
      obtain ⟨x', hx'⟩ := nx
      have sx : tstep tab x = some x' := by rw [← hx']; exact (orb_succ (n := i + t) hx).symm
      have here : x.h = y.h := by
        have := k1 _ s1
        rw [Int.sub_self, cell_zero, cell_zero] at this
        exact this
      cases e : tab x.q x.h with
      | none =>
        unfold tstep at sx
        rw [e] at sx; cases sx
      | some p =>
        obtain ⟨w, m, f⟩ := p
        have e' : tab y.q y.h = some (w, m, f) := by rw [← q1, ← here]; exact e
        obtain ⟨y', sy⟩ := tstep_some e'
        have hy' : orb (tstep tab) c (j + (t + 1)) = some y' := by rw [← sy]; exact orb_succ (n := j + t) hy
        obtain ⟨qx, cx⟩ := cell_step e (ok _ _ _ _ _ e) sx
        obtain ⟨qy, cy⟩ := cell_step e' (ok _ _ _ _ _ e') sy
        have mx : mv tab x = m := by unfold mv; rw [e]
        have my : mv tab y = m := by unfold mv; rw [e']
        have gx : hgt tab c (i + (t + 1)) = hgt tab c (i + t) + m := by rw [← mx]; exact hgt_succ (n := i + t) hx
        have gy : hgt tab c (j + (t + 1)) = hgt tab c (j + t) + m := by rw [← my]; exact hgt_succ (n := j + t) hy
        refine ⟨x', y', hx', hy', by rw [qx, qy], by rw [gx, gy]; omega, ?_, fun z hz => ?_⟩
        · by_cases h : i + (t + 1) ≤ j
          · exact hS _ (by omega) h
          · obtain ⟨_, _, _, _, _, g2, s2, _⟩ := ih (i + (t + 1) - j) (by omega)
            have e2 : i + (t + 1) = j + (i + (t + 1) - j) := by omega
            rw [e2, g2]
            exact hd _ s2
        · rw [gx, cx, cy]
          have e3 : z - (hgt tab c (i + t) + m) + m = z - hgt tab c (i + t) := by omega
          rw [e3]
          by_cases hz0 : z - hgt tab c (i + t) = 0
          · rw [if_pos hz0, if_pos hz0]
          · rw [if_neg hz0, if_neg hz0]
            exact k1 z hz

theorem shift_go {tab : Tab} (ok : TabOk tab) {c : TC} {i j : Nat} (P : ShiftOk tab c i j) :
    ∀ t, ∃ x y, orb (tstep tab) c (i + t) = some x ∧ orb (tstep tab) c (j + t) = some y ∧ x.q = y.q ∧ x.h = y.h ∧ hgt tab c (j + t) = hgt tab c (i + t) + (hgt tab c j - hgt tab c i) := by
  obtain ⟨hij, ci, cj, hi, hj, hq, hh, lo, hi', bd, a1, a2, a3, a4⟩ := P
  have fin : ∀ (S : Int → Prop), (∀ t, i ≤ t → t ≤ j → S (hgt tab c t)) → (∀ x, S x → S (x + (hgt tab c j - hgt tab c i))) → (∀ x, S x → cell ci (x - hgt tab c i) = cell cj (x - hgt tab c i)) →
      ∀ t, ∃ x y, orb (tstep tab) c (i + t) = some x ∧ orb (tstep tab) c (j + t) = some y ∧ x.q = y.q ∧ x.h = y.h ∧ hgt tab c (j + t) = hgt tab c (i + t) + (hgt tab c j - hgt tab c i) := by
    intro S h1 h2 h3 t
    obtain ⟨x, y, hx, hy, q, g, s, k⟩ := shift_core ok hij S hi hj hq h1 h2 h3 t
    refine ⟨x, y, hx, hy, q, ?_, g⟩
    have := k _ s
    rw [Int.sub_self, cell_zero, cell_zero] at this
    exact this
  -- the cells to the left, to the right
  have cl : ∀ (A : Int → Prop), (∀ k : Nat, A (-(k : Int) - 1) → ci.l.getD k 0 = cj.l.getD k 0) → ∀ y, y < 0 → A y → cell ci y = cell cj y := by
    intro A h y hy ha
    rw [cell_neg hy, cell_neg hy]
    refine h _ ?_
    have : -(((-y - 1).toNat : Nat) : Int) - 1 = y := by omega
    rw [this]; exact ha
  have cr : ∀ (A : Int → Prop), (∀ k : Nat, A ((k : Int) + 1) → ci.r.getD k 0 = cj.r.getD k 0) → ∀ y, 0 < y → A y → cell ci y = cell cj y := by
    intro A h y hy ha
    rw [cell_pos hy, cell_pos hy]
    refine h _ ?_
    have : (((y - 1).toNat : Nat) : Int) + 1 = y := by omega
    rw [this]; exact ha
  have tri : ∀ y : Int, y < 0 ∨ y = 0 ∨ 0 < y := fun y => by omega
  have zero : ∀ y : Int, y = 0 → cell ci y = cell cj y := fun y e => by rw [e, cell_zero, cell_zero]; exact hh
  by_cases d0 : hgt tab c j - hgt tab c i = 0
  · refine fin (fun x => lo ≤ x ∧ x ≤ hi') (fun t h1 h2 => bd t h1 h2) (fun x hx => by rw [d0, Int.add_zero]; exact hx) fun x hx => ?_
    rcases tri (x - hgt tab c i) with h | h | h
    · exact cl (fun y => lo ≤ y + hgt tab c i) (fun k hk => a2 (by omega) k (by omega)) _ h (by omega)
    · exact zero _ h
    · exact cr (fun y => y + hgt tab c i ≤ hi') (fun k hk => a1 (by omega) k (by omega)) _ h (by omega)
  · by_cases dp : 0 < hgt tab c j - hgt tab c i
    · refine fin (fun x => lo ≤ x) (fun t h1 h2 => (bd t h1 h2).1) (fun x hx => by omega) fun x hx => ?_
      rcases tri (x - hgt tab c i) with h | h | h
      · exact cl (fun y => lo ≤ y + hgt tab c i) (fun k hk => a2 (by omega) k (by omega)) _ h (by omega)
      · exact zero _ h
      · exact cr (fun _ => True) (fun k _ => by rw [a3 dp]) _ h trivial
    · refine fin (fun x => x ≤ hi') (fun t h1 h2 => (bd t h1 h2).2) (fun x hx => by omega) fun x hx => ?_
      rcases tri (x - hgt tab c i) with h | h | h
      · exact cl (fun _ => True) (fun k _ => by rw [a4 (by omega)]) _ h trivial
      · exact zero _ h
      · exact cr (fun y => y + hgt tab c i ≤ hi') (fun k hk => a1 (by omega) k (by omega)) _ h (by omega)

/-- equal padded sides agree -/
def padd (s : List Int) (n : Nat) : List Int := s.take n ++ List.replicate (n - s.length) 0
theorem padd_get (s : List Int) (n k : Nat) (h : k < n) : (padd s n).getD k 0 = s.getD k 0 := by
  unfold padd
  by_cases hk : k < s.length
  · have h1 : k < (s.take n).length := by rw [List.length_take]; omega
    rw [List.getD_eq_getElem?_getD, List.getElem?_append_left h1, List.getElem?_take_of_lt h, ← List.getD_eq_getElem?_getD]
  · have h1 : (s.take n).length ≤ k := by rw [List.length_take]; omega
    rw [List.getD_eq_getElem?_getD, List.getElem?_append_right h1]
    have e2 : s.getD k 0 = 0 := by
      rw [List.getD_eq_getElem?_getD, List.getElem?_eq_none (by omega)]; rfl
    rw [e2, List.getElem?_replicate]
    split <;> rfl
theorem padd_agree {s u : List Int} {n : Nat} (h : padd s n = padd u n) (k : Nat) (hk : k < n) : s.getD k 0 = u.getD k 0 := by
  rw [← padd_get s n k hk, h, padd_get u n k hk]

/-! ## register programs -/
inductive Ins where
  | fin
  | inc (r n : Int)
  | dec (r n o : Int)
abbrev RC : Type := Int × List Int
def rv (c : RC) (r : Int) : Int := c.2.getD r.toNat 0
def rstep (p : List Ins) (c : RC) : Option RC := match p[c.1.toNat]? with
  | none => none
  | some .fin => none
  | some (.inc r n) => some (n, c.2.set r.toNat (rv c r + 1))
  | some (.dec r n o) => if rv c r = 0 then some (o, c.2) else some (n, c.2.set r.toNat (rv c r - 1))
def InsOk (k n : Nat) : Ins → Prop
  | .fin => True
  | .inc r a => (0 ≤ r ∧ r < (k : Int)) ∧ (0 ≤ a ∧ a < (n : Int))
  | .dec r a b => (0 ≤ r ∧ r < (k : Int)) ∧ (0 ≤ a ∧ a < (n : Int)) ∧ (0 ≤ b ∧ b < (n : Int))
def ProgOk (k : Nat) (p : List Ins) : Prop := ∀ x ∈ p, InsOk k p.length x
structure RGood (k : Nat) (p : List Ins) (c : RC) : Prop where
  lo : 0 ≤ c.1
  hi : c.1 < (p.length : Int)
  len : c.2.length = k
  nn : ∀ v ∈ c.2, 0 ≤ v
theorem RGood.rv {k : Nat} {p : List Ins} {c : RC} (g : RGood k p c) (r : Int) : 0 ≤ rv c r := by
  unfold K75.rv
  rw [List.getD_eq_getElem?_getD]
  cases e : c.2[r.toNat]? with
  | none => exact Int.le_refl _
  | some v => exact g.nn v (List.mem_of_getElem? e)
theorem mem_set {l : List Int} {i : Nat} {v x : Int} (h : x ∈ l.set i v) : x = v ∨ x ∈ l := by
  rcases List.mem_or_eq_of_mem_set h with z | z
  · exact .inr z
  · exact .inl z
theorem rgood_step {k : Nat} {p : List Ins} (ok : ProgOk k p) {c c' : RC} (g : RGood k p c) (h : rstep p c = some c') : RGood k p c' := by
  unfold rstep at h
  split at h
  · cases h
  · cases h
  · rename_i r n e
    cases h
    have io : InsOk k p.length (.inc r n) := ok _ (List.mem_of_getElem? e)
    refine ⟨io.2.1, io.2.2, by rw [List.length_set]; exact g.len, fun v hv => ?_⟩
    rcases mem_set hv with z | z
    · rw [z]; have := g.rv r; omega
    · exact g.nn v z
  · rename_i r n o e
    have io : InsOk k p.length (.dec r n o) := ok _ (List.mem_of_getElem? e)
    split at h
    · cases h
      exact ⟨io.2.2.1, io.2.2.2, g.len, g.nn⟩
    · rename_i hz
      cases h
      refine ⟨io.2.1.1, io.2.1.2, by rw [List.length_set]; exact g.len, fun v hv => ?_⟩
      rcases mem_set hv with z | z
      · rw [z]; have := g.rv r; omega
      · exact g.nn v z
structure GrowOk (p : List Ins) (c : RC) (i j : Nat) : Prop where
  lt : i < j
  ex : ∃ ci cj : RC, orb (rstep p) c i = some ci ∧ orb (rstep p) c j = some cj ∧ ci.1 = cj.1 ∧ (∀ r : Nat, ci.2.getD r 0 ≤ cj.2.getD r 0) ∧
    ∀ t x, i ≤ t → t < j → orb (rstep p) c t = some x → ∀ r n o, p[x.1.toNat]? = some (.dec r n o) → rv x r = 0 → rv ci r = rv cj r
theorem getD_set (l : List Int) (i k : Nat) (v : Int) : (l.set i v).getD k 0 = if i = k ∧ i < l.length then v else l.getD k 0 := by
  rw [List.getD_eq_getElem?_getD, List.getD_eq_getElem?_getD, List.getElem?_set]
  by_cases h : i = k
  · by_cases h2 : i < l.length
    · rw [if_pos h, if_pos h2, if_pos ⟨h, h2⟩]; rfl
    · rw [if_pos h, if_neg h2, if_neg (fun z => h2 z.2)]
      rw [List.getElem?_eq_none (by omega)]
  · rw [if_neg h, if_neg (fun z => h z.1)]
theorem grow_go {k : Nat} {p : List Ins} (ok : ProgOk k p) {c : RC} (g0 : RGood k p c) {i j : Nat} (G : GrowOk p c i j) :
    ∃ δ : Nat → Int, (∀ r, 0 ≤ δ r) ∧ ∀ t, ∃ x y, orb (rstep p) c (i + t) = some x ∧ orb (rstep p) c (j + t) = some y ∧ x.1 = y.1 ∧ (∀ r : Nat, y.2.getD r 0 = x.2.getD r 0 + δ r) ∧
      ∀ r n o, p[x.1.toNat]? = some (.dec r n o) → rv x r = 0 → δ r.toNat = 0 := by
  obtain ⟨hij, ci, cj, hi, hj, hq, hge, hz⟩ := G
  have good := orb_good g0 (fun x y gx h => rgood_step ok gx h)
  refine ⟨fun r => cj.2.getD r 0 - ci.2.getD r 0, fun r => by have := hge r; show 0 ≤ cj.2.getD r 0 - ci.2.getD r 0; omega, fun t => ?_⟩
  have zero : ∀ t x, t < j - i → orb (rstep p) c (i + t) = some x → ∀ r n o, p[x.1.toNat]? = some (.dec r n o) → rv x r = 0 → cj.2.getD r.toNat 0 - ci.2.getD r.toNat 0 = 0 := by
    intro t x ht hx r n o hp h0
    have := hz (i + t) x (by omega) (by omega) hx r n o hp h0
    unfold rv at this
    omega
  induction t using Nat.strongRecOn with
  | ind t ih =>
    cases t with
    | zero => exact ⟨ci, cj, hi, hj, hq, fun r => by show _ = _ + (cj.2.getD r 0 - ci.2.getD r 0); omega, zero 0 ci (by omega) hi⟩
    | succ t =>
      obtain ⟨x, y, hx, hy, q1, v1, z1⟩ := ih t (Nat.lt_succ_self t)
      have nx : ∃ x', orb (rstep p) c (i + (t + 1)) = some x' := by
        by_cases h : i + (t + 1) ≤ j
        · exact orb_le hj _ h
        · obtain ⟨_, y', _, hy', _⟩ := ih (i + (t + 1) - j) (by omega)
          exact ⟨y', by rw [show i + (t + 1) = j + (i + (t + 1) - j) by omega]; exact hy'⟩
      obtain ⟨x', hx'⟩ := nx
      have sx : rstep p x = some x' := by rw [← hx']; exact (orb_succ (n := i + t) hx).symm
      have gx := good _ _ hx
      have gy := good _ _ hy
      have zf : ∀ x', orb (rstep p) c (i + (t + 1)) = some x' → ∀ r n o, p[x'.1.toNat]? = some (.dec r n o) → rv x' r = 0 → cj.2.getD r.toNat 0 - ci.2.getD r.toNat 0 = 0 := by
        intro x' hx' r n o hp h0
        by_cases h : t + 1 < j - i
        · exact zero (t + 1) x' h hx' r n o hp h0
        · obtain ⟨u, v, hu, hv, q2, v2, z2⟩ := ih (i + (t + 1) - j) (by omega)
          have e2 : i + (t + 1) = j + (i + (t + 1) - j) := by omega
          rw [e2, hv] at hx'
          cases hx'
          have d := v2 r.toNat
          have gu := (good _ _ hu).rv r
          have hg := hge r.toNat
          unfold rv at h0 gu
          dsimp only at d
          have : rv u r = 0 := by unfold rv; omega
          exact z2 r n o (by rw [q2]; exact hp) this
      have out : ∃ y', rstep p y = some y' ∧ x'.1 = y'.1 ∧ ∀ r : Nat, y'.2.getD r 0 = x'.2.getD r 0 + (cj.2.getD r 0 - ci.2.getD r 0) := by
        unfold rstep at sx ⊢
        rw [← q1]
        cases e : p[x.1.toNat]? with
        | none => rw [e] at sx; cases sx
        | some ins =>
          rw [e] at sx
          cases ins with
          | fin => cases sx
          | inc r n =>
            have sx' : some (n, x.2.set r.toNat (rv x r + 1)) = some x' := sx
            cases sx'
            refine ⟨_, rfl, rfl, fun s => ?_⟩
            dsimp only
            rw [getD_set, getD_set, gx.len, gy.len]
            have := v1 s
            by_cases h : r.toNat = s ∧ r.toNat < k
            · rw [if_pos h, if_pos h]
              unfold rv
              have := v1 r.toNat
              rw [← h.1]
              dsimp only at this
              omega
            · rw [if_neg h, if_neg h]; exact this
          | dec r n o =>
            have sx' : (if rv x r = 0 then some (o, x.2) else some (n, x.2.set r.toNat (rv x r - 1))) = some x' := sx
            show ∃ y', (if rv y r = 0 then some (o, y.2) else some (n, y.2.set r.toNat (rv y r - 1))) = some y' ∧ _
            have vr := v1 r.toNat
            dsimp only at vr
            by_cases h0 : rv x r = 0
            · rw [if_pos h0] at sx'
              cases sx'
              have d0 := z1 r n o e h0
              have hy0 : rv y r = 0 := by
                unfold rv at h0 ⊢
                dsimp only at d0
                omega
              rw [if_pos hy0]
              exact ⟨_, rfl, rfl, fun s => v1 s⟩
            · rw [if_neg h0] at sx'
              cases sx'
              have hy0 : ¬ rv y r = 0 := by
                have g1 := gx.rv r
                have g2 := hge r.toNat
                unfold rv at h0 g1 ⊢
                omega
              rw [if_neg hy0]
              refine ⟨_, rfl, rfl, fun s => ?_⟩
              dsimp only
              rw [getD_set, getD_set, gx.len, gy.len]
              have := v1 s
              by_cases h : r.toNat = s ∧ r.toNat < k
              · rw [if_pos h, if_pos h]
                unfold rv
                rw [← h.1]
                omega
              · rw [if_neg h, if_neg h]; exact this
      obtain ⟨y', sy, q3, v3⟩ := out
      exact ⟨x', y', hx', by rw [← sy]; exact orb_succ (n := j + t) hy, q3, v3, zf x' hx'⟩
end K75

set_option maxHeartbeats 8000000
namespace K75
structure Rl where
  s : Int
  b : Int
  w : Int
  m : Int
  f : Int
def tabAdd (tab : Tab) (r : Rl) : Tab := fun s b => if s = r.s ∧ b = r.b then some (r.w, r.m, r.f) else tab s b
def tabOf (rs : List Rl) : Tab := rs.foldl tabAdd (fun _ _ => none)
theorem tabOf_nil : tabOf [] = fun _ _ => none := rfl
theorem tabOf_snoc (rs : List Rl) (r : Rl) : tabOf (rs ++ [r]) = tabAdd (tabOf rs) r := by
  unfold tabOf
  rw [List.foldl_append]; rfl
theorem take_snoc {α : Type} {l : List α} {i : Nat} {x : α} (h : l[i]? = some x) : l.take (i + 1) = l.take i ++ [x] := by
  rw [List.take_add_one, h]; rfl
theorem tabOf_next {rs : List Rl} {i : Nat} {r : Rl} (h : rs[i]? = some r) : tabOf (rs.take (i + 1)) = tabAdd (tabOf (rs.take i)) r := by
  rw [take_snoc h, tabOf_snoc]
theorem fold_none (s b : Int) : ∀ (rs : List Rl) (tab : Tab), tab s b = none → (∀ r ∈ rs, ¬ (s = r.s ∧ b = r.b)) → (rs.foldl tabAdd tab) s b = none
  | [], tab, h, _ => h
  | r :: rs, tab, h, hn => by
    refine fold_none s b rs (tabAdd tab r) ?_ fun x hx => hn x (List.mem_cons_of_mem _ hx)
    unfold tabAdd
    rw [if_neg (hn r List.mem_cons_self)]; exact h
theorem tabOf_none {s b : Int} {rs : List Rl} (h : ∀ r ∈ rs, ¬ (s = r.s ∧ b = r.b)) : tabOf rs s b = none := fold_none s b rs _ rfl h
theorem fold_some (s b w m f : Int) : ∀ (rs : List Rl) (tab : Tab), (rs.foldl tabAdd tab) s b = some (w, m, f) → tab s b = some (w, m, f) ∨ (⟨s, b, w, m, f⟩ : Rl) ∈ rs
  | [], tab, h => .inl h
  | r :: rs, tab, h => by
    rcases fold_some s b w m f rs (tabAdd tab r) h with z | z
    · unfold tabAdd at z
      by_cases e : s = r.s ∧ b = r.b
      · rw [if_pos e] at z
        right
        have e2 : (r.w, r.m, r.f) = (w, m, f) := Option.some.inj z
        injection e2 with e3 e4
        injection e4 with e5 e6
        have : r = ⟨s, b, w, m, f⟩ := by
          obtain ⟨a1, a2, a3, a4, a5⟩ := r
          simp at e e3 e5 e6
          obtain ⟨h1, h2⟩ := e
          subst h1 h2 e3 e5 e6
          rfl
        rw [← this]; exact List.mem_cons_self
      · rw [if_neg e] at z; exact .inl z
    · exact .inr (List.mem_cons_of_mem _ z)
theorem tabOf_some {s b w m f : Int} {rs : List Rl} (h : tabOf rs s b = some (w, m, f)) : (⟨s, b, w, m, f⟩ : Rl) ∈ rs := by
  rcases fold_some s b w m f rs _ h with z | z
  · cases z
  · exact z
structure RlOk (n k : Nat) (r : Rl) : Prop where
  s : 0 ≤ r.s ∧ r.s < (n : Int)
  b : 0 ≤ r.b ∧ r.b < (k : Int)
  w : 0 ≤ r.w ∧ r.w < (k : Int)
  m : r.m = -1 ∨ r.m = 0 ∨ r.m = 1
  f : 0 ≤ r.f ∧ r.f < (n : Int)
def Apart (rs : List Rl) : Prop := rs.Pairwise fun r r' => ¬ (r.s = r'.s ∧ r.b = r'.b)
theorem tabOk_of {n k : Nat} {rs : List Rl} (h : ∀ r ∈ rs, RlOk n k r) : TabOk (tabOf rs) := fun s b w m f e => (h _ (tabOf_some e)).m
theorem apart_new {rs : List Rl} (h : Apart rs) {i : Nat} {r : Rl} (e : rs[i]? = some r) : tabOf (rs.take i) r.s r.b = none := by
  refine tabOf_none fun x hx z => ?_
  obtain ⟨hi, ei⟩ := List.getElem?_eq_some_iff.mp e
  obtain ⟨j, hj, ej⟩ := List.getElem_of_mem hx
  have hj2 : j < i := by
    rw [List.length_take] at hj; omega
  have ex : rs[j]'(by omega) = x := by rw [← ej, List.getElem_take]
  have := List.pairwise_iff_getElem.mp h j i (by omega) hi hj2
  rw [ex, ei] at this
  exact this ⟨z.1.symm, z.2.symm⟩
end K75

set_option maxHeartbeats 8000000
namespace K75
theorem mv_le {tab : Tab} (ok : TabOk tab) (x : TC) : -1 ≤ mv tab x ∧ mv tab x ≤ 1 := by
  unfold mv
  cases e : tab x.q x.h with
  | none => simp
  | some r =>
    obtain ⟨w, m, f⟩ := r
    rcases ok _ _ _ _ _ e with h | h | h <;> simp [h]
theorem hgt_le {tab : Tab} (ok : TabOk tab) (c : TC) : ∀ n : Nat, -(n : Int) ≤ hgt tab c n ∧ hgt tab c n ≤ n := by
  intro n
  induction n with
  | zero => exact ⟨Int.le_refl 0, Int.le_refl 0⟩
  | succ n ih =>
    show -(((n + 1 : Nat)) : Int) ≤ hgt tab c n + _ ∧ hgt tab c n + _ ≤ ((n + 1 : Nat) : Int)
    cases e : orb (tstep tab) c n with
    | none => simp; omega
    | some x =>
      have := mv_le ok x
      simp; omega
/-- the heads between i and j -/
def sub (hs : List Int) (i j : Nat) : List Int := (hs.drop i).take (j + 1 - i)
theorem sub_get {hs : List Int} {i j t : Nat} (h1 : i ≤ t) (h2 : t ≤ j) : (sub hs i j)[t - i]? = hs[t]? := by
  unfold sub
  rw [List.getElem?_take_of_lt (by omega), List.getElem?_drop]
  congr 1
  omega
theorem sub_len {hs : List Int} {i j : Nat} (h1 : i ≤ j) (h2 : j < hs.length) : (sub hs i j).length = j - i + 1 := by
  unfold sub
  rw [List.length_take, List.length_drop]; omega
theorem sub_mem {hs : List Int} {i j : Nat} {x : Int} (h : x ∈ sub hs i j) : ∃ t, i ≤ t ∧ t ≤ j ∧ hs[t]? = some x := by
  obtain ⟨k, hk, e⟩ := List.getElem_of_mem h
  have hk2 : k < j + 1 - i := by
    unfold sub at hk
    rw [List.length_take] at hk; omega
  refine ⟨i + k, by omega, by omega, ?_⟩
  rw [← sub_get (hs := hs) (i := i) (j := j) (t := i + k) (by omega) (by omega)]
  rw [show i + k - i = k by omega, List.getElem?_eq_getElem hk, e]
end K75

set_option maxHeartbeats 8000000
namespace K75
theorem mvd_len (b : List Int) (w : Int) (a : List Int) : (mvd b w a).1.length ≤ b.length + 1 ∧ (mvd b w a).2.2.length ≤ a.length := by
  unfold mvd
  refine ⟨?_, by rw [List.length_tail]; omega⟩
  dsimp only
  split
  · simp
  · omega
theorem tsz_step {tab : Tab} {c d : TC} (h : tstep tab c = some d) : d.l.length ≤ c.l.length + 1 ∧ d.r.length ≤ c.r.length + 1 := by
  unfold tstep at h
  split at h
  · cases h
  · rename_i w m f e
    have h1 := mvd_len c.l w c.r
    have h2 := mvd_len c.r w c.l
    split at h
    · cases h; exact ⟨Nat.le_succ _, Nat.le_succ _⟩
    · split at h
      · cases h; exact ⟨h1.1, Nat.le_succ_of_le h1.2⟩
      · cases h; exact ⟨Nat.le_succ_of_le h2.2, h2.1⟩
theorem tsz {tab : Tab} {c : TC} : ∀ (n : Nat) (x : TC), orb (tstep tab) c n = some x → x.l.length ≤ c.l.length + n ∧ x.r.length ≤ c.r.length + n := by
  intro n
  induction n with
  | zero => intro x h; cases h; exact ⟨Nat.le_refl _, Nat.le_refl _⟩
  | succ n ih =>
    intro x h
    obtain ⟨y, hy, hs⟩ := orb_prev h
    have h1 := ih y hy
    have h2 := tsz_step hs
    omega
end K75

set_option maxHeartbeats 8000000
/-! the text by places -/
namespace K75
open PySem PySem.Spec PyProof.Rows L2
def top (i : Nat) : Stmt := PySem.Challenge.pw_translatory_k75_whole_runs_go_on_after_p.main.body.getD i (.Pass ⟨0, 0, 0, 0⟩)
abbrev sCheckCount : Stmt := top 6
abbrev sHistory : Stmt := top 7
abbrev sRInit : Stmt := inClass (top 11) 0
abbrev sRStep : Stmt := inClass (top 11) 2
abbrev sTInit : Stmt := inClass (top 16) 0
abbrev sTRule : Stmt := inClass (top 16) 2
abbrev sTStep : Stmt := inClass (top 16) 3
abbrev sMoved : Stmt := top 17
abbrev sKinds : Stmt := top 23
abbrev sKInit : Stmt := inClass (top 24) 0
abbrev sKRight : Stmt := inClass (top 24) 1
abbrev sKGrows : Stmt := inClass (top 24) 2
abbrev sKShifts : Stmt := inClass (top 24) 3
abbrev sAgree : Stmt := top 25
abbrev sPadded : Stmt := top 26
abbrev sSought : Stmt := top 27
abbrev sFirst : Stmt := top 28
abbrev sFind : Stmt := top 29
abbrev sCell : Stmt := top 31
abbrev sDraws : Stmt := top 32
abbrev sStrip : Stmt := top 33
abbrev sRules : Stmt := top 34
abbrev sTape : Stmt := top 35
abbrev sLStep : Stmt := top 36
abbrev sTable : Stmt := top 37
abbrev sInstr : Stmt := top 38
abbrev sLRStep : Stmt := top 39
abbrev sDrawn : Stmt := top 40
abbrev sOwn : Stmt := top 41
abbrev sPlaces : Stmt := top 42
abbrev sLaw : Stmt := top 43
/-- a def of the text, as it stands behind the top -/
abbrev FD (K : PySem.W.Frag) (x qual : Str) (st : Stmt) (f : Addr) (fd : FuncData) : Prop := FunD K x qual (defArgs st) (defBody st) (defScope st) [] [] f fd
theorem FD.fok {P : Program} {w : World} {K : PySem.W.Frag} {mg : Str → Option Value} {base : Heap} {x qual : Str} {st : Stmt} {f : Addr} {fd : FuncData} {N ps : List Str} {k : Nat} {sp : Sp} (F : FD K x qual st f fd) (S : FnScope N ps (defScope st)) (len : ∀ vs H Q E, sp vs H Q E → vs.length = ps.length)
    (hbody : ∀ (A : Around) (outer : List Env) (s : Shared) (H : Hp) (vs : List V) (Q : VK) (E : XK), Room k (A.deeper (envOfC qual (defScope st) s.heap.objs.size f fd.code)) → sp vs H Q E →
      ∃ t, PSs (cxOf CX0 P w K mg base N qual (defScope st) f fd.code A outer s H E).nox (defBody st) t ∧ t { nx := fun _ H' => Q .non H', rt := Q } (start N vs) H) : FnOk P w K mg base CX0 (k + 1) f fd ps sp := by
  obtain ⟨oc, od, dV, kV, doc, pm, an, cdv, ct, osl, rfl, lk, hcd, _, _⟩ := F.ex
  refine fn_of lk hcd S len fun A outer s H vs Q E hr hsp => ?_
  obtain ⟨t, h, q⟩ := hbody A outer s H vs Q E hr hsp
  exact ⟨t, h.nox, q⟩
end K75

set_option maxHeartbeats 0
/-! the head: facts of the top by names, in one run -/
namespace K75
open PySem PySem.Spec PyProof.Rows L2
def d_CheckCount : He.DefD := ⟨("check_count", none), "check_count", "check_count", defArgs sCheckCount, defBody sCheckCount, defScope sCheckCount, [], []⟩
def d_History : He.DefD := ⟨("history", none), "history", "history", defArgs sHistory, defBody sHistory, defScope sHistory, [], []⟩
def d_RInit : He.DefD := ⟨("Registers", some "__init__"), "__init__", "Registers.__init__", defArgs sRInit, defBody sRInit, defScope sRInit, [], []⟩
def d_RStep : He.DefD := ⟨("Registers", some "step"), "step", "Registers.step", defArgs sRStep, defBody sRStep, defScope sRStep, [], []⟩
def d_TInit : He.DefD := ⟨("Turing", some "__init__"), "__init__", "Turing.__init__", defArgs sTInit, defBody sTInit, defScope sTInit, [], []⟩
def d_TRule : He.DefD := ⟨("Turing", some "rule"), "rule", "Turing.rule", defArgs sTRule, defBody sTRule, defScope sTRule, [], []⟩
def d_TStep : He.DefD := ⟨("Turing", some "step"), "step", "Turing.step", defArgs sTStep, defBody sTStep, defScope sTStep, [], []⟩
def d_Moved : He.DefD := ⟨("moved", none), "moved", "moved", defArgs sMoved, defBody sMoved, defScope sMoved, [], []⟩
def d_Kinds : He.DefD := ⟨("kinds_of", none), "kinds_of", "kinds_of", defArgs sKinds, defBody sKinds, defScope sKinds, [], []⟩
def d_KInit : He.DefD := ⟨("Track", some "__init__"), "__init__", "Track.__init__", defArgs sKInit, defBody sKInit, defScope sKInit, [], []⟩
def d_KRight : He.DefD := ⟨("Track", some "is_right"), "is_right", "Track.is_right", defArgs sKRight, defBody sKRight, defScope sKRight, [], []⟩
def d_KGrows : He.DefD := ⟨("Track", some "grows"), "grows", "Track.grows", defArgs sKGrows, defBody sKGrows, defScope sKGrows, [], []⟩
def d_KShifts : He.DefD := ⟨("Track", some "shifts"), "shifts", "Track.shifts", defArgs sKShifts, defBody sKShifts, defScope sKShifts, [], []⟩
def d_Agree : He.DefD := ⟨("agree", none), "agree", "agree", defArgs sAgree, defBody sAgree, defScope sAgree, [], []⟩
def d_Padded : He.DefD := ⟨("padded", none), "padded", "padded", defArgs sPadded, defBody sPadded, defScope sPadded, [], []⟩
def d_Sought : He.DefD := ⟨("check_sought", none), "check_sought", "check_sought", defArgs sSought, defBody sSought, defScope sSought, [], []⟩
def d_First : He.DefD := ⟨("first_paper", none), "first_paper", "first_paper", defArgs sFirst, defBody sFirst, defScope sFirst, [], []⟩
def d_Find : He.DefD := ⟨("find_paper", none), "find_paper", "find_paper", defArgs sFind, defBody sFind, defScope sFind, [], []⟩
def d_Cell : He.DefD := ⟨("_law_cell", none), "_law_cell", "_law_cell", defArgs sCell, defBody sCell, defScope sCell, [], []⟩
def d_Draws : He.DefD := ⟨("_law_draws", none), "_law_draws", "_law_draws", defArgs sDraws, defBody sDraws, defScope sDraws, [], []⟩
def d_Strip : He.DefD := ⟨("_law_strip", none), "_law_strip", "_law_strip", defArgs sStrip, defBody sStrip, defScope sStrip, [], []⟩
def d_Rules : He.DefD := ⟨("_law_rules", none), "_law_rules", "_law_rules", defArgs sRules, defBody sRules, defScope sRules, [], []⟩
def d_Tape : He.DefD := ⟨("_law_tape", none), "_law_tape", "_law_tape", defArgs sTape, defBody sTape, defScope sTape, [], []⟩
def d_LStep : He.DefD := ⟨("_law_turing_step", none), "_law_turing_step", "_law_turing_step", defArgs sLStep, defBody sLStep, defScope sLStep, [], []⟩
def d_Table : He.DefD := ⟨("_law_table", none), "_law_table", "_law_table", defArgs sTable, defBody sTable, defScope sTable, [], []⟩
def d_Instr : He.DefD := ⟨("_law_instructions", none), "_law_instructions", "_law_instructions", defArgs sInstr, defBody sInstr, defScope sInstr, [], []⟩
def d_LRStep : He.DefD := ⟨("_law_registers_step", none), "_law_registers_step", "_law_registers_step", defArgs sLRStep, defBody sLRStep, defScope sLRStep, [], []⟩
def d_Drawn : He.DefD := ⟨("_law_drawn_machine", none), "_law_drawn_machine", "_law_drawn_machine", defArgs sDrawn, defBody sDrawn, defScope sDrawn, [], []⟩
def d_Own : He.DefD := ⟨("_law_own_run", none), "_law_own_run", "_law_own_run", defArgs sOwn, defBody sOwn, defScope sOwn, [], []⟩
def d_Places : He.DefD := ⟨("_law_places", none), "_law_places", "_law_places", defArgs sPlaces, defBody sPlaces, defScope sPlaces, [], []⟩
def d_Law : He.DefD := ⟨("law", none), "law", "law", defArgs sLaw, defBody sLaw, defScope sLaw, [], []⟩
def hfn : List He.DefD := [d_CheckCount, d_History, d_RInit, d_RStep, d_TInit, d_TRule, d_TStep, d_Moved, d_Kinds, d_KInit, d_KRight, d_KGrows, d_KShifts, d_Agree, d_Padded, d_Sought, d_First, d_Find, d_Cell, d_Draws, d_Strip, d_Rules, d_Tape, d_LStep, d_Table, d_Instr, d_LRStep, d_Drawn, d_Own, d_Places, d_Law]
def hfa : List He.Fa := [.glo "check_count", .glo "history", .glo "moved", .glo "kinds_of", .glo "agree", .glo "padded", .glo "check_sought", .glo "first_paper", .glo "find_paper", .glo "_law_cell", .glo "_law_draws", .glo "_law_strip", .glo "_law_rules", .glo "_law_tape", .glo "_law_turing_step", .glo "_law_table", .glo "_law_instructions", .glo "_law_registers_step", .glo "_law_drawn_machine", .glo "_law_own_run", .glo "_law_places", .glo "law", .glo "Registers", .cls "Registers", .mkr "Registers", .glo "Turing", .cls "Turing", .mkr "Turing", .glo "Track", .cls "Track", .mkr "Track", .noat "Registers" "count", .noat "Registers" "instructions", .noat "Turing" "states", .noat "Turing" "symbols", .noat "Turing" "table", .noat "Turing" "rules", .noat "Track" "machine", .noat "Track" "run", .noat "Track" "heads", .meth "Registers" "step", .meth "Turing" "rule", .meth "Turing" "step", .meth "Track" "is_right", .meth "Track" "grows", .meth "Track" "shifts", .int "MOST_REGISTERS" 2000, .int "MOST_INSTRUCTIONS" 100000, .int "BLANK" 0, .int "MOST_STATES" 20000, .int "MOST_SYMBOLS" 400, .int "MOST_SOUGHT" 300, .str "REPEAT" "repeat", .str "GROWTH" "growth", .str "SHIFT" "shift", .free "len", .free "range", .free "tuple", .free "list", .free "sorted", .free "isinstance", .free "any", .free "all", .free "zip", .free "max", .free "min", .free "abs", .free "int"]
/-- what isinstance asks of the two classes -/
def insB (K : PySem.W.Frag) (x : Str) : Bool := He.eqO (PySem.W.findIn K (.ref (He.ga K x)) "__class__") (some (some (.builtin "object.__class__"))) && decide (PySem.W.mroIn K (He.ga K x) (.type "object") = some true)
def hex (K : PySem.W.Frag) : Bool := (He.eqO (PySem.W.specialIn K (.builtin "object.__class__") "__get__") (some (some (.builtin "getset_descriptor.__get__"))) && decide (PySem.W.takesIn K (.builtin "object.__class__") = some true)) && ((insB K "Registers" && insB K "Turing") &&
  ((decide (PySem.W.kitOne K (.ref (He.ga K "Registers")) (.ref (He.ga K "Registers")) = some true) && decide (PySem.W.kitOne K (.ref (He.ga K "Turing")) (.ref (He.ga K "Registers")) = some false)) &&
  (decide (PySem.W.kitOne K (.ref (He.ga K "Registers")) (.ref (He.ga K "Turing")) = some false) && decide (PySem.W.kitOne K (.ref (He.ga K "Turing")) (.ref (He.ga K "Turing")) = some true))))
def htf : List He.Defn := [("Registers", some "__init__"), ("Track", some "grows")]
abbrev hR : PySem.W.OpenRow := PySem.W.OpenLaw.row PySem.Challenge.rw_translatory_k75_whole_runs_go_on_after_p
abbrev hk : PySem.W.Hook := He.hookX 6 hfa hfn [] htf hex
def hob (s : PySem.W.SharedT) : He.AlX := He.obsX 6 hfa hfn [] htf hex (HandSHeadRun.getT s)
theorem hob_eq (s : PySem.W.SharedT) : hob s = hk.obs s.abs := He.obsX_eq (HandSHeadRun.getT_eq s)
def hloose : List Str := ([("_wall" : Str), ("__name__" : Str), ("TranslatoryError" : Str), ("InvalidMachine" : Str), ("BadArgument" : Str), ("check_count" : Str), ("history" : Str), ("MOST_REGISTERS" : Str), ("MOST_INSTRUCTIONS" : Str), ("Registers" : Str)] : List Str) ++ ([("BLANK" : Str), ("MOST_STATES" : Str), ("MOST_SYMBOLS" : Str), ("Turing" : Str), ("moved" : Str), ("MOST_SOUGHT" : Str), ("REPEAT" : Str), ("GROWTH" : Str), ("SHIFT" : Str), ("kinds_of" : Str)] : List Str) ++ ([("Track" : Str), ("agree" : Str), ("padded" : Str), ("check_sought" : Str), ("first_paper" : Str), ("find_paper" : Str), ("_law_cell" : Str), ("_law_draws" : Str), ("_law_strip" : Str), ("_law_rules" : Str)] : List Str) ++ ([("_law_tape" : Str), ("_law_turing_step" : Str), ("_law_table" : Str), ("_law_instructions" : Str), ("_law_registers_step" : Str), ("_law_drawn_machine" : Str), ("_law_own_run" : Str), ("_law_places" : Str)] : List Str)
theorem hrun (w : World) : HandSHeadRun.RunEq hR (PySem.W.view hR.prog [43]) hk hob 3000 hloose w := by
  intro os
  kernel_rfl
end K75

set_option maxHeartbeats 8000000
/-! (0,) * k for any small k -/
namespace K75
open PySem PySem.Spec PyProof.Rows L2
theorem tuple_mul_le0 (l : Addr) (items : Array Value) (n : Nat) (dd : Option Addr) (sl : Array (Option Value)) (x : Int) (u : Tok) (c0 : (decide (x < -(2 ^ 63)) || decide (x ≥ 2 ^ 63)) = false) (c1 : (items.isEmpty || x == 1) = false) (c2 : (decide (x ≤ 0) || items.isEmpty) = true) :
    Meets (Builtin.«tuple.__mul__» ⟨[.ref l, .int x u], []⟩) (fun _ R s => s.heap.get? l = some { cls := .type "tuple", dict := dd, data := .seq items n, slots := sl } ∧
      R (.ok (.ret (Value.ref s.heap.objs.size))) { s with heap := s.heap.push { cls := Value.type "tuple", data := Data.seq #[] }, toks := s.toks }) :=
  .of_wp fun prog w A R s h => by
    obtain ⟨hp, g, d, tk, os⟩ := s
    obtain ⟨hl, h⟩ := h
    have f1 := AutoSeq1.idx_int
    wp_walk using wpAny_loadPart' hl
    repeat (first
      | (refine wpAny_ite_false (decide_eq_false (by rw [c0]; exact Bool.false_ne_true)) ?_; wp_walk using wpAny_loadPart' hl)
      | (refine wpAny_ite_false (decide_eq_false (by rw [c1]; exact Bool.false_ne_true)) ?_; wp_walk using wpAny_loadPart' hl)
      | (refine wpAny_ite_true (decide_eq_true c2) ?_; wp_walk using wpAny_loadPart' hl))
    exact ⟨_, rfl, h⟩
theorem tuple_mul_one (l : Addr) (items : Array Value) (n : Nat) (dd : Option Addr) (sl : Array (Option Value)) (u : Tok) :
    Meets (Builtin.«tuple.__mul__» ⟨[.ref l, .int 1 u], []⟩) (fun _ R s => s.heap.get? l = some { cls := .type "tuple", dict := dd, data := .seq items n, slots := sl } ∧
      R (.ok (.ret (Value.ref l))) s) :=
  .of_wp fun prog w A R s h => by
    obtain ⟨hp, g, d, tk, os⟩ := s
    obtain ⟨hl, h⟩ := h
    have f1 := AutoSeq1.idx_int
    wp_walk using wpAny_loadPart' hl
    exact ⟨_, rfl, h⟩
/-- t * k, k at most 1000: a tuple (a new one, or t itself) -/
def rRepS (K : PySem.W.Frag) : R2 := fun x y H Q => ∃ l k xs, x = .ref l ∧ y = .int k ∧ SqT K H l xs ∧ xs ≠ [] ∧ -1000 ≤ k ∧ k ≤ 1000 ∧ xs.length ≤ 1000 ∧ (k = 1 → Q (.ref l) H) ∧ (k ≠ 1 → ∀ p, H p = none → Q (.ref p) (upd H p (.tup (List.replicate k.toNat xs).flatten)))
section
variable {X : Cx}
theorem op_repS : OpR X (binaryOp .Mult) (rRepS X.K) := by
  intro pins s σ H x y v u Q I rx ry h
  obtain ⟨l, k, xs, rfl, rfl, hT, hne, h0, h1, hz, q1, q2⟩ := h
  by_cases h2 : 2 ≤ k
  · exact op_repT pins s σ H _ _ v u Q I rx ry ⟨l, k, xs, rfl, rfl, hT, hne, h2, h1, hz, q2 (by omega)⟩
  · cases rx
    obtain ⟨t, rfl⟩ := ry
    obtain ⟨its, r, ⟨⟨cls, dd, data, sl⟩, ho, hc, n, hd⟩, hs⟩ := I.tuple hT
    simp only at hc hd
    subst hc hd
    have hle : its.length = xs.length := r.length.symm
    have hn : its ≠ [] := fun e => hne (by
      rw [e] at hle
      exact List.eq_nil_of_length_eq_zero hle.symm)
    have hi : its.toArray.isEmpty = false := by
      cases its with
      | nil => exact absurd rfl hn
      | cons a b => rfl
    by_cases h3 : k = 1
    · subst h3
      refine wpAny_binaryOp_repeat_ref (T := "tuple") (U := "int") (by decide) ⟨_, ho, rfl⟩ (fun s' => typeIs_int s' 1 t) noFill_tuple_mul F.fills_int_mul F.slot_int_rmul repeat_tuple F.slot_int_index.lookup
        (call_meets F.slot_int_rmul (typeIs_int s 1 t) F.entry_int_rmul (F.args_int_rmul_2 _ _) (int_rmul_tuple 1 t l its.toArray n dd sl)
          ⟨ho, rfl, ⟨_, ho, rfl⟩, call_meets F.slot_tuple_mul ⟨_, ho, rfl⟩ F.entry_tuple_mul (F.args_tuple_mul_2 _ _) (tuple_mul_one l its.toArray n dd sl t) ⟨ho, ?_⟩⟩)
      exact ⟨.ref l, H, I, rfl, q1 rfl⟩
    · have c0 : (decide (k < -(2 ^ 63)) || decide (k ≥ 2 ^ 63)) = false := by
        rw [decide_eq_false (by omega), decide_eq_false (by omega)] <;> rfl
      have c1 : (its.toArray.isEmpty || k == 1) = false := by
        rw [hi, Bool.false_or]
        exact beq_eq_false_iff_ne.mpr h3
      have c2 : (decide (k ≤ 0) || its.toArray.isEmpty) = true := by
        rw [decide_eq_true (by omega)]
        rfl
      refine wpAny_binaryOp_repeat_ref (T := "tuple") (U := "int") (by decide) ⟨_, ho, rfl⟩ (fun s' => typeIs_int s' k t) noFill_tuple_mul F.fills_int_mul F.slot_int_rmul repeat_tuple F.slot_int_index.lookup
        (call_meets F.slot_int_rmul (typeIs_int s k t) F.entry_int_rmul (F.args_int_rmul_2 _ _) (int_rmul_tuple k t l its.toArray n dd sl)
          ⟨ho, rfl, ⟨_, ho, rfl⟩, call_meets F.slot_tuple_mul ⟨_, ho, rfl⟩ F.entry_tuple_mul (F.args_tuple_mul_2 _ _) (tuple_mul_le0 l its.toArray n dd sl k t c0 c1 c2) ⟨ho, ?_⟩⟩)
      have e0 : (List.replicate k.toNat xs).flatten = [] := by
        rw [show k.toNat = 0 by omega]
        rfl
      have q := q2 h3 _ (I.hok.fresh (Nat.le_refl s.heap.objs.size))
      rw [e0] at q
      refine ⟨.ref s.heap.objs.size, _, I.laid (t' := s.toks) (o := .tup []) (fun b ob q => Heap.get?_push_of_some _ q) (Nat.le_refl _) ?_, rfl, q⟩
      exact ⟨Nat.zero_le _, [], .nil, IsTup.new _ _⟩
end
end K75

set_option maxHeartbeats 8000000
/-! what stands in the heap, and how heaps grow -/
namespace K75
open PySem PySem.Spec PyProof.Rows L2
/-! ## heaps -/
abbrev TabG (H : Hp) (P : Addr) : Prop := GxR.TabG H P
/-- all that was tracked stands; the tables of code objects may have grown -/
structure Ex (H H' : Hp) : Prop where
  keep : ∀ b o, H b = some o → (∀ ps, o ≠ .tbl ps) → H' b = some o
  tab : ∀ b, TabG H b → TabG H' b
  free : ∀ b, H' b = none → H b = none
/-- .. all but x -/
structure ExB (x : Addr) (H H' : Hp) : Prop where
  keep : ∀ b o, H b = some o → b ≠ x → (∀ ps, o ≠ .tbl ps) → H' b = some o
  tab : ∀ b, b ≠ x → TabG H b → TabG H' b
  free : ∀ b, H' b = none → H b = none
section
variable {H H' H1 H2 H3 : Hp} {p x : Addr} {o : HO}
theorem Ex.refl (H : Hp) : Ex H H := ⟨fun _ _ e _ => e, fun _ t => t, fun _ e => e⟩
theorem Ex.trans (a : Ex H1 H2) (b : Ex H2 H3) : Ex H1 H3 := ⟨fun c o e n => b.keep c o (a.keep c o e n) n, fun c t => b.tab c (a.tab c t), fun c e => a.free c (b.free c e)⟩
theorem Ex.of_same (s : Same H H') : Ex H H' := ⟨fun b o e _ => s b o e, fun b ⟨ps, e, t⟩ => ⟨ps, s b _ e, t⟩, fun _ e => s.free e⟩
theorem Ex.new (h : H p = none) : Ex H (upd H p o) := Ex.of_same fun b u e => by rw [upd_ne (ne_of_none e h)]; exact e
/-- a write to a thing of one's own -/
theorem Ex.put (a : Ex H1 H2) (h : H1 p = none) : Ex H1 (upd H2 p o) := by
  refine ⟨fun b u e n => ?_, fun b ⟨ps, e, t⟩ => ?_, fun b e => ?_⟩
  · rw [upd_ne (ne_of_none e h)]; exact a.keep b u e n
  · obtain ⟨qs, e2, t2⟩ := a.tab b ⟨ps, e, t⟩
    exact ⟨qs, by rw [upd_ne (ne_of_none e h)]; exact e2, t2⟩
  · by_cases hb : b = p
    · rw [hb]; exact h
    · rw [upd_ne hb] at e; exact a.free b e
theorem Ex.add (a : Ex H1 H2) (h : H2 p = none) : Ex H1 (upd H2 p o) := a.put (a.free p h)
theorem Ex.tabbed {P : Addr} (t : GxR.Tabbed P H1 H2) (h : TabG H1 P) : Ex H1 H2 := by
  obtain ⟨t1, t2⟩ := t
  refine ⟨fun b u e n => ?_, fun b g => ?_, fun b e => ?_⟩
  · have hb : b ≠ P := fun z => by
      obtain ⟨ps, e2, _⟩ := h
      rw [z, e2] at e
      cases e
      exact n ps rfl
    rw [t2 b hb]; exact e
  · by_cases hb : b = P
    · rw [hb]; exact t1
    · obtain ⟨ps, e2, t3⟩ := g
      exact ⟨ps, by rw [t2 b hb]; exact e2, t3⟩
  · by_cases hb : b = P
    · obtain ⟨ps, e2, _⟩ := t1
      rw [hb, e2] at e; cases e
    · rw [t2 b hb] at e; exact e
theorem Ex.exb (a : Ex H1 H2) : ExB x H1 H2 := ⟨fun b o e _ n => a.keep b o e n, fun b _ t => a.tab b t, a.free⟩
theorem ExB.trans (a : ExB x H1 H2) (b : ExB x H2 H3) : ExB x H1 H3 := ⟨fun c o e n m => b.keep c o (a.keep c o e n m) n m, fun c n t => b.tab c n (a.tab c n t), fun c e => a.free c (b.free c e)⟩
theorem ExB.put (a : ExB x H1 H2) (h : H2 x ≠ none) : ExB x H1 (upd H2 x o) := by
  refine ⟨fun b u e n m => by rw [upd_ne n]; exact a.keep b u e n m, fun b n t => ?_, fun b e => ?_⟩
  · obtain ⟨ps, e, t2⟩ := a.tab b n t
    exact ⟨ps, by rw [upd_ne n]; exact e, t2⟩
  · by_cases hb : b = x
    · rw [hb, upd_same] at e; cases e
    · rw [upd_ne hb] at e; exact a.free b e
theorem ExB.put2 (a : ExB x H1 H2) (h : H1 p = none) : ExB x H1 (upd H2 p o) := by
  refine ⟨fun b u e n m => by rw [upd_ne (ne_of_none e h)]; exact a.keep b u e n m, fun b n t => ?_, fun b e => ?_⟩
  · obtain ⟨ps, e, t2⟩ := a.tab b n t
    have hb : b ≠ p := fun z => by
      obtain ⟨qs, e3, _⟩ := t
      rw [z, h] at e3; cases e3
    exact ⟨ps, by rw [upd_ne hb]; exact e, t2⟩
  · by_cases hb : b = p
    · rw [hb]; exact h
    · rw [upd_ne hb] at e; exact a.free b e
/-- a new instance and its __init__ -/
theorem ExB.made {dx C : Addr} (nx : H x = none) (nd : H dx = none) (k : ExB x (upd (upd H dx (.own x)) x (.ins C dx [])) H1) : Ex H H1 := by
  have hk : ∀ b o, H b = some o → (upd (upd H dx (.own x)) x (.ins C dx [])) b = some o := fun b o e => by
    rw [upd_ne (ne_of_none e nx), upd_ne (ne_of_none e nd)]; exact e
  refine ⟨fun b o e n => k.keep b o (hk b o e) (ne_of_none e nx) n, fun b ⟨ps, e, t⟩ => k.tab b (ne_of_none e nx) ⟨ps, hk b _ e, t⟩, fun b e => ?_⟩
  have e2 := k.free b e
  by_cases hb : b = x
  · rw [hb]; exact nx
  · rw [upd_ne hb] at e2
    by_cases hd : b = dx
    · rw [hd]; exact nd
    · rw [upd_ne hd] at e2; exact e2
theorem Ex.lst (a : Ex H1 H2) {xs : List V} (h : H1 p = some (.lst xs)) : H2 p = some (.lst xs) := a.keep p _ h fun _ z => by cases z
theorem Ex.tup (a : Ex H1 H2) {xs : List V} (h : H1 p = some (.tup xs)) : H2 p = some (.tup xs) := a.keep p _ h fun _ z => by cases z
theorem Ex.ins (a : Ex H1 H2) {C dx : Addr} {fs : List (Str × V)} (h : H1 p = some (.ins C dx fs)) : H2 p = some (.ins C dx fs) := a.keep p _ h fun _ z => by cases z
theorem Ex.dT (a : Ex H1 H2) {kvs : List (List Key × V)} (h : H1 p = some (.dT kvs)) : H2 p = some (.dT kvs) := a.keep p _ h fun _ z => by cases z
theorem Ex.sqL (a : Ex H1 H2) {K : PySem.W.Frag} {xs : List V} (h : SqL K H1 p xs) : SqL K H2 p xs := by
  rcases h with (h | ⟨o, h⟩) | h
  · exact .inl (.inl (a.lst h))
  · exact .inl (.inr ⟨o, a.keep _ _ h fun _ z => by cases z⟩)
  · exact .inr h
theorem Ex.ne (a : Ex H1 H2) {q : Addr} {o u : HO} (h : H1 p = some o) (n : H2 q = none) : p ≠ q := fun z => by
  have := a.free q n
  rw [← z, h] at this; cases this
end
/-! ## tuples of ints, configurations, lists of things -/
abbrev IT (H : Hp) (a : Addr) (ns : List Int) : Prop := H a = some (.tup (ns.map V.int))
structure TCf (H : Hp) (a : Addr) (c : TC) : Prop where
  ex : ∃ l r, H a = some (.tup [.int c.q, .ref l, .int c.h, .ref r]) ∧ IT H l c.l ∧ IT H r c.r
structure RCf (H : Hp) (a : Addr) (c : RC) : Prop where
  ex : ∃ v, H a = some (.tup [.int c.1, .ref v]) ∧ IT H v c.2
/-- the things at as are those of cs, one by one -/
structure Each {α : Type} (P : Addr → α → Prop) (as : List Addr) (cs : List α) : Prop where
  len : as.length = cs.length
  at_ : ∀ (i : Nat) a c, as[i]? = some a → cs[i]? = some c → P a c
section
variable {α : Type} {P P' : Addr → α → Prop} {as : List Addr} {cs : List α}
theorem Each.nil : Each P [] [] := ⟨rfl, fun i a c h => by simp at h⟩
theorem Each.mono (e : Each P as cs) (h : ∀ a c, P a c → P' a c) : Each P' as cs := ⟨e.len, fun i a c h1 h2 => h a c (e.at_ i a c h1 h2)⟩
theorem Each.snoc (e : Each P as cs) {a : Addr} {c : α} (h : P a c) : Each P (as ++ [a]) (cs ++ [c]) := by
  refine ⟨by rw [List.length_append, List.length_append, e.len]; rfl, fun i b d h1 h2 => ?_⟩
  by_cases hi : i < as.length
  · rw [List.getElem?_append_left hi] at h1
    rw [List.getElem?_append_left (by rw [← e.len]; exact hi)] at h2
    exact e.at_ i b d h1 h2
  · rw [List.getElem?_append_right (by omega)] at h1
    rw [List.getElem?_append_right (by rw [← e.len]; omega), ← e.len] at h2
    have hz : i - as.length = 0 := by
      cases q : i - as.length with
      | zero => rfl
      | succ n => rw [q] at h1; simp at h1
    rw [hz] at h1 h2
    cases h1; cases h2
    exact h
theorem Each.get (e : Each P as cs) {i : Nat} {c : α} (h : cs[i]? = some c) : ∃ a, as[i]? = some a ∧ P a c := by
  have hi : i < as.length := by rw [e.len]; exact (List.getElem?_eq_some_iff.mp h).1
  exact ⟨as[i], List.getElem?_eq_getElem hi, e.at_ i _ c (List.getElem?_eq_getElem hi) h⟩
theorem Each.get' (e : Each P as cs) {i : Nat} {a : Addr} (h : as[i]? = some a) : ∃ c, cs[i]? = some c ∧ P a c := by
  have hi : i < cs.length := by rw [← e.len]; exact (List.getElem?_eq_some_iff.mp h).1
  exact ⟨cs[i], List.getElem?_eq_getElem hi, e.at_ i a _ h (List.getElem?_eq_getElem hi)⟩
end
section
variable {H H' : Hp} {a : Addr}
theorem Ex.it (e : Ex H H') {ns : List Int} (h : IT H a ns) : IT H' a ns := e.tup h
theorem Ex.tcf (e : Ex H H') {c : TC} (h : TCf H a c) : TCf H' a c := by
  obtain ⟨l, r, h1, h2, h3⟩ := h.ex
  exact ⟨l, r, e.tup h1, e.tup h2, e.tup h3⟩
theorem Ex.rcf (e : Ex H H') {c : RC} (h : RCf H a c) : RCf H' a c := by
  obtain ⟨v, h1, h2⟩ := h.ex
  exact ⟨v, e.tup h1, e.tup h2⟩
end
theorem refs_at {as : List Addr} {i : Nat} {a : Addr} (h : as[i]? = some a) : (as.map V.ref)[i]? = some (V.ref a) := by
  rw [List.getElem?_map, h]; rfl
theorem ints_at {ns : List Int} {i : Nat} {n : Int} (h : ns[i]? = some n) : (ns.map V.int)[i]? = some (V.int n) := by
  rw [List.getElem?_map, h]; rfl
theorem getD_at {ns : List Int} {i : Nat} (h : i < ns.length) : ns[i]? = some (ns.getD i 0) := by
  rw [List.getD_eq_getElem?_getD, List.getElem?_eq_getElem h]; rfl
/-! ## data, for == -/
def iD (ns : List Int) : List PyData := ns.map PyData.int
theorem eqv_int (i j : Int) : PyData.eqv (.int i) (.int j) = (i == j) := by unfold PyData.eqv; rfl
theorem eqv_tup (xs ys : List PyData) : PyData.eqv (.tuple xs) (.tuple ys) = PyData.eqvAll xs ys := by rw [PyData.eqv]
theorem eqv_lst (xs ys : List PyData) : PyData.eqv (.list xs) (.list ys) = PyData.eqvAll xs ys := by rw [PyData.eqv]
theorem eqvAll_cons (x y : PyData) (xs ys : List PyData) : PyData.eqvAll (x :: xs) (y :: ys) = (PyData.eqv x y && PyData.eqvAll xs ys) := by rw [PyData.eqvAll]
theorem eqvAll_nil : PyData.eqvAll [] [] = true := by rw [PyData.eqvAll]
theorem eqvAll_ints : ∀ xs ys : List Int, PyData.eqvAll (iD xs) (iD ys) = decide (xs = ys)
  | [], [] => by
    show PyData.eqvAll [] [] = _
    rw [eqvAll_nil]; rfl
  | [], y :: ys => by
    show PyData.eqvAll [] (_ :: _) = _
    rw [PyData.eqvAll]; rfl
  | x :: xs, [] => by
    show PyData.eqvAll (_ :: _) [] = _
    rw [PyData.eqvAll]; rfl
  | x :: xs, y :: ys => by
    show PyData.eqvAll (PyData.int x :: iD xs) (PyData.int y :: iD ys) = _
    rw [eqvAll_cons, eqv_int, eqvAll_ints xs ys]
    by_cases h : x = y
    · by_cases h2 : xs = ys
      · simp [h, h2]
      · simp [h, h2]
    · simp [h]
theorem can_ints : ∀ xs : List Int, PyData.canLayAll0 (iD xs) = true
  | [] => by show PyData.canLayAll0 [] = true; rw [PyData.canLayAll0]
  | x :: xs => by
    show PyData.canLayAll0 (PyData.int x :: iD xs) = true
    rw [PyData.canLayAll0, can_ints xs, PyData.canLay0]; rfl
theorem depth_ints : ∀ xs : List Int, PyData.depthAll (iD xs) = 0
  | [] => by show PyData.depthAll [] = 0; rw [PyData.depthAll]
  | x :: xs => by
    show PyData.depthAll (PyData.int x :: iD xs) = 0
    rw [PyData.depthAll, depth_ints xs, PyData.depth]
    first | rfl | (intros; exact fun z => by cases z) | simp
theorem dpAll_ints {K : PySem.W.Frag} {H : Hp} : ∀ xs : List Int, DpAll K H (xs.map V.int) (iD xs)
  | [] => .nil
  | x :: xs => .cons (.int x) (dpAll_ints xs)
theorem dp_it {K : PySem.W.Frag} {H : Hp} {a : Addr} {ns : List Int} (h : IT H a ns) : Dp K H (.ref a) (.tuple (iD ns)) := .tup (SqT.of h) (dpAll_ints ns)
theorem dp_il {K : PySem.W.Frag} {H : Hp} {a : Addr} {ns : List Int} (h : H a = some (.lst (ns.map V.int))) : Dp K H (.ref a) (.list (iD ns)) := .lst (SqL.of h) (dpAll_ints ns)
theorem shaped_it (ns : List Int) : SeqAt.shaped (.tuple (iD ns)) = true := by
  unfold SeqAt.shaped
  rw [PyData.canLay0, PyData.depth, can_ints, depth_ints]; decide
theorem shaped_il (ns : List Int) : SeqAt.shaped (.list (iD ns)) = true := by
  unfold SeqAt.shaped
  rw [PyData.canLay0, PyData.depth, can_ints, depth_ints]; decide
def tD (c : TC) : PyData := .tuple [.int c.q, .tuple (iD c.l), .int c.h, .tuple (iD c.r)]
def rD (c : RC) : PyData := .tuple [.int c.1, .tuple (iD c.2)]
theorem dp_tcf {K : PySem.W.Frag} {H : Hp} {a : Addr} {c : TC} (h : TCf H a c) : Dp K H (.ref a) (tD c) := by
  obtain ⟨l, r, h1, h2, h3⟩ := h.ex
  exact .tup (SqT.of h1) (.cons (.int _) (.cons (dp_it h2) (.cons (.int _) (.cons (dp_it h3) .nil))))
theorem dp_rcf {K : PySem.W.Frag} {H : Hp} {a : Addr} {c : RC} (h : RCf H a c) : Dp K H (.ref a) (rD c) := by
  obtain ⟨v, h1, h2⟩ := h.ex
  exact .tup (SqT.of h1) (.cons (.int _) (.cons (dp_it h2) .nil))
theorem shaped_tD (c : TC) : SeqAt.shaped (tD c) = true := by
  unfold SeqAt.shaped tD
  simp only [PyData.canLay0, PyData.canLayAll0, PyData.depth, PyData.depthAll, can_ints, depth_ints]
  decide
theorem shaped_rD (c : RC) : SeqAt.shaped (rD c) = true := by
  unfold SeqAt.shaped rD
  simp only [PyData.canLay0, PyData.canLayAll0, PyData.depth, PyData.depthAll, can_ints, depth_ints]
  decide
theorem eqv_tD (c d : TC) : PyData.eqv (tD c) (tD d) = true ↔ c = d := by
  obtain ⟨q, l, h, r⟩ := c
  obtain ⟨q', l', h', r'⟩ := d
  unfold tD
  rw [eqv_tup, eqvAll_cons, eqvAll_cons, eqvAll_cons, eqvAll_cons, eqvAll_nil, eqv_int, eqv_int, eqv_tup, eqv_tup, eqvAll_ints, eqvAll_ints]
  simp
theorem eqv_rD (c d : RC) : PyData.eqv (rD c) (rD d) = true ↔ c = d := by
  obtain ⟨q, l⟩ := c
  obtain ⟨q', l'⟩ := d
  unfold rD
  rw [eqv_tup, eqvAll_cons, eqvAll_cons, eqvAll_nil, eqv_int, eqv_tup, eqvAll_ints]
  simp
end K75

set_option maxHeartbeats 8000000
/-! rules in short: slices, sums, repeats of tuples -/
namespace K75
open PySem PySem.Spec PyProof.Rows L2
theorem cutV_take (xs : List V) (n : Nat) : cutV xs none (some (n : Int)) = xs.take n := by
  unfold cutV
  rw [HT.sIx_none, HT.sIx_nat, List.drop_zero, Nat.sub_zero]
  by_cases h : n ≤ xs.length
  · rw [Nat.min_eq_left h]
  · rw [Nat.min_eq_right (by omega), List.take_of_length_le (Nat.le_refl _), List.take_of_length_le (by omega)]
theorem cutV_drop (xs : List V) (n : Nat) : cutV xs (some (n : Int)) none = xs.drop n := by
  unfold cutV
  rw [HT.sIx_none, HT.sIx_nat]
  by_cases h : n ≤ xs.length
  · rw [Nat.min_eq_left h]
    exact List.take_of_length_le (by rw [List.length_drop]; exact Nat.le_refl _)
  · rw [Nat.min_eq_right (by omega), List.drop_eq_nil_of_le (Nat.le_refl _), List.drop_eq_nil_of_le (by omega), List.take_nil]
theorem cutV_last (xs : List V) : cutV xs none (some (-1)) = xs.dropLast := by
  unfold cutV
  rw [HT.sIx_none, List.drop_zero, Nat.sub_zero]
  have e : HT.sIx xs.length xs.length (some (-1)) = xs.length - 1 := by
    show (if (-1 : Int) < 0 then ((-1 : Int) + (xs.length : Int)).toNat else min (-1 : Int).toNat xs.length) = xs.length - 1
    rw [if_pos (by decide)]
    omega
  rw [e, List.dropLast_eq_take]
theorem cutV_mid (xs : List V) (i j : Nat) (hi : i ≤ xs.length) (hj : j ≤ xs.length) : cutV xs (some (i : Int)) (some (j : Int)) = (xs.drop i).take (j - i) := by
  unfold cutV
  rw [HT.sIx_nat, HT.sIx_nat, Nat.min_eq_left hi, Nat.min_eq_left hj]
section
variable {X : Cx}
theorem opR_imp {f : Value → Value → Sem Value} {r r' : R2} (h : OpR X f r) (k : ∀ x y H Q, r' x y H Q → r x y H Q) : OpR X f r' := fun pins s σ H x y v u Q I rx ry q => h pins s σ H x y v u Q I rx ry (k _ _ _ _ q)
/-- t + u -/
def rCatB : R2 := fun x y H Q => ∃ a b xs ys, x = .ref a ∧ y = .ref b ∧ H a = some (.tup xs) ∧ H b = some (.tup ys) ∧ xs.length + ys.length ≤ 1000 ∧ ∀ p H', Ex H H' → H' p = some (.tup (xs ++ ys)) → Q (.ref p) H'
theorem op_catB : OpR X (binaryOp .Add) rCatB := opR_imp op_catA fun x y H Q h => by
  obtain ⟨a, b, xs, ys, e1, e2, ha, hb, hl, q⟩ := h
  refine ⟨a, b, xs, ys, e1, e2, SqT.of ha, SqT.of hb, Nat.le_trans hl (by decide), fun e => q b H (Ex.refl H) (by rw [e, List.nil_append]; exact hb), fun _ e => q a H (Ex.refl H) (by rw [e, List.append_nil]; exact ha), fun _ _ p hp => q p _ (Ex.new hp) upd_same⟩
/-- t * k -/
def rRepB : R2 := fun x y H Q => ∃ l k xs, x = .ref l ∧ y = .int k ∧ H l = some (.tup xs) ∧ xs ≠ [] ∧ -1000 ≤ k ∧ k ≤ 1000 ∧ xs.length ≤ 1000 ∧ ∀ p H', Ex H H' → H' p = some (.tup (List.replicate k.toNat xs).flatten) → Q (.ref p) H'
theorem op_repB : OpR X (binaryOp .Mult) rRepB := opR_imp op_repS fun x y H Q h => by
  obtain ⟨l, k, xs, e1, e2, hl, hn, k0, k1, hz, q⟩ := h
  refine ⟨l, k, xs, e1, e2, SqT.of hl, hn, k0, k1, hz, fun e => q l H (Ex.refl H) ?_, fun _ p hp => q p _ (Ex.new hp) upd_same⟩
  rw [e, hl]
  show some (HO.tup xs) = some (HO.tup (List.replicate 1 xs).flatten)
  simp
/-- t[lo:hi] -/
def rSlB : V → Option Int → Option Int → Hp → VK → Prop := fun x lo hi H Q => ∃ a xs, x = .ref a ∧ H a = some (.tup xs) ∧ ∀ p H', Ex H H' → H' p = some (.tup (cutV xs lo hi)) → Q (.ref p) H'
theorem sl_tupB : SlR X rSlB := fun pins s σ H x v vl vu lo hi sl Q I rx hs pl pu h => by
  obtain ⟨a, xs, e, ha, q⟩ := h
  refine sl_tupA pins s σ H x v vl vu lo hi sl Q I rx hs pl pu ⟨a, xs, e, SqT.of ha, fun w => q a H (Ex.refl H) ?_, fun _ p hp => q p _ (Ex.new hp) upd_same⟩
  have : cutV xs lo hi = xs := by
    unfold cutV
    rw [w.1, w.2, List.drop_zero, Nat.sub_zero, List.take_of_length_le (Nat.le_refl _)]
  rw [this]; exact ha
theorem rep0 (k : Nat) : (List.replicate k ([V.int 0] : List V)).flatten = (List.replicate k (0 : Int)).map V.int := by
  induction k with
  | zero => rfl
  | succ k ih =>
    rw [List.replicate_succ, List.flatten_cons, ih, List.replicate_succ, List.map_cons]
    rfl
theorem fnOk_or {P : Program} {w : World} {K : PySem.W.Frag} {mg : Str → Option Value} {base : Heap} {CX : CXT} {k : Nat} {f : Addr} {fd : FuncData} {ps : List Str} {sp sp' : Sp} (F : FnOk P w K mg base CX k f fd ps sp) (G : FnOk P w K mg base CX k f fd ps sp') :
    FnOk P w K mg base CX k f fd ps (fun vs H Q E => sp vs H Q E ∨ sp' vs H Q E) :=
  ⟨fun vs H Q E q => q.elim (F.len vs H Q E) (G.len vs H Q E), fun A outer s H args us vs Q E hr he hb hv hs => hs.elim (F.run A outer s H args us vs Q E hr he hb hv) (G.run A outer s H args us vs Q E hr he hb hv)⟩
theorem fnOk_never {P : Program} {w : World} {K : PySem.W.Frag} {mg : Str → Option Value} {base : Heap} {CX : CXT} {k : Nat} {f : Addr} {fd : FuncData} {ps : List Str} : FnOk P w K mg base CX k f fd ps (fun _ _ _ _ => False) :=
  ⟨fun _ _ _ _ q => q.elim, fun _ _ _ _ _ _ _ _ _ _ _ _ _ q => q.elim⟩
end
end K75

set_option maxHeartbeats 8000000
/-! the program's small defs -/
namespace K75
open PySem PySem.Spec PyProof.Rows L2
def Gv (mg : Str → Option Value) (x : Str) (v : V) : Prop := ∃ u, mg x = some u ∧ RelV v u
/-- what the top leaves of names and classes -/
structure Txt (K : PySem.W.Frag) (mg : Str → Option Value) (CR CT CK : Addr) : Prop where
  len : mg "len" = none
  rng : mg "range" = none
  tup : mg "tuple" = none
  lst : mg "list" = none
  srt : mg "sorted" = none
  isi : mg "isinstance" = none
  any : mg "any" = none
  all : mg "all" = none
  zip : mg "zip" = none
  max : mg "max" = none
  min : mg "min" = none
  abs : mg "abs" = none
  int : mg "int" = none
  mReg : Gv mg "MOST_REGISTERS" (.int 2000)
  mIns : Gv mg "MOST_INSTRUCTIONS" (.int 100000)
  blank : Gv mg "BLANK" (.int 0)
  mSta : Gv mg "MOST_STATES" (.int 20000)
  mSym : Gv mg "MOST_SYMBOLS" (.int 400)
  mSou : Gv mg "MOST_SOUGHT" (.int 300)
  rep : Gv mg "REPEAT" (.str "repeat")
  gro : Gv mg "GROWTH" (.str "growth")
  shi : Gv mg "SHIFT" (.str "shift")
  gR : mg "Registers" = some (.ref CR)
  gT : mg "Turing" = some (.ref CT)
  gK : mg "Track" = some (.ref CK)
  cR : Cls K CR
  cT : Cls K CT
  cK : Cls K CK
  rCount : NoAttr K CR "count"
  rIns : NoAttr K CR "instructions"
  tStates : NoAttr K CT "states"
  tSymbols : NoAttr K CT "symbols"
  tTable : NoAttr K CT "table"
  tRules : NoAttr K CT "rules"
  kMachine : NoAttr K CK "machine"
  kRun : NoAttr K CK "run"
  kHeads : NoAttr K CK "heads"
  insR : PySem.W.findIn K (.ref CR) "__class__" = some (some (.builtin "object.__class__")) ∧ PySem.W.mroIn K CR (.type "object") = some true
  insT : PySem.W.findIn K (.ref CT) "__class__" = some (some (.builtin "object.__class__")) ∧ PySem.W.mroIn K CT (.type "object") = some true
  insG : PySem.W.specialIn K (.builtin "object.__class__") "__get__" = some (some (.builtin "getset_descriptor.__get__")) ∧ PySem.W.takesIn K (.builtin "object.__class__") = some true
  kRR : PySem.W.kitOne K (.ref CR) (.ref CR) = some true
  kTR : PySem.W.kitOne K (.ref CT) (.ref CR) = some false
  kRT : PySem.W.kitOne K (.ref CR) (.ref CT) = some false
  kTT : PySem.W.kitOne K (.ref CT) (.ref CT) = some true
/-- a def that may be called -/
structure Cal (P : Program) (w : World) (K : PySem.W.Frag) (mg : Str → Option Value) (base : Heap) (x : Str) (k : Nat) (ps : List Str) (sp : Sp) : Prop where
  ex : ∃ f fd, mg x = some (.ref f) ∧ PySem.W.keepIn K (.ref f) = true ∧ Binds K fd ps [] ∧ FnOk P w K mg base CX0 k f fd ps sp
/-- a method that may be called -/
structure CalM (P : Program) (w : World) (K : PySem.W.Frag) (mg : Str → Option Value) (base : Heap) (C : Addr) (m : Str) (k : Nat) (ps : List Str) (sp : Sp) : Prop where
  ex : ∃ f fd, Meth K C m f ∧ Binds K fd ps [] ∧ FnOk P w K mg base CX0 k f fd ps sp
/-! ## padded, agree -/
def spPadded : Sp := fun vs H Q _ => ∃ (a : Addr) (s : List Int) (n : Nat), vs = [.ref a, .int n] ∧ IT H a s ∧ s.length ≤ 500 ∧ n ≤ 500 ∧ ∀ p H', Ex H H' → IT H' p (padd s n) → Q (.ref p) H'
def spAgree : Sp := fun vs H Q _ => ∃ (a b : Addr) (s u : List Int) (n : Nat), vs = [.ref a, .ref b, .int n] ∧ IT H a s ∧ IT H b u ∧ s.length ≤ 500 ∧ u.length ≤ 500 ∧ n ≤ 500 ∧ ∀ H', Ex H H' → Q (.bl (decide (padd s n = padd u n))) H'
section
variable {P : Program} {w : World} {K : PySem.W.Frag} {mg : Str → Option Value} {base : Heap} {CR CT CK : Addr}
theorem scPad : FnScope ["side", "count"] ["side", "count"] (defScope sPadded) := ⟨rfl, rfl, rfl, by decide +kernel, rfl, by decide +kernel, by decide +kernel⟩
theorem ok_padded {f : Addr} {fd : FuncData} (F : FD K "padded" "padded" sPadded f fd) (T : Txt K mg CR CT CK) : FnOk P w K mg base CX0 1 f fd ["side", "count"] spPadded := by
  refine FD.fok F scPad (fun vs H Q E h => ?_) (fun A outer s H vs Q E hr h => ?_)
  · obtain ⟨a, s, n, rfl, _⟩ := h
    rfl
  · obtain ⟨a, s, n, rfl, ha, hs, hn, k⟩ := h
    refine ⟨_, pss_one (ps_ret (pe_op op_catB (pe_slice sl_tupB (pv 0) po_none (po_some (pv 1))) (pe_op op_repB (pe_tup (pa_cons pe_int pa_nil)) (pe_op op_sub (pv 1) (pe_callB call_len_seq (by rfl) T.len PySem.boot_len (pa_cons (pv 0) pa_nil)))))), ?_⟩
    refine ⟨_, rfl, _, rfl, _, rfl, a, _, rfl, ha, fun p H1 e1 h1 => ?_⟩
    refine ⟨by show 1 ≤ sizeLine; decide, fun q hq => ?_⟩
    have e2 : Ex H1 (upd H1 q (.tup [.int 0])) := Ex.new hq
    refine ⟨_, rfl, _, rfl, a, _, rfl, .inr (SqT.of (e2.tup (e1.tup ha))), _, _, rfl, rfl, q, _, [V.int 0], rfl, rfl, upd_same, (fun z => by cases z), ?_, ?_, by decide, fun r H3 e3 h3 => ?_⟩
    · rw [List.length_map]; omega
    · omega
    · rw [rep0] at h3
      rw [cutV_take, ← List.map_take] at h1
      refine ⟨p, r, _, _, rfl, rfl, e3.tup (e2.tup h1), h3, ?_, fun t H4 e4 h4 => ?_⟩
      · rw [List.length_map, List.length_map, List.length_take, List.length_replicate]; omega
      · refine k t H4 (e1.trans (e2.trans (e3.trans e4))) ?_
        rw [← List.map_append, List.length_map] at h4
        have e : ((n : Int) - (s.length : Int)).toNat = n - s.length := by omega
        rw [e] at h4
        exact h4
theorem scAgr : FnScope ["first", "second", "count"] ["first", "second", "count"] (defScope sAgree) := ⟨rfl, rfl, rfl, by decide +kernel, rfl, by decide +kernel, by decide +kernel⟩
theorem ok_agree {f : Addr} {fd : FuncData} (F : FD K "agree" "agree" sAgree f fd) (T : Txt K mg CR CT CK) (Z : Cal P w K mg base "padded" 1 ["side", "count"] spPadded) : FnOk P w K mg base CX0 2 f fd ["first", "second", "count"] spAgree := by
  obtain ⟨f1, fd1, g1, kp1, b1, G1⟩ := Z.ex
  refine FD.fok F scAgr (fun vs H Q E h => ?_) (fun A outer s H vs Q E hr h => ?_)
  · obtain ⟨a, b, s, u, n, rfl, _⟩ := h
    rfl
  · obtain ⟨a, b, s, u, n, rfl, ha, hb, hs, hu, hn, k⟩ := h
    refine ⟨_, pss_one (ps_ret (pe_cmpR (op_eqD hr.units) (pe_call G1 hr rfl g1 kp1 b1 .nil pass0 (pa_cons (pv 0) (pa_cons (pv 2) pa_nil))) (pe_call G1 hr rfl g1 kp1 b1 .nil pass0 (pa_cons (pv 1) (pa_cons (pv 2) pa_nil))) (nomark _))), ?_⟩
    refine ⟨_, rfl, _, rfl, a, s, n, rfl, ha, hs, hn, fun p H1 e1 h1 => ?_⟩
    refine ⟨_, rfl, _, rfl, b, u, n, rfl, e1.it hb, hu, hn, fun q H2 e2 h2 => ?_⟩
    refine ⟨_, _, dp_it (e2.it h1), dp_it h2, shaped_it _, shaped_it _, ?_⟩
    rw [eqv_tup, eqvAll_ints]
    exact k H2 (e1.trans e2)
end
end K75

set_option maxHeartbeats 8000000
/-! check_count, check_sought, moved, kinds_of -/
namespace K75
open PySem PySem.Spec PyProof.Rows L2
def spCount : Sp := fun vs H Q _ => ∃ n : Int, vs = [.int n] ∧ 0 ≤ n ∧ Q .non H
def spSought : Sp := fun vs H Q _ => ∃ n : Int, vs = [.int n] ∧ 0 ≤ n ∧ n ≤ 300 ∧ Q .non H
def spMoved : Sp := fun vs H Q _ => ∃ (a b : Addr) (s u : List Int) (w : Int), vs = [.ref a, .int w, .ref b] ∧ IT H a s ∧ IT H b u ∧ s.length ≤ 400 ∧ u.length ≤ 400 ∧
  ∀ p c d H', Ex H H' → H' p = some (.tup [.ref c, .int (mvd s w u).2.1, .ref d]) → IT H' c (mvd s w u).1 → IT H' d (mvd s w u).2.2 → Q (.ref p) H'
def kindOf (CR C : Addr) : Str := if C = CR then "growth" else "shift"
def spKinds (CR CT : Addr) : Sp := fun vs H Q _ => ∃ (m C dx : Addr) (fs : List (Str × V)), vs = [.ref m] ∧ H m = some (.ins C dx fs) ∧ (C = CR ∨ C = CT) ∧
  ∀ p H', Ex H H' → H p = none → H' p = some (.lst [.str "repeat", .str (kindOf CR C)]) → Q (.ref p) H'
section
variable {P : Program} {w : World} {K : PySem.W.Frag} {mg : Str → Option Value} {base : Heap} {CR CT CK : Addr}
theorem scCnt : FnScope ["count"] ["count"] (defScope sCheckCount) := ⟨rfl, rfl, rfl, by decide +kernel, rfl, by decide +kernel, by decide +kernel⟩
theorem ok_count {f : Addr} {fd : FuncData} (F : FD K "check_count" "check_count" sCheckCount f fd) : FnOk P w K mg base CX0 1 f fd ["count"] spCount := by
  refine FD.fok F scCnt (fun vs H Q E h => ?_) (fun A outer s H vs Q E hr h => ?_)
  · obtain ⟨n, rfl, _⟩ := h
    rfl
  · obtain ⟨n, rfl, hn, k⟩ := h
    refine ⟨_, pss_one (ps_if (pt_cmpR op_lt (pv 0) pe_int (nomark _)) pss_never pss_nil), ?_⟩
    refine ⟨_, rfl, _, _, rfl, rfl, _, rfl, ?_⟩
    rw [decide_eq_false (by omega)]
    exact iteF k
theorem scSou : FnScope ["limit"] ["limit"] (defScope sSought) := ⟨rfl, rfl, rfl, by decide +kernel, rfl, by decide +kernel, by decide +kernel⟩
theorem ok_sought {f : Addr} {fd : FuncData} (F : FD K "check_sought" "check_sought" sSought f fd) (T : Txt K mg CR CT CK) : FnOk P w K mg base CX0 1 f fd ["limit"] spSought := by
  refine FD.fok F scSou (fun vs H Q E h => ?_) (fun A outer s H vs Q E hr h => ?_)
  · obtain ⟨n, rfl, _⟩ := h
    rfl
  · obtain ⟨n, rfl, hn, hn2, k⟩ := h
    refine ⟨_, pss_one (ps_if (pt_not (pt_chain op_le op_le pe_int (pv 0) (C8.pe_gc rfl T.mSou))) pss_never pss_nil), ?_⟩
    refine ⟨_, rfl, _, _, rfl, rfl, _, rfl, ?_⟩
    rw [decide_eq_true hn]
    refine iteT ?_
    refine ⟨_, _, rfl, rfl, _, rfl, ?_⟩
    rw [decide_eq_true hn2]
    exact iteF k
theorem scMov : FnScope ["behind", "written", "ahead"] ["behind", "written", "ahead"] (defScope sMoved) := ⟨rfl, rfl, rfl, by decide +kernel, rfl, by decide +kernel, by decide +kernel⟩
theorem ok_moved {f : Addr} {fd : FuncData} (F : FD K "moved" "moved" sMoved f fd) (T : Txt K mg CR CT CK) : FnOk P w K mg base CX0 1 f fd ["behind", "written", "ahead"] spMoved := by
  refine FD.fok F scMov (fun vs H Q E h => ?_) (fun A outer s H vs Q E hr h => ?_)
  · obtain ⟨a, b, s, u, w, rfl, _⟩ := h
    rfl
  · obtain ⟨a, b, s, u, w, rfl, ha, hb, hs, hu, k⟩ := h
    refine ⟨_, C8.pss_cut (ps_if (PW.pt (pw_or (pt_cmpR op_ne (pv 1) (C8.pe_gc rfl T.blank) (nomark _)) (pw_or1 (pt_cmpR op_gt (pe_callB call_len_seq (by rfl) T.len PySem.boot_len (pa_cons (pv 0) pa_nil)) pe_int (nomark _)))))
        (pss_one (ps_set (i := 0) scMov.nd rfl (.inl rfl) (pe_op op_catB (pe_tup (pa_cons (pv 1) pa_nil)) (pv 0)))) pss_nil)
      (pss_cons (ps_if (pt_cmpR op_eq (pe_callB call_len_seq (by rfl) T.len PySem.boot_len (pa_cons (pv 2) pa_nil)) pe_int (nomark _)) (pss_one (ps_ret (pe_tup (pa_cons (pv 0) (pa_cons (C8.pe_gc rfl T.blank) (pa_cons (pv 2) pa_nil)))))) pss_nil)
      (pss_one (ps_ret (pe_tup (pa_cons (pv 0) (pa_cons (pe_ix ix_tup (pv 2) pe_int (fun _ _ => rfl)) (pa_cons (pe_slice sl_tupB (pv 2) (po_some pe_int) po_none) pa_nil))))))), ?_⟩
    refine ⟨fun σ H1 => ∃ c, σ = [some (.ref c), some (.int w), some (.ref b)] ∧ Ex H H1 ∧ IT H1 c (mvd s w u).1, ?_, ?_⟩
    · -- behind = (written,) + behind
      have grow : (w ≠ 0 ∨ s ≠ []) → ∀ p, H p = none → rCatB (.ref p) (.ref a) (upd H p (.tup [.int w])) fun v H2 => ∃ c, [some v, some (.int w), some (.ref b)] = [some (.ref c), some (.int w), some (.ref b)] ∧ Ex H H2 ∧ IT H2 c (mvd s w u).1 := by
        intro hw p hp
        have e1 : Ex H (upd H p (.tup [.int w])) := Ex.new hp
        refine ⟨p, a, _, _, rfl, rfl, upd_same, e1.tup ha, ?_, fun q H2 e2 h2 => ⟨q, rfl, e1.trans e2, ?_⟩⟩
        · rw [List.length_map]; show 1 + s.length ≤ 1000; omega
        · show H2 q = some (.tup ((if w ≠ 0 ∨ s ≠ [] then w :: s else s).map V.int))
          rw [if_pos hw]; exact h2
      refine ⟨_, rfl, rfl, _, rfl, ?_⟩
      by_cases hw : w = 0
      · have e : (!decide (V.int w = V.int 0)) = false := by rw [hw]; rfl
        rw [e]
        refine iteF ?_
        refine ⟨_, rfl, a, _, rfl, .inr (SqT.of ha), _, _, rfl, rfl, _, rfl, ?_⟩
        rw [List.length_map]
        by_cases hs0 : s = []
        · rw [hs0]
          refine iteF ⟨a, rfl, Ex.refl H, ?_⟩
          rw [hs0] at ha
          show H a = some (.tup ((if w ≠ 0 ∨ ([] : List Int) ≠ [] then w :: [] else []).map V.int))
          rw [if_neg (by rw [hw]; simp)]; exact ha
        · have : 0 < s.length := by
            cases s with
            | nil => exact absurd rfl hs0
            | cons x xs => simp
          rw [decide_eq_true (by omega)]
          exact iteT ⟨_, rfl, by show 1 ≤ sizeLine; decide, fun p hp => ⟨_, rfl, grow (.inr hs0) p hp⟩⟩
      · have e : (!decide (V.int w = V.int 0)) = true := by
          rw [decide_eq_false (fun z => hw (by cases z; rfl))]; rfl
        rw [e]
        exact iteT (iteT ⟨_, rfl, by show 1 ≤ sizeLine; decide, fun p hp => ⟨_, rfl, grow (.inl hw) p hp⟩⟩)
    · rintro σ H1 ⟨c, rfl, e1, h1⟩
      refine ⟨_, rfl, b, _, rfl, .inr (SqT.of (e1.it hb)), rfl, _, rfl, ?_⟩
      rw [List.length_map]
      cases u with
      | nil =>
        refine iteT ?_
        refine ⟨_, rfl, _, rfl, by show 3 ≤ sizeLine; decide, fun p hp => ?_⟩
        have e2 : ∀ o, Ex H1 (upd H1 p o) := fun o => Ex.new hp
        exact k p c b _ (e1.trans (e2 _)) upd_same ((e2 _).it h1) ((e2 _).it (e1.it hb))
      | cons x xs =>
        have e : decide (V.int (((x :: xs).length : Nat) : Int) = V.int 0) = false := decide_eq_false (fun z => by injection z with z; simp at z; omega)
        rw [e]
        refine iteF ?_
        refine ⟨_, rfl, _, rfl, b, _, _, _, rfl, rfl, SqT.of (e1.it hb), atI_nat (j := 0) rfl, ?_⟩
        refine ⟨_, rfl, _, rfl, b, _, rfl, e1.it hb, fun d H2 e2 h2 => ?_⟩
        refine ⟨by show 3 ≤ sizeLine; decide, fun p hp => ?_⟩
        have e3 : ∀ o, Ex H2 (upd H2 p o) := fun o => Ex.new hp
        have hd : cutV ((x :: xs).map V.int) (some 1) none = xs.map V.int := cutV_drop _ 1
        rw [hd] at h2
        exact k p c d _ (e1.trans (e2.trans (e3 _))) upd_same ((e3 _).it (e2.it h1)) ((e3 _).tup h2)
theorem scKin : FnScope ["machine"] ["machine"] (defScope sKinds) := ⟨rfl, rfl, rfl, by decide +kernel, rfl, by decide +kernel, by decide +kernel⟩
theorem tyR {H : Hp} {m dx : Addr} {fs : List (Str × V)} (T : Txt K mg CR CT CK) (h : H m = some (.ins CR dx fs)) : TyX K H (.ref m) (.ref CR) := .base (.ins h T.cR T.insR.1 T.insG.1 T.insG.2 T.insR.2)
theorem tyT {H : Hp} {m dx : Addr} {fs : List (Str × V)} (T : Txt K mg CR CT CK) (h : H m = some (.ins CT dx fs)) : TyX K H (.ref m) (.ref CT) := .base (.ins h T.cT T.insT.1 T.insG.1 T.insG.2 T.insT.2)
theorem ok_kinds {f : Addr} {fd : FuncData} (F : FD K "kinds_of" "kinds_of" sKinds f fd) (T : Txt K mg CR CT CK) : FnOk P w K mg base CX0 1 f fd ["machine"] (spKinds CR CT) := by
  refine FD.fok F scKin (fun vs H Q E h => ?_) (fun A outer s H vs Q E hr h => ?_)
  · obtain ⟨m, C, dx, fs, rfl, _⟩ := h
    rfl
  · obtain ⟨m, C, dx, fs, rfl, hm, hC, k⟩ := h
    have nRT : CT ≠ CR := fun z => by
      have h1 := T.kTR
      rw [z, T.kRR] at h1; cases h1
    refine ⟨_, pss_cons (ps_if (pt_val (pe_callB call_isi (by rfl) T.isi (by decide +kernel) (pa_cons (pv 0) (pa_cons (pe_glob (v := .ref CR) rfl T.gR rfl) pa_nil)))) (pss_one (ps_ret (pe_lst (pa_cons (C8.pe_gc rfl T.rep) (pa_cons (C8.pe_gc rfl T.gro) pa_nil))))) pss_nil)
      (pss_cons (ps_if (pt_val (pe_callB call_isi (by rfl) T.isi (by decide +kernel) (pa_cons (pv 0) (pa_cons (pe_glob (v := .ref CT) rfl T.gT rfl) pa_nil)))) (pss_one (ps_ret (pe_lst (pa_cons (C8.pe_gc rfl T.rep) (pa_cons (C8.pe_gc rfl T.shi) pa_nil))))) pss_nil)
      (pss_one (ps_ret (pe_lst (pa_cons (C8.pe_gc rfl T.rep) pa_nil))))), ?_⟩
    rcases hC with rfl | rfl
    · refine ⟨_, rfl, _, _, _, _, _, rfl, .own _, tyR T hm, T.kRR, _, rfl, iteT ?_⟩
      refine ⟨by show 2 ≤ sizeLine; decide, fun p hp => k p _ (Ex.new hp) hp ?_⟩
      unfold kindOf
      rw [if_pos rfl]; exact upd_same
    · refine ⟨_, rfl, _, _, _, _, _, rfl, .own _, tyT T hm, T.kTR, _, rfl, iteF ?_⟩
      refine ⟨_, rfl, _, _, _, _, _, rfl, .own _, tyT T hm, T.kTT, _, rfl, iteT ?_⟩
      refine ⟨by show 2 ≤ sizeLine; decide, fun p hp => k p _ (Ex.new hp) hp ?_⟩
      unfold kindOf
      rw [if_neg nRT]; exact upd_same
end
end K75

set_option maxHeartbeats 8000000
/-! the steps of the two kinds of machines -/
namespace K75
open PySem PySem.Spec PyProof.Rows L2
abbrev tk (s b : Int) : List Key := [Sum.inl s, Sum.inl b]
/-- the pairs kvs are the table tab -/
structure TabIs (H : Hp) (kvs : List (List Key × V)) (tab : Tab) : Prop where
  no : ∀ s b, tab s b = none → valV kvs (tk s b) = none
  yes : ∀ s b w m f, tab s b = some (w, m, f) → ∃ t, valV kvs (tk s b) = some (.ref t) ∧ H t = some (.tup [.int w, .int m, .int f])
/-- a Turing machine stands at m -/
structure TMach (CT : Addr) (H : Hp) (m : Addr) (tab : Tab) : Prop where
  ex : ∃ dx fs d kvs, H m = some (.ins CT dx fs) ∧ fs.lookup ("table" : Str) = some (.ref d) ∧ fs.lookup ("rule" : Str) = none ∧ fs.lookup ("step" : Str) = none ∧ H d = some (.dT kvs) ∧ TabIs H kvs tab
theorem TabIs.ex {H H' : Hp} {kvs : List (List Key × V)} {tab : Tab} (t : TabIs H kvs tab) (e : Ex H H') : TabIs H' kvs tab :=
  ⟨t.no, fun s b w m f h => let ⟨p, h1, h2⟩ := t.yes s b w m f h; ⟨p, h1, e.tup h2⟩⟩
theorem TMach.mono {CT : Addr} {H H' : Hp} {m : Addr} {tab : Tab} (t : TMach CT H m tab) (e : Ex H H') : TMach CT H' m tab := by
  obtain ⟨dx, fs, d, kvs, h1, h2, h3, h4, h5, h6⟩ := t.ex
  exact ⟨dx, fs, d, kvs, e.ins h1, h2, h3, h4, e.dT h5, h6.ex e⟩
/-- an instruction at a -/
def insV : Ins → List V
  | .fin => [.str "end"]
  | .inc r n => [.str "inc", .int r, .int n]
  | .dec r n o => [.str "dec", .int r, .int n, .int o]
def InsAt (H : Hp) (a : Addr) (x : Ins) : Prop := H a = some (.tup (insV x))
/-- a register program stands at m -/
structure RMach (CR : Addr) (H : Hp) (m : Addr) (p : List Ins) : Prop where
  ex : ∃ dx fs t as, H m = some (.ins CR dx fs) ∧ fs.lookup ("instructions" : Str) = some (.ref t) ∧ fs.lookup ("step" : Str) = none ∧ H t = some (.tup (as.map V.ref)) ∧ Each (InsAt H) as p
theorem RMach.mono {CR : Addr} {H H' : Hp} {m : Addr} {p : List Ins} (t : RMach CR H m p) (e : Ex H H') : RMach CR H' m p := by
  obtain ⟨dx, fs, d, as, h1, h2, h3, h4, h5⟩ := t.ex
  exact ⟨dx, fs, d, as, e.ins h1, h2, h3, e.tup h4, h5.mono fun a c q => e.tup q⟩
/-- a step's promise: M the machine, CF the configurations, Pre what a step asks -/
def spStep {α : Type} (M : Hp → Addr → Prop) (CF : Hp → Addr → α → Prop) (Pre : α → Prop) (step : α → Option α) : Sp := fun vs H Q _ => ∃ (m a : Addr) (c : α), vs = [.ref m, .ref a] ∧ M H m ∧ CF H a c ∧ Pre c ∧
  (step c = none → ∀ H', Ex H H' → Q .non H') ∧ ∀ c', step c = some c' → ∀ p H', Ex H H' → CF H' p c' → Q (.ref p) H'
def TPre (tab : Tab) (c : TC) : Prop := c.l.length ≤ 400 ∧ c.r.length ≤ 400 ∧ TabOk tab
def spRule (CT : Addr) : Sp := fun vs H Q _ => ∃ (m : Addr) (tab : Tab) (s b w mv f : Int), vs = [.ref m, .int s, .int b] ∧ TMach CT H m tab ∧ tab s b = some (w, mv, f) ∧ ∀ t H', Ex H H' → H' t = some (.tup [.int w, .int mv, .int f]) → Q (.ref t) H'
section
variable {P : Program} {w : World} {K : PySem.W.Frag} {mg : Str → Option Value} {base : Heap} {CR CT CK : Addr}
theorem scRul : FnScope ["self", "state", "symbol"] ["self", "state", "symbol"] (defScope sTRule) := ⟨rfl, rfl, rfl, by decide +kernel, rfl, by decide +kernel, by decide +kernel⟩
theorem ok_rule {f : Addr} {fd : FuncData} (F : FD K "rule" "Turing.rule" sTRule f fd) (T : Txt K mg CR CT CK) : FnOk P w K mg base CX0 1 f fd ["self", "state", "symbol"] (spRule CT) := by
  refine FD.fok F scRul (fun vs H Q E h => ?_) (fun A outer s H vs Q E hr h => ?_)
  · obtain ⟨m, tab, s, b, w, mv, f, rfl, _⟩ := h
    rfl
  · obtain ⟨m, tab, s, b, w, mv, f, rfl, hm, ht, k⟩ := h
    obtain ⟨dx, fs, d, kvs, h1, h2, h3, h4, h5, h6⟩ := hm.ex
    have hu := hu_of hr
    refine ⟨_, pss_one (ps_ret (pe_dget1 hu (pe_fld (pv 0) rfl) (pe_tup (pa_cons (pv 1) (pa_cons (pv 2) pa_nil))) ⟨rfl, rfl, rfl, rfl⟩)), ?_⟩
    refine ⟨_, rfl, m, CT, dx, _, _, rfl, h1, T.cT, T.tTable, h2, d, rfl, .inr ⟨kvs, .inl h5⟩, ?_⟩
    refine ⟨_, rfl, _, rfl, by show 2 ≤ sizeLine; decide, fun q hq => ?_⟩
    obtain ⟨t, g1, g2⟩ := h6.yes s b w mv f ht
    have e1 : ∀ o, Ex H (upd H q o) := fun o => Ex.new hq
    refine ⟨_, DGet.t (k := tk s b) ((e1 _).dT h5) upd_same, ?_⟩
    rw [g1]
    exact k t _ (e1 _) ((e1 _).tup g2)
theorem scTS : FnScope ["self", "configuration", "state", "left", "here", "right", "written", "move", "following"] ["self", "configuration"] (defScope sTStep) := ⟨rfl, rfl, rfl, by decide +kernel, rfl, by decide +kernel, by decide +kernel⟩
theorem ok_tstep {f : Addr} {fd : FuncData} {tab : Tab} (F : FD K "step" "Turing.step" sTStep f fd) (T : Txt K mg CR CT CK) (Z : Cal P w K mg base "moved" 1 ["behind", "written", "ahead"] spMoved) :
    FnOk P w K mg base CX0 2 f fd ["self", "configuration"] (spStep (fun H m => TMach CT H m tab) TCf (TPre tab) (tstep tab)) := by
  obtain ⟨f1, fd1, g1, kp1, b1, G1⟩ := Z.ex
  refine FD.fok F scTS (fun vs H Q E h => ?_) (fun A outer s H vs Q E hr h => ?_)
  · obtain ⟨m, a, c, rfl, _⟩ := h
    rfl
  · obtain ⟨m, a, c, rfl, hm, hc, ⟨hl, hrr, hok⟩, kN, kS⟩ := h
    obtain ⟨dx, fs, d, kvs, h1, h2, h3, h4, h5, h6⟩ := hm.ex
    obtain ⟨l, r, hc1, hc2, hc3⟩ := hc.ex
    have hu := hu_of hr
    refine ⟨_, pss_cons (ps_asg (pv 1) (pg_tup (by rfl) (pgs_cons (pg_name (i := 2) scTS.nd rfl (.inl rfl)) (pgs_cons (pg_name (i := 3) scTS.nd rfl (.inl rfl)) (pgs_cons (pg_name (i := 4) scTS.nd rfl (.inl rfl)) (pgs_cons (pg_name (i := 5) scTS.nd rfl (.inl rfl)) pgs_nil))))))
      (pss_cons (ps_if (pt_cmp (pc_dnotin hu (pe_tup (pa_cons (pv 2) (pa_cons (pv 4) pa_nil))) (pe_fld (pv 0) rfl))) (pss_one (ps_ret pe_non)) pss_nil)
      (pss_cons (ps_asg (pe_dget hu (pe_fld (pv 0) rfl) (pe_tup (pa_cons (pv 2) (pa_cons (pv 4) pa_nil))) (fun _ _ => rfl)) (pg_tup (by rfl) (pgs_cons (pg_name (i := 6) scTS.nd rfl (.inl rfl)) (pgs_cons (pg_name (i := 7) scTS.nd rfl (.inl rfl)) (pgs_cons (pg_name (i := 8) scTS.nd rfl (.inl rfl)) pgs_nil)))))
      (pss_cons (ps_if (pt_cmpR op_eq (pv 7) pe_int (nomark _)) (pss_one (ps_ret (pe_tup (pa_cons (pv 8) (pa_cons (pv 3) (pa_cons (pv 6) (pa_cons (pv 5) pa_nil))))))) pss_nil)
      (pss_cons (ps_if (pt_cmpR op_eq (pv 7) pe_int (nomark _)) (pss_one (ps_ret (pe_op op_catB (pe_tup (pa_cons (pv 8) pa_nil)) (pe_call G1 hr rfl g1 kp1 b1 .nil pass0 (pa_cons (pv 3) (pa_cons (pv 6) (pa_cons (pv 5) pa_nil))))))) pss_nil)
      (pss_cons (ps_asg (pe_call G1 hr rfl g1 kp1 b1 .nil pass0 (pa_cons (pv 5) (pa_cons (pv 6) (pa_cons (pv 3) pa_nil)))) (pg_tup (by rfl) (pgs_cons (pg_name (i := 5) scTS.nd rfl (.inl rfl)) (pgs_cons (pg_name (i := 4) scTS.nd rfl (.inl rfl)) (pgs_cons (pg_name (i := 3) scTS.nd rfl (.inl rfl)) pgs_nil)))))
      (pss_one (ps_ret (pe_tup (pa_cons (pv 8) (pa_cons (pv 3) (pa_cons (pv 4) (pa_cons (pv 5) pa_nil)))))))))))), ?_⟩
    refine ⟨_, rfl, a, _, rfl, SqT.of hc1, rfl, _, _, rfl, _, _, rfl, _, _, rfl, _, _, rfl, rfl, ?_⟩
    refine ⟨_, rfl, _, rfl, by show 2 ≤ sizeLine; decide, fun q hq => ?_⟩
    have e1 : ∀ o, Ex H (upd H q o) := fun o => Ex.new hq
    refine ⟨_, rfl, m, CT, dx, _, _, rfl, (e1 _).ins h1, T.cT, T.tTable, h2, ?_⟩
    refine ⟨d, _, rfl, DGet.t (k := tk c.q c.h) ((e1 _).dT h5) upd_same, _, rfl, ?_⟩
    cases e : tab c.q c.h with
    | none =>
      rw [h6.no _ _ e]
      refine iteT ?_
      refine kN ?_ _ (e1 _)
      unfold tstep
      rw [e]
    | some p =>
      obtain ⟨w, mv, f⟩ := p
      obtain ⟨t, gt, ht⟩ := h6.yes _ _ _ _ _ e
      rw [gt]
      refine iteF ?_
      refine ⟨_, rfl, m, CT, dx, _, _, rfl, (e1 _).ins h1, T.cT, T.tTable, h2, ?_⟩
      refine ⟨_, rfl, _, rfl, by show 2 ≤ sizeLine; decide, fun q2 hq2 => ?_⟩
      have e2 : ∀ o, Ex (upd H q (.tup [.int c.q, .int c.h])) (upd (upd H q (.tup [.int c.q, .int c.h])) q2 o) := fun o => Ex.new hq2
      have e3 : ∀ o, Ex H (upd (upd H q (.tup [.int c.q, .int c.h])) q2 o) := fun o => (e1 _).trans (e2 o)
      refine ⟨d, _, rfl, (show DGet _ d (.ref q2) (some (.ref t)) from gt ▸ DGet.t (k := tk c.q c.h) ((e3 _).dT h5) upd_same), ?_⟩
      refine ⟨t, _, rfl, SqT.of ((e3 _).tup ht), rfl, _, _, rfl, _, _, rfl, _, _, rfl, rfl, ?_⟩
      have hm3 := hok _ _ _ _ _ e
      refine ⟨_, rfl, rfl, _, rfl, ?_⟩
      by_cases z0 : mv = 0
      · subst z0
        refine iteT ?_
        refine ⟨_, rfl, _, rfl, _, rfl, _, rfl, by show 4 ≤ sizeLine; decide, fun p hp => ?_⟩
        have e4 : ∀ o, Ex H (upd (upd (upd H q (.tup [.int c.q, .int c.h])) q2 (.tup [.int c.q, .int c.h])) p o) := fun o => (e3 _).trans (Ex.new hp)
        refine kS ⟨f, c.l, w, c.r⟩ ?_ p _ (e4 _) ⟨l, r, upd_same, (e4 _).it hc2, (e4 _).it hc3⟩
        unfold tstep
        rw [e]
        rfl
      · rw [decide_eq_false (fun z => z0 (by injection z))]
        refine iteF ?_
        refine ⟨_, rfl, rfl, _, rfl, ?_⟩
        by_cases z1 : mv = 1
        · subst z1
          refine iteT ?_
          refine ⟨_, rfl, by show 1 ≤ sizeLine; decide, fun q3 hq3 => ?_⟩
          have e4 : ∀ o, Ex H (upd (upd (upd H q (.tup [.int c.q, .int c.h])) q2 (.tup [.int c.q, .int c.h])) q3 o) := fun o => (e3 _).trans (Ex.new hq3)
          refine ⟨_, rfl, _, rfl, _, rfl, l, r, c.l, c.r, w, rfl, (e4 _).it hc2, (e4 _).it hc3, hl, hrr, fun p x y H5 e5 h5' hx hy => ?_⟩
          refine ⟨q3, p, _, _, rfl, rfl, e5.tup upd_same, h5', (by show 1 + 3 ≤ 1000; decide), fun p2 H6 e6 h6' => ?_⟩
          refine kS ⟨f, (mvd c.l w c.r).1, (mvd c.l w c.r).2.1, (mvd c.l w c.r).2.2⟩ ?_ p2 H6 (((e4 _).trans e5).trans e6) ⟨x, y, h6', e6.it hx, e6.it hy⟩
          unfold tstep
          rw [e]
          rfl
        · rw [decide_eq_false (fun z => z1 (by injection z))]
          refine iteF ?_
          refine ⟨_, rfl, _, rfl, _, rfl, r, l, c.r, c.l, w, rfl, (e3 _).it hc3, (e3 _).it hc2, hrr, hl, fun p x y H5 e5 h5' hx hy => ?_⟩
          refine ⟨p, _, rfl, SqT.of h5', rfl, _, _, rfl, _, _, rfl, _, _, rfl, rfl, ?_⟩
          refine ⟨_, rfl, _, rfl, _, rfl, _, rfl, by show 4 ≤ sizeLine; decide, fun p2 hp2 => ?_⟩
          have e6 : ∀ o, Ex H5 (upd H5 p2 o) := fun o => Ex.new hp2
          refine kS ⟨f, (mvd c.r w c.l).2.2, (mvd c.r w c.l).2.1, (mvd c.r w c.l).1⟩ ?_ p2 _ (((e3 _).trans e5).trans (e6 _)) ⟨y, x, upd_same, (e6 _).it hy, (e6 _).it hx⟩
          unfold tstep
          rw [e]
          show (if mv = 0 then _ else if mv = 1 then _ else _) = _
          rw [if_neg z0, if_neg z1]
end
end K75

set_option maxHeartbeats 8000000
/-! Registers.step -/
namespace K75
open PySem PySem.Spec PyProof.Rows L2
structure RPre (k : Nat) (p : List Ins) (c : RC) : Prop where
  g : RGood k p c
  ok : ProgOk k p
  le : k ≤ 100
theorem set_cut (l : List Int) (r : Nat) (x : Int) (h : r < l.length) : l.take r ++ [x] ++ l.drop (r + 1) = l.set r x := by
  induction l generalizing r with
  | nil => simp at h
  | cons a l ih =>
    cases r with
    | zero => rfl
    | succ r =>
      have := ih r (by simp at h; omega)
      show a :: (l.take r ++ [x] ++ l.drop (r + 1)) = a :: l.set r x
      rw [this]
theorem nat_of {z : Int} (h : 0 ≤ z) : ∃ n : Nat, z = (n : Int) := ⟨z.toNat, by omega⟩
section
variable {P : Program} {w : World} {K : PySem.W.Frag} {mg : Str → Option Value} {base : Heap} {CR CT CK : Addr}
theorem scRS : FnScope ["self", "configuration", "place", "values", "instruction", "cell"] ["self", "configuration"] (defScope sRStep) := ⟨rfl, rfl, rfl, by decide +kernel, rfl, by decide +kernel, by decide +kernel⟩
theorem ok_rstep {f : Addr} {fd : FuncData} {n : Nat} {p : List Ins} (F : FD K "step" "Registers.step" sRStep f fd) (T : Txt K mg CR CT CK) :
    FnOk P w K mg base CX0 2 f fd ["self", "configuration"] (spStep (fun H m => RMach CR H m p) RCf (RPre n p) (rstep p)) := by
  refine FD.fok F scRS (fun vs H Q E h => ?_) (fun A outer s H vs Q E hr h => ?_)
  · obtain ⟨m, a, c, rfl, _⟩ := h
    rfl
  · obtain ⟨m, a, c, rfl, hm, hc, ⟨hg, hok, hle⟩, kN, kS⟩ := h
    obtain ⟨dx, fs, t, as, h1, h2, h3, h4, h5⟩ := hm.ex
    obtain ⟨v, hc1, hc2⟩ := hc.ex
    refine ⟨_, pss_cons (ps_asg (pv 1) (pg_tup (by rfl) (pgs_cons (pg_name (i := 2) scRS.nd rfl (.inl rfl)) (pgs_cons (pg_name (i := 3) scRS.nd rfl (.inl rfl)) pgs_nil)))) <|
      pss_cons (ps_set (i := 4) scRS.nd rfl (.inl rfl) (pe_ix ix_tup (pe_fld (pv 0) rfl) (pv 2) (fun _ _ => rfl))) <|
      pss_cons (ps_if (pt_cmpR op_eq (pe_ix ix_tup (pv 4) pe_int (fun _ _ => rfl)) pe_str (nomark _)) (pss_one (ps_ret pe_non)) pss_nil) <|
      pss_cons (ps_set (i := 5) scRS.nd rfl (.inl rfl) (pe_ix ix_tup (pv 4) pe_int (fun _ _ => rfl))) <|
      pss_cons (ps_if (pt_cmpR op_eq (pe_ix ix_tup (pv 4) pe_int (fun _ _ => rfl)) pe_str (nomark _))
        (pss_one (ps_ret (pe_tup (pa_cons (pe_ix ix_tup (pv 4) pe_int (fun _ _ => rfl)) (pa_cons (pe_op op_catB (pe_op op_catB (pe_slice sl_tupB (pv 3) po_none (po_some (pv 5)))
          (pe_tup (pa_cons (pe_op op_add (pe_ix ix_tup (pv 3) (pv 5) (fun _ _ => rfl)) pe_int) pa_nil))) (pe_slice sl_tupB (pv 3) (po_some (pe_op op_add (pv 5) pe_int)) po_none)) pa_nil))))) pss_nil) <|
      pss_cons (ps_if (pt_cmpR op_eq (pe_ix ix_tup (pv 3) (pv 5) (fun _ _ => rfl)) pe_int (nomark _)) (pss_one (ps_ret (pe_tup (pa_cons (pe_ix ix_tup (pv 4) pe_int (fun _ _ => rfl)) (pa_cons (pv 3) pa_nil))))) pss_nil) <|
      pss_one (ps_ret (pe_tup (pa_cons (pe_ix ix_tup (pv 4) pe_int (fun _ _ => rfl)) (pa_cons (pe_op op_catB (pe_op op_catB (pe_slice sl_tupB (pv 3) po_none (po_some (pv 5)))
          (pe_tup (pa_cons (pe_op op_sub (pe_ix ix_tup (pv 3) (pv 5) (fun _ _ => rfl)) pe_int) pa_nil))) (pe_slice sl_tupB (pv 3) (po_some (pe_op op_add (pv 5) pe_int)) po_none)) pa_nil)))), ?_⟩
    refine ⟨_, rfl, a, _, rfl, SqT.of hc1, rfl, _, _, rfl, _, _, rfl, rfl, ?_⟩
    obtain ⟨pl, ep⟩ := nat_of hg.lo
    have hpl : pl < p.length := by have := hg.hi; omega
    have hx : p[pl]? = some p[pl] := List.getElem?_eq_getElem hpl
    obtain ⟨ia, hia, hI⟩ := h5.get hx
    refine ⟨_, rfl, m, CR, dx, _, _, rfl, h1, T.cR, T.rIns, h2, _, rfl, t, _, _, _, rfl, rfl, SqT.of h4, (by rw [ep]; exact atI_nat (refs_at hia)), ?_⟩
    have stp : rstep p c = (match p[pl] with
      | .fin => none
      | .inc r n => some (n, c.2.set r.toNat (rv c r + 1))
      | .dec r n o => if rv c r = 0 then some (o, c.2) else some (n, c.2.set r.toNat (rv c r - 1))) := by
      unfold rstep
      rw [ep, Int.toNat_natCast, hx]
      cases p[pl] <;> rfl
    have io : InsOk n p.length p[pl] := hok _ (List.getElem_mem hpl)
    cases e : p[pl] with
    | fin =>
      rw [e] at hI stp
      refine ⟨_, rfl, ia, _, _, _, rfl, rfl, SqT.of hI, atI_nat (j := 0) rfl, rfl, _, rfl, iteT ?_⟩
      exact kN stp H (Ex.refl H)
    | inc r nx =>
      rw [e] at hI stp io
      obtain ⟨⟨r0, r1⟩, _⟩ := io
      obtain ⟨rr, er⟩ := nat_of r0
      subst er
      have hrl : rr < c.2.length := by rw [hg.len]; omega
      refine ⟨_, rfl, ia, _, _, _, rfl, rfl, SqT.of hI, atI_nat (j := 0) rfl, rfl, _, rfl, iteF ?_⟩
      refine ⟨_, rfl, ia, _, _, _, rfl, rfl, SqT.of hI, atI_nat (j := 1) rfl, ?_⟩
      refine ⟨_, rfl, ia, _, _, _, rfl, rfl, SqT.of hI, atI_nat (j := 0) rfl, rfl, _, rfl, iteT ?_⟩
      refine ⟨_, rfl, ia, _, _, _, rfl, rfl, SqT.of hI, atI_nat (j := 2) rfl, ?_⟩
      refine ⟨_, rfl, _, rfl, _, rfl, v, _, rfl, hc2, fun q1 H1 e1 k1 => ?_⟩
      refine ⟨_, rfl, _, rfl, v, _, _, _, rfl, rfl, SqT.of (e1.it hc2), atI_nat (ints_at (getD_at hrl)), _, _, rfl, rfl, (by show 1 ≤ sizeLine; decide), fun q2 n2 => ?_⟩
      have e2 : ∀ o, Ex H1 (upd H1 q2 o) := fun o => Ex.new n2
      rw [cutV_take, ← List.map_take] at k1
      refine ⟨q1, q2, _, _, rfl, rfl, (e2 _).tup k1, upd_same, ?_, fun q3 H3 e3 k3 => ?_⟩
      · rw [List.length_map, List.length_take]; show min rr c.2.length + 1 ≤ 1000; have := hg.len; omega
      refine ⟨_, rfl, _, rfl, _, _, rfl, rfl, _, rfl, v, _, rfl, e3.it ((e2 _).it (e1.it hc2)), fun q4 H4 e4 k4 => ?_⟩
      have c4 : cutV (c.2.map V.int) (some ((rr : Int) + 1)) none = (c.2.drop (rr + 1)).map V.int := by
        rw [List.map_drop]; exact cutV_drop _ (rr + 1)
      rw [c4] at k4
      refine ⟨q3, q4, _, _, rfl, rfl, e4.tup k3, k4, ?_, fun q5 H5 e5 k5 => ?_⟩
      · rw [List.length_append, List.length_map, List.length_map, List.length_take, List.length_drop]; show min rr c.2.length + 1 + (c.2.length - (rr + 1)) ≤ 1000; have := hg.len; omega
      refine ⟨by show 2 ≤ sizeLine; decide, fun q6 n6 => ?_⟩
      have e6 : ∀ o, Ex H5 (upd H5 q6 o) := fun o => Ex.new n6
      refine kS _ stp q6 _ (e1.trans ((e2 _).trans (e3.trans (e4.trans (e5.trans (e6 _)))))) ⟨q5, upd_same, (e6 _).it ?_⟩
      show H5 q5 = some (HO.tup ((c.2.set (rr : Int).toNat (rv c rr + 1)).map V.int))
      rw [k5, Int.toNat_natCast, ← set_cut _ _ _ hrl, List.map_append, List.map_append]
      show some (HO.tup _) = some (HO.tup _)
      unfold rv
      rw [Int.toNat_natCast]
      rfl
    | dec r nx ot =>
      rw [e] at hI stp io
      obtain ⟨⟨r0, r1⟩, _⟩ := io
      obtain ⟨rr, er⟩ := nat_of r0
      subst er
      have hrl : rr < c.2.length := by rw [hg.len]; omega
      refine ⟨_, rfl, ia, _, _, _, rfl, rfl, SqT.of hI, atI_nat (j := 0) rfl, rfl, _, rfl, iteF ?_⟩
      refine ⟨_, rfl, ia, _, _, _, rfl, rfl, SqT.of hI, atI_nat (j := 1) rfl, ?_⟩
      refine ⟨_, rfl, ia, _, _, _, rfl, rfl, SqT.of hI, atI_nat (j := 0) rfl, rfl, _, rfl, iteF ?_⟩
      refine ⟨_, rfl, _, rfl, v, _, _, _, rfl, rfl, SqT.of hc2, atI_nat (ints_at (getD_at hrl)), rfl, _, rfl, ?_⟩
      have erv : rv c rr = c.2.getD rr 0 := by unfold rv; rw [Int.toNat_natCast]
      have stp2 : rstep p c = (if rv c (rr : Int) = 0 then some (ot, c.2) else some (nx, c.2.set (rr : Int).toNat (rv c (rr : Int) - 1))) := stp
      by_cases z : c.2.getD rr 0 = 0
      · rw [if_pos (by rw [erv]; exact z)] at stp2
        rw [z]
        refine iteT ?_
        refine ⟨_, rfl, ia, _, _, _, rfl, rfl, SqT.of hI, atI_nat (j := 3) rfl, _, rfl, (by show 2 ≤ sizeLine; decide), fun q6 n6 => ?_⟩
        have e6 : ∀ o, Ex H (upd H q6 o) := fun o => Ex.new n6
        exact kS _ stp2 q6 _ (e6 _) ⟨v, upd_same, (e6 _).it hc2⟩
      · rw [if_neg (by rw [erv]; exact z)] at stp2
        rw [decide_eq_false (fun y => z (by injection y))]
        refine iteF ?_
        refine ⟨_, rfl, ia, _, _, _, rfl, rfl, SqT.of hI, atI_nat (j := 2) rfl, ?_⟩
        refine ⟨_, rfl, _, rfl, _, rfl, v, _, rfl, hc2, fun q1 H1 e1 k1 => ?_⟩
        refine ⟨_, rfl, _, rfl, v, _, _, _, rfl, rfl, SqT.of (e1.it hc2), atI_nat (ints_at (getD_at hrl)), _, _, rfl, rfl, (by show 1 ≤ sizeLine; decide), fun q2 n2 => ?_⟩
        have e2 : ∀ o, Ex H1 (upd H1 q2 o) := fun o => Ex.new n2
        rw [cutV_take, ← List.map_take] at k1
        refine ⟨q1, q2, _, _, rfl, rfl, (e2 _).tup k1, upd_same, ?_, fun q3 H3 e3 k3 => ?_⟩
        · rw [List.length_map, List.length_take]; show min rr c.2.length + 1 ≤ 1000; have := hg.len; omega
        refine ⟨_, rfl, _, rfl, _, _, rfl, rfl, _, rfl, v, _, rfl, e3.it ((e2 _).it (e1.it hc2)), fun q4 H4 e4 k4 => ?_⟩
        have c4 : cutV (c.2.map V.int) (some ((rr : Int) + 1)) none = (c.2.drop (rr + 1)).map V.int := by
          rw [List.map_drop]; exact cutV_drop _ (rr + 1)
        rw [c4] at k4
        refine ⟨q3, q4, _, _, rfl, rfl, e4.tup k3, k4, ?_, fun q5 H5 e5 k5 => ?_⟩
        · rw [List.length_append, List.length_map, List.length_map, List.length_take, List.length_drop]; show min rr c.2.length + 1 + (c.2.length - (rr + 1)) ≤ 1000; have := hg.len; omega
        refine ⟨by show 2 ≤ sizeLine; decide, fun q6 n6 => ?_⟩
        have e6 : ∀ o, Ex H5 (upd H5 q6 o) := fun o => Ex.new n6
        refine kS _ stp2 q6 _ (e1.trans ((e2 _).trans (e3.trans (e4.trans (e5.trans (e6 _)))))) ⟨q5, upd_same, (e6 _).it ?_⟩
        show H5 q5 = some (HO.tup ((c.2.set (rr : Int).toNat (rv c rr - 1)).map V.int))
        rw [k5, Int.toNat_natCast, ← set_cut _ _ _ hrl, List.map_append, List.map_append]
        show some (HO.tup _) = some (HO.tup _)
        rw [erv]
        rfl
end
end K75

set_option maxHeartbeats 8000000
/-! history, for any kind of machine -/
namespace K75
open PySem PySem.Spec PyProof.Rows L2
theorem atI_m1 {α : Type} {xs : List α} {k : Nat} {v : α} (hl : xs.length = k + 1) (h : xs[k]? = some v) : atI xs (-1) = some v := by
  unfold atI ixN
  rw [if_neg (by decide), if_pos (by omega), hl]
  have e : ((-1 : Int) + ((k + 1 : Nat) : Int)).toNat = k := by omega
  rw [e]
  exact h
/-- the tuples stand -/
def Tk (H H' : Hp) : Prop := ∀ b xs, H b = some (.tup xs) → H' b = some (.tup xs)
theorem Ex.tk {H H' : Hp} (e : Ex H H') : Tk H H' := fun b xs h => e.tup h
theorem Tk.refl (H : Hp) : Tk H H := fun _ _ h => h
theorem Tk.trans {H1 H2 H3 : Hp} (a : Tk H1 H2) (b : Tk H2 H3) : Tk H1 H3 := fun c xs h => b c xs (a c xs h)
theorem Tk.putL {H : Hp} {p : Addr} {xs ys : List V} (h : H p = some (.lst xs)) : Tk H (upd H p (.lst ys)) := fun b zs e => by
  rw [upd_ne (ne_of e h (fun z => by cases z))]; exact e
theorem Tk.putI {H : Hp} {p C dx : Addr} {fs : List (Str × V)} {o : HO} (h : H p = some (.ins C dx fs)) : Tk H (upd H p o) := fun b zs e => by
  rw [upd_ne (ne_of e h (fun z => by cases z))]; exact e
theorem Tk.putD {H : Hp} {p : Addr} {kvs : List (List Key × V)} {o : HO} (h : H p = some (.dT kvs)) : Tk H (upd H p o) := fun b zs e => by
  rw [upd_ne (ne_of e h (fun z => by cases z))]; exact e
theorem Tk.new {H : Hp} {p : Addr} {o : HO} (h : H p = none) : Tk H (upd H p o) := fun b zs e => by rw [upd_ne (ne_of_none e h)]; exact e
theorem Tk.it {H H' : Hp} {a : Addr} {ns : List Int} (e : Tk H H') (h : IT H a ns) : IT H' a ns := e _ _ h
theorem Tk.tcf {H H' : Hp} {a : Addr} {c : TC} (e : Tk H H') (h : TCf H a c) : TCf H' a c := by
  obtain ⟨l, r, h1, h2, h3⟩ := h.ex
  exact ⟨l, r, e _ _ h1, e _ _ h2, e _ _ h3⟩
theorem Tk.rcf {H H' : Hp} {a : Addr} {c : RC} (e : Tk H H') (h : RCf H a c) : RCf H' a c := by
  obtain ⟨v, h1, h2⟩ := h.ex
  exact ⟨v, e _ _ h1, e _ _ h2⟩
/-- a kind of machine -/
structure Kd {α : Type} (P : Program) (w : World) (K : PySem.W.Frag) (mg : Str → Option Value) (base : Heap) (C : Addr) (M : Hp → Addr → Prop) (CF : Hp → Addr → α → Prop) (Pre : α → Prop) (step : α → Option α) : Prop where
  cls : Cls K C
  st : CalM P w K mg base C "step" 2 ["self", "configuration"] (spStep M CF Pre step)
  at_ : ∀ H m, M H m → ∃ dx fs, H m = some (.ins C dx fs) ∧ fs.lookup ("step" : Str) = none
  mM : ∀ H H' m, Ex H H' → M H m → M H' m
  mC : ∀ H H' a c, Tk H H' → CF H a c → CF H' a c
def spHist {α : Type} (M : Hp → Addr → Prop) (CF : Hp → Addr → α → Prop) (Pre : α → Prop) (step : α → Option α) : Sp := fun vs H Q _ => ∃ (m a : Addr) (n : Nat) (c : α), vs = [.ref m, .ref a, .int n] ∧ n ≤ 200 ∧ M H m ∧ CF H a c ∧
  (∀ i x, i ≤ n → orb step c i = some x → Pre x) ∧ ∀ p as cs H', Ex H H' → H p = none → H' p = some (.lst (as.map V.ref)) → Each (CF H') as cs → IsRun step c n cs → Q (.ref p) H'
section
variable {P : Program} {w : World} {K : PySem.W.Frag} {mg : Str → Option Value} {base : Heap} {CR CT CK : Addr} {α : Type} {C : Addr} {M : Hp → Addr → Prop} {CF : Hp → Addr → α → Prop} {Pre : α → Prop} {step : α → Option α}
theorem scHis : FnScope ["machine", "configuration", "count", "found", "_", "following"] ["machine", "configuration", "count"] (defScope sHistory) := ⟨rfl, rfl, rfl, by decide +kernel, rfl, by decide +kernel, by decide +kernel⟩
theorem ok_history {f : Addr} {fd : FuncData} (F : FD K "history" "history" sHistory f fd) (T : Txt K mg CR CT CK) (Z : Cal P w K mg base "check_count" 1 ["count"] spCount) (D : Kd P w K mg base C M CF Pre step) :
    FnOk P w K mg base CX0 3 f fd ["machine", "configuration", "count"] (spHist M CF Pre step) := by
  obtain ⟨f1, fd1, g1, kp1, b1, G1⟩ := Z.ex
  obtain ⟨f2, fd2, m2, b2, G2⟩ := D.st.ex
  refine FD.fok F scHis (fun vs H Q E h => ?_) (fun A outer s H vs Q E hr h => ?_)
  · obtain ⟨m, a, n, c, rfl, _⟩ := h
    rfl
  · obtain ⟨m, a, n, c, rfl, hn, hm, hc, hpre, k⟩ := h
    refine ⟨_, pss_cons (ps_expr (pe_call G1 (hr.mono (by decide)) rfl g1 kp1 b1 .nil pass0 (pa_cons (pv 2) pa_nil))) <|
      pss_cons (ps_set (i := 3) scHis.nd rfl (.inl rfl) (pe_lst (pa_cons (pv 1) pa_nil))) <|
      pss_cons (ps_for PassesOwn.never rfl (pi_range1 rfl T.rng (pa_cons (pv 2) pa_nil)) (pg_name (i := 4) scHis.nd rfl (Or.inl rfl))
        (pss_cons (ps_set (i := 5) scHis.nd rfl (.inl rfl) (pe_meth (pv 0) D.cls m2 G2 hr b2 .nil pass0 (pa_cons (pe_ix ix_list (pv 3) (pe_un un_neg pe_int) (fun _ _ => rfl)) pa_nil))) <|
        pss_cons (ps_if (pt_cmpR op_isN (pv 5) pe_non (nomark _)) (pss_one (ps_ret (pv 3))) pss_nil) <|
        pss_one (ps_expr (pe_bm PySem.F.plainAttrs_list PySem.F.slot_list_append PySem.F.type_list_append mt_append (pv 3) (pa_cons (pv 5) pa_nil))))) <|
      pss_one (ps_ret (pv 3)), ?_⟩
    refine ⟨_, rfl, n, rfl, by omega, ?_⟩
    refine ⟨_, rfl, by show 1 ≤ sizeLine; decide, fun p hp => ?_⟩
    have e1 : ∀ o, Ex H (upd H p o) := fun o => Ex.new hp
    refine ⟨_, rfl, n, rfl, by omega, by omega, ?_⟩
    refine for_range (lo := 0) (n := (n : Int).toNat) (fun i σ H' => ∃ as cs v4 v5, σ = [some (.ref m), some (.ref a), some (.int n), some (.ref p), v4, v5] ∧ Ex H H' ∧ H' p = some (.lst (as.map V.ref)) ∧ Each (CF H') as cs ∧ Part step c i cs)
      ⟨[a], [c], none, none, rfl, e1 _, upd_same, ⟨rfl, fun i b d h1 h2 => ?_⟩, Part.one step c⟩ ?_ ?_
    · cases i with
      | zero => cases h1; cases h2; exact D.mC _ _ _ _ (e1 _).tk hc
      | succ i => simp at h1
    · rintro i σ H1 hi ⟨as, cs, v4, v5, rfl, x1, hp1, he, hP⟩
      rw [Int.toNat_natCast] at hi
      obtain ⟨x, hx, ox⟩ := hP.last
      obtain ⟨b, hb, cb⟩ := he.get hx
      obtain ⟨dx, fs, hm1, hs⟩ := D.at_ _ _ (D.mM _ _ _ x1 hm)
      have hlen : (as.map V.ref).length = i + 1 := by rw [List.length_map, he.len, hP.len]
      refine ⟨_, rfl, m, dx, fs, rfl, hm1, hs, _, rfl, _, rfl, p, _, _, _, rfl, rfl, SqL.of hp1, atI_m1 hlen (refs_at hb), ?_⟩
      refine ⟨m, b, x, rfl, D.mM _ _ _ x1 hm, cb, hpre i x (by omega) ox, fun hno H2 e2 => ?_, fun y hy q H2 e2 hq => ?_⟩
      · refine ⟨_, rfl, rfl, _, rfl, iteT ?_⟩
        refine ⟨_, rfl, ?_⟩
        exact k p as cs H2 (x1.trans e2) hp (e2.lst hp1) (he.mono fun _ _ z => D.mC _ _ _ _ e2.tk z) (hP.run (by omega) fun _ => by rw [orb_succ ox, hno])
      · refine ⟨_, rfl, rfl, _, rfl, iteF ?_⟩
        refine ⟨_, rfl, .inl ⟨rfl, _, SqL.of (e2.lst hp1)⟩, _, rfl, p, _, _, rfl, rfl, e2.lst hp1, Nat.lt_of_le_of_lt (Nat.le_of_eq hlen) (Nat.lt_of_le_of_lt (by omega : i + 1 ≤ 1000) (by decide)), ?_⟩
        have hpn : ∀ o, Ex H (upd H2 p o) := fun o => (x1.trans e2).put hp
        have keepC : ∀ d z, CF H2 d z → CF (upd H2 p (.lst (as.map V.ref ++ [.ref q]))) d z := fun d z => D.mC _ _ _ _ (Tk.putL (e2.lst hp1))
        refine ⟨as ++ [q], cs ++ [y], _, _, rfl, hpn _, ?_, ?_, hP.next ox hy⟩
        · rw [upd_same, List.map_append]; rfl
        · exact (he.mono fun _ _ z => keepC _ _ (D.mC _ _ _ _ e2.tk z)).snoc (keepC _ _ hq)
    · rintro σ H1 ⟨as, cs, v4, v5, rfl, x1, hp1, he, hP⟩
      rw [Int.toNat_natCast] at hP
      refine ⟨_, rfl, ?_⟩
      exact k p as cs H1 x1 hp hp1 he (hP.run (Nat.le_refl _) fun z => absurd z (Nat.lt_irrefl _))
end
end K75

set_option maxHeartbeats 8000000
/-! any(test for x, y in zip(two tuples of ints)) -/
namespace K75
open PySem PySem.Spec PyProof.Rows L2
section
variable {prog : Program} {w : World} {A : Around}
theorem walksT_zipT (hh : A.handled = none) (z TI TO i1 i2 l1 l2 : Addr) (D : ZipApart z TI TO i1 i2 l1 l2) (xs ys : Array Value) :
    WalksT prog w A z [z, TI, TO, i1, i2, l1, l2] [z, TO, i1, i2] (min xs.size ys.size)
      (fun i vals => ∃ x y, xs[i]? = some x ∧ ys[i]? = some y ∧ vals = #[x, y])
      (fun i h => IsZip h z TI TO .none ∧ IsPair h TI (.ref i1) (.ref i2) ∧ (∃ a b, IsPair h TO a b) ∧ h.IsTupleIter i1 l1 i ∧ h.IsTupleIter i2 l2 i ∧ h.IsTuple l1 xs ∧ h.IsTuple l2 ys)
      (fun i T h => IsZip h z TI TO (rawInt T) ∧ IsPair h TI (.ref i1) (.ref i2) ∧ (∃ a b, IsPair h TO a b) ∧ h.IsTupleIter i1 l1 (i + 1) ∧ h.IsTupleIter i2 l2 (i + 1) ∧ h.IsTuple l1 xs ∧ h.IsTuple l2 ys ∧
        T ≠ z ∧ T ≠ TO ∧ T ≠ i1 ∧ T ≠ i2) where
  sub := fun c hc => by simp at hc ⊢; rcases hc with rfl | rfl | rfl | rfl <;> simp
  frame := fun i h h' hst hk => by
    obtain ⟨hz, hTI, ⟨a, b, hTO⟩, h1, h2, hl1, hl2⟩ := hst
    exact ⟨hk z (by simp) _ hz, hk TI (by simp) _ hTI, ⟨a, b, hk TO (by simp) _ hTO⟩, h1.at fun o e => hk i1 (by simp) o e, h2.at fun o e => hk i2 (by simp) o e,
      hl1.at fun o e => hk l1 (by simp) o e, hl2.at fun o e => hk l2 (by simp) o e⟩
  item := fun i s Q E hi hst hQ => by
    obtain ⟨hz, hTI, ⟨a, b, hTO⟩, h1, h2, hl1, hl2⟩ := hst
    have hix : i < xs.size := Nat.lt_of_lt_of_le hi (Nat.min_le_left ..)
    have hiy : i < ys.size := Nat.lt_of_lt_of_le hi (Nat.min_le_right ..)
    refine RZ.pyNext_zipT_item D hz hTI hTO h1 h2 hl1 hl2 (Array.getElem?_eq_getElem hix) (Array.getElem?_eq_getElem hiy) fun h' a1 a2 a3 a4 a5 a6 hk => ?_
    have lt : ∀ {c o}, s.heap.get? c = some o → s.heap.objs.size ≠ c := fun e => Nat.ne_of_gt (Heap.lt_size e)
    exact hQ s.heap.objs.size #[xs[i], ys[i]] h' s.toks ⟨_, _, Array.getElem?_eq_getElem hix, Array.getElem?_eq_getElem hiy, rfl⟩ (Nat.le_refl _) ⟨_, a5, rfl, _, rfl⟩
      ⟨a1, hk _ _ D.TIz D.TITO D.TIi1 D.TIi2 hTI, ⟨_, _, a2⟩, a3, a4, hl1.at fun o e => hk _ o D.l1z D.l1TO D.l1i1 D.l1i2 e, hl2.at fun o e => hk _ o D.l2z D.l2TO D.l2i1 D.l2i2 e,
        lt hz, lt hTO, (by obtain ⟨_, e, _⟩ := h1; exact lt e), (by obtain ⟨_, e, _⟩ := h2; exact lt e)⟩
      fun c o hc e => hk c o (fun x => hc (by simp [x])) (fun x => hc (by simp [x])) (fun x => hc (by simp [x])) (fun x => hc (by simp [x])) e
  go := fun elts k pos i T s Q E hm hQ => by
    obtain ⟨hz, hTI, ⟨a, b, hTO⟩, h1, h2, hl1, hl2, _⟩ := hm
    refine wpAny_letOwnedTupleGo_zip hz fun h' hz' hs' => hQ h' ⟨hz', hs'.extBut _ _ D.TIz hTI, ⟨a, b, hs'.extBut _ _ D.TOz hTO⟩, h1.extBut hs'.extBut D.i1z, h2.extBut hs'.extBut D.i2z,
      hl1.extBut hs'.extBut D.l1z, hl2.extBut hs'.extBut D.l2z⟩ fun c o hc e => hs'.extBut _ _ (fun x => hc (by simp [x])) e
  apart := fun i T h hm hT => by
    obtain ⟨_, _, _, _, _, _, _, t1, t2, t3, t4⟩ := hm
    simp at hT
    rcases hT with rfl | rfl | rfl | rfl
    · exact t1 rfl
    · exact t2 rfl
    · exact t3 rfl
    · exact t4 rfl
  done := fun s Q E hst hQ => by
    obtain ⟨hz, hTI, ⟨a, b, hTO⟩, h1, h2, hl1, hl2⟩ := hst
    have hend : xs[min xs.size ys.size]? = none ∨ ys[min xs.size ys.size]? = none := by
      rcases Nat.le_total xs.size ys.size with h | h
      · exact .inl (by rw [Nat.min_eq_left h]; exact Array.getElem?_eq_none (Nat.le_refl _))
      · exact .inr (by rw [Nat.min_eq_right h]; exact Array.getElem?_eq_none (Nat.le_refl _))
    exact RZ.pyNext_zipT_end hh D hz hTI hTO h1 h2 hl1 hl2 hend fun h' hk => hQ h' s.toks fun c o hc e =>
      hk c o (fun x => hc (by simp [x])) (fun x => hc (by simp [x])) (fun x => hc (by simp [x])) (fun x => hc (by simp [x])) e
  self := fun i s Q E hst hQ => wpAny_pyIter_zip hst.1 hQ
end
theorem adLt {N M k : Nat} (h : N + 5 ≤ M) (hk : k < 5) : N + k < M := by omega
theorem adLt0 {N M : Nat} (h : N + 5 ≤ M) : N < M := by omega
theorem adLt2 {N M d : Nat} (h : N + 5 ≤ M) (hd : d < N) : d < M := by omega
theorem adNo {N d k : Nat} (h : d < N) (e : d = N + k) : False := by omega
theorem adNo0 {N d : Nat} (h : d < N) (e : d = N) : False := by omega
theorem adNo3 {N M d : Nat} (h : d < N) (hM : N + 5 ≤ M) (e : d = M) : False := by omega
/-- the generator expression's own scope: two names -/
structure GenS2 (env : Env) (scope : Scope) (xa xb : Str) : Prop where
  kind : scope.kind = .function
  co : scope.isCoroutine = false
  cell : ∀ y ∈ scope.names, y.2 ≠ .cell
  dot : scope.names.lookup (".0" : Str) = some NameKind.local
  la : scope.names.lookup xa = some .local
  lb : scope.names.lookup xb = some .local
  ne : xa ≠ xb
  free : ∀ y ∈ scope.names, y.2 = .free → ∃ c, env.cells.lookup y.1 = some c
/-- the element: a test of two ints -/
def EltZ (prog : Program) (w : World) (scope : Scope) (xa xb : Str) (elt : Expr) (pb : Int → Int → Bool) : Prop :=
  ∀ (cenv : Env) (A' : Around) (E' : Value → Shared → Prop) (i j : Int) (t u : Tok) (s₂ : Shared) (m₂ : Str → Option Value), cenv.scope = scope → s₂.heap.Ns cenv.locals m₂ → m₂ xa = some (.int i t) → m₂ xb = some (.int j u) →
    wpAny (model prog w) A' (eval elt cenv) (fun y s₃ => y = .bool (pb i j) ∧ Keeps s₂ s₃) E' s₂
/-- new < old -/
theorem elt_lt {prog : Program} {w : World} {scope : Scope} {xa xb : Str} {p1 p2 p3 : Pos} (hk : scope.kind = .function) (ha : scope.names.lookup xa = some .local) (hb : scope.names.lookup xb = some .local) (hda : (xa == ("__debug__" : Str)) = false := by decide) (hdb : (xb == ("__debug__" : Str)) = false := by decide) :
    EltZ prog w scope xa xb (.Compare (.Name xb p1) [.Lt] [.Name xa p2] p3) (fun i j => decide (j < i)) := by
  intro cenv A' E' i j t u s₂ m₂ hs hn h1 h2
  refine wpAny_Compare1 ?_
  refine wpAny_Name (wpAny_loadName_local (by rw [hs]; exact hk) (show cenv.scope.names.lookup xb = some .local by rw [hs]; exact hb) hn h2 ?_) hdb
  refine wpAny_Name (wpAny_loadName_local (by rw [hs]; exact hk) (show cenv.scope.names.lookup xa = some .local by rw [hs]; exact ha) hn h1 ?_) hda
  exact lt_int ⟨rfl, GxR.keeps_refl _⟩
/-- the test at place j -/
def trZ (pb : Int → Int → Bool) (l : List (Int × Int)) (j : Nat) : Bool := match l[j]? with
  | some b => pb b.1 b.2
  | none => false
theorem trZ_some {pb : Int → Int → Bool} {l : List (Int × Int)} {j : Nat} {b : Int × Int} (h : l[j]? = some b) : trZ pb l j = pb b.1 b.2 := by
  unfold trZ
  rw [h]
theorem any_trZ (l : List (Int × Int)) (pb : Int → Int → Bool) : (List.range l.length).any (trZ pb l) = l.any fun p => pb p.1 p.2 := by
  rw [Bool.eq_iff_iff, List.any_eq_true, List.any_eq_true]
  constructor
  · intro ⟨j, hj, h⟩
    have hj' := List.mem_range.mp hj
    rw [trZ_some (List.getElem?_eq_getElem hj')] at h
    exact ⟨l[j], List.getElem_mem hj', h⟩
  · intro ⟨b, hb, h⟩
    obtain ⟨j, hj, e⟩ := List.getElem_of_mem hb
    refine ⟨j, List.mem_range.mpr hj, ?_⟩
    rw [trZ_some (List.getElem?_eq_getElem hj), e]
    exact h
section
variable {X : Cx} {pins : List (Addr × Obj)} {σ : L2.St} {H : Hp} {s : Shared}
/-- the generator g over the pairs of xs and ys, ready to be walked, in the state s5; H1: what was held before -/
def ReadyZ (X : Cx) (pins : List (Addr × Obj)) (σ : L2.St) (H1 : Hp) (P : Addr) (l : List (Int × Int)) (pb : Int → Int → Bool) (g : Addr) (s5 : Shared) : Prop :=
  ∃ (fp wr : List Addr) (G : Array GenState → Array GenState → Prop) (F : Nat → Value → Prop) (St : Nat → Shared → Prop),
    WalksS X.prog X.w X.A.in1 g fp wr G l.length F St ∧ St 0 s5 ∧
    TruthOf X.prog X.w X.A.in1 F (trZ pb l) ∧
    ∀ s', Moved wr G s5 s' → ∃ H2, GxR.Tabbed P H1 H2 ∧ Inv X pins σ H2 s'
theorem gen_zip {c P : Addr} {elt e1 e2 : Expr} {xa xb : Str} {pa pb' pt gpos p pos : Pos} {kt : Nat} {scope : Scope} {pb : Int → Int → Bool} {ta : TA} {k : Nat} {Q' : Value → Shared → Prop} {R : List Int → List Int → Hp → Prop}
    (hr : Room k X.A) (TB : GxR.TabB X.base X.mg c P) (hcode : X.env.code = .ref c) (S : GenS2 X.env scope xa xb) (hg : Gl X "zip") (hm : X.mg "zip" = none) (ha : PA X [e1, e2] ta) (hel : EltZ X.prog X.w scope xa xb elt pb)
    (hs : ∀ v, genFold (.Call (.Name "zip" p) [e1, e2] [] pos) X.env v = pure v) (hst : starEach [e1, e2] X.env = (false, eval e1 X.env) :: starEach [e2] X.env) (hpl : (backTo pos (starEach [e2] X.env)).any (·.1) = false)
    (I : Inv X pins σ H s) (h : ta σ H fun vs H1 => ∃ (a b : Addr) (xs ys : List Int), vs = [.ref a, .ref b] ∧ SqT X.K H1 a (xs.map V.int) ∧ SqT X.K H1 b (ys.map V.int) ∧ GxR.TabG H1 P ∧ R xs ys H1)
    (hQ : ∀ xs ys H1 g s5, R xs ys H1 → ReadyZ X pins σ H1 P (xs.zip ys) pb g s5 → Q' (.ref g) s5) :
    wpAny (model X.prog X.w) X.A (eval (.GeneratorExp elt [⟨.Tuple [.Name xa pa, .Name xb pb'] kt pt, .Call (.Name "zip" p) [e1, e2] [] pos, [], 0⟩] scope gpos) X.env) Q' X.xe s := by
  refine wpAny_GeneratorExp_walksQT hr.hd S.co (closure_ok S.free) S.cell S.dot S.la S.lb S.ne S.kind (by have := hr.dp; omega) ?_ hs
  refine Call_ (ld_blt I hg hm PyProof.Rows.boot_zip (PyProof.Rows.callWith_type1 (thn (ha.run pos pins s σ H _ I h) fun us s1 ⟨vs, H1, I1, r1, q1⟩ => ?_) hst hpl))
  obtain ⟨a, b, xs, ys, rfl, hqx, hqy, ⟨ps, hP, ht⟩, q1⟩ := q1
  obtain ⟨u1, u2, rfl, ra, rb⟩ := vals2 r1
  cases ra
  cases rb
  obtain ⟨its, rv, p1, _⟩ := I1.tuple hqx
  obtain ⟨its2, rv2, p2, _⟩ := I1.tuple hqy
  obtain ⟨o1, ho1, _⟩ := id p1
  obtain ⟨o2, ho2, _⟩ := id p2
  refine RZ.call_zipT (show s1.heap.IsTuple a its.toArray from p1) (show s1.heap.IsTuple b its2.toArray from p2) fun h' hz hTI hTO hi1 hi2 hsz hk => wpAny_pyIter_zip hz ?_
  have hPs : s1.heap.get? P = some { cls := .none, data := .fields ps } := I1.hok P _ hP
  have hPlt : P < s1.heap.objs.size := Heap.lt_size hPs
  have hP2 : h'.get? P = some { cls := .none, data := .fields ps } := hk _ _ hPs
  have cd : PySem.W.CodeHd h' c P := TB.code.keeps fun b u e => hk _ _ (I1.bk b u e)
  have lim2 : h'.NoLimit := I1.nolimit.keeps hk
  have hlen1 : its.length = xs.length := by rw [← rv.length, List.length_map]
  have hlen2 : its2.length = ys.length := by rw [← rv2.length, List.length_map]
  have intAt : ∀ {l : List Int} {ws : List Value}, Vals (l.map V.int) ws → ∀ (i : Nat) (v : Value), ws.toArray[i]? = some v → ∃ (n : Int) (t : Tok), l[i]? = some n ∧ v = .int n t := by
    intro l ws r i v hv
    have hv2 : ws[i]? = some v := by simpa using hv
    have hl : ws.length = l.length := by rw [← r.length, List.length_map]
    have hi2 : i < l.length := by rw [← hl]; exact (List.getElem?_eq_some_iff.mp hv2).1
    have hb : (l.map V.int)[i]? = some (V.int l[i]) := by rw [List.getElem?_map, List.getElem?_eq_getElem hi2] <;> rfl
    obtain ⟨u, hu, ru⟩ := r.get hb
    rw [hv2] at hu
    cases hu
    obtain ⟨t, e⟩ := (show ∃ t, v = Value.int l[i] t from ru)
    exact ⟨l[i], t, List.getElem?_eq_getElem hi2, e⟩
  have D := PySem.W.ktu_apart s1.heap.objs.size a b (Heap.lt_size ho1) (Heap.lt_size ho2)
  have aP : a ≠ P := fun z => by
    obtain ⟨o, e, hc, n, hd⟩ := id p1
    rw [z, hPs] at e
    cases e
    cases hc
  have bP : b ≠ P := fun z => by
    obtain ⟨o, e, hc, n, hd⟩ := id p2
    rw [z, hPs] at e
    cases e
    cases hc
  have nP : ∀ d, s1.heap.objs.size ≤ d → d ≠ P := fun d hd z => by rw [z] at hd; exact Nat.lt_irrefl _ (Nat.lt_of_lt_of_le hPlt hd)
  have cont : ∀ (code : Value) (h3 : Heap) (tk : Nat) (ps' : Array Value), Heap.ExtBut P h' h3 → h'.objs.size ≤ h3.objs.size → h3.get? P = some { cls := .none, data := .fields ps' } → (∃ more, ps' = ps ++ more) → TriplesOk ps'.toList →
      wpAny (model X.prog X.w) X.A (builtinsFor X.env.globals X.env.builtins) (fun bi s₄ =>
        ∃ Ia fp wr n₀ Pt St₀ Mid pz F, Value.ref (s1.heap.objs.size + 4) = .ref Ia ∧ (∀ A' : Around, A'.handled = none → WalksU X.prog X.w A' Ia fp wr n₀ Pt St₀ Mid) ∧ (∀ i vals, Pt i vals → ∃ va vb, vals = #[va, vb]) ∧ St₀ 0 s₄.heap ∧ (∀ b ∈ fp, b < s₄.heap.objs.size) ∧ s₄.heap.NoLimit ∧ cStatics ∉ wr ∧
          (∀ href : Heap, (∀ b o, s₄.heap.get? b = some o → href.get? b = some o) →
            QuietGenT X.prog X.w (genEnv scope (cloFrom X.env.cells scope.names []) s₄.heap.objs.size code bi X.env) xa xb [] elt (List.range s₄.heap.objs.size) wr Pt pz F href) ∧
          (∀ a h₅ tk gs, gs.bare = true → s₄.heap.objs.size < a → h₅.objs.size = a + 1 → (∀ b o, s₄.heap.get? b = some o → h₅.get? b = some o) →
            WalksS X.prog X.w X.A.in4 a (a :: s₄.heap.objs.size :: List.range s₄.heap.objs.size) (s₄.heap.objs.size :: wr) (GenOnlyQ s₄.gens.size) (passing pz n₀ 0).length
              (fun j y => ∃ i, (passing pz n₀ 0)[j]? = some i ∧ F i y) (GenAt X.prog X.w X.A.in4 a s₄.gens.size s₄.heap.objs.size (List.range s₄.heap.objs.size) wr pz n₀ F) →
            GenAt X.prog X.w X.A.in4 a s₄.gens.size s₄.heap.objs.size (List.range s₄.heap.objs.size) wr pz n₀ F 0 { s₄ with gens := s₄.gens.push gs, toks := tk, heap := h₅ } →
            Q' (.ref a) { s₄ with gens := s₄.gens.push gs, toks := tk, heap := h₅ })) X.xe { s1 with heap := h3, toks := tk } := by
    intro code h3 tk ps' hx hsz3 hP3 hmore ht3
    obtain ⟨bm, ob, e1, e2, e3, e4, e5, e6, e7, e8⟩ := TB.bm
    have hcP : cStatics ≠ P := fun e => by
      obtain ⟨_, hns, _⟩ := I1.nolimit
      obtain ⟨o', es, ep, ho, hd, _⟩ := hns
      rw [e, hPs] at ho
      cases ho
      cases hd
    have hcl : cStatics < s1.heap.objs.size := let ⟨_, hns, _⟩ := I1.nolimit; hns.lt
    have hle : s1.heap.objs.size + 5 ≤ h3.objs.size := by rw [← hsz]; exact hsz3
    have keep3 : ∀ b u, b ≠ P → s1.heap.get? b = some u → h3.get? b = some u := fun b u hb e => hx b u hb (hk _ _ e)
    refine wpAny_builtinsFor (m := X.mg) (by rw [I1.ok.glob]; exact ((I1.mod.glob.keeps I1.bk).keeps hk).extBut hx TB.gP) e1 e2 (keep3 _ _ e4 (I1.bk _ _ e5)) e6 e7 e8 ?_
    have st3 : IsZip h3 (s1.heap.objs.size + 4) (s1.heap.objs.size + 2) (s1.heap.objs.size + 3) .none ∧ IsPair h3 (s1.heap.objs.size + 2) (.ref s1.heap.objs.size) (.ref (s1.heap.objs.size + 1)) ∧ (∃ u v, IsPair h3 (s1.heap.objs.size + 3) u v) ∧
        h3.IsTupleIter s1.heap.objs.size a 0 ∧ h3.IsTupleIter (s1.heap.objs.size + 1) b 0 ∧ h3.IsTuple a its.toArray ∧ h3.IsTuple b its2.toArray := by
      refine ⟨hx _ _ (nP _ (Nat.le_add_right _ _)) hz, hx _ _ (nP _ (Nat.le_add_right _ _)) hTI, ⟨_, _, hx _ _ (nP _ (Nat.le_add_right _ _)) hTO⟩, hi1.at fun o e => hx _ o (nP _ (Nat.le_refl _)) e, hi2.at fun o e => hx _ o (nP _ (Nat.le_add_right _ _)) e, ?_, ?_⟩
      · obtain ⟨o, e, r⟩ := id p1
        exact ⟨o, keep3 _ _ aP e, r⟩
      · obtain ⟨o, e, r⟩ := id p2
        exact ⟨o, keep3 _ _ bP e, r⟩
    refine ⟨s1.heap.objs.size + 4, _, _, min its.toArray.size its2.toArray.size, _, _, _, (fun _ => true), (fun i y => ∃ q, (xs.zip ys)[i]? = some q ∧ y = .bool (pb q.1 q.2)), rfl,
      (fun A' hA => (walksT_zipT (prog := X.prog) (w := X.w) hA _ _ _ _ _ a b D its.toArray its2.toArray).toU), (fun i vals hv => by obtain ⟨x, y, _, _, e⟩ := hv; exact ⟨x, y, e⟩), st3, ?_, lim2.extBut hx hcP, ?_, ?_, ?_⟩
    · intro d hd
      simp only [List.mem_cons, List.not_mem_nil, or_false] at hd
      show d < h3.objs.size
      have ha1 := Heap.lt_size ho1
      have hb1 := Heap.lt_size ho2
      rcases hd with z | z | z | z | z | z | z
      · rw [z]; exact adLt hle (by decide)
      · rw [z]; exact adLt hle (by decide)
      · rw [z]; exact adLt hle (by decide)
      · rw [z]; exact adLt0 hle
      · rw [z]; exact adLt hle (by decide)
      · rw [z]; exact adLt2 hle ha1
      · rw [z]; exact adLt2 hle hb1
    · intro z
      simp only [List.mem_cons, List.not_mem_nil, or_false] at z
      rcases z with z | z | z | z
      · exact adNo hcl z
      · exact adNo hcl z
      · exact adNo0 hcl z
      · exact adNo hcl z
    · intro href hhref
      refine ⟨fun A' E' i va vb s₂ m₂ hA hPv hn h1 h2 hkk => ?_, fun A' E' i va vb s₂ m₂ hA hPv hp hn h1 h2 hkk => ?_⟩
      · simp only [List.forIn_nil]
        exact wpAny_pure ⟨rfl, GxR.keeps_refl _⟩
      · obtain ⟨x, y, ex, ey, e⟩ := hPv
        obtain ⟨rfl, rfl⟩ : va = x ∧ vb = y := by simpa using congrArg Array.toList e
        obtain ⟨n1, t1, g1, rfl⟩ := intAt rv i _ ex
        obtain ⟨n2, t2, g2, rfl⟩ := intAt rv2 i _ ey
        exact wpAny_mono (hel _ A' E' n1 n2 t1 t2 s₂ m₂ rfl hn h1 h2) (fun y s3 r => ⟨⟨(n1, n2), by rw [List.getElem?_zip_eq_some]; exact ⟨g1, g2⟩, r.1⟩, r.2⟩) fun _ _ e => e
    · intro g h5 tk5 gs hgb hag hsz5 hk5 W5 hat
      simp only [GxR.passing_true, List.length_range] at W5
      have hn5 : min its.toArray.size its2.toArray.size = (xs.zip ys).length := by rw [List.size_toArray, List.size_toArray, hlen1, hlen2, List.length_zip]
      rw [hn5] at W5 hat
      refine hQ xs ys H1 g _ q1 ⟨_, _, _, _, _, W5.in4_1, hat, ?_, fun s' hmv => ?_⟩
      · intro j y sj Qj Ej hy hQj
        obtain ⟨i, hij, q, hq, rfl⟩ := hy
        obtain ⟨hj, ej⟩ := List.getElem?_eq_some_iff.mp hij
        rw [List.getElem_range] at ej
        subst ej
        have hQ2 : Qj (trZ pb (xs.zip ys) j) sj := hQj
        rw [trZ_some hq] at hQ2
        exact wpAny_truthy_bool hQ2
      · obtain ⟨more, em⟩ := hmore
        have nwr : ∀ d u, s1.heap.get? d = some u → d ∉ h3.objs.size :: [s1.heap.objs.size + 4, s1.heap.objs.size + 3, s1.heap.objs.size, s1.heap.objs.size + 1] := fun d u e hb => by
          have hl := Heap.lt_size e
          simp only [List.mem_cons, List.not_mem_nil, or_false] at hb
          rcases hb with z | z | z | z | z
          · exact adNo3 hl hle z
          · exact adNo hl z
          · exact adNo hl z
          · exact adNo0 hl z
          · exact adNo hl z
        have J := GxR.inv_tab (more := more) (h' := s'.heap) (g' := s'.gens) (d' := s'.drawn) (t' := s'.toks) I1 hP (fun d u hb e => hmv.heap d u (nwr d u e) (hk5 d u (keep3 d u hb e)))
          (by rw [← em]; exact hmv.heap P _ (nwr P _ hPs) (hk5 P _ hP3)) (AllBare.movedS (I1.bare.push hgb) hmv)
        rw [GxR.sh_eta s1 s' hmv.os] at J
        refine ⟨upd H1 P (.tbl (ps ++ more)), ⟨⟨ps ++ more, upd_same, by rw [← em]; exact ht3⟩, fun b hb => upd_ne hb⟩, J⟩
  refine ⟨lim2, ?_⟩
  cases hf : codeAmong gpos ps.toList with
  | none =>
    refine wpAny_genexprCodeX hcode (cd.code hP2 ht) (cd.tab hP2) hf fun c' h3 tk hx hge hlt hco' _ htab' _ => ?_
    obtain ⟨o1, vs, f1, tf, fl, tg, inF, tx, tt, op, _, _, _, _, _, _, _, _, _, htr, _⟩ := hco'
    exact cont _ h3 tk _ hx (Nat.le_trans hge (Nat.le_of_lt hlt)) htab'.2 ⟨_, rfl⟩ htr
  | some cv =>
    refine wpAny_genexprCode_hit hcode (cd.code hP2 ht) hf ?_
    exact cont cv h' s1.toks ps (Heap.ExtBut.refl _ _) (Nat.le_refl _) hP2 ⟨#[], by simp⟩ ht
/-- any(test for x, y in zip(e1, e2)) -/
def tAnyZ (K : PySem.W.Frag) (P : Addr) (pb : Int → Int → Bool) (ta : TA) : TE := fun σ H Q => ta σ H fun vs H1 => ∃ (a b : Addr) (xs ys : List Int), vs = [.ref a, .ref b] ∧ SqT K H1 a (xs.map V.int) ∧ SqT K H1 b (ys.map V.int) ∧ GxR.TabG H1 P ∧ ∀ H2, GxR.Tabbed P H1 H2 → Q (.bl ((xs.zip ys).any fun p => pb p.1 p.2)) H2
theorem pe_anyZ {c P : Addr} {elt e1 e2 : Expr} {xa xb : Str} {pa pb' pt gpos p pos p2 pos2 : Pos} {kt : Nat} {scope : Scope} {pb : Int → Int → Bool} {ta : TA} {k : Nat}
    (hr : Room k X.A) (hga : Gl X "any") (hma : X.mg "any" = none) (TB : GxR.TabB X.base X.mg c P) (hcode : X.env.code = .ref c) (S : GenS2 X.env scope xa xb) (hg : Gl X "zip") (hm : X.mg "zip" = none) (ha : PA X [e1, e2] ta) (hel : EltZ X.prog X.w scope xa xb elt pb)
    (hs : ∀ v, genFold (.Call (.Name "zip" p) [e1, e2] [] pos) X.env v = pure v := by intro _; rfl) (hst : starEach [e1, e2] X.env = (false, eval e1 X.env) :: starEach [e2] X.env := by rfl) (hpl : (backTo pos (starEach [e2] X.env)).any (·.1) = false := by rfl)
    (he : starEach [.GeneratorExp elt [⟨.Tuple [.Name xa pa, .Name xb pb'] kt pt, .Call (.Name "zip" p) [e1, e2] [] pos, [], 0⟩] scope gpos] X.env = (false, eval (.GeneratorExp elt [⟨.Tuple [.Name xa pa, .Name xb pb'] kt pt, .Call (.Name "zip" p) [e1, e2] [] pos, [], 0⟩] scope gpos) X.env) :: starEach [] X.env := by rfl) :
    PE X (.Call (.Name "any" p2) [.GeneratorExp elt [⟨.Tuple [.Name xa pa, .Name xb pb'] kt pt, .Call (.Name "zip" p) [e1, e2] [] pos, [], 0⟩] scope gpos] [] pos2) (tAnyZ X.K P pb ta) := by
  refine ⟨fun pins s σ H Q I h => ?_⟩
  refine wpAny_Call_Name_kw (ld_blt I hga hma boot_any ?_)
  refine PyProof.Rows.callWith_builtin1 ?_ he (by rfl)
  rw [he]
  show wpAny _ _ (spliced ((false, eval (.GeneratorExp elt [⟨.Tuple [.Name xa pa, .Name xb pb'] kt pt, .Call (.Name "zip" p) [e1, e2] [] pos, [], 0⟩] scope gpos) X.env) :: backTo pos2 (starEach [] X.env))) _ _ s
  refine Calls.spliced_cons (gen_zip (R := fun xs ys H1 => ∀ H2, GxR.Tabbed P H1 H2 → Q (.bl ((xs.zip ys).any fun p => pb p.1 p.2)) H2) hr TB hcode S hg hm ha hel hs hst hpl I h fun xs ys H1 g s5 hR hG => ?_)
  obtain ⟨fp, wr, G, F, St, W, hst, htr, hI⟩ := hG
  refine Calls.spliced_nil ?_
  refine call_any_walkS (W.self 0 _ _ _ hst ⟨g, fp, wr, G, _, F, St, _, rfl, W, hst, htr, fun s' hmv => ?_⟩)
  obtain ⟨H2, hT, J⟩ := hI s' hmv
  refine ⟨.bl _, H2, J, rfl, ?_⟩
  rw [any_trZ]
  exact hR H2 hT
end
end K75

set_option maxHeartbeats 8000000
/-! all(0 <= x < len(y) for x in a tuple of ints), y a list that the def holds in a cell -/
namespace K75
open PySem PySem.Spec PyProof.Rows L2
def inR (n : Nat) (i : Int) : Bool := decide (0 ≤ i) && decide (i < (n : Int))
/-- the test at place j -/
def trP (pb : Int → Bool) (l : List Int) (j : Nat) : Bool := match l[j]? with
  | some b => pb b
  | none => false
theorem trP_some {pb : Int → Bool} {l : List Int} {j : Nat} {b : Int} (h : l[j]? = some b) : trP pb l j = pb b := by
  unfold trP
  rw [h]
theorem all_trP (l : List Int) (pb : Int → Bool) : (List.range l.length).all (trP pb l) = l.all pb := by
  rw [Bool.eq_iff_iff, List.all_eq_true, List.all_eq_true]
  constructor
  · intro h b hb
    obtain ⟨j, hj, e⟩ := List.getElem_of_mem hb
    have q := h j (List.mem_range.mpr hj)
    rw [trP_some (List.getElem?_eq_getElem hj), e] at q
    exact q
  · intro h j hj
    have hj' := List.mem_range.mp hj
    rw [trP_some (List.getElem?_eq_getElem hj')]
    exact h _ (List.getElem_mem hj')
section
variable {X : Cx} {pins : List (Addr × Obj)} {σ : L2.St} {H : Hp} {s : Shared}
theorem elt_in {c P : Addr} {scope : Scope} {x y : Str} {j0 : Nat} {pc p3 p4 p5 p6 p7 : Pos} {iy : Nat} {l : Addr} {zs : List V}
    (TB : GxR.TabB X.base X.mg c P) (I : Inv X pins σ H s) {ps : Array Value} (hP : H P = some (.tbl ps)) (hy : σ[iy]? = some (some (.ref l))) (hNy : X.N[iy]? = some y) (hcy : X.env.kindOf y = some .cell) (hz : SqL X.K H l zs) (hl63 : zs.length < 2 ^ 63)
    (hk : scope.kind = .function) (hlx : scope.names.lookup x = some .local) (hly : scope.names.lookup y = some .free) (hln : scope.names.lookup ("len" : Str) = some .globalImplicit) (hm : X.mg "len" = none)
    (hcl : ∀ c, X.env.cells.lookup y = some c → (cloFrom X.env.cells scope.names []).lookup y = some c)
    (hdx : (x == ("__debug__" : Str)) = false) (hdy : (y == ("__debug__" : Str)) = false) (hcdy : (y == ("__classdict__" : Str)) = false)
    (L : Addr) (code : Value) (A' : Around) (E' : Value → Shared → Prop) (i : Int) (t : Tok) (s₂ : Shared) (m₂ : Str → Option Value) (keep : ∀ b o, b ≠ P → s.heap.get? b = some o → s₂.heap.get? b = some o) (hn : s₂.heap.Ns L m₂) (h2 : m₂ x = some (.int i t)) :
    wpAny (model X.prog X.w) A' (eval (.Compare (.Constant (.int 0) j0 pc) [.LtE, .Lt] [.Name x p3, .Call (.Name "len" p4) [.Name y p5] [] p6] p7) (genEnv scope (cloFrom X.env.cells scope.names []) L code builtinsNs X.env)) (fun v s₃ => v = .bool (inR zs.length i) ∧ Keeps s₂ s₃) E' s₂ := by
  have hPs : s.heap.get? P = some { cls := .none, data := .fields ps } := I.hok P _ hP
  have nsK : ∀ {b : Addr} {m : Str → Option Value}, s.heap.Ns b m → s₂.heap.Ns b m := fun {b m} ⟨o, es, ep, e, d, r⟩ => ⟨o, es, ep, keep b o (fun z => by
    rw [z, hPs] at e
    cases e
    cases d) e, d, r⟩
  have hglob : s₂.heap.Ns mainGlobals X.mg := nsK (I.mod.glob.keeps I.bk)
  obtain ⟨mb, hb1, hb2⟩ := I.mod.blt
  have hblt : s₂.heap.Ns builtinsNs mb := nsK (hb1.keeps I.bk)
  -- the list at l
  obtain ⟨its, rv, pl, hz2⟩ := I.list hz
  have hlen := rv.length
  have pl2 : s₂.heap.IsList l its.toArray := by
    obtain ⟨o, e, r⟩ := pl.isList
    refine ⟨o, keep l o (fun z => ?_) e, r⟩
    rw [z, hPs] at e
    cases e
    obtain ⟨h1, _⟩ := r
    cases h1
  -- the cell of y
  obtain ⟨m, hns, hlk⟩ := I.loc
  obtain ⟨u, ru, lk⟩ := hlk iy y _ hNy hy (.inr (.inl hcy))
  obtain rfl : u = Value.ref l := ru
  obtain ⟨cy, hcyl, hcell⟩ : ∃ cy, X.env.cells.lookup y = some cy ∧ s.heap.IsCell cy (some (.ref l)) := by
    rcases lk with ⟨h1, _⟩ | ⟨_, cy, h1, h3⟩
    · rw [hcy] at h1; cases h1
    · exact ⟨cy, h1, h3⟩
  have hcell2 : s₂.heap.IsCell cy (some (.ref l)) := by
    obtain ⟨o, e, r⟩ := hcell
    refine ⟨o, keep cy o (fun z => ?_) e, r⟩
    rw [z, hPs] at e
    cases e
    cases r
  refine Compare_chain (wpAny_Constant_int (chain_link ?_)) (by with_unfolding_all rfl)
  refine wpAny_Name (wpAny_loadName_local (s := { s₂ with toks := s₂.toks + 1 }) hk (show (genEnv scope (cloFrom X.env.cells scope.names []) L code builtinsNs X.env).scope.names.lookup x = some .local from hlx) hn h2 ?_) hdx
  refine le_int (wpAny_truthy_bool ?_)
  by_cases h0 : 0 ≤ i
  · rw [decide_eq_true h0]
    refine ite_tt (chain_last ?_)
    refine wpAny_Call_Name_kw (Calls.Name_function_global (env := genEnv scope (cloFrom X.env.cells scope.names []) L code builtinsNs X.env) hk hln (Calls.loadGlobal_builtin (by
        show (Shared.heap { s₂ with toks := s₂.toks + 1 }).Ns X.env.globals _
        rw [I.ok.glob]; exact hglob) hm hblt ((hb2 "len" (by decide)).trans PySem.boot_len) ?_) (by decide))
    have he : starEach [.Name y p5] (genEnv scope (cloFrom X.env.cells scope.names []) L code builtinsNs X.env) = (false, eval (.Name y p5) (genEnv scope (cloFrom X.env.cells scope.names []) L code builtinsNs X.env)) :: starEach [] (genEnv scope (cloFrom X.env.cells scope.names []) L code builtinsNs X.env) := by rfl
    refine PyProof.Rows.callWith_builtin1 ?_ he (by rfl)
    rw [he]
    show wpAny _ _ (spliced ((false, eval (.Name y p5) (genEnv scope (cloFrom X.env.cells scope.names []) L code builtinsNs X.env)) :: backTo p6 (starEach [] (genEnv scope (cloFrom X.env.cells scope.names []) L code builtinsNs X.env)))) _ _ _
    refine Calls.spliced_cons (wpAny_Name (wpAny_loadName_free (env := genEnv scope (cloFrom X.env.cells scope.names []) L code builtinsNs X.env) hk hly (hcl cy hcyl) hcell2 ?_ hcdy) hdy)
    refine Calls.spliced_nil ?_
    refine Calls.call_len_list pl2 (by simp only [List.size_toArray]; omega) ?_
    refine lt_int ⟨?_, GxR.keeps_tok _ _⟩
    unfold inR
    rw [decide_eq_true h0, List.size_toArray, hlen]
    rfl
  · rw [decide_eq_false h0]
    refine ite_ff ⟨?_, GxR.keeps_tok _ _⟩
    unfold inR
    rw [decide_eq_false h0]
    rfl
/-- the generator g over the ints xs, ready to be walked, in the state s5; H1: what was held before -/
def ReadyP (X : Cx) (pins : List (Addr × Obj)) (σ : L2.St) (H1 : Hp) (P : Addr) (l : List Int) (pb : Int → Bool) (g : Addr) (s5 : Shared) : Prop :=
  ∃ (fp wr : List Addr) (G : Array GenState → Array GenState → Prop) (F : Nat → Value → Prop) (St : Nat → Shared → Prop),
    WalksS X.prog X.w X.A.in1 g fp wr G l.length F St ∧ St 0 s5 ∧
    TruthOf X.prog X.w X.A.in1 F (trP pb l) ∧
    ∀ s', Moved wr G s5 s' → ∃ H2, GxR.Tabbed P H1 H2 ∧ Inv X pins σ H2 s'
/-- the element of a generator, over ints, at any state behind H1 -/
def EltN (X : Cx) (pins : List (Addr × Obj)) (σ : L2.St) (scope : Scope) (x : Str) (elt : Expr) (P : Addr) (H1 : Hp) (s1 : Shared) (pb : Int → Bool) : Prop :=
  ∀ (L : Addr) (code : Value) (A' : Around) (E' : Value → Shared → Prop) (i : Int) (t : Tok) (s₂ : Shared) (m₂ : Str → Option Value), (∀ b o, b ≠ P → s1.heap.get? b = some o → s₂.heap.get? b = some o) → s₂.heap.Ns L m₂ → m₂ x = some (.int i t) →
    wpAny (model X.prog X.w) A' (eval elt (genEnv scope (cloFrom X.env.cells scope.names []) L code builtinsNs X.env)) (fun v s₃ => v = .bool (pb i) ∧ Keeps s₂ s₃) E' s₂
theorem gen_tup {c P : Addr} {elt iter : Expr} {x : Str} {px gpos : Pos} {scope : Scope} {te : TE} {k : Nat} {Q' : Value → Shared → Prop} {R : List Int → (Int → Bool) → Hp → Prop}
    (hr : Room k X.A) (TB : GxR.TabB X.base X.mg c P) (hcode : X.env.code = .ref c) (S : GxR.GenS X.env scope x) (hi : PE X iter te)
    (hs : ∀ v, genFold iter X.env v = pure v) (I : Inv X pins σ H s) (h : te σ H fun v H1 => ∃ (a : Addr) (xs : List Int) (pb : Int → Bool), v = .ref a ∧ SqT X.K H1 a (xs.map V.int) ∧ GxR.TabG H1 P ∧ R xs pb H1)
    (hel0 : ∀ xs pb H1 s1 ps, R xs pb H1 → H1 P = some (.tbl ps) → Inv X pins σ H1 s1 → EltN X pins σ scope x elt P H1 s1 pb)
    (hQ : ∀ xs pb H1 g s5, R xs pb H1 → ReadyP X pins σ H1 P xs pb g s5 → Q' (.ref g) s5) :
    wpAny (model X.prog X.w) X.A (eval (.GeneratorExp elt [⟨.Name x px, iter, [], 0⟩] scope gpos) X.env) Q' X.xe s := by
  refine wpAny_GeneratorExp_walksQ hr.hd S.co (closure_ok S.free) S.cell S.dot S.loc S.kind (by have := hr.dp; omega) ?_ hs
  refine thn (hi.run pins s σ H _ I h) fun xv s1 ⟨v, H1, I1, r1, q1⟩ => ?_
  obtain ⟨a, xs, pb, rfl, hqx, ⟨ps, hP, ht⟩, q1⟩ := q1
  have hel := fun s1 I1 => hel0 xs pb H1 s1 ps q1 hP I1
  cases r1
  obtain ⟨its, rv, p1, _⟩ := I1.tuple hqx
  obtain ⟨o1, ho1, _⟩ := id p1
  refine wpAny_pyIter_tuple (show s1.heap.IsTuple a its.toArray from p1) ?_
  generalize ho : ({ cls := .type "tuple_iterator", data := .fields #[.ref a, .int 0 0] } : Obj) = o
  have hitr : (s1.heap.push o).IsTupleIter s1.heap.objs.size a 0 := by
    subst ho
    exact ⟨_, Heap.get?_push_size _ rfl, rfl, rfl⟩
  have hk : ∀ b u, s1.heap.get? b = some u → (s1.heap.push o).get? b = some u := fun b u e => Heap.get?_push_of_some _ e
  have hPs : s1.heap.get? P = some { cls := .none, data := .fields ps } := I1.hok P _ hP
  have hPlt : P < s1.heap.objs.size := Heap.lt_size hPs
  have hP2 : (s1.heap.push o).get? P = some { cls := .none, data := .fields ps } := hk _ _ hPs
  have cd : PySem.W.CodeHd (s1.heap.push o) c P := TB.code.keeps fun b u e => hk _ _ (I1.bk b u e)
  have lim2 : (s1.heap.push o).NoLimit := I1.nolimit.push o
  have hlen1 : its.length = xs.length := by rw [← rv.length, List.length_map]
  have intAt : ∀ (i : Nat) (v : Value), its.toArray[i]? = some v → ∃ (n : Int) (t : Tok), xs[i]? = some n ∧ v = .int n t := by
    intro i v hv
    have hv2 : its[i]? = some v := by simpa using hv
    have hi2 : i < xs.length := by rw [← hlen1]; exact (List.getElem?_eq_some_iff.mp hv2).1
    have hb : (xs.map V.int)[i]? = some (V.int xs[i]) := by rw [List.getElem?_map, List.getElem?_eq_getElem hi2] <;> rfl
    obtain ⟨u, hu, ru⟩ := rv.get hb
    rw [hv2] at hu
    cases hu
    obtain ⟨t, e⟩ := (show ∃ t, v = Value.int xs[i] t from ru)
    exact ⟨xs[i], t, List.getElem?_eq_getElem hi2, e⟩
  have aP : a ≠ P := fun z => by
    obtain ⟨o, e, hc, n, hd⟩ := id p1
    rw [z, hPs] at e
    cases e
    cases hc
  have hsz : (s1.heap.push o).objs.size = s1.heap.objs.size + 1 := Heap.size_push ..
  have cont : ∀ (code : Value) (h3 : Heap) (tk : Nat) (ps' : Array Value), Heap.ExtBut P (s1.heap.push o) h3 → (s1.heap.push o).objs.size ≤ h3.objs.size → h3.get? P = some { cls := .none, data := .fields ps' } → (∃ more, ps' = ps ++ more) → TriplesOk ps'.toList →
      wpAny (model X.prog X.w) X.A (builtinsFor X.env.globals X.env.builtins) (fun bi s₄ =>
        ∃ Ia fp wr n₀ Pf St₀ pz F, Value.ref s1.heap.objs.size = .ref Ia ∧ (∀ A' : Around, A'.handled = none → Walks X.prog X.w A' Ia fp wr n₀ Pf St₀) ∧ St₀ 0 s₄.heap ∧ (∀ b ∈ fp, b < s₄.heap.objs.size) ∧ s₄.heap.NoLimit ∧ cStatics ∉ wr ∧
          (∀ href : Heap, (∀ b o, s₄.heap.get? b = some o → href.get? b = some o) →
            QuietGen X.prog X.w (genEnv scope (cloFrom X.env.cells scope.names []) s₄.heap.objs.size code bi X.env) x [] elt (List.range s₄.heap.objs.size) wr Pf pz F href) ∧
          (∀ a h₅ tk gs, gs.bare = true → s₄.heap.objs.size < a → h₅.objs.size = a + 1 → (∀ b o, s₄.heap.get? b = some o → h₅.get? b = some o) →
            WalksS X.prog X.w X.A.in4 a (a :: s₄.heap.objs.size :: List.range s₄.heap.objs.size) (s₄.heap.objs.size :: wr) (GenOnlyQ s₄.gens.size) (passing pz n₀ 0).length
              (fun j y => ∃ i, (passing pz n₀ 0)[j]? = some i ∧ F i y) (GenAt X.prog X.w X.A.in4 a s₄.gens.size s₄.heap.objs.size (List.range s₄.heap.objs.size) wr pz n₀ F) →
            GenAt X.prog X.w X.A.in4 a s₄.gens.size s₄.heap.objs.size (List.range s₄.heap.objs.size) wr pz n₀ F 0 { s₄ with gens := s₄.gens.push gs, toks := tk, heap := h₅ } →
            Q' (.ref a) { s₄ with gens := s₄.gens.push gs, toks := tk, heap := h₅ })) X.xe { s1 with heap := h3, toks := tk } := by
    intro code h3 tk ps' hx hsz3 hP3 hmore ht3
    obtain ⟨bm, ob, e1, e2, e3, e4, e5, e6, e7, e8⟩ := TB.bm
    have hcP : cStatics ≠ P := fun e => by
      obtain ⟨_, hns, _⟩ := I1.nolimit
      obtain ⟨o', es, ep, ho, hd, _⟩ := hns
      rw [e, hPs] at ho
      cases ho
      cases hd
    have hcl : cStatics < s1.heap.objs.size := let ⟨_, hns, _⟩ := I1.nolimit; hns.lt
    have hle : s1.heap.objs.size + 1 ≤ h3.objs.size := by rw [← hsz]; exact hsz3
    have keep3 : ∀ b u, b ≠ P → s1.heap.get? b = some u → h3.get? b = some u := fun b u hb e => hx b u hb (hk _ _ e)
    refine wpAny_builtinsFor (m := X.mg) (by rw [I1.ok.glob]; exact ((I1.mod.glob.keeps I1.bk).keeps hk).extBut hx TB.gP) e1 e2 (keep3 _ _ e4 (I1.bk _ _ e5)) e6 e7 e8 ?_
    have hIT3 : h3.IsTuple a its.toArray := by
      obtain ⟨o, e, r⟩ := id p1
      exact ⟨o, keep3 _ _ aP e, r⟩
    have hItr3 : h3.IsTupleIter s1.heap.objs.size a 0 := hitr.at fun u e => hx _ u (Nat.ne_of_gt hPlt) e
    refine ⟨s1.heap.objs.size, _, _, its.toArray.size, _, _, (fun _ => true), (fun i y => ∃ n, xs[i]? = some n ∧ y = .bool (pb n)), rfl, (fun A' hA => Walks.tuple hA _ _ (Nat.ne_of_lt (Heap.lt_size ho1)) _), ⟨hItr3, hIT3⟩, ?_, lim2.extBut hx hcP, ?_, ?_, ?_⟩
    · intro d hd
      simp only [List.mem_cons, List.not_mem_nil, or_false] at hd
      show d < h3.objs.size
      have ha1 := Heap.lt_size ho1
      rcases hd with z | z
      · rw [z]; exact hle
      · rw [z]; exact Nat.lt_of_lt_of_le ha1 (Nat.le_trans (Nat.le_succ _) hle)
    · intro z
      simp only [List.mem_cons, List.not_mem_nil, or_false] at z
      exact adNo0 hcl z
    · intro href hhref
      refine ⟨fun A' E' i v s₂ m₂ hA hPv hn h1 hkk => ?_, fun A' E' i v s₂ m₂ hA hPv hp hn h1 hkk => ?_⟩
      · simp only [List.forIn_nil]
        exact wpAny_pure ⟨rfl, GxR.keeps_refl _⟩
      · obtain ⟨n1, t1, g1, rfl⟩ := intAt i _ hPv
        refine wpAny_mono (hel s1 I1 _ _ A' E' n1 t1 s₂ m₂ (fun b u hb e => ?_) hn h1) (fun y s3 r => ⟨⟨n1, g1, r.1⟩, r.2⟩) fun _ _ e => e
        have e3 := keep3 b u hb e
        refine hkk b (List.mem_range.mpr (Heap.lt_size e3)) (fun z => ?_) u (hhref b u e3)
        simp only [List.mem_cons, List.not_mem_nil, or_false] at z
        exact adNo0 (Heap.lt_size e) z
    · intro g h5 tk5 gs hgb hag hsz5 hk5 W5 hat
      simp only [GxR.passing_true, List.length_range] at W5
      have hn5 : its.toArray.size = xs.length := by rw [List.size_toArray, hlen1]
      rw [hn5] at W5 hat
      refine hQ xs pb H1 g _ q1 ⟨_, _, _, _, _, W5.in4_1, hat, ?_, fun s' hmv => ?_⟩
      · intro j y sj Qj Ej hy hQj
        obtain ⟨i, hij, q, hq, rfl⟩ := hy
        obtain ⟨hj, ej⟩ := List.getElem?_eq_some_iff.mp hij
        rw [List.getElem_range] at ej
        subst ej
        have hQ2 : Qj (trP pb xs j) sj := hQj
        rw [trP_some hq] at hQ2
        exact wpAny_truthy_bool hQ2
      · obtain ⟨more, em⟩ := hmore
        have nwr : ∀ d u, s1.heap.get? d = some u → d ∉ h3.objs.size :: [s1.heap.objs.size] := fun d u e hb => by
          have hl := Heap.lt_size e
          simp only [List.mem_cons, List.not_mem_nil, or_false] at hb
          rcases hb with z | z
          · rw [z] at hl; exact Nat.lt_irrefl _ (Nat.lt_of_lt_of_le hl (Nat.le_trans (Nat.le_succ _) hle))
          · exact adNo0 hl z
        have J := GxR.inv_tab (more := more) (h' := s'.heap) (g' := s'.gens) (d' := s'.drawn) (t' := s'.toks) I1 hP (fun d u hb e => hmv.heap d u (nwr d u e) (hk5 d u (keep3 d u hb e)))
          (by rw [← em]; exact hmv.heap P _ (nwr P _ hPs) (hk5 P _ hP3)) (AllBare.movedS (I1.bare.push hgb) hmv)
        rw [GxR.sh_eta s1 s' hmv.os] at J
        refine ⟨upd H1 P (.tbl (ps ++ more)), ⟨⟨ps ++ more, upd_same, by rw [← em]; exact ht3⟩, fun b hb => upd_ne hb⟩, J⟩
  refine ⟨lim2, ?_⟩
  cases hf : codeAmong gpos ps.toList with
  | none =>
    refine wpAny_genexprCodeX hcode (cd.code hP2 ht) (cd.tab hP2) hf fun c' h3 tk hx hge hlt hco' _ htab' _ => ?_
    obtain ⟨o1, vs, f1, tf, fl, tg, inF, tx, tt, op, _, _, _, _, _, _, _, _, _, htr, _⟩ := hco'
    exact cont _ h3 tk _ hx (Nat.le_trans hge (Nat.le_of_lt hlt)) htab'.2 ⟨_, rfl⟩ htr
  | some cv =>
    refine wpAny_genexprCode_hit hcode (cd.code hP2 ht) hf ?_
    exact cont cv (s1.heap.push o) s1.toks ps (Heap.ExtBut.refl _ _) (Nat.le_refl _) hP2 ⟨#[], by simp⟩ ht
/-- all(0 <= x < len(y) for x in e) -/
def tAllP (K : PySem.W.Frag) (P : Addr) (iy : Nat) (te : TE) : TE := fun σ H Q => te σ H fun v H1 => ∃ (a : Addr) (xs : List Int) (pb : Int → Bool), v = .ref a ∧ SqT K H1 a (xs.map V.int) ∧ GxR.TabG H1 P ∧
  (∃ (l : Addr) (zs : List V), σ[iy]? = some (some (.ref l)) ∧ SqL K H1 l zs ∧ zs.length < 2 ^ 63 ∧ pb = inR zs.length) ∧ ∀ H2, GxR.Tabbed P H1 H2 → Q (.bl (xs.all pb)) H2
theorem pe_allP {c P : Addr} {iter : Expr} {x y : Str} {j0 iy : Nat} {pc p3 p4 p5 p6 p7 px p2 pos2 gpos : Pos} {scope : Scope} {te : TE} {k : Nat}
    (hr : Room k X.A) (hga : Gl X "all") (hma : X.mg "all" = none) (hba : bootBuiltins "all" = some (.builtin "all")) (TB : GxR.TabB X.base X.mg c P) (hcode : X.env.code = .ref c) (S : GxR.GenS X.env scope x) (hi : PE X iter te)
    (hNy : X.N[iy]? = some y) (hcy : X.env.kindOf y = some .cell) (hly : scope.names.lookup y = some .free) (hln : scope.names.lookup ("len" : Str) = some .globalImplicit) (hm : X.mg "len" = none)
    (hcl : ∀ c, X.env.cells.lookup y = some c → (cloFrom X.env.cells scope.names []).lookup y = some c)
    (hdx : (x == ("__debug__" : Str)) = false) (hdy : (y == ("__debug__" : Str)) = false) (hcdy : (y == ("__classdict__" : Str)) = false)
    (hs : ∀ v, genFold iter X.env v = pure v := by intro _; rfl)
    (he : starEach [.GeneratorExp (.Compare (.Constant (.int 0) j0 pc) [.LtE, .Lt] [.Name x p3, .Call (.Name "len" p4) [.Name y p5] [] p6] p7) [⟨.Name x px, iter, [], 0⟩] scope gpos] X.env = (false, eval (.GeneratorExp (.Compare (.Constant (.int 0) j0 pc) [.LtE, .Lt] [.Name x p3, .Call (.Name "len" p4) [.Name y p5] [] p6] p7) [⟨.Name x px, iter, [], 0⟩] scope gpos) X.env) :: starEach [] X.env := by rfl) :
    PE X (.Call (.Name "all" p2) [.GeneratorExp (.Compare (.Constant (.int 0) j0 pc) [.LtE, .Lt] [.Name x p3, .Call (.Name "len" p4) [.Name y p5] [] p6] p7) [⟨.Name x px, iter, [], 0⟩] scope gpos] [] pos2) (tAllP X.K P iy te) := by
  refine ⟨fun pins s σ H Q I h => ?_⟩
  refine wpAny_Call_Name_kw (ld_blt I hga hma hba ?_)
  refine PyProof.Rows.callWith_builtin1 ?_ he (by rfl)
  rw [he]
  show wpAny _ _ (spliced ((false, eval (.GeneratorExp (.Compare (.Constant (.int 0) j0 pc) [.LtE, .Lt] [.Name x p3, .Call (.Name "len" p4) [.Name y p5] [] p6] p7) [⟨.Name x px, iter, [], 0⟩] scope gpos) X.env) :: backTo pos2 (starEach [] X.env))) _ _ s
  refine Calls.spliced_cons (gen_tup (R := fun xs pb H1 => (∃ (l : Addr) (zs : List V), σ[iy]? = some (some (.ref l)) ∧ SqL X.K H1 l zs ∧ zs.length < 2 ^ 63 ∧ pb = inR zs.length) ∧ ∀ H2, GxR.Tabbed P H1 H2 → Q (.bl (xs.all pb)) H2) hr TB hcode S hi hs I h ?_ fun xs pb H1 g s5 hR hG => ?_)
  · rintro xs pb H1 s1 ps ⟨⟨l, zs, h1, h2, h3, rfl⟩, _⟩ hP I1
    exact fun L code A' E' i t s₂ m₂ keep hn hx => elt_in TB I1 hP h1 hNy hcy h2 h3 S.kind S.loc hly hln hm hcl hdx hdy hcdy L code A' E' i t s₂ m₂ keep hn hx
  · obtain ⟨fp, wr, G, F, St, W, hst, htr, hI⟩ := hG
    refine Calls.spliced_nil ?_
    refine call_all_walkS (W.self 0 _ _ _ hst ⟨g, fp, wr, G, _, F, St, _, rfl, W, hst, htr, fun s' hmv => ?_⟩)
    obtain ⟨H2, hT, J⟩ := hI s' hmv
    refine ⟨.bl _, H2, J, rfl, ?_⟩
    rw [all_trP]
    exact hR.2 H2 hT
end
end K75

set_option maxHeartbeats 8000000
/-! sorted(d), d a dict whose keys are pairs of small ints -/
namespace K75
open PySem PySem.Spec PyProof.Rows L2
theorem refs_of {S : Addr → Prop} : ∀ vs : List Value, (∀ v ∈ vs, ∃ a, v = Value.ref a ∧ S a) → ∃ L : List Addr, vs = L.map Value.ref ∧ ∀ a ∈ L, S a
  | [], _ => ⟨[], rfl, fun a h => by cases h⟩
  | v :: vs, h => by
    obtain ⟨a, e, hs⟩ := h v List.mem_cons_self
    obtain ⟨L, e2, hL⟩ := refs_of vs fun u hu => h u (List.mem_cons_of_mem _ hu)
    refine ⟨a :: L, by rw [List.map_cons, e, e2], fun b hb => ?_⟩
    rcases List.mem_cons.mp hb with z | z
    · rw [z]; exact hs
    · exact hL b z
theorem vals_refs : ∀ L : List Addr, Vals (L.map V.ref) (L.map Value.ref)
  | [] => .nil
  | a :: L => .cons rfl (vals_refs L)
theorem kt_all {H : Hp} {kvs : List (List Key × V)} {xs : List (List Key × Addr × Value)} (r : KT H kvs xs) : xs.length = kvs.length ∧ ∀ x ∈ xs, ∃ kv ∈ kvs, H x.2.1 = some (.tup (kv.1.map kV)) := by
  induction r with
  | nil => exact ⟨rfl, fun x h => by cases h⟩
  | @cons p q ps qs hq t ih =>
    refine ⟨by rw [List.length_cons, List.length_cons, ih.1], fun x hx => ?_⟩
    rcases List.mem_cons.mp hx with z | z
    · rw [z]; exact ⟨p, List.mem_cons_self, hq.2.1⟩
    · obtain ⟨kv, h1, h2⟩ := ih.2 x z
      exact ⟨kv, List.mem_cons_of_mem _ h1, h2⟩
section
variable {X : Cx}
def rSortDT : List V → Hp → VK → Prop := fun xs H Q => ∃ (a : Addr) (kvs : List (List Key × V)) (B : Int), xs = [.ref a] ∧ H a = some (.dT kvs) ∧ kvs.length < 64 ∧ (∀ kv ∈ kvs, ∃ s b : Int, kv.1 = tk s b ∧ (0 ≤ s ∧ s < B) ∧ (0 ≤ b ∧ b < B)) ∧
  ∀ (L : List Addr) (p : Addr), (∀ q ∈ L, ∃ kv ∈ kvs, H q = some (.tup (kv.1.map kV))) → L.length = kvs.length → H p = none → Q (.ref p) (upd H p (.lst (L.map V.ref)))
theorem cr_sortedDT (hcalm : X.calm = true) : CallR X (.builtin "sorted") rSortDT := by
  intro pins s σ H xs us Q I r q
  obtain ⟨a, kvs, B, ex, hd, h64, hB, q⟩ := q
  subst ex
  obtain ⟨u, eu, rx⟩ := vals1 r
  subst eu
  cases rx
  obtain ⟨z, lo, ws, rel, o, es, ep, h1, h2, h3, h4, h5⟩ := (show ObjOk X.prog X.w H s.heap a (.dT kvs) from I.hok a _ hd)
  obtain ⟨hlen, hall⟩ := kt_all rel
  have raw : s.heap.DictRaw a es ep := ⟨o, h1, h2, h3⟩
  have hes : es.size = kvs.length := by
    have : es.toList.length = (ws.map (entryOfKey (tupleKind (mixKind X.prog X.w)))).length := by rw [h4]
    rw [Array.length_toList, List.length_map] at this
    rw [this, hlen]
  refine Calls.call_function_entry PyProof.Rows.kind_sorted PyProof.Rows.plain_sorted PyProof.Rows.entry_sorted (PyProof.Rows.args_sorted1 _) ?_
  unfold Builtin.«sorted»
  refine wpAny_bind (m := checkCount "sorted" 1 1 _) (wpAny_pure ?_)
  refine wpAny_bind (PySem.W.kdu_collect (A := X.A.in1) (PySem.KdlSrc.rawDict (es := es) (ep := ep) lo) (I.ok.hd hcalm) raw (by rw [hes]; exact z) fun h' tk acc hk hacc => ?_)
  have hsrc : ∀ v ∈ acc.toList, ∃ b, v = Value.ref b ∧ ∃ kv ∈ kvs, H b = some (.tup (kv.1.map kV)) := fun v hv => by
    obtain ⟨j, hj, e⟩ := List.getElem_of_mem hv
    have e2 : acc[j]? = some v := by rw [← Array.getElem?_toList, List.getElem?_eq_getElem hj, e]
    obtain ⟨hi, ev⟩ := hacc.2 j v e2
    have hm : es[j] ∈ es.toList := by simp
    rw [h4] at hm
    obtain ⟨x, hx, exx⟩ := List.mem_map.mp hm
    refine ⟨x.2.1, ?_, hall x hx⟩
    rw [ev, ← exx]
    rfl
  have hal : acc.toList.length = kvs.length := by rw [Array.length_toList, hacc.1, hes]
  have I1 : Inv X pins σ H { s with heap := h', toks := tk } := I.kept hk
  refine wpAny_bind (wpAny_newList ?_ (by rw [hal, sizeLine_eq]; omega))
  have hoL : (h'.push (seqObj "list" acc.toList.toArray 0)).get? h'.objs.size = some (seqObj "list" acc.toList.toArray 0) := Heap.get?_push_size _ rfl
  have tups : TS.TupsOk (h'.push (seqObj "list" acc.toList.toArray 0)) 2 B acc.toList := fun v hv => by
    obtain ⟨b, e, kv, hkv, hb⟩ := hsrc v hv
    obtain ⟨sv, bv, ek, hs, hbv⟩ := hB kv hkv
    have hbT : SqT X.K H b (([sv, bv] : List Int).map V.int) := SqT.of (by rw [hb, ek]; rfl)
    have hI := I1.isT hbT
    refine ⟨[sv, bv], ?_, rfl, fun m hm => ?_⟩
    · rw [e]
      exact tupInts_of (P := X.prog) (w := X.w) (isT_keep hI fun c u e => Heap.get?_push_of_some _ e)
    · simp only [List.mem_cons, List.not_mem_nil, or_false] at hm
      rcases hm with z | z
      · rw [z]; exact hs
      · rw [z]; exact hbv
  show wpAny _ _ _ _ _ { s with heap := h'.push (seqObj "list" acc.toList.toArray 0), toks := tk }
  refine wpAny_bind (wpAny_holding (TS.call_sort_tups (s := { s with heap := h'.push (seqObj "list" acc.toList.toArray 0), toks := tk }) hoL (by rw [hal]; exact h64) (by decide) tups fun out a1 a2 => ?_))
  obtain ⟨e', he'⟩ := PyProof.Rows.sortedHeap_at (vs := acc.toList) (out := out) hoL
  obtain ⟨L, eL, hL⟩ := refs_of (S := fun b => ∃ kv ∈ kvs, H b = some (.tup (kv.1.map kV))) out.toList fun v hv => hsrc v (a1.mem_iff.mp hv)
  have lenL : L.length = kvs.length := by
    have := a1.length_eq
    rw [eL, List.length_map, hal] at this
    exact this
  have hlen2 : (L.map V.ref).length ≤ sizeLine := by
    rw [List.length_map, lenL, sizeLine_eq]; omega
  refine wpAny_pure ⟨_, rfl, .ref h'.objs.size, upd H h'.objs.size (.lst (L.map V.ref)), I1.laid (t' := tk) (fun b u e => ?_) (Nat.le_refl _)
    (show ObjOk X.prog X.w _ _ _ (.lst (L.map V.ref)) from ⟨hlen2, out.toList, e', by rw [eL]; exact vals_refs L, by rw [Array.toArray_toList]; exact he'⟩), rfl, q L _ hL lenL (I1.hok.fresh (Nat.le_refl _))⟩
  have hb : b < h'.objs.size := Heap.lt_size e
  rw [PyProof.Rows.sortedHeap_old (Nat.ne_of_lt hb) (by rw [size_push']; exact Nat.lt_succ_of_lt hb)]
  exact Heap.get?_push_of_some _ e
end
end K75

set_option maxHeartbeats 8000000
/-! Turing.__init__ -/
namespace K75
open PySem PySem.Spec PyProof.Rows L2
abbrev RlAt (H : Hp) (a : Addr) (r : Rl) : Prop := H a = some (.tup [.int r.s, .int r.b, .int r.w, .int r.m, .int r.f])
theorem tk_inj {s b s' b' : Int} (h : tk s b = tk s' b') : s = s' ∧ b = b' := by
  injection h with h1 h2
  injection h2 with h3 h4
  exact ⟨Sum.inl.inj h1, Sum.inl.inj h3⟩
theorem TabIs.byT {H H' : Hp} {kvs : List (List Key × V)} {tab : Tab} (t : TabIs H kvs tab) (e : Tk H H') : TabIs H' kvs tab :=
  ⟨t.no, fun s b w m f h => let ⟨p, h1, h2⟩ := t.yes s b w m f h; ⟨p, h1, e _ _ h2⟩⟩
theorem ref_at {as : List Addr} {i : Nat} {x : V} (h : (as.map V.ref)[i]? = some x) : ∃ a, as[i]? = some a ∧ x = .ref a := by
  rw [List.getElem?_map] at h
  cases e : as[i]? with
  | none => rw [e] at h; cases h
  | some a => rw [e] at h; exact ⟨a, rfl, (Option.some.inj h).symm⟩
theorem tyes {σ : L2.St} {H : Hp} {A B : Hp → Prop} (h : A H) : tYes σ H (fun b H3 => if b = true then A H3 else B H3) := by
  show if true = true then A H else B H
  rw [if_pos rfl]
  exact h
/-- one more entry -/
theorem TabIs.put {H : Hp} {kvs : List (List Key × V)} {tab : Tab} (T : TabIs H kvs tab) (r : Rl) {t : Addr} (ht : H t = some (.tup [.int r.w, .int r.m, .int r.f])) : TabIs H (putK kvs (tk r.s r.b) (.ref t)) (tabAdd tab r) := by
  refine ⟨fun s b h => ?_, fun s b w m f h => ?_⟩
  · unfold tabAdd at h
    by_cases e : s = r.s ∧ b = r.b
    · rw [if_pos e] at h; cases h
    · rw [if_neg e] at h
      rw [valV_put, if_neg (fun z => e (tk_inj z))]
      exact T.no s b h
  · unfold tabAdd at h
    by_cases e : s = r.s ∧ b = r.b
    · rw [if_pos e] at h
      cases h
      obtain ⟨e1, e2⟩ := e
      subst e1 e2
      exact ⟨t, by rw [valV_put, if_pos rfl], ht⟩
    · rw [if_neg e] at h
      obtain ⟨t', h1, h2⟩ := T.yes s b w m f h
      exact ⟨t', by rw [valV_put, if_neg (fun z => e (tk_inj z))]; exact h1, h2⟩
/-- the keys are pairs of small ints, each with its entry in the table -/
def KeysOk (B : Int) (tab : Tab) (kvs : List (List Key × V)) : Prop := ∀ kv ∈ kvs, ∃ s b : Int, kv.1 = tk s b ∧ (0 ≤ s ∧ s < B) ∧ (0 ≤ b ∧ b < B) ∧ ∃ w m f, tab s b = some (w, m, f)
theorem mem_putK {kvs : List (List Key × V)} {k : List Key} {v : V} {kv : List Key × V} (h : kv ∈ putK kvs k v) : kv.1 = k ∨ kv ∈ kvs := by
  unfold putK at h
  split at h
  · obtain ⟨y, hy, e⟩ := List.mem_map.mp h
    by_cases c : y.1 = k
    · rw [if_pos c] at e; rw [← e]; exact .inl c
    · rw [if_neg c] at e; rw [← e]; exact .inr hy
  · rcases List.mem_append.mp h with z | z
    · exact .inr z
    · have : kv = (k, v) := by simpa using z
      rw [this]; exact .inl rfl
theorem KeysOk.put {B : Int} {tab : Tab} {kvs : List (List Key × V)} (h : KeysOk B tab kvs) (r : Rl) (v : V) (hs : 0 ≤ r.s ∧ r.s < B) (hb : 0 ≤ r.b ∧ r.b < B) : KeysOk B (tabAdd tab r) (putK kvs (tk r.s r.b) v) := by
  intro kv hkv
  rcases mem_putK hkv with z | z
  · exact ⟨r.s, r.b, z, hs, hb, r.w, r.m, r.f, by unfold tabAdd; rw [if_pos ⟨rfl, rfl⟩]⟩
  · obtain ⟨s, b, e, h1, h2, w, m, f, h3⟩ := h kv z
    refine ⟨s, b, e, h1, h2, ?_⟩
    unfold tabAdd
    by_cases c : s = r.s ∧ b = r.b
    · exact ⟨r.w, r.m, r.f, by rw [if_pos c]⟩
    · exact ⟨w, m, f, by rw [if_neg c]; exact h3⟩
theorem valV_some {kvs : List (List Key × V)} {kv : List Key × V} (h : kv ∈ kvs) : ∃ v, valV kvs kv.1 = some v := by
  have e := valV_any kv.1 kvs
  have : (kvs.any fun q => decide (q.1 = kv.1)) = true := List.any_eq_true.mpr ⟨kv, h, decide_eq_true rfl⟩
  rw [this] at e
  cases q : valV kvs kv.1 with
  | none => rw [q] at e; cases e
  | some v => exact ⟨v, rfl⟩
def spTInit (CT : Addr) : Sp := fun vs H Q _ => ∃ (p dx l : Addr) (n k : Nat) (as : List Addr) (rs : List Rl), vs = [.ref p, .int n, .int k, .ref l] ∧ H p = some (.ins CT dx []) ∧ 1 ≤ n ∧ n ≤ 60 ∧ 2 ≤ k ∧ k ≤ 60 ∧ H l = some (.lst (as.map V.ref)) ∧ Each (RlAt H) as rs ∧ rs.length < 60 ∧
  (∀ r ∈ rs, RlOk n k r) ∧ Apart rs ∧ ∀ H', ExB p H H' → TMach CT H' p (tabOf rs) → Q .non H'
section
variable {P : Program} {w : World} {K : PySem.W.Frag} {mg : Str → Option Value} {base : Heap} {CR CT CK : Addr}
theorem scTI : FnScope ["self", "states", "symbols", "rules", "table", "state", "symbol", "written", "move", "following", "pair"] ["self", "states", "symbols", "rules"] (defScope sTInit) := ⟨rfl, rfl, rfl, by decide +kernel, rfl, by decide +kernel, by decide +kernel⟩
theorem ok_tinit {f : Addr} {fd : FuncData} (F : FD K "__init__" "Turing.__init__" sTInit f fd) (T : Txt K mg CR CT CK) : FnOk P w K mg base CX0 1 f fd ["self", "states", "symbols", "rules"] (spTInit CT) := by
  refine FD.fok F scTI (fun vs H Q E h => ?_) (fun A outer s H vs Q E hr h => ?_)
  · obtain ⟨p, dx, l, n, k, as, rs, rfl, _⟩ := h
    rfl
  · obtain ⟨p, dx, l, n, k, as, rs, rfl, hp, hn1, hn2, hk1, hk2, hl, he, hlen, hrs, hap, kont⟩ := h
    have hu := hu_of hr
    refine ⟨_, pss_cons (ps_if (PW.pt (pw_or (pt_not (pt_chain op_le op_le pe_int (pv 1) (C8.pe_gc rfl T.mSta))) (pw_or1 (pt_not (pt_chain op_le op_le pe_int (pv 2) (C8.pe_gc rfl T.mSym)))))) pss_never pss_nil) <|
      pss_cons (ps_set (i := 4) scTI.nd rfl (.inr rfl) pe_dnewT) <|
      pss_cons (ps_for PassesOwn.never rfl (pi_list (pv 3)) (pg_tup (by rfl) (pgs_cons (pg_name (i := 5) scTI.nd rfl (.inl rfl)) (pgs_cons (pg_name (i := 6) scTI.nd rfl (.inl rfl)) (pgs_cons (pg_name (i := 7) scTI.nd rfl (.inl rfl)) (pgs_cons (pg_name (i := 8) scTI.nd rfl (.inl rfl)) (pgs_cons (pg_name (i := 9) scTI.nd rfl (.inl rfl)) pgs_nil))))))
        (pss_cons (ps_if (PW.pt (pw_or (pt_not (pt_chain op_le op_lt pe_int (pv 5) (pv 1))) (pw_or1 (pt_not (pt_chain op_le op_lt pe_int (pv 9) (pv 1)))))) pss_never pss_nil) <|
        pss_cons (ps_if (PW.pt (pw_or (pt_not (pt_chain op_le op_lt pe_int (pv 6) (pv 2))) (pw_or (pt_not (pt_chain op_le op_lt pe_int (pv 7) (pv 2))) (pw_or1 (pt_cmpR op_notIn_seq (pv 8) (pe_tup (pa_cons (pe_un un_neg pe_int) (pa_cons pe_int (pa_cons pe_int pa_nil)))) (by rfl)))))) pss_never pss_nil) <|
        pss_cons (ps_if (pt_cmp (pc_din hu (pe_tup (pa_cons (pv 5) (pa_cons (pv 6) pa_nil))) (pv 4))) pss_never pss_nil) <|
        pss_one (ps_dput hu (pv 4) (pe_tup (pa_cons (pv 5) (pa_cons (pv 6) pa_nil))) (pe_tup (pa_cons (pv 7) (pa_cons (pv 8) (pa_cons (pv 9) pa_nil)))) rfl))) <|
      pss_cons (ps_fld (pv 0) (pv 1) rfl) <| pss_cons (ps_fld (pv 0) (pv 2) rfl) <| pss_cons (ps_fld (pv 0) (pv 4) rfl) <|
      pss_one (ps_fld (pv 0) (pe_callTy call_tuple_of (by rfl) T.tup (by decide +kernel) (pa_cons (pe_lc (own := [("pair", 10)]) (g := gName 10) (tt := tYes) (by rfl) scTI.nd (pi_list (pe_callB (cr_sortedDT (by rfl)) (by rfl) T.srt (by decide +kernel) (pa_cons (pv 4) pa_nil)))
        (blkOk_by (own := [("pair", 10)]) (N := ["self", "states", "symbols", "rules", "table", "state", "symbol", "written", "move", "following", "pair"]) (sc := defScope sTInit) (by decide +kernel))
        (fun _ _ _ _ _ => pg_name (i := 10) scTI.nd rfl (Or.inl rfl)) (fun _ _ _ _ _ => pts_nil) (fun _ _ _ _ _ => pe_op op_catB (pv 10) (pe_dget hu (pv 4) (pv 10) (fun _ _ => rfl)))) pa_nil)) rfl), ?_⟩
    -- the bounds
    refine ⟨_, rfl, _, _, rfl, rfl, _, rfl, ?_⟩
    rw [decide_eq_true (by omega)]
    refine iteT ⟨_, _, rfl, rfl, _, rfl, ?_⟩
    rw [decide_eq_true (by omega)]
    refine iteF ?_
    refine ⟨_, rfl, _, _, rfl, rfl, _, rfl, ?_⟩
    rw [decide_eq_true (by omega)]
    refine iteT ⟨_, _, rfl, rfl, _, rfl, ?_⟩
    rw [decide_eq_true (by omega)]
    refine iteF ?_
    -- table = {}
    intro d hd
    have e1 : ∀ o, Ex H (upd H d o) := fun o => Ex.new hd
    refine ⟨_, rfl, l, rfl, ⟨_, SqL.of ((e1 _).lst hl)⟩, for_list (K := K) (a := l) (xs := as.map V.ref) (fun i σ H' => ∃ v5 v6 v7 v8 v9 kvs, σ = [some (.ref p), some (.int n), some (.int k), some (.ref l), some (.ref d), v5, v6, v7, v8, v9, none] ∧ Ex H H' ∧ H' d = some (.dT kvs) ∧
        TabIs H' kvs (tabOf (rs.take i)) ∧ KeysOk 60 (tabOf (rs.take i)) kvs ∧ kvs.length ≤ i)
      ⟨none, none, none, none, none, [], rfl, e1 _, upd_same, ⟨fun s b h => rfl, fun s b w m f h => (by cases h)⟩, (fun kv h => by cases h), Nat.le_refl _⟩
      (fun i σ H' _ ⟨_, _, _, _, _, _, _, x1, _⟩ => SqL.of (x1.lst hl)) ?_ ?_⟩
    · -- a turn
      rintro i x σ H1 hx ⟨v5, v6, v7, v8, v9, kvs, rfl, x1, hd1, hT, hK, hlk⟩
      obtain ⟨a, ha, rfl⟩ := ref_at hx
      obtain ⟨r, hri, hra⟩ := he.get' ha
      have hr1 := x1.tup hra
      have ok := hrs r (List.mem_of_getElem? hri)
      have hi : i < rs.length := (List.getElem?_eq_some_iff.mp hri).1
      refine ⟨a, _, rfl, SqT.of hr1, rfl, _, _, rfl, _, _, rfl, _, _, rfl, _, _, rfl, _, _, rfl, rfl, ?_⟩
      refine ⟨_, rfl, _, _, rfl, rfl, _, rfl, ?_⟩
      rw [decide_eq_true ok.s.1]
      refine iteT ⟨_, rfl, _, _, rfl, rfl, _, rfl, ?_⟩
      rw [decide_eq_true ok.s.2]
      refine iteF ?_
      refine ⟨_, rfl, _, _, rfl, rfl, _, rfl, ?_⟩
      rw [decide_eq_true ok.f.1]
      refine iteT ⟨_, rfl, _, _, rfl, rfl, _, rfl, ?_⟩
      rw [decide_eq_true ok.f.2]
      refine iteF ?_
      refine ⟨_, rfl, _, _, rfl, rfl, _, rfl, ?_⟩
      rw [decide_eq_true ok.b.1]
      refine iteT ⟨_, rfl, _, _, rfl, rfl, _, rfl, ?_⟩
      rw [decide_eq_true ok.b.2]
      refine iteF ?_
      refine ⟨_, rfl, _, _, rfl, rfl, _, rfl, ?_⟩
      rw [decide_eq_true ok.w.1]
      refine iteT ⟨_, rfl, _, _, rfl, rfl, _, rfl, ?_⟩
      rw [decide_eq_true ok.w.2]
      refine iteF ?_
      refine ⟨_, rfl, _, rfl, by show 3 ≤ sizeLine; decide, fun q0 hq0 => ?_⟩
      have y1 : ∀ o, Ex H1 (upd H1 q0 o) := fun o => Ex.new hq0
      refine ⟨q0, _, rfl, .inr (SqT.of upd_same), rfl, rfl, false, ?_, ?_⟩
      · rcases ok.m with z | z | z <;> rw [z] <;> rfl
      refine iteF ?_
      refine ⟨_, rfl, _, rfl, by show 2 ≤ sizeLine; decide, fun q1 hq1 => ?_⟩
      have y2 : ∀ o, Ex H1 (upd (upd H1 q0 (.tup [.int (-1), .int 0, .int 1])) q1 o) := fun o => (y1 _).trans (Ex.new hq1)
      refine ⟨_, rfl, d, _, rfl, DGet.t (k := tk r.s r.b) ((y2 _).dT hd1) upd_same, _, rfl, ?_⟩
      rw [hT.no _ _ (apart_new hap hri)]
      refine iteF ?_
      refine ⟨_, rfl, _, rfl, _, rfl, by show 3 ≤ sizeLine; decide, fun t ht => ?_⟩
      have y3 : ∀ o, Ex H1 (upd (upd (upd H1 q0 (.tup [.int (-1), .int 0, .int 1])) q1 (.tup [.int r.s, .int r.b])) t o) := fun o => (y2 _).trans (Ex.new ht)
      refine ⟨_, rfl, _, rfl, _, rfl, by show 2 ≤ sizeLine; decide, fun q2 hq2 => ?_⟩
      have y4 : ∀ o, Ex (upd (upd (upd H1 q0 (.tup [.int (-1), .int 0, .int 1])) q1 (.tup [.int r.s, .int r.b])) t (.tup [.int r.w, .int r.m, .int r.f])) (upd (upd (upd (upd H1 q0 (.tup [.int (-1), .int 0, .int 1])) q1 (.tup [.int r.s, .int r.b])) t (.tup [.int r.w, .int r.m, .int r.f])) q2 o) := fun o => Ex.new hq2
      have y5 := (y3 _).trans (y4 (.tup [.int r.s, .int r.b]))
      have hd5 := y5.dT hd1
      refine ⟨d, _, rfl, DPut.t (k := tk r.s r.b) hd5 upd_same (Nat.lt_of_le_of_lt hlk (Nat.lt_trans hi (Nat.lt_trans hlen (by decide)))), ?_⟩
      refine ⟨_, _, _, _, _, _, rfl, (x1.trans y5).put hd, upd_same, ?_, ?_, Nat.le_trans (length_putK _ _ _) (Nat.succ_le_succ hlk)⟩
      · rw [tabOf_next hri]
        exact ((hT.ex y5).put r ((y4 _).tup upd_same)).byT (Tk.putD hd5)
      · rw [tabOf_next hri]
        exact hK.put r _ ⟨ok.s.1, by have := ok.s.2; omega⟩ ⟨ok.b.1, by have := ok.b.2; omega⟩
    · -- behind the loop
      rintro σ H1 ⟨v5, v6, v7, v8, v9, kvs, rfl, x1, hd1, hT, hK, hlk⟩
      rw [List.length_map, he.len] at hT hK hlk
      rw [List.take_of_length_le (Nat.le_refl _)] at hT hK
      have hp1 := x1.ins hp
      have ndp : d ≠ p := ne_of hd1 hp1 (by intro z; cases z)
      refine ⟨_, rfl, _, rfl, p, CT, dx, [], rfl, hp1, T.cT, T.tStates, by show 0 < 1000; decide, ?_⟩
      refine ⟨_, rfl, _, rfl, p, CT, dx, _, rfl, upd_same, T.cT, T.tSymbols, by show 1 < 1000; decide, ?_⟩
      refine ⟨_, rfl, _, rfl, p, CT, dx, _, rfl, upd_same, T.cT, T.tTable, Nat.lt_of_le_of_lt (length_putF _ _ _) (by show 1 + 1 < 1000; decide), ?_⟩
      rw [upd_upd, upd_upd]
      generalize hfs : putF ("table" : Str) (V.ref d) (putF ("symbols" : Str) (V.int k) (putF ("states" : Str) (V.int n) [])) = fs
      have fl : fs.length ≤ 3 := by
        rw [← hfs]
        exact Nat.le_trans (length_putF _ _ _) (Nat.succ_le_succ (Nat.le_trans (length_putF _ _ _) (Nat.succ_le_succ (length_putF _ _ _))))
      have x2 : ∀ o, ExB p H (upd H1 p o) := fun o => x1.exb.put (by rw [hp1]; exact fun z => nomatch z)
      have hd2 : ∀ o, (upd H1 p o) d = some (.dT kvs) := fun o => by rw [upd_ne ndp]; exact hd1
      have hT2 : ∀ o, TabIs (upd H1 p o) kvs (tabOf rs) := fun o => hT.byT (Tk.putI hp1)
      refine ⟨_, rfl, d, kvs, 60, rfl, hd2 _, Nat.lt_of_le_of_lt hlk (by omega), fun kv hkv => ?_, fun L q hL hlL hq => ?_⟩
      · obtain ⟨sv, bv, e, h1, h2, _⟩ := hK kv hkv
        exact ⟨sv, bv, e, h1, h2⟩
      refine ⟨q, rfl, ⟨_, SqL.of upd_same⟩, fun D hD => ?_⟩
      have z2 := Ex.new (o := .lst (L.map V.ref)) hq
      refine lc_list (K := K) (a := q) (xs := L.map V.ref) (fun i H' => Ex (upd (upd H1 p (.ins CT dx fs)) q (.lst (L.map V.ref))) H' ∧ ∃ acc, H' D = some (.lst acc) ∧ acc.length = i)
        ⟨Ex.new hD, [], upd_same, rfl⟩ (fun i H' _ ⟨e, _⟩ => SqL.of (e.lst upd_same)) ?_ ?_
      · rintro i x H3 hx ⟨e3, acc, hacc, hli⟩
        obtain ⟨b, hb, rfl⟩ := ref_at hx
        obtain ⟨kv, hkv, hbt⟩ := hL b (List.mem_of_getElem? hb)
        obtain ⟨sv, bv, ek, h1, h2, w', m', f', htab⟩ := hK kv hkv
        have e4 := z2.trans e3
        obtain ⟨t, ht1, ht2⟩ := (hT2 (.ins CT dx fs)).yes _ _ _ _ _ htab
        have hb3 := e4.tup hbt
        refine ⟨rfl, tyes ?_⟩
        refine ⟨_, rfl, _, rfl, _, rfl, d, _, rfl, (show DGet H3 d (.ref b) (some (.ref t)) from ht1 ▸ ek ▸ DGet.t (k := kv.1) (e4.dT (hd2 _)) hb3), ?_⟩
        refine ⟨b, t, _, _, rfl, rfl, hb3, e4.tup ht2, (by rw [ek]; show 2 + 3 ≤ 1000; decide), fun r H5 e5 h5 => ?_⟩
        refine ⟨acc, e5.lst hacc, Nat.lt_of_le_of_lt (Nat.le_of_eq hli) (small1000 ?_), (e3.trans e5).put hD, _, upd_same, by rw [List.length_append, hli]; rfl⟩
        have : i < (L.map V.ref).length := (List.getElem?_eq_some_iff.mp hx).1
        rw [List.length_map] at this
        omega
      · rintro H3 ⟨e3, acc, hacc, hli⟩
        refine ⟨D, _, rfl, .inl ⟨SqL.of hacc, fun t ht => ?_⟩⟩
        have e4 := z2.trans e3
        have e5 : ∀ o, Ex H3 (upd H3 t o) := fun o => Ex.new ht
        have hp5 := (e5 (.tup acc)).ins (e4.ins (show (upd H1 p (.ins CT dx fs)) p = some (.ins CT dx fs) from upd_same))
        refine ⟨_, rfl, p, CT, dx, _, rfl, hp5, T.cT, T.tRules, Nat.lt_of_le_of_lt fl (by decide), ?_⟩
        refine kont _ (((x2 _).trans (e4.trans (e5 _)).exb).put (by rw [hp5]; exact fun z => nomatch z)) ⟨dx, _, d, kvs, upd_same, ?_, ?_, ?_, ?_, ?_⟩
        · rw [lookup_putF, if_neg (by decide +kernel), ← hfs, lookup_putF, if_pos rfl]
        · rw [lookup_putF, if_neg (by decide +kernel), ← hfs, lookup_putF, if_neg (by decide +kernel), lookup_putF, if_neg (by decide +kernel), lookup_putF, if_neg (by decide +kernel)]
          rfl
        · rw [lookup_putF, if_neg (by decide +kernel), ← hfs, lookup_putF, if_neg (by decide +kernel), lookup_putF, if_neg (by decide +kernel), lookup_putF, if_neg (by decide +kernel)]
          rfl
        · rw [upd_ne ndp]
          exact (e5 _).dT (e4.dT (hd2 _))
        · exact (((hT2 _).ex (e4.trans (e5 _)))).byT (Tk.putI hp5)
end
end K75

set_option maxHeartbeats 8000000
/-! Registers.__init__ -/
namespace K75
open PySem PySem.Spec PyProof.Rows L2
def insPl : Ins → List Int
  | .fin => []
  | .inc _ n => [n]
  | .dec _ n o => [n, o]
theorem insPl_ok {k n : Nat} {x : Ins} (h : InsOk k n x) : (insPl x).all (inR n) = true := by
  cases x with
  | fin => rfl
  | inc r a =>
    obtain ⟨_, h1, h2⟩ := h
    show (inR n a && true) = true
    unfold inR
    rw [decide_eq_true h1, decide_eq_true h2]; rfl
  | dec r a b =>
    obtain ⟨_, ⟨h1, h2⟩, h3, h4⟩ := h
    show (inR n a && (inR n b && true)) = true
    unfold inR
    rw [decide_eq_true h1, decide_eq_true h2, decide_eq_true h3, decide_eq_true h4]; rfl
def spRInit (CR P1 : Addr) : Sp := fun vs H Q _ => ∃ (p dx l : Addr) (k : Nat) (as : List Addr) (ps : List Ins), vs = [.ref p, .int k, .ref l] ∧ H p = some (.ins CR dx []) ∧ 1 ≤ k ∧ k ≤ 100 ∧ H l = some (.lst (as.map V.ref)) ∧ Each (InsAt H) as ps ∧ 1 ≤ ps.length ∧ ps.length ≤ 1000 ∧
  ProgOk k ps ∧ TabG H P1 ∧ ∀ H', ExB p H H' → RMach CR H' p ps → Q .non H'
theorem cells_one {cells : List (Str × Addr)} {c : Addr} (h : cells.lookup ("instructions" : Str) = some c) :
    (cloFrom cells [(Str.ofString ".0", NameKind.local), (Str.ofString "place", NameKind.local), (Str.ofString "instructions", NameKind.free), (Str.ofString "len", NameKind.globalImplicit)] []).lookup ("instructions" : Str) = some c := by
  show (List.lookup ("instructions" : Str) [((Str.ofString "instructions"), (cells.lookup (Str.ofString "instructions")).getD 0)]) = some c
  rw [h]
  rfl
section
variable {P : Program} {w : World} {K : PySem.W.Frag} {mg : Str → Option Value} {base : Heap} {CR CT CK : Addr}
theorem scRI : FnScope ["self", "count", "instructions", "instruction", "places"] ["self", "count", "instructions"] (defScope sRInit) := ⟨rfl, rfl, rfl, by decide +kernel, rfl, by decide +kernel, by decide +kernel⟩
theorem ok_rinit {f c1 P1 : Addr} {fd : FuncData} (F : FD K "__init__" "Registers.__init__" sRInit f fd) (T : Txt K mg CR CT CK) (TB : GxR.TabB base mg c1 P1) (hcd : fd.code = .ref c1) : FnOk P w K mg base CX0 1 f fd ["self", "count", "instructions"] (spRInit CR P1) := by
  refine FD.fok F scRI (fun vs H Q E h => ?_) (fun A outer s H vs Q E hr h => ?_)
  · obtain ⟨p, dx, l, k, as, ps, rfl, _⟩ := h
    rfl
  · obtain ⟨p, dx, l, k, as, ps, rfl, hp, hk1, hk2, hl, he, hn1, hn2, hok, hTG, kont⟩ := h
    refine ⟨_, pss_cons (ps_if (PW.pt (pw_or (pt_not (pt_chain op_le op_le pe_int (pv 1) (C8.pe_gc rfl T.mReg))) (pw_or1 (pt_not (pt_chain op_le op_le pe_int (pe_callB call_len_seq (by rfl) T.len PySem.boot_len (pa_cons (pv 2) pa_nil)) (C8.pe_gc rfl T.mIns)))))) pss_never pss_nil) <|
      pss_cons (ps_for PassesOwn.never rfl (pi_list (pv 2)) (pg_name (i := 3) scRI.nd rfl (.inl rfl))
        (pss_one (ps_if (pt_cmpR op_ne (pe_ix ix_tup (pv 3) pe_int (fun _ _ => rfl)) pe_str (nomark _))
          (pss_cons (ps_set (i := 4) scRI.nd rfl (.inl rfl) (pe_slice sl_tupB (pv 3) (po_some pe_int) po_none)) <|
          pss_one (ps_if (PW.pt (pw_or (pt_not (pt_chain op_le op_lt pe_int (pe_ix ix_tup (pv 3) pe_int (fun _ _ => rfl)) (pv 1))) (pw_or1 (pt_not (pt_val (pe_allP (iy := 2) hr rfl T.all (by decide +kernel) TB hcd ⟨rfl, rfl, by decide +kernel, rfl, rfl, ?_⟩ (pv 4) rfl rfl rfl rfl T.len ?_ (by decide) (by decide) (by decide))))))) pss_never pss_nil))
          pss_nil))) <|
      pss_cons (ps_fld (pv 0) (pv 1) rfl) <|
      pss_one (ps_fld (pv 0) (pe_callTy call_tuple_of (by rfl) T.tup (by decide +kernel) (pa_cons (pv 2) pa_nil)) rfl), ?_⟩
    · intro y hy hfr
      rcases List.mem_cons.mp hy with z | hy
      · rw [z] at hfr; cases hfr
      rcases List.mem_cons.mp hy with z | hy
      · rw [z] at hfr; cases hfr
      rcases List.mem_cons.mp hy with z | hy
      · rw [z]
        exact cell_has (sc := defScope sRInit) rfl
      rcases List.mem_cons.mp hy with z | hy
      · rw [z] at hfr; cases hfr
      · cases hy
    · exact fun c hc => cells_one hc
    · -- the bounds
      refine ⟨_, rfl, _, _, rfl, rfl, _, rfl, ?_⟩
      rw [decide_eq_true (by omega)]
      refine iteT ⟨_, _, rfl, rfl, _, rfl, ?_⟩
      rw [decide_eq_true (by omega)]
      refine iteF ?_
      have hlen : (as.map V.ref).length = ps.length := by rw [List.length_map, he.len]
      refine ⟨_, rfl, l, _, rfl, .inl (SqL.of hl), _, _, rfl, rfl, _, rfl, ?_⟩
      rw [hlen, decide_eq_true (by omega)]
      refine iteT ⟨_, _, rfl, rfl, _, rfl, ?_⟩
      rw [decide_eq_true (by omega)]
      refine iteF ?_
      -- the loop
      refine ⟨_, rfl, l, rfl, ⟨_, SqL.of hl⟩, for_list (K := K) (a := l) (xs := as.map V.ref) (fun i σ H' => ∃ v3 v4, σ = [some (.ref p), some (.int k), some (.ref l), v3, v4] ∧ Ex H H')
        ⟨none, none, rfl, Ex.refl H⟩ (fun i σ H' _ ⟨_, _, _, x1⟩ => SqL.of (x1.lst hl)) ?_ ?_⟩
      · rintro i x σ H1 hx ⟨v3, v4, rfl, x1⟩
        obtain ⟨a, ha, rfl⟩ := ref_at hx
        obtain ⟨I, hI, haI⟩ := he.get' ha
        have hI1 : InsAt H1 a I := x1.tup haI
        have io := hok I (List.mem_of_getElem? hI)
        have main : ∀ (r : Int) (pl : List Int) (z : Str), insV I = .str z :: .int r :: pl.map V.int → insPl I = pl → (0 ≤ r ∧ r < (k : Int)) → ¬ z = "end" → (gName 3) (V.ref a) [some (.ref p), some (.int k), some (.ref l), v3, v4] H1 fun σ2 H2 => 
            (tIfS (tTest (tOp rNe (tOp (rIxT K) (tVar 3) (tC (V.int 0))) (tC (V.str "end"))))
              (tSeq (tAsg (tSl rSlB (tVar 3) (tPart (tC (V.int 2))) tNoPart) (gName 4))
                (tIfS (tOr (tNot (tTest (tChain (rI0 fun i j => V.bl (decide (i ≤ j))) (rI0 fun i j => V.bl (decide (i < j))) (tC (V.int 0)) (tOp (rIxT K) (tVar 3) (tC (V.int 1))) (tVar 1))))
                  (tNot (tB (tAllP K P1 2 (tVar 4))))) tNever tNext)) tNext)
              { nx := fun σ H' => ∃ v3 v4, σ = [some (.ref p), some (.int k), some (.ref l), v3, v4] ∧ Ex H H', rt := Q, bk := fun _ _ => False, ct := fun _ _ => False } σ2 H2 := by
          intro r pl z ev epl hr0 hz
          have hI2 : H1 a = some (.tup (.str z :: .int r :: pl.map V.int)) := by rw [← ev]; exact hI1
          refine ⟨_, rfl, a, _, _, _, rfl, rfl, SqT.of hI2, atI_nat (j := 0) rfl, rfl, _, rfl, ?_⟩
          rw [decide_eq_false (fun y => hz (by injection y))]
          refine iteT ?_
          refine ⟨_, rfl, _, rfl, a, _, rfl, hI2, fun q H2 e2 h2 => ?_⟩
          have c2 : cutV (.str z :: .int r :: pl.map V.int) (some 2) none = pl.map V.int := cutV_drop _ 2
          rw [c2] at h2
          have x2 := x1.trans e2
          refine ⟨_, rfl, a, _, _, _, rfl, rfl, SqT.of (e2.tup hI2), atI_nat (j := 1) rfl, _, _, rfl, rfl, _, rfl, ?_⟩
          rw [decide_eq_true hr0.1]
          refine iteT ⟨_, rfl, _, _, rfl, rfl, _, rfl, ?_⟩
          rw [decide_eq_true hr0.2]
          refine iteF ?_
          refine ⟨_, rfl, q, pl, _, rfl, SqT.of h2, x2.tab _ hTG, ⟨l, _, rfl, SqL.of (x2.lst hl), ?_, rfl⟩, fun H3 hT3 => ⟨_, rfl, ?_⟩⟩
          · rw [hlen]; omega
          · rw [hlen, ← epl, insPl_ok io]
            refine iteF ?_
            exact ⟨_, _, rfl, x2.trans (Ex.tabbed hT3 (x2.tab _ hTG))⟩
        cases hIe : I with
        | fin =>
          rw [hIe] at hI1
          refine ⟨_, rfl, a, _, _, _, rfl, rfl, SqT.of hI1, atI_nat (j := 0) rfl, rfl, _, rfl, iteF ?_⟩
          exact ⟨_, _, rfl, x1⟩
        | inc r n =>
          have io2 := io
          rw [hIe] at io2
          exact main r [n] "inc" (by rw [hIe]; rfl) (by rw [hIe]; rfl) io2.1 (by decide +kernel)
        | dec r n o =>
          have io2 := io
          rw [hIe] at io2
          exact main r [n, o] "dec" (by rw [hIe]; rfl) (by rw [hIe]; rfl) io2.1 (by decide +kernel)
      · rintro σ H1 ⟨v3, v4, rfl, x1⟩
        have hp1 := x1.ins hp
        have nlp : l ≠ p := ne_of hl hp (by intro z; cases z)
        refine ⟨_, rfl, _, rfl, p, CR, dx, [], rfl, hp1, T.cR, T.rCount, by show 0 < 1000; decide, ?_⟩
        have hl2 : ∀ o, (upd H1 p o) l = some (.lst (as.map V.ref)) := fun o => by rw [upd_ne nlp]; exact x1.lst hl
        refine ⟨_, rfl, l, _, rfl, .inl ⟨SqL.of (hl2 _), fun t ht => ?_⟩⟩
        have ntp : p ≠ t := fun z => by rw [← z, upd_same] at ht; cases ht
        refine ⟨_, rfl, p, CR, dx, _, rfl, (by rw [upd_ne ntp]; exact upd_same), T.cR, T.rIns, Nat.lt_of_le_of_lt (length_putF _ _ _) (by show 0 + 1 < 1000; decide), ?_⟩
        have e4 := Ex.new (o := .tup (as.map V.ref)) ht
        have x3 : ∀ o, ExB p H (upd H1 p o) := fun o => x1.exb.put (by rw [hp1]; exact fun z => nomatch z)
        refine kont _ (((x3 _).trans e4.exb).put (by rw [upd_ne ntp, upd_same]; exact fun z => nomatch z)) ⟨dx, _, t, as, upd_same, ?_, ?_, ?_, ?_⟩
        · rw [lookup_putF, if_pos rfl]
        · rw [lookup_putF, if_neg (by decide +kernel), lookup_putF, if_neg (by decide +kernel)]
          rfl
        · rw [upd_ne ntp.symm]; exact upd_same
        · refine he.mono fun b c hb => ?_
          have h1 : Tk H1 (upd H1 p (.ins CR dx (putF "count" (.int k) []))) := Tk.putI hp1
          have h2 : Tk (upd (upd H1 p (.ins CR dx (putF "count" (.int k) []))) t (.tup (as.map V.ref))) (upd (upd (upd H1 p (.ins CR dx (putF "count" (.int k) []))) t (.tup (as.map V.ref))) p (.ins CR dx (putF "instructions" (.ref t) (putF "count" (.int k) [])))) := Tk.putI (C := CR) (dx := dx) (fs := putF "count" (.int k) []) (by rw [upd_ne ntp]; exact upd_same)
          exact h2 _ _ (e4.tup (h1 _ _ (x1.tup hb)))
end
end K75

set_option maxHeartbeats 8000000
/-! Track.__init__, for both kinds -/
namespace K75
open PySem PySem.Spec PyProof.Rows L2
/-- a track stands at p -/
structure TrackAt {α : Type} (CK : Addr) (CF : Hp → Addr → α → Prop) (H : Hp) (p m : Addr) (as : List Addr) (cs : List α) (hs : List Int) : Prop where
  ex : ∃ dx fs l g, H p = some (.ins CK dx fs) ∧ fs.lookup ("machine" : Str) = some (.ref m) ∧ fs.lookup ("run" : Str) = some (.ref l) ∧ fs.lookup ("heads" : Str) = some (.ref g) ∧
    fs.lookup ("is_right" : Str) = none ∧ fs.lookup ("grows" : Str) = none ∧ fs.lookup ("shifts" : Str) = none ∧ H l = some (.lst (as.map V.ref)) ∧ Each (CF H) as cs ∧ H g = some (.lst (hs.map V.int))
theorem TrackAt.mono {α : Type} {CK : Addr} {CF : Hp → Addr → α → Prop} {H H' : Hp} {p m : Addr} {as : List Addr} {cs : List α} {hs : List Int} (t : TrackAt CK CF H p m as cs hs) (e : Ex H H') (hC : ∀ H H' a c, Tk H H' → CF H a c → CF H' a c) : TrackAt CK CF H' p m as cs hs := by
  obtain ⟨dx, fs, l, g, h1, h2, h3, h4, h5, h6, h7, h8, h9, h10⟩ := t.ex
  exact ⟨dx, fs, l, g, e.ins h1, h2, h3, h4, h5, h6, h7, e.lst h8, h9.mono fun a c z => hC _ _ _ _ e.tk z, e.lst h10⟩
def spKInit {α : Type} (CK : Addr) (M : Hp → Addr → Prop) (CF : Hp → Addr → α → Prop) (Pre : α → Prop) (step : α → Option α) (Hd : α → List α → List Int → Prop) : Sp := fun vs H Q _ => ∃ (H0 : Hp) (p dx m a : Addr) (n : Nat) (c : α), vs = [.ref p, .ref m, .ref a, .int n] ∧ Ex H0 H ∧ H0 p = none ∧ H p = some (.ins CK dx []) ∧
  n ≤ 200 ∧ M H0 m ∧ CF H0 a c ∧ (∀ i x, i ≤ n → orb step c i = some x → Pre x) ∧ ∀ as cs hs H', Ex H0 H' → TrackAt CK CF H' p m as cs hs → IsRun step c n cs → Hd c cs hs → Q .non H'
/-- the heads of a run -/
def HeadsT (tab : Tab) (c : TC) (cs : List TC) (hs : List Int) : Prop := hs.length = cs.length ∧ ∀ i, i < cs.length → hs[i]? = some (hgt tab c i)
section
variable {P : Program} {w : World} {K : PySem.W.Frag} {mg : Str → Option Value} {base : Heap} {CR CT CK : Addr}
theorem nRM : ¬ (("run" : Str) = "machine") := by decide +kernel
theorem nHM : ¬ (("heads" : Str) = "machine") := by decide +kernel
theorem nHR : ¬ (("heads" : Str) = "run") := by decide +kernel
theorem nMR : ¬ (("machine" : Str) = "run") := by decide +kernel
theorem nMH : ¬ (("machine" : Str) = "heads") := by decide +kernel
theorem nRH : ¬ (("run" : Str) = "heads") := by decide +kernel
/-- the fields of a track -/
def kf (m l g : Addr) : List (Str × V) := putF "heads" (.ref g) (putF "run" (.ref l) (putF "machine" (.ref m) []))
theorem kf_m (m l g : Addr) : (kf m l g).lookup ("machine" : Str) = some (.ref m) := by unfold kf; rw [lookup_putF, if_neg nMH, lookup_putF, if_neg nMR, lookup_putF, if_pos rfl]
theorem kf_r (m l g : Addr) : (kf m l g).lookup ("run" : Str) = some (.ref l) := by unfold kf; rw [lookup_putF, if_neg nRH, lookup_putF, if_pos rfl]
theorem kf_h (m l g : Addr) : (kf m l g).lookup ("heads" : Str) = some (.ref g) := by unfold kf; rw [lookup_putF, if_pos rfl]
theorem kf_no (m l g : Addr) {x : Str} (h1 : ¬ x = "heads") (h2 : ¬ x = "run") (h3 : ¬ x = "machine") : (kf m l g).lookup x = none := by
  unfold kf; rw [lookup_putF, if_neg h1, lookup_putF, if_neg h2, lookup_putF, if_neg h3]; rfl
theorem scKI : FnScope ["self", "machine", "configuration", "count", "state", "_", "here", "move"] ["self", "machine", "configuration", "count"] (defScope sKInit) := ⟨rfl, rfl, rfl, by decide +kernel, rfl, by decide +kernel, by decide +kernel⟩
theorem ok_kinitR {f : Addr} {fd : FuncData} {k : Nat} {p0 : List Ins} (F : FD K "__init__" "Track.__init__" sKInit f fd) (T : Txt K mg CR CT CK)
    (Z : Cal P w K mg base "history" 3 ["machine", "configuration", "count"] (spHist (fun H m => RMach CR H m p0) RCf (RPre k p0) (rstep p0))) :
    FnOk P w K mg base CX0 4 f fd ["self", "machine", "configuration", "count"] (spKInit CK (fun H m => RMach CR H m p0) RCf (RPre k p0) (rstep p0) (fun _ _ _ => True)) := by
  obtain ⟨f1, fd1, g1, kp1, b1, G1⟩ := Z.ex
  refine FD.fok F scKI (fun vs H Q E h => ?_) (fun A outer s H vs Q E hr h => ?_)
  · obtain ⟨H0, p, dx, m, a, n, c, rfl, _⟩ := h
    rfl
  · obtain ⟨H0, p, dx, m, a, n, c, rfl, x0, p0', hp, hn, hm, hc, hpre, kont⟩ := h
    refine ⟨_, pss_cons (ps_fld (pv 0) (pv 1) rfl) <|
      pss_cons (ps_fld (pv 0) (pe_call G1 hr rfl g1 kp1 b1 .nil pass0 (pa_cons (pv 1) (pa_cons (pv 2) (pa_cons (pv 3) pa_nil)))) rfl) <|
      pss_cons (ps_fld (pv 0) (pe_lst (pa_cons pe_int pa_nil)) rfl) <|
      pss_one (ps_if (pt_val (pe_callB call_isi (by rfl) T.isi (by decide +kernel) (pa_cons (pv 1) (pa_cons (pe_glob (v := .ref CT) rfl T.gT rfl) pa_nil)))) pss_never pss_nil), ?_⟩
    refine ⟨_, rfl, _, rfl, p, CK, dx, [], rfl, hp, T.cK, T.kMachine, by show 0 < 1000; decide, ?_⟩
    have x1 : ∀ o, Ex H0 (upd H p o) := fun o => x0.put p0'
    refine ⟨_, rfl, _, rfl, _, rfl, m, a, n, c, rfl, hn, hm.mono (x1 _), (x1 _).rcf hc, hpre, fun l as cs H2 e2 nl hl he hrun => ?_⟩
    have hp2 := e2.ins (show (upd H p (.ins CK dx (putF "machine" (.ref m) []))) p = some (.ins CK dx (putF "machine" (.ref m) [])) from upd_same)
    refine ⟨_, rfl, p, CK, dx, _, rfl, hp2, T.cK, T.kRun, Nat.lt_of_le_of_lt (length_putF _ _ _) (by show 0 + 1 < 1000; decide), ?_⟩
    have x2 : ∀ o, Ex H0 (upd H2 p o) := fun o => ((x1 _).trans e2).put p0'
    have nlp : l ≠ p := ne_of hl hp2 (by intro z; cases z)
    refine ⟨by show 1 ≤ sizeLine; decide, fun g hg => ?_⟩
    have ngp : p ≠ g := fun z => by rw [← z, upd_same] at hg; cases hg
    have ngl : l ≠ g := fun z => by
      rw [← z, upd_ne nlp, hl] at hg; cases hg
    refine ⟨_, rfl, p, CK, dx, _, rfl, Eq.trans (upd_ne ngp) upd_same, T.cK, T.kHeads, Nat.lt_of_le_of_lt (length_putF _ _ _) (Nat.succ_lt_succ (Nat.lt_of_le_of_lt (length_putF _ _ _) (by show 0 + 1 < 999; decide))), ?_⟩
    have x3 : ∀ o, Ex H0 (upd (upd (upd H2 p (.ins CK dx (putF "run" (.ref l) (putF "machine" (.ref m) [])))) g (.lst [.int 0])) p o) := fun o => ((x2 _).add hg).put p0'
    obtain ⟨dm, fm, hm3, _⟩ : ∃ dm fm, (upd (upd (upd H2 p (.ins CK dx (putF "run" (.ref l) (putF "machine" (.ref m) [])))) g (.lst [.int 0])) p (.ins CK dx (kf m l g))) m = some (.ins CR dm fm) ∧ True := by
      obtain ⟨dm, fm, t, bs, h1, _⟩ := (hm.mono (x3 (.ins CK dx (kf m l g)))).ex
      exact ⟨dm, fm, h1, trivial⟩
    refine ⟨_, rfl, _, _, _, _, _, rfl, .own _, tyR T hm3, T.kRT, _, rfl, iteF ?_⟩
    refine kont as cs [0] _ (x3 _) ⟨dx, _, l, g, upd_same, kf_m m l g, kf_r m l g, kf_h m l g, kf_no m l g (by decide +kernel) (by decide +kernel) (by decide +kernel), kf_no m l g (by decide +kernel) (by decide +kernel) (by decide +kernel),
      kf_no m l g (by decide +kernel) (by decide +kernel) (by decide +kernel), ?_, ?_, ?_⟩ hrun trivial
    · rw [upd_ne nlp, upd_ne ngl, upd_ne nlp]; exact hl
    · refine he.mono fun b z hb => ?_
      have t1 : Tk H2 (upd H2 p (.ins CK dx (putF "run" (.ref l) (putF "machine" (.ref m) [])))) := Tk.putI hp2
      have t2 : Tk _ (upd (upd H2 p (.ins CK dx (putF "run" (.ref l) (putF "machine" (.ref m) [])))) g (.lst [.int 0])) := Tk.new hg
      have t3 : Tk _ (upd (upd (upd H2 p (.ins CK dx (putF "run" (.ref l) (putF "machine" (.ref m) [])))) g (.lst [.int 0])) p (.ins CK dx (kf m l g))) := Tk.putI (C := CK) (dx := dx) (fs := putF "run" (.ref l) (putF "machine" (.ref m) [])) (Eq.trans (upd_ne ngp) upd_same)
      exact t3.rcf (t2.rcf (t1.rcf hb))
    · rw [upd_ne ngp.symm, upd_same]; rfl
end
end K75

set_option maxHeartbeats 8000000
/-! Track.__init__ over a Turing machine -/
namespace K75
open PySem PySem.Spec PyProof.Rows L2
theorem map_dropLast (as : List Addr) : (as.map V.ref).dropLast = as.dropLast.map V.ref := by rw [List.map_dropLast]
section
variable {P : Program} {w : World} {K : PySem.W.Frag} {mg : Str → Option Value} {base : Heap} {CR CT CK : Addr}
theorem ok_kinitT {f : Addr} {fd : FuncData} {tab : Tab} (F : FD K "__init__" "Track.__init__" sKInit f fd) (T : Txt K mg CR CT CK)
    (Z : Cal P w K mg base "history" 3 ["machine", "configuration", "count"] (spHist (fun H m => TMach CT H m tab) TCf (TPre tab) (tstep tab)))
    (Y : CalM P w K mg base CT "rule" 1 ["self", "state", "symbol"] (spRule CT)) :
    FnOk P w K mg base CX0 4 f fd ["self", "machine", "configuration", "count"] (spKInit CK (fun H m => TMach CT H m tab) TCf (TPre tab) (tstep tab) (HeadsT tab)) := by
  obtain ⟨f1, fd1, g1, kp1, b1, G1⟩ := Z.ex
  obtain ⟨f2, fd2, m2, b2, G2⟩ := Y.ex
  refine FD.fok F scKI (fun vs H Q E h => ?_) (fun A outer s H vs Q E hr h => ?_)
  · obtain ⟨H0, p, dx, m, a, n, c, rfl, _⟩ := h
    rfl
  · obtain ⟨H0, p, dx, m, a, n, c, rfl, x0, p0', hp, hn, hm, hc, hpre, kont⟩ := h
    refine ⟨_, pss_cons (ps_fld (pv 0) (pv 1) rfl) <|
      pss_cons (ps_fld (pv 0) (pe_call G1 hr rfl g1 kp1 b1 .nil pass0 (pa_cons (pv 1) (pa_cons (pv 2) (pa_cons (pv 3) pa_nil)))) rfl) <|
      pss_cons (ps_fld (pv 0) (pe_lst (pa_cons pe_int pa_nil)) rfl) <|
      pss_one (ps_if (pt_val (pe_callB call_isi (by rfl) T.isi (by decide +kernel) (pa_cons (pv 1) (pa_cons (pe_glob (v := .ref CT) rfl T.gT rfl) pa_nil))))
        (pss_one (ps_for PassesOwn.never rfl (pi_list (pe_slice sl_list (pe_fld (pv 0) rfl) po_none (po_some (pe_un un_neg pe_int)))) (pg_tup (by rfl) (pgs_cons (pg_name (i := 4) scKI.nd rfl (.inl rfl)) (pgs_cons (pg_name (i := 5) scKI.nd rfl (.inl rfl)) (pgs_cons (pg_name (i := 6) scKI.nd rfl (.inl rfl)) (pgs_cons (pg_name (i := 5) scKI.nd rfl (.inl rfl)) pgs_nil)))))
          (pss_cons (ps_asg (pe_meth (pv 1) T.cT m2 G2 (hr.mono (by decide)) b2 .nil pass0 (pa_cons (pv 4) (pa_cons (pv 6) pa_nil))) (pg_tup (by rfl) (pgs_cons (pg_name (i := 5) scKI.nd rfl (.inl rfl)) (pgs_cons (pg_name (i := 7) scKI.nd rfl (.inl rfl)) (pgs_cons (pg_name (i := 5) scKI.nd rfl (.inl rfl)) pgs_nil))))) <|
          pss_one (ps_expr (pe_bm PySem.F.plainAttrs_list PySem.F.slot_list_append PySem.F.type_list_append mt_append (pe_fld (pv 0) rfl) (pa_cons (pe_op op_add (pe_ix ix_list (pe_fld (pv 0) rfl) (pe_un un_neg pe_int) (fun _ _ => rfl)) (pv 7)) pa_nil)))))) pss_nil), ?_⟩
    refine ⟨_, rfl, _, rfl, p, CK, dx, [], rfl, hp, T.cK, T.kMachine, by show 0 < 1000; decide, ?_⟩
    have x1 : ∀ o, Ex H0 (upd H p o) := fun o => x0.put p0'
    refine ⟨_, rfl, _, rfl, _, rfl, m, a, n, c, rfl, hn, hm.mono (x1 _), (x1 _).tcf hc, hpre, fun l as cs H2 e2 nl hl he hrun => ?_⟩
    have hp2 := e2.ins (show (upd H p (.ins CK dx (putF "machine" (.ref m) []))) p = some (.ins CK dx (putF "machine" (.ref m) [])) from upd_same)
    refine ⟨_, rfl, p, CK, dx, _, rfl, hp2, T.cK, T.kRun, Nat.lt_of_le_of_lt (length_putF _ _ _) (by show 0 + 1 < 1000; decide), ?_⟩
    have x2 : ∀ o, Ex H0 (upd H2 p o) := fun o => ((x1 _).trans e2).put p0'
    have nlp : l ≠ p := ne_of hl hp2 (by intro z; cases z)
    refine ⟨by show 1 ≤ sizeLine; decide, fun g hg => ?_⟩
    have ngp : p ≠ g := fun z => by rw [← z, upd_same] at hg; cases hg
    have ngl : l ≠ g := fun z => by
      rw [← z, upd_ne nlp, hl] at hg; cases hg
    refine ⟨_, rfl, p, CK, dx, _, rfl, Eq.trans (upd_ne ngp) upd_same, T.cK, T.kHeads, Nat.lt_of_le_of_lt (length_putF _ _ _) (Nat.succ_lt_succ (Nat.lt_of_le_of_lt (length_putF _ _ _) (by show 0 + 1 < 999; decide))), ?_⟩
    have x3 : ∀ o, Ex H0 (upd (upd (upd H2 p (.ins CK dx (putF "run" (.ref l) (putF "machine" (.ref m) [])))) g (.lst [.int 0])) p o) := fun o => ((x2 _).add hg).put p0'
    -- the heap behind the three fields
    have hg0 : H0 g = none := (x2 _).free g hg
    generalize hH : (upd (upd (upd H2 p (.ins CK dx (putF "run" (.ref l) (putF "machine" (.ref m) [])))) g (.lst [.int 0])) p (.ins CK dx (putF "heads" (.ref g) (putF "run" (.ref l) (putF "machine" (.ref m) []))))) = H3
    have y3 : Ex H0 H3 := by rw [← hH]; exact x3 _
    have hp3 : H3 p = some (.ins CK dx (kf m l g)) := by rw [← hH]; exact upd_same
    have hl3 : H3 l = some (.lst (as.map V.ref)) := by rw [← hH, upd_ne nlp, upd_ne ngl, upd_ne nlp]; exact hl
    have hg3 : H3 g = some (.lst [.int 0]) := by rw [← hH, upd_ne ngp.symm, upd_same]
    have he3 : Each (TCf H3) as cs := by
      refine he.mono fun b z hb => ?_
      have t1 : Tk H2 (upd H2 p (.ins CK dx (putF "run" (.ref l) (putF "machine" (.ref m) [])))) := Tk.putI hp2
      have t2 : Tk _ (upd (upd H2 p (.ins CK dx (putF "run" (.ref l) (putF "machine" (.ref m) [])))) g (.lst [.int 0])) := Tk.new hg
      have t3 : Tk _ (upd (upd (upd H2 p (.ins CK dx (putF "run" (.ref l) (putF "machine" (.ref m) [])))) g (.lst [.int 0])) p (.ins CK dx (kf m l g))) := Tk.putI (C := CK) (dx := dx) (fs := putF "run" (.ref l) (putF "machine" (.ref m) [])) (Eq.trans (upd_ne ngp) upd_same)
      rw [← hH]
      exact t3.tcf (t2.tcf (t1.tcf hb))
    obtain ⟨dm, fm, hm3, hrl⟩ : ∃ dm fm, H3 m = some (.ins CT dm fm) ∧ fm.lookup ("rule" : Str) = none := by
      obtain ⟨dm, fm, t, bs, h1, _, h3, _⟩ := (hm.mono y3).ex
      exact ⟨dm, fm, h1, h3⟩
    refine ⟨_, rfl, _, _, _, _, _, rfl, .own _, tyT T hm3, T.kTT, _, rfl, iteT ?_⟩
    refine ⟨_, rfl, p, CK, dx, _, _, rfl, hp3, T.cK, T.kRun, kf_r m l g, _, rfl, _, rfl, l, _, rfl, SqL.of hl3, fun q hq => ?_⟩
    have c1 : cutV (as.map V.ref) none (some (-1)) = as.dropLast.map V.ref := by rw [cutV_last, map_dropLast]
    refine ⟨q, rfl, ⟨_, SqL.of upd_same⟩, ?_⟩
    show ∃ W, _
    rw [c1]
    have y4 : Ex H0 (upd H3 q (.lst (as.dropLast.map V.ref))) := y3.add hq
    have nqp : q ≠ p := fun z => by rw [z, hp3] at hq; cases hq
    have nqg : q ≠ g := fun z => by rw [z, hg3] at hq; cases hq
    have nql : q ≠ l := fun z => by rw [z, hl3] at hq; cases hq
    have hlen : as.dropLast.length = cs.length - 1 := by rw [List.length_dropLast, he3.len]
    have hpos := hrun.pos
    refine for_list (K := K) (a := q) (xs := as.dropLast.map V.ref) (fun i σ H' => ∃ v4 v5 v6 v7 hs, σ = [some (.ref p), some (.ref m), some (.ref a), some (.int n), v4, v5, v6, v7] ∧ Ex H0 H' ∧ H' p = some (.ins CK dx (kf m l g)) ∧ H' l = some (.lst (as.map V.ref)) ∧
        H' q = some (.lst (as.dropLast.map V.ref)) ∧ Each (TCf H') as cs ∧ H' g = some (.lst (hs.map V.int)) ∧ hs.length = i + 1 ∧ ∀ k, k < i + 1 → hs[k]? = some (hgt tab c k))
      ⟨none, none, none, none, [0], rfl, y4, by rw [upd_ne nqp.symm]; exact hp3, by rw [upd_ne nql.symm]; exact hl3, upd_same, he3.mono fun _ _ z => (Tk.new hq).tcf z, by rw [upd_ne nqg.symm]; exact hg3, rfl, fun k hk => ?_⟩
      (fun i σ H' _ ⟨_, _, _, _, _, _, _, _, _, h, _⟩ => SqL.of h) ?_ ?_
    · have : k = 0 := by omega
      subst this; rfl
    · rintro i x σ H1 hx ⟨v4, v5, v6, v7, hs, rfl, z1, zp, zl, zq, ze, zg, zh, zv⟩
      obtain ⟨b, hb, rfl⟩ := ref_at hx
      have hi : i < cs.length - 1 := by rw [← hlen]; exact (List.getElem?_eq_some_iff.mp hb).1
      have hba : as[i]? = some b := by
        rw [List.getElem?_dropLast] at hb
        split at hb
        · exact hb
        · cases hb
      obtain ⟨ci, hci, hcb⟩ := ze.get' hba
      obtain ⟨bl, br, hb1, hb2, hb3⟩ := hcb.ex
      have oi := hrun.get hci
      have oi1 : ∃ y, orb (tstep tab) c (i + 1) = some y := by
        have hi1 : i + 1 < cs.length := by omega
        exact ⟨cs[i + 1], by rw [← hrun.at_ _ hi1, List.getElem?_eq_getElem hi1]⟩
      obtain ⟨y, oy⟩ := oi1
      have sy : tstep tab ci = some y := by rw [← oy]; exact (orb_succ oi).symm
      cases et : tab ci.q ci.h with
      | none =>
        unfold tstep at sy
        rw [et] at sy; cases sy
      | some r3 =>
        obtain ⟨wr, mv', fo⟩ := r3
        refine ⟨b, _, rfl, SqT.of hb1, rfl, _, _, rfl, _, _, rfl, _, _, rfl, _, _, rfl, rfl, ?_⟩
        obtain ⟨dm1, fm1, d1, kvs1, hm1, _, hrl1, _⟩ := (hm.mono z1).ex
        refine ⟨_, rfl, m, dm1, fm1, rfl, hm1, hrl1, _, rfl, _, rfl, m, tab, ci.q, ci.h, wr, mv', fo, rfl, hm.mono z1, et, fun t H2' e2' ht => ?_⟩
        refine ⟨t, _, rfl, SqT.of ht, rfl, _, _, rfl, _, _, rfl, _, _, rfl, rfl, ?_⟩
        have zg2 := e2'.lst zg
        have hgk : hs[i]? = some (hgt tab c i) := zv i (by omega)
        refine ⟨_, rfl, p, CK, dx, _, _, rfl, e2'.ins zp, T.cK, T.kHeads, kf_h m l g, .inl ⟨rfl, _, SqL.of zg2⟩, _, rfl, p, CK, dx, _, _, rfl, e2'.ins zp, T.cK, T.kHeads, kf_h m l g, _, rfl, g, _, _, _, rfl, rfl, SqL.of zg2, atI_m1 (by rw [List.length_map]; exact zh) (ints_at hgk), _, rfl, _, _, rfl, rfl, ?_⟩
        have hi200 : i ≤ 200 := by have := hrun.le; omega
        refine ⟨g, _, _, rfl, rfl, zg2, by rw [List.length_map, zh]; exact Nat.lt_of_le_of_lt (by omega : i + 1 ≤ 1000) (by decide), ?_⟩
        have ngq := nqg
        have e6 : Ex H0 (upd H2' g (.lst (hs.map V.int ++ [(fun i j => V.int (i + j)) (hgt tab c i) mv']))) := (z1.trans e2').put hg0
        refine ⟨_, _, _, _, hs ++ [hgt tab c i + mv'], rfl, e6, by rw [upd_ne ngp]; exact e2'.ins zp, by rw [upd_ne ngl]; exact e2'.lst zl, by rw [upd_ne nqg]; exact e2'.lst zq, ze.mono fun _ _ z => (Tk.putL zg2).tcf (e2'.tcf z), ?_, by rw [List.length_append, zh]; rfl, fun k hk => ?_⟩
        · rw [upd_same, List.map_append]; rfl
        · by_cases hk1 : k < i + 1
          · rw [List.getElem?_append_left (by rw [zh]; exact hk1)]; exact zv k hk1
          · have : k = i + 1 := by omega
            subst this
            rw [List.getElem?_append_right (by rw [zh]; exact Nat.le_refl _), zh, Nat.sub_self, hgt_succ oi]
            unfold mv
            rw [et]
            rfl
    · rintro σ H1 ⟨v4, v5, v6, v7, hs, rfl, z1, zp, zl, zq, ze, zg, zh, zv⟩
      rw [List.length_map, hlen] at zh zv
      refine kont as cs hs H1 z1 ⟨dx, _, l, g, zp, kf_m m l g, kf_r m l g, kf_h m l g, kf_no m l g (by decide +kernel) (by decide +kernel) (by decide +kernel), kf_no m l g (by decide +kernel) (by decide +kernel) (by decide +kernel),
        kf_no m l g (by decide +kernel) (by decide +kernel) (by decide +kernel), zl, ze, zg⟩ hrun ⟨by omega, fun i hi => zv i (by omega)⟩
end
end K75

set_option maxHeartbeats 8000000
/-! Track.shifts -/
namespace K75
open PySem PySem.Spec PyProof.Rows L2
theorem dec_ne_int {a b : Int} : (!decide (V.int a = V.int b)) = decide (a ≠ b) := by
  by_cases h : a = b
  · subst h; simp
  · have : ¬ V.int a = V.int b := fun z => h (by injection z)
    rw [decide_eq_false this, decide_eq_true h]; rfl
theorem dec_eq_int {a b : Int} : decide (V.int a = V.int b) = decide (a = b) := by
  by_cases h : a = b
  · subst h; simp
  · have : ¬ V.int a = V.int b := fun z => h (by injection z)
    rw [decide_eq_false this, decide_eq_false h]
def spShifts (CK : Addr) (tab : Tab) : Sp := fun vs H Q _ => ∃ (p m : Addr) (as : List Addr) (cs : List TC) (hs : List Int) (c : TC) (i j n : Nat), vs = [.ref p, .int i, .int j] ∧ TrackAt CK TCf H p m as cs hs ∧ IsRun (tstep tab) c n cs ∧ HeadsT tab c cs hs ∧ TabOk tab ∧
  (∀ x ∈ cs, x.l.length ≤ 400 ∧ x.r.length ≤ 400) ∧ i < j ∧ j < cs.length ∧ cs.length ≤ 201 ∧ ∀ b H', Ex H H' → (b = true → ShiftOk tab c i j) → Q (.bl b) H'
section
variable {P : Program} {w : World} {K : PySem.W.Frag} {mg : Str → Option Value} {base : Heap} {CR CT CK : Addr}
theorem scKS : FnScope ["self", "first", "second", "state", "left", "here", "right", "other", "left_behind", "here_behind", "right_behind", "heads", "way"] ["self", "first", "second"] (defScope sKShifts) := ⟨rfl, rfl, rfl, by decide +kernel, rfl, by decide +kernel, by decide +kernel⟩
theorem ok_shifts {f : Addr} {fd : FuncData} {tab : Tab} (F : FD K "shifts" "Track.shifts" sKShifts f fd) (T : Txt K mg CR CT CK) (Z : Cal P w K mg base "agree" 2 ["first", "second", "count"] spAgree) :
    FnOk P w K mg base CX0 3 f fd ["self", "first", "second"] (spShifts CK tab) := by
  obtain ⟨f1, fd1, g1, kp1, b1, G1⟩ := Z.ex
  refine FD.fok F scKS (fun vs H Q E h => ?_) (fun A outer s H vs Q E hr h => ?_)
  · obtain ⟨p, m, as, cs, hs, c, i, j, n, rfl, _⟩ := h
    rfl
  · obtain ⟨p, m, as, cs, hs, c, i, j, n, rfl, hT, hrun, hHd, hok, hsz, hij, hj, hlen, k⟩ := h
    obtain ⟨dx, fs, l, g, h1, h2, h3, h4, h5, h6, h7, h8, h9, h10⟩ := hT.ex
    refine ⟨_, pss_cons (ps_asg (pe_ix ix_list (pe_fld (pv 0) rfl) (pv 1) (fun _ _ => rfl)) (pg_tup (by rfl) (pgs_cons (pg_name (i := 3) scKS.nd rfl (.inl rfl)) (pgs_cons (pg_name (i := 4) scKS.nd rfl (.inl rfl)) (pgs_cons (pg_name (i := 5) scKS.nd rfl (.inl rfl)) (pgs_cons (pg_name (i := 6) scKS.nd rfl (.inl rfl)) pgs_nil)))))) <|
      pss_cons (ps_asg (pe_ix ix_list (pe_fld (pv 0) rfl) (pv 2) (fun _ _ => rfl)) (pg_tup (by rfl) (pgs_cons (pg_name (i := 7) scKS.nd rfl (.inl rfl)) (pgs_cons (pg_name (i := 8) scKS.nd rfl (.inl rfl)) (pgs_cons (pg_name (i := 9) scKS.nd rfl (.inl rfl)) (pgs_cons (pg_name (i := 10) scKS.nd rfl (.inl rfl)) pgs_nil)))))) <|
      pss_cons (ps_if (PW.pt (pw_or (pt_cmpR op_ne (pv 3) (pv 7) (nomark _)) (pw_or1 (pt_cmpR op_ne (pv 5) (pv 9) (nomark _))))) (pss_one (ps_ret pe_bl)) pss_nil) <|
      pss_cons (ps_set (i := 11) scKS.nd rfl (.inl rfl) (pe_slice sl_list (pe_fld (pv 0) rfl) (po_some (pv 1)) (po_some (pe_op op_add (pv 2) pe_int)))) <|
      pss_cons (ps_set (i := 12) scKS.nd rfl (.inl rfl) (pe_op op_sub (pe_ix ix_list (pv 11) (pe_un un_neg pe_int) (fun _ _ => rfl)) (pe_ix ix_list (pv 11) pe_int (fun _ _ => rfl)))) <|
      C8.pss_cut (ps_if (PW.pt (pw_and (pt_cmpR op_le (pv 12) pe_int (nomark _)) (pw_and1 (pt_not (pt_val (pe_call G1 hr rfl g1 kp1 b1 .nil pass0 (pa_cons (pv 6) (pa_cons (pv 10) (pa_cons (pe_op op_sub (pe_callB (cr_max (by rfl)) (by rfl) T.max (by decide +kernel) (pa_cons (pv 11) pa_nil)) (pe_ix ix_list (pv 11) pe_int (fun _ _ => rfl))) pa_nil))))))))) (pss_one (ps_ret pe_bl)) pss_nil) <|
      C8.pss_cut (ps_if (PW.pt (pw_and (pt_cmpR op_ge (pv 12) pe_int (nomark _)) (pw_and1 (pt_not (pt_val (pe_call G1 hr rfl g1 kp1 b1 .nil pass0 (pa_cons (pv 4) (pa_cons (pv 8) (pa_cons (pe_op op_sub (pe_ix ix_list (pv 11) pe_int (fun _ _ => rfl)) (pe_callB (cr_min (by rfl)) (by rfl) T.min (by decide +kernel) (pa_cons (pv 11) pa_nil))) pa_nil))))))))) (pss_one (ps_ret pe_bl)) pss_nil) <|
      pss_cons (ps_if (pt_cmpR op_gt (pv 12) pe_int (nomark _)) (pss_one (ps_ret (pe_cmpR (op_eqD hr.units) (pv 6) (pv 10) (nomark _)))) pss_nil) <|
      pss_one (ps_ret (pe_or (pe_cmpR op_eq (pv 12) pe_int (nomark _)) (pe_one (pe_cmpR (op_eqD hr.units) (pv 4) (pv 8) (nomark _))))), ?_⟩
    -- the two configurations
    have hi : i < cs.length := by omega
    obtain ⟨ai, hai, ci⟩ := h9.get (List.getElem?_eq_getElem hi)
    obtain ⟨aj, haj, cj⟩ := h9.get (List.getElem?_eq_getElem hj)
    have oi := hrun.get (List.getElem?_eq_getElem hi)
    have oj := hrun.get (List.getElem?_eq_getElem hj)
    have si := hsz _ (List.getElem_mem hi)
    have sj := hsz _ (List.getElem_mem hj)
    generalize cs[i] = x at ci oi si
    generalize cs[j] = y at cj oj sj
    obtain ⟨li, ri, ci1, ci2, ci3⟩ := ci.ex
    obtain ⟨lj, rj, cj1, cj2, cj3⟩ := cj.ex
    refine ⟨_, rfl, p, CK, dx, _, _, rfl, h1, T.cK, T.kRun, h3, _, rfl, l, _, _, _, rfl, rfl, SqL.of h8, atI_nat (refs_at hai), ?_⟩
    refine ⟨ai, _, rfl, SqT.of ci1, rfl, _, _, rfl, _, _, rfl, _, _, rfl, _, _, rfl, rfl, ?_⟩
    refine ⟨_, rfl, p, CK, dx, _, _, rfl, h1, T.cK, T.kRun, h3, _, rfl, l, _, _, _, rfl, rfl, SqL.of h8, atI_nat (refs_at haj), ?_⟩
    refine ⟨aj, _, rfl, SqT.of cj1, rfl, _, _, rfl, _, _, rfl, _, _, rfl, _, _, rfl, rfl, ?_⟩
    -- if state != other or here != here_behind
    refine ⟨_, rfl, _, rfl, rfl, _, rfl, ?_⟩
    by_cases hq : x.q = y.q
    case neg =>
      rw [dec_ne_int, decide_eq_true hq]
      exact iteT (iteT (k false H (Ex.refl H) fun z => by cases z))
    rw [dec_ne_int, decide_eq_false (fun z => z hq)]
    refine iteF ?_
    refine ⟨_, rfl, _, rfl, rfl, _, rfl, ?_⟩
    by_cases hh : x.h = y.h
    case neg =>
      rw [dec_ne_int, decide_eq_true hh]
      exact iteT (k false H (Ex.refl H) fun z => by cases z)
    rw [dec_ne_int, decide_eq_false (fun z => z hh)]
    refine iteF ?_
    -- heads
    have hsl : hs.length = cs.length := hHd.1
    refine ⟨_, rfl, p, CK, dx, _, _, rfl, h1, T.cK, T.kHeads, h4, _, rfl, _, rfl, _, rfl, _, _, rfl, rfl, _, rfl, g, _, rfl, SqL.of h10, fun q hq' => ?_⟩
    have e1 := Ex.new (o := .lst (cutV (hs.map V.int) (some (i : Int)) (some ((j : Int) + 1)))) hq'
    have cs1 : cutV (hs.map V.int) (some (i : Int)) (some ((j : Int) + 1)) = (sub hs i j).map V.int := by
      have := cutV_mid (hs.map V.int) i (j + 1) (by rw [List.length_map]; omega) (by rw [List.length_map]; omega)
      unfold sub
      rw [List.map_take, List.map_drop]
      exact this
    have hqs : (upd H q (.lst (cutV (hs.map V.int) (some (i : Int)) (some ((j : Int) + 1))))) q = some (.lst ((sub hs i j).map V.int)) := by rw [upd_same, cs1]
    generalize hH1 : upd H q (.lst (cutV (hs.map V.int) (some (i : Int)) (some ((j : Int) + 1)))) = H1 at e1 hqs
    have sl := sub_len (hs := hs) (i := i) (j := j) (by omega) (by omega)
    have hgi : hs[i]? = some (hgt tab c i) := hHd.2 i hi
    have hgj : hs[j]? = some (hgt tab c j) := hHd.2 j hj
    have s0 : (sub hs i j)[0]? = some (hgt tab c i) := by rw [← hgi, ← sub_get (hs := hs) (i := i) (j := j) (t := i) (Nat.le_refl _) (by omega), Nat.sub_self]
    have sk : (sub hs i j)[j - i]? = some (hgt tab c j) := by rw [← hgj, ← sub_get (hs := hs) (i := i) (j := j) (t := j) (by omega) (Nat.le_refl _)]
    have mem_of : ∀ t, i ≤ t → t ≤ j → hgt tab c t ∈ sub hs i j := fun t t1 t2 => by
      have e : (sub hs i j)[t - i]? = some (hgt tab c t) := by rw [sub_get t1 t2]; exact hHd.2 t (by omega)
      exact List.mem_of_getElem? e
    have bnd : ∀ z, z ∈ sub hs i j → -200 ≤ z ∧ z ≤ 200 := fun z hz => by
      obtain ⟨t, t1, t2, t3⟩ := sub_mem hz
      have e := hHd.2 t (by omega)
      rw [t3] at e
      have ez : z = hgt tab c t := Option.some.inj e
      have := hgt_le hok c t
      rw [ez]
      omega
    have bi := bnd _ (List.mem_of_getElem? s0)
    refine ⟨_, rfl, _, rfl, q, _, _, _, rfl, rfl, SqL.of hqs, atI_m1 (by rw [List.length_map]; exact sl) (ints_at sk), _, rfl, q, _, _, _, rfl, rfl, SqL.of hqs, atI_nat (j := 0) (ints_at s0), _, _, rfl, rfl, ?_⟩
    have ge1 : ∀ z : Int, z ∈ sub hs i j → (∀ y, y ∈ sub hs i j → y ≤ z) → ∃ N : Nat, z - hgt tab c i = (N : Int) ∧ N ≤ 500 := fun z hz hle => by
      have := bnd z hz
      have := hle _ (List.mem_of_getElem? s0)
      exact ⟨(z - hgt tab c i).toNat, by omega, by omega⟩
    have ge2 : ∀ z : Int, z ∈ sub hs i j → (∀ y, y ∈ sub hs i j → z ≤ y) → ∃ N : Nat, hgt tab c i - z = (N : Int) ∧ N ≤ 500 := fun z hz hle => by
      have := bnd z hz
      have := hle _ (List.mem_of_getElem? s0)
      exact ⟨(hgt tab c i - z).toNat, by omega, by omega⟩
    refine ⟨fun σ H2 => σ = [some (.ref p), some (.int i), some (.int j), some (.int x.q), some (.ref li), some (.int x.h), some (.ref ri), some (.int y.q), some (.ref lj), some (.int y.h), some (.ref rj), some (.ref q), some (.int (hgt tab c j - hgt tab c i))] ∧ Ex H1 H2 ∧
      ∃ hi : Int, (∀ t, i ≤ t → t ≤ j → hgt tab c t ≤ hi) ∧ (hgt tab c j - hgt tab c i ≤ 0 → ∀ u : Nat, (u : Int) < hi - hgt tab c i → x.r.getD u 0 = y.r.getD u 0), ?_, ?_⟩
    · refine ⟨_, rfl, _, _, rfl, rfl, _, rfl, ?_⟩
      by_cases hd0 : hgt tab c j - hgt tab c i ≤ 0
      · rw [decide_eq_true hd0]
        refine iteT ?_
        refine ⟨_, rfl, _, rfl, _, rfl, q, sub hs i j, rfl, SqL.of hqs, by omega, fun mx hmx hle => ⟨_, rfl, q, _, _, _, rfl, rfl, SqL.of hqs, atI_nat (j := 0) (ints_at s0), _, _, rfl, rfl, ?_⟩⟩
        obtain ⟨N, eN, lN⟩ := ge1 mx hmx hle
        refine ⟨ri, rj, x.r, y.r, N, ?_, e1.it ci3, e1.it cj3, Nat.le_trans si.2 (by decide), Nat.le_trans sj.2 (by decide), lN, fun H2 e2 => ⟨_, rfl, ?_⟩⟩
        · show [V.ref ri, V.ref rj, V.int (mx - hgt tab c i)] = _
          rw [eN]
        · by_cases hpad : padd x.r N = padd y.r N
          · rw [decide_eq_true hpad]
            exact iteF ⟨rfl, e2, mx, fun t t1 t2 => hle _ (mem_of t t1 t2), fun _ u hu => padd_agree hpad u (by omega)⟩
          · rw [decide_eq_false hpad]
            exact iteT (k false H2 (e1.trans e2) fun z => by cases z)
      · rw [decide_eq_false hd0]
        exact iteF (iteF ⟨rfl, Ex.refl _, 200, fun t t1 t2 => (bnd _ (mem_of t t1 t2)).2, fun z => absurd z hd0⟩)
    · rintro σ H2 ⟨rfl, e2, hi', up, upr⟩
      have hqs2 := e2.lst hqs
      have e12 := e1.trans e2
      refine ⟨fun σ H3 => σ = [some (.ref p), some (.int i), some (.int j), some (.int x.q), some (.ref li), some (.int x.h), some (.ref ri), some (.int y.q), some (.ref lj), some (.int y.h), some (.ref rj), some (.ref q), some (.int (hgt tab c j - hgt tab c i))] ∧ Ex H2 H3 ∧
        ∃ lo : Int, (∀ t, i ≤ t → t ≤ j → lo ≤ hgt tab c t) ∧ (0 ≤ hgt tab c j - hgt tab c i → ∀ u : Nat, (u : Int) < hgt tab c i - lo → x.l.getD u 0 = y.l.getD u 0), ?_, ?_⟩
      · refine ⟨_, rfl, _, _, rfl, rfl, _, rfl, ?_⟩
        by_cases hd0 : 0 ≤ hgt tab c j - hgt tab c i
        · rw [decide_eq_true hd0]
          refine iteT ?_
          refine ⟨_, rfl, _, rfl, _, rfl, q, _, _, _, rfl, rfl, SqL.of hqs2, atI_nat (j := 0) (ints_at s0), _, rfl, q, sub hs i j, rfl, SqL.of hqs2, by omega, fun mn hmn hle => ⟨_, _, rfl, rfl, ?_⟩⟩
          obtain ⟨N, eN, lN⟩ := ge2 mn hmn hle
          refine ⟨li, lj, x.l, y.l, N, ?_, e12.it ci2, e12.it cj2, Nat.le_trans si.1 (by decide), Nat.le_trans sj.1 (by decide), lN, fun H3 e3 => ⟨_, rfl, ?_⟩⟩
          · show [V.ref li, V.ref lj, V.int (hgt tab c i - mn)] = _
            rw [eN]
          · by_cases hpad : padd x.l N = padd y.l N
            · rw [decide_eq_true hpad]
              exact iteF ⟨rfl, e3, mn, fun t t1 t2 => hle _ (mem_of t t1 t2), fun _ u hu => padd_agree hpad u (by omega)⟩
            · rw [decide_eq_false hpad]
              exact iteT (k false H3 (e12.trans e3) fun z => by cases z)
        · rw [decide_eq_false hd0]
          exact iteF (iteF ⟨rfl, Ex.refl _, -200, fun t t1 t2 => (bnd _ (mem_of t t1 t2)).1, fun z => absurd z hd0⟩)
      · rintro σ H3 ⟨rfl, e3, lo, dn, dnl⟩
        have e13 := e12.trans e3
        have fin : (0 < hgt tab c j - hgt tab c i → x.r = y.r) → (hgt tab c j - hgt tab c i < 0 → x.l = y.l) → ShiftOk tab c i j := fun a b =>
          ⟨hij, x, y, oi, oj, hq, hh, lo, hi', fun t t1 t2 => ⟨dn t t1 t2, up t t1 t2⟩, upr, dnl, a, b⟩
        refine ⟨_, rfl, _, _, rfl, rfl, _, rfl, ?_⟩
        by_cases hd0 : 0 < hgt tab c j - hgt tab c i
        · rw [decide_eq_true hd0]
          refine iteT ⟨_, rfl, _, rfl, _, _, dp_it (e13.it ci3), dp_it (e13.it cj3), shaped_it _, shaped_it _, ?_⟩
          rw [eqv_tup, eqvAll_ints]
          exact k _ H3 e13 fun z => fin (fun _ => of_decide_eq_true z) fun z => absurd z (by omega)
        · rw [decide_eq_false hd0]
          refine iteF ⟨_, rfl, rfl, _, rfl, ?_⟩
          rw [dec_eq_int]
          by_cases hd1 : hgt tab c j - hgt tab c i = 0
          · rw [decide_eq_true hd1]
            exact iteT (k true H3 e13 fun _ => fin (fun z => absurd z hd0) fun z => absurd z (by omega))
          · rw [decide_eq_false hd1]
            refine iteF ⟨_, rfl, _, rfl, _, _, dp_it (e13.it ci2), dp_it (e13.it cj2), shaped_it _, shaped_it _, ?_⟩
            rw [eqv_tup, eqvAll_ints]
            exact k _ H3 e13 fun z => fin (fun z => absurd z hd0) fun _ => of_decide_eq_true z
end
end K75

set_option maxHeartbeats 8000000
/-! Track.grows -/
namespace K75
open PySem PySem.Spec PyProof.Rows L2
theorem zip_any {xs ys : List Int} (hl : xs.length = ys.length) (h : ((xs.zip ys).any fun p => decide (p.2 < p.1)) = false) (r : Nat) : xs.getD r 0 ≤ ys.getD r 0 := by
  by_cases hr : r < xs.length
  · have hz : (xs.zip ys)[r]? = some (xs.getD r 0, ys.getD r 0) := by
      rw [List.getElem?_zip_eq_some]
      exact ⟨getD_at hr, getD_at (by omega)⟩
    have := List.any_eq_false.mp h _ (List.mem_of_getElem? hz)
    simp at this
    simpa using this
  · rw [List.getD_eq_getElem?_getD, List.getD_eq_getElem?_getD, List.getElem?_eq_none (by omega), List.getElem?_eq_none (by omega)]
    exact Int.le_refl _
def spGrows (CR CK P2 : Addr) (k0 : Nat) (p0 : List Ins) : Sp := fun vs H Q _ => ∃ (p m : Addr) (as : List Addr) (cs : List RC) (hs : List Int) (c : RC) (i j n : Nat), vs = [.ref p, .int i, .int j] ∧ TrackAt CK RCf H p m as cs hs ∧ RMach CR H m p0 ∧ IsRun (rstep p0) c n cs ∧
  (∀ x ∈ cs, RGood k0 p0 x) ∧ ProgOk k0 p0 ∧ i < j ∧ j < cs.length ∧ cs.length ≤ 201 ∧ TabG H P2 ∧ ∀ b H', Ex H H' → (b = true → GrowOk p0 c i j) → Q (.bl b) H'
section
variable {P : Program} {w : World} {K : PySem.W.Frag} {mg : Str → Option Value} {base : Heap} {CR CT CK : Addr}
theorem scKG : FnScope ["self", "first", "second", "place", "before", "other", "behind", "here", "values", "instruction"] ["self", "first", "second"] (defScope sKGrows) := ⟨rfl, rfl, rfl, by decide +kernel, rfl, by decide +kernel, by decide +kernel⟩
theorem ok_grows {f c2 P2 : Addr} {fd : FuncData} {k0 : Nat} {p0 : List Ins} (F : FD K "grows" "Track.grows" sKGrows f fd) (T : Txt K mg CR CT CK) (TB : GxR.TabB base mg c2 P2) (hcd : fd.code = .ref c2) :
    FnOk P w K mg base CX0 1 f fd ["self", "first", "second"] (spGrows CR CK P2 k0 p0) := by
  refine FD.fok F scKG (fun vs H Q E h => ?_) (fun A outer s H vs Q E hr h => ?_)
  · obtain ⟨p, m, as, cs, hs, c, i, j, n, rfl, _⟩ := h
    rfl
  · obtain ⟨p, m, as, cs, hs, c, i, j, n, rfl, hT, hM, hrun, hgood, hok, hij, hj, hlen, hTG, k⟩ := h
    obtain ⟨dx, fs, l, g, h1, h2, h3, h4, h5, h6, h7, h8, h9, h10⟩ := hT.ex
    refine ⟨_, pss_cons (ps_asg (pe_ix ix_list (pe_fld (pv 0) rfl) (pv 1) (fun _ _ => rfl)) (pg_tup (by rfl) (pgs_cons (pg_name (i := 3) scKG.nd rfl (.inl rfl)) (pgs_cons (pg_name (i := 4) scKG.nd rfl (.inl rfl)) pgs_nil)))) <|
      pss_cons (ps_asg (pe_ix ix_list (pe_fld (pv 0) rfl) (pv 2) (fun _ _ => rfl)) (pg_tup (by rfl) (pgs_cons (pg_name (i := 5) scKG.nd rfl (.inl rfl)) (pgs_cons (pg_name (i := 6) scKG.nd rfl (.inl rfl)) pgs_nil)))) <|
      pss_cons (ps_if (PW.pt (pw_or (pt_cmpR op_ne (pv 3) (pv 5) (nomark _)) (pw_or1 (pt_val (pe_anyZ hr rfl T.any TB hcd ⟨rfl, rfl, by decide +kernel, rfl, rfl, rfl, by decide, ?_⟩ rfl T.zip (pa_cons (pv 4) (pa_cons (pv 6) pa_nil)) (elt_lt rfl rfl rfl)))))) (pss_one (ps_ret pe_bl)) pss_nil) <|
      pss_cons (ps_for PassesOwn.never rfl (pi_list (pe_slice sl_list (pe_fld (pv 0) rfl) (po_some (pv 1)) (po_some (pv 2)))) (pg_tup (by rfl) (pgs_cons (pg_name (i := 7) scKG.nd rfl (.inl rfl)) (pgs_cons (pg_name (i := 8) scKG.nd rfl (.inl rfl)) pgs_nil)))
        (pss_cons (ps_set (i := 9) scKG.nd rfl (.inl rfl) (pe_ix ix_tup (pe_fld (pe_fld (pv 0) rfl) rfl) (pv 7) (fun _ _ => rfl))) <|
        pss_one (ps_if (PW.pt (pw_and (pt_cmpR op_eq (pe_ix ix_tup (pv 9) pe_int (fun _ _ => rfl)) pe_str (nomark _)) (pw_and1 (pt_cmpR op_eq (pe_ix ix_tup (pv 8) (pe_ix ix_tup (pv 9) pe_int (fun _ _ => rfl)) (fun _ _ => rfl)) pe_int (nomark _)))))
          (pss_one (ps_if (pt_cmpR op_ne (pe_ix ix_tup (pv 4) (pe_ix ix_tup (pv 9) pe_int (fun _ _ => rfl)) (fun _ _ => rfl)) (pe_ix ix_tup (pv 6) (pe_ix ix_tup (pv 9) pe_int (fun _ _ => rfl)) (fun _ _ => rfl)) (nomark _)) (pss_one (ps_ret pe_bl)) pss_nil)) pss_nil))) <|
      pss_one (ps_ret pe_bl), ?_⟩
    · intro y hy hfr
      rcases List.mem_cons.mp hy with z | hy
      · rw [z] at hfr; cases hfr
      rcases List.mem_cons.mp hy with z | hy
      · rw [z] at hfr; cases hfr
      rcases List.mem_cons.mp hy with z | hy
      · rw [z] at hfr; cases hfr
      · cases hy
    -- the two configurations
    have hi : i < cs.length := by omega
    obtain ⟨ai, hai, ci⟩ := h9.get (List.getElem?_eq_getElem hi)
    obtain ⟨aj, haj, cj⟩ := h9.get (List.getElem?_eq_getElem hj)
    have oi := hrun.get (List.getElem?_eq_getElem hi)
    have oj := hrun.get (List.getElem?_eq_getElem hj)
    have gi := hgood _ (List.getElem_mem hi)
    have gj := hgood _ (List.getElem_mem hj)
    generalize cs[i] = x at ci oi gi
    generalize cs[j] = y at cj oj gj
    obtain ⟨vi, ci1, ci2⟩ := ci.ex
    obtain ⟨vj, cj1, cj2⟩ := cj.ex
    refine ⟨_, rfl, p, CK, dx, _, _, rfl, h1, T.cK, T.kRun, h3, _, rfl, l, _, _, _, rfl, rfl, SqL.of h8, atI_nat (refs_at hai), ?_⟩
    refine ⟨ai, _, rfl, SqT.of ci1, rfl, _, _, rfl, _, _, rfl, rfl, ?_⟩
    refine ⟨_, rfl, p, CK, dx, _, _, rfl, h1, T.cK, T.kRun, h3, _, rfl, l, _, _, _, rfl, rfl, SqL.of h8, atI_nat (refs_at haj), ?_⟩
    refine ⟨aj, _, rfl, SqT.of cj1, rfl, _, _, rfl, _, _, rfl, rfl, ?_⟩
    refine ⟨_, rfl, _, rfl, rfl, _, rfl, ?_⟩
    by_cases hq : x.1 = y.1
    case neg =>
      rw [dec_ne_int, decide_eq_true hq]
      exact iteT (iteT (k false H (Ex.refl H) fun z => by cases z))
    rw [dec_ne_int, decide_eq_false (fun z => z hq)]
    refine iteF ?_
    refine ⟨_, rfl, _, rfl, vi, vj, x.2, y.2, rfl, SqT.of ci2, SqT.of cj2, hTG, fun H1 hT1 => ⟨_, rfl, ?_⟩⟩
    have e1 := Ex.tabbed hT1 hTG
    cases hany : ((x.2.zip y.2).any fun p => decide (p.2 < p.1)) with
    | true => exact iteT (k false H1 e1 fun z => by cases z)
    | false =>
      refine iteF ?_
      have hge := zip_any (by rw [gi.len, gj.len]) hany
      refine ⟨_, rfl, p, CK, dx, _, _, rfl, e1.ins h1, T.cK, T.kRun, h3, _, rfl, _, rfl, _, rfl, _, rfl, l, _, rfl, SqL.of (e1.lst h8), fun q hq' => ?_⟩
      have c1 : cutV (as.map V.ref) (some (i : Int)) (some (j : Int)) = ((as.drop i).take (j - i)).map V.ref := by
        rw [cutV_mid _ _ _ (by rw [List.length_map, h9.len]; omega) (by rw [List.length_map, h9.len]; omega), List.map_take, List.map_drop]
      refine ⟨q, rfl, ⟨_, SqL.of upd_same⟩, ?_⟩
      show ∃ W, _
      rw [c1]
      have e2 : Ex H (upd H1 q (.lst (((as.drop i).take (j - i)).map V.ref))) := e1.add hq'
      have hsl : ((as.drop i).take (j - i)).length = j - i := by rw [List.length_take, List.length_drop, h9.len]; omega
      refine for_list (K := K) (a := q) (xs := ((as.drop i).take (j - i)).map V.ref) (fun u σ H' => ∃ v7 v8 v9, σ = [some (.ref p), some (.int i), some (.int j), some (.int x.1), some (.ref vi), some (.int y.1), some (.ref vj), v7, v8, v9] ∧ Ex H H' ∧ H' q = some (.lst (((as.drop i).take (j - i)).map V.ref)) ∧
          ∀ t z, i ≤ t → t < i + u → orb (rstep p0) c t = some z → ∀ r n o, p0[z.1.toNat]? = some (.dec r n o) → rv z r = 0 → rv x r = rv y r)
        ⟨none, none, none, rfl, e2, upd_same, fun t z t1 t2 => absurd t2 (by omega)⟩ (fun u σ H' _ ⟨_, _, _, _, _, h, _⟩ => SqL.of h) ?_ ?_
      · rintro u a σ H2 ha ⟨v7, v8, v9, rfl, x2, hq2, hz⟩
        obtain ⟨b, hb, rfl⟩ := ref_at ha
        have hu : u < j - i := by rw [← hsl]; exact (List.getElem?_eq_some_iff.mp hb).1
        have hb2 : as[i + u]? = some b := by
          rw [List.getElem?_take_of_lt hu, List.getElem?_drop] at hb
          exact hb
        obtain ⟨z, hz1, hzc⟩ := h9.get' hb2
        have oz := hrun.get hz1
        have gz := hgood _ (List.mem_of_getElem? hz1)
        obtain ⟨vz, cz1, cz2⟩ := (x2.rcf hzc).ex
        obtain ⟨dm, fm, tm, ams, m1, m2, _, m4, m5⟩ := (hM.mono x2).ex
        obtain ⟨pl, ep⟩ := nat_of gz.lo
        have hpl : pl < p0.length := by have := gz.hi; omega
        obtain ⟨ia, hia, hI⟩ := m5.get (List.getElem?_eq_getElem hpl)
        refine ⟨b, _, rfl, SqT.of cz1, rfl, _, _, rfl, _, _, rfl, rfl, ?_⟩
        refine ⟨_, rfl, p, CK, dx, _, _, rfl, x2.ins h1, T.cK, T.kMachine, h2, m, CR, dm, _, _, rfl, m1, T.cR, T.rIns, m2, _, rfl, tm, _, _, _, rfl, rfl, SqT.of m4, (by rw [ep]; exact atI_nat (refs_at hia)), ?_⟩
        have ezp : p0[z.1.toNat]? = some p0[pl] := by rw [ep, Int.toNat_natCast]; exact List.getElem?_eq_getElem hpl
        have io := hok _ (List.getElem_mem hpl)
        have other : ∀ σ' : L2.St, σ' = [some (.ref p), some (.int i), some (.int j), some (.int x.1), some (.ref vi), some (.int y.1), some (.ref vj), some (.int z.1), some (.ref vz), some (.ref ia)] → (∀ r n o, p0[pl] = Ins.dec r n o → rv z r = 0 → rv x r = rv y r) → ∃ v7 v8 v9, σ' = [some (.ref p), some (.int i), some (.int j), some (.int x.1), some (.ref vi), some (.int y.1), some (.ref vj), v7, v8, v9] ∧ Ex H H2 ∧ H2 q = some (.lst (((as.drop i).take (j - i)).map V.ref)) ∧
            ∀ t z, i ≤ t → t < i + (u + 1) → orb (rstep p0) c t = some z → ∀ r n o, p0[z.1.toNat]? = some (.dec r n o) → rv z r = 0 → rv x r = rv y r := by
          intro σ' e hw
          refine ⟨_, _, _, e, x2, hq2, fun t z' t1 t2 ot r n o hp h0 => ?_⟩
          by_cases ht : t < i + u
          · exact hz t z' t1 ht ot r n o hp h0
          · have : t = i + u := by omega
            subst this
            rw [oz] at ot
            cases ot
            rw [ezp] at hp
            exact hw r n o (Option.some.inj hp) h0
        cases e : p0[pl] with
        | fin =>
          rw [e] at hI
          refine ⟨_, rfl, ia, _, _, _, rfl, rfl, SqT.of hI, atI_nat (j := 0) rfl, rfl, _, rfl, iteF (iteF (other _ rfl fun r n o h => by rw [e] at h; cases h))⟩
        | inc r n =>
          rw [e] at hI
          refine ⟨_, rfl, ia, _, _, _, rfl, rfl, SqT.of hI, atI_nat (j := 0) rfl, rfl, _, rfl, iteF (iteF (other _ rfl fun r n o h => by rw [e] at h; cases h))⟩
        | dec r nx o =>
          rw [e] at hI io
          obtain ⟨⟨r0, r1⟩, _⟩ := io
          obtain ⟨rr, er⟩ := nat_of r0
          subst er
          have hrz : rr < z.2.length := by rw [gz.len]; omega
          have hrx : rr < x.2.length := by rw [gi.len]; omega
          have hry : rr < y.2.length := by rw [gj.len]; omega
          refine ⟨_, rfl, ia, _, _, _, rfl, rfl, SqT.of hI, atI_nat (j := 0) rfl, rfl, _, rfl, iteT ?_⟩
          refine ⟨_, rfl, _, rfl, ia, _, _, _, rfl, rfl, SqT.of hI, atI_nat (j := 1) rfl, vz, _, _, _, rfl, rfl, SqT.of cz2, atI_nat (ints_at (getD_at hrz)), rfl, _, rfl, ?_⟩
          rw [dec_eq_int]
          by_cases h0 : z.2.getD rr 0 = 0
          · rw [decide_eq_true h0]
            refine iteT ?_
            refine ⟨_, rfl, _, rfl, ia, _, _, _, rfl, rfl, SqT.of hI, atI_nat (j := 1) rfl, vi, _, _, _, rfl, rfl, SqT.of (x2.it ci2), atI_nat (ints_at (getD_at hrx)), ?_⟩
            refine ⟨_, rfl, _, rfl, ia, _, _, _, rfl, rfl, SqT.of hI, atI_nat (j := 1) rfl, vj, _, _, _, rfl, rfl, SqT.of (x2.it cj2), atI_nat (ints_at (getD_at hry)), rfl, _, rfl, ?_⟩
            rw [dec_ne_int]
            by_cases hxy : x.2.getD rr 0 = y.2.getD rr 0
            · rw [decide_eq_false (fun z => z hxy)]
              refine iteF (other _ rfl fun r' n' o' h _ => ?_)
              rw [e] at h
              cases h
              unfold rv
              rw [Int.toNat_natCast]; exact hxy
            · rw [decide_eq_true hxy]
              exact iteT (k false H2 x2 fun z => by cases z)
          · rw [decide_eq_false h0]
            refine iteF (other _ rfl fun r' n' o' h hz0 => ?_)
            rw [e] at h
            cases h
            unfold rv at hz0
            rw [Int.toNat_natCast] at hz0
            exact absurd hz0 h0
      · rintro σ H2 ⟨v7, v8, v9, rfl, x2, hq2, hz⟩
        rw [List.length_map, hsl] at hz
        exact k true H2 x2 fun _ => ⟨hij, x, y, oi, oj, hq, hge, fun t z t1 t2 => hz t z t1 (by omega)⟩
end
end K75

set_option maxHeartbeats 8000000
/-! Track.is_right, first_paper, find_paper -/
namespace K75
open PySem PySem.Spec PyProof.Rows L2
/-- configurations as data -/
structure Dat {α : Type} (K : PySem.W.Frag) (CF : Hp → Addr → α → Prop) (dat : α → PyData) : Prop where
  dp : ∀ H a c, CF H a c → Dp K H (.ref a) (dat c)
  sh : ∀ c, SeqAt.shaped (dat c) = true
  eq : ∀ c d, PyData.eqv (dat c) (dat d) = true ↔ c = d
def spRight {α : Type} (CK : Addr) (CF : Hp → Addr → α → Prop) (spG spS : Sp) : Sp := fun vs H Q _ => ∃ (p m : Addr) (as : List Addr) (cs : List α) (hs : List Int) (kd : Str) (i j : Nat), vs = [.ref p, .str kd, .int i, .int j] ∧ TrackAt CK CF H p m as cs hs ∧ i < cs.length ∧ j < cs.length ∧
  ((kd = "repeat" ∧ ∀ b H', Ex H H' → (b = true → ∃ x, cs[i]? = some x ∧ cs[j]? = some x) → Q (.bl b) H') ∨ (kd = "growth" ∧ spG [.ref p, .int i, .int j] H Q E0) ∨ (kd = "shift" ∧ spS [.ref p, .int i, .int j] H Q E0))
def spFirst (CR CT CK : Addr) (spR : Sp) : Sp := fun vs H Q _ => ∃ (p m C : Addr) (N : Nat) (R : Str → Nat → Nat → Prop) (Hyp : Hp → Prop), vs = [.ref p] ∧ Hyp H ∧ (∀ H H', Ex H H' → Hyp H → Hyp H') ∧ N ≤ 201 ∧
  (∀ H, Hyp H → ∃ dx fs l as dm fm, H p = some (.ins CK dx fs) ∧ fs.lookup ("machine" : Str) = some (.ref m) ∧ fs.lookup ("run" : Str) = some (.ref l) ∧ fs.lookup ("is_right" : Str) = none ∧ H l = some (.lst as) ∧ as.length = N ∧ H m = some (.ins C dm fm) ∧ (C = CR ∨ C = CT)) ∧
  (∀ (H : Hp) (Q : VK) (kd : Str) (i j : Nat), Hyp H → i < j → j < N → (kd = "repeat" ∨ kd = kindOf CR C) → (∀ b H', Ex H H' → (b = true → R kd i j) → Q (.bl b) H') → spR [.ref p, .str kd, .int i, .int j] H Q E0) ∧
  (∀ H', Ex H H' → Q .non H') ∧ ∀ (kd : Str) (i j : Nat) (t : Addr) (H' : Hp), Ex H H' → i < j → j < N → (kd = "repeat" ∨ kd = kindOf CR C) → R kd i j → H' t = some (.tup [.str kd, .int i, .int j]) → Q (.ref t) H'
def spFind (CK : Addr) (spI spF : Sp) : Sp := fun vs H Q _ => ∃ (m a : Addr) (n : Nat), vs = [.ref m, .ref a, .int n] ∧ n ≤ 300 ∧ ∀ x dx, H x = none → H dx = none → dx ≠ x →
  spI [.ref x, .ref m, .ref a, .int n] (upd (upd H dx (.own x)) x (.ins CK dx [])) (fun v H2 => v = .non ∧ spF [.ref x] H2 Q E0) E0
section
variable {P : Program} {w : World} {K : PySem.W.Frag} {mg : Str → Option Value} {base : Heap} {CR CT CK : Addr}
theorem scKR : FnScope ["self", "kind", "first", "second"] ["self", "kind", "first", "second"] (defScope sKRight) := ⟨rfl, rfl, rfl, by decide +kernel, rfl, by decide +kernel, by decide +kernel⟩
theorem ok_right {α : Type} {CF : Hp → Addr → α → Prop} {dat : α → PyData} {spG spS : Sp} {f : Addr} {fd : FuncData} (F : FD K "is_right" "Track.is_right" sKRight f fd) (T : Txt K mg CR CT CK) (D : Dat K CF dat)
    (ZG : CalM P w K mg base CK "grows" 1 ["self", "first", "second"] spG) (ZS : CalM P w K mg base CK "shifts" 3 ["self", "first", "second"] spS) :
    FnOk P w K mg base CX0 4 f fd ["self", "kind", "first", "second"] (spRight CK CF spG spS) := by
  obtain ⟨f1, fd1, m1, b1, G1⟩ := ZG.ex
  obtain ⟨f2, fd2, m2, b2, G2⟩ := ZS.ex
  refine FD.fok F scKR (fun vs H Q E h => ?_) (fun A outer s H vs Q E hr h => ?_)
  · obtain ⟨p, m, as, cs, hs, kd, i, j, rfl, _⟩ := h
    rfl
  · obtain ⟨p, m, as, cs, hs, kd, i, j, rfl, hT, hi, hj, hk⟩ := h
    obtain ⟨dx, fs, l, g, h1, h2, h3, h4, h5, h6, h7, h8, h9, h10⟩ := hT.ex
    refine ⟨_, pss_cons (ps_if (pt_cmpR op_eq (pv 1) (C8.pe_gc rfl T.rep) (nomark _)) (pss_one (ps_ret (pe_cmpR (op_eqD hr.units) (pe_ix ix_list (pe_fld (pv 0) rfl) (pv 2) (fun _ _ => rfl)) (pe_ix ix_list (pe_fld (pv 0) rfl) (pv 3) (fun _ _ => rfl)) (nomark _)))) pss_nil) <|
      pss_cons (ps_if (pt_cmpR op_eq (pv 1) (C8.pe_gc rfl T.gro) (nomark _)) (pss_one (ps_ret (pe_meth (pv 0) T.cK m1 G1 (hr.mono (by decide)) b1 .nil pass0 (pa_cons (pv 2) (pa_cons (pv 3) pa_nil))))) pss_nil) <|
      pss_one (ps_ret (pe_meth (pv 0) T.cK m2 G2 hr b2 .nil pass0 (pa_cons (pv 2) (pa_cons (pv 3) pa_nil)))), ?_⟩
    rcases hk with ⟨rfl, k⟩ | ⟨rfl, k⟩ | ⟨rfl, k⟩
    · refine ⟨_, rfl, rfl, _, rfl, iteT ?_⟩
      obtain ⟨ai, hai, ci⟩ := h9.get (List.getElem?_eq_getElem hi)
      obtain ⟨aj, haj, cj⟩ := h9.get (List.getElem?_eq_getElem hj)
      refine ⟨_, rfl, p, CK, dx, _, _, rfl, h1, T.cK, T.kRun, h3, _, rfl, l, _, _, _, rfl, rfl, SqL.of h8, atI_nat (refs_at hai), ?_⟩
      refine ⟨_, rfl, p, CK, dx, _, _, rfl, h1, T.cK, T.kRun, h3, _, rfl, l, _, _, _, rfl, rfl, SqL.of h8, atI_nat (refs_at haj), ?_⟩
      refine ⟨_, _, D.dp _ _ _ ci, D.dp _ _ _ cj, D.sh _, D.sh _, ?_⟩
      refine k _ H (Ex.refl H) fun z => ⟨cs[i], List.getElem?_eq_getElem hi, ?_⟩
      rw [(D.eq _ _).mp z]
      exact List.getElem?_eq_getElem hj
    · refine ⟨_, rfl, rfl, _, rfl, iteF ?_⟩
      refine ⟨_, rfl, rfl, _, rfl, iteT ?_⟩
      exact ⟨_, rfl, p, dx, fs, rfl, h1, h6, _, rfl, _, rfl, k⟩
    · refine ⟨_, rfl, rfl, _, rfl, iteF ?_⟩
      refine ⟨_, rfl, rfl, _, rfl, iteF ?_⟩
      exact ⟨_, rfl, p, dx, fs, rfl, h1, h7, _, rfl, _, rfl, k⟩
theorem scFP : FnScope ["track", "second", "first", "kind"] ["track"] (defScope sFirst) := ⟨rfl, rfl, rfl, by decide +kernel, rfl, by decide +kernel, by decide +kernel⟩
theorem ok_first {spR : Sp} {f : Addr} {fd : FuncData} (F : FD K "first_paper" "first_paper" sFirst f fd) (T : Txt K mg CR CT CK) (ZK : Cal P w K mg base "kinds_of" 1 ["machine"] (spKinds CR CT))
    (ZR : CalM P w K mg base CK "is_right" 4 ["self", "kind", "first", "second"] spR) : FnOk P w K mg base CX0 5 f fd ["track"] (spFirst CR CT CK spR) := by
  obtain ⟨f1, fd1, g1, kp1, b1, G1⟩ := ZK.ex
  obtain ⟨f2, fd2, m2, b2, G2⟩ := ZR.ex
  refine FD.fok F scFP (fun vs H Q E h => ?_) (fun A outer s H vs Q E hr h => ?_)
  · obtain ⟨p, m, C, N, R, Hyp, rfl, _⟩ := h
    rfl
  · obtain ⟨p, m, C, N, R, Hyp, rfl, hH, hmo, hN, hat, hR, k0, k1⟩ := h
    refine ⟨_, pss_cons (ps_for PassesOwn.never rfl (pi_range2 (by rfl) T.rng (pa_cons pe_int (pa_cons (pe_callB call_len_seq (by rfl) T.len PySem.boot_len (pa_cons (pe_fld (pv 0) rfl) pa_nil)) pa_nil))) (pg_name (i := 1) scFP.nd rfl (.inl rfl))
        (pss_one (ps_for PassesOwn.never rfl (pi_range1 rfl T.rng (pa_cons (pv 1) pa_nil)) (pg_name (i := 2) scFP.nd rfl (.inl rfl))
          (pss_one (ps_for PassesOwn.never rfl (pi_list (pe_call G1 (hr.mono (by decide)) rfl g1 kp1 b1 .nil pass0 (pa_cons (pe_fld (pv 0) rfl) pa_nil))) (pg_name (i := 3) scFP.nd rfl (.inl rfl))
            (pss_one (ps_if (pt_val (pe_meth (pv 0) T.cK m2 G2 hr b2 .nil pass0 (pa_cons (pv 3) (pa_cons (pv 2) (pa_cons (pv 1) pa_nil))))) (pss_one (ps_ret (pe_tup (pa_cons (pv 3) (pa_cons (pv 2) (pa_cons (pv 1) pa_nil)))))) pss_nil))))))) <|
      pss_one (ps_ret pe_non), ?_⟩
    obtain ⟨dx, fs, l, as, dm, fm, h1, h2, h3, h4, h5, h6, h7, h8⟩ := hat H hH
    refine ⟨_, rfl, p, CK, dx, _, _, rfl, h1, T.cK, T.kRun, h3, l, _, rfl, .inl (SqL.of h5), _, _, rfl, ⟨by decide, by decide, by rw [h6]; omega, by rw [h6]; omega⟩, ?_⟩
    rw [h6]
    refine for_range (lo := 1) (n := ((N : Int) - 1).toNat) (fun i σ H' => ∃ v1 v2 v3, σ = [some (.ref p), v1, v2, v3] ∧ Ex H H') ⟨none, none, none, rfl, Ex.refl H⟩ ?_ ?_
    · rintro i σ H1 hi ⟨v1, v2, v3, rfl, x1⟩
      refine ⟨_, rfl, _, rfl, by omega, by omega, ?_⟩
      refine for_range (lo := 0) (n := ((1 : Int) + i).toNat) (fun u σ H' => ∃ v2 v3, σ = [some (.ref p), some (.int (1 + i)), v2, v3] ∧ Ex H H') ⟨_, _, rfl, x1⟩ ?_ ?_
      · rintro u σ H2 hu ⟨v2, v3, rfl, x2⟩
        obtain ⟨dx', fs', l', as', dm', fm', h1', h2', h3', h4', h5', h6', h7', h8'⟩ := hat H2 (hmo _ _ x2 hH)
        refine ⟨_, rfl, p, CK, dx', _, _, rfl, h1', T.cK, T.kMachine, h2', m, C, dm', fm', rfl, h7', h8', fun q H3 e3 hq hq3 => ?_⟩
        refine ⟨q, rfl, ⟨_, SqL.of hq3⟩, ?_⟩
        have x3 := x2.trans e3
        refine for_list (K := K) (a := q) (xs := [.str "repeat", .str (kindOf CR C)]) (fun z σ H' => ∃ v3, σ = [some (.ref p), some (.int (1 + i)), some (.int (0 + u)), v3] ∧ Ex H H' ∧ H' q = some (.lst [.str "repeat", .str (kindOf CR C)]))
          ⟨_, rfl, x3, hq3⟩ (fun z σ H' _ ⟨_, _, _, h⟩ => SqL.of h) ?_ ?_
        · rintro z a σ H4 ha ⟨v3, rfl, x4, hq4⟩
          have hkd : ∃ kd : Str, a = .str kd ∧ (kd = "repeat" ∨ kd = kindOf CR C) := by
            cases z with
            | zero => exact ⟨"repeat", (Option.some.inj ha).symm, .inl rfl⟩
            | succ z =>
              cases z with
              | zero => exact ⟨kindOf CR C, (Option.some.inj ha).symm, .inr rfl⟩
              | succ z => simp at ha
          obtain ⟨kd, rfl, hkd⟩ := hkd
          obtain ⟨dx4, fs4, l4, as4, dm4, fm4, g1', g2', g3', g4', _⟩ := hat H4 (hmo _ _ x4 hH)
          refine ⟨_, rfl, p, dx4, fs4, rfl, g1', g4', _, rfl, _, rfl, _, rfl, ?_⟩
          have ei : (0 : Int) + (u : Int) = ((u : Nat) : Int) := by omega
          have ej : (1 : Int) + (i : Int) = ((i + 1 : Nat) : Int) := by omega
          show spR [.ref p, .str kd, .int (0 + (u : Int)), .int (1 + (i : Int))] H4 _ E0
          rw [ei, ej]
          refine hR H4 _ kd u (i + 1) (hmo _ _ x4 hH) (by omega) (by omega) hkd fun b H5 e5 hb => ⟨_, rfl, ?_⟩
          cases b with
          | false => exact iteF ⟨_, rfl, x4.trans e5, e5.lst hq4⟩
          | true =>
            refine iteT ⟨_, rfl, _, rfl, _, rfl, by show 3 ≤ sizeLine; decide, fun t ht => ?_⟩
            exact k1 kd u (i + 1) t _ (x4.trans (e5.trans (Ex.new ht))) (by omega) (by omega) hkd (hb rfl) upd_same
        · rintro σ H4 ⟨v3, rfl, x4, hq4⟩
          exact ⟨_, _, rfl, x4⟩
      · rintro σ H2 ⟨v2, v3, rfl, x2⟩
        exact ⟨_, _, _, rfl, x2⟩
    · rintro σ H1 ⟨v1, v2, v3, rfl, x1⟩
      exact k0 H1 x1
theorem scFi : FnScope ["machine", "configuration", "limit"] ["machine", "configuration", "limit"] (defScope sFind) := ⟨rfl, rfl, rfl, by decide +kernel, rfl, by decide +kernel, by decide +kernel⟩
theorem ok_find {spI spF : Sp} {f fI : Addr} {fd fdI : FuncData} (F : FD K "find_paper" "find_paper" sFind f fd) (T : Txt K mg CR CT CK) (ZS : Cal P w K mg base "check_sought" 1 ["limit"] spSought)
    (M : Mk K CK fI) (bI : Binds K fdI ["self", "machine", "configuration", "count"] []) (GI : FnOk P w K mg base CX0 4 fI fdI ["self", "machine", "configuration", "count"] spI)
    (ZF : Cal P w K mg base "first_paper" 5 ["track"] spF) : FnOk P w K mg base CX0 6 f fd ["machine", "configuration", "limit"] (spFind CK spI spF) := by
  obtain ⟨f1, fd1, g1, kp1, b1, G1⟩ := ZS.ex
  obtain ⟨f2, fd2, g2, kp2, b2, G2⟩ := ZF.ex
  refine FD.fok F scFi (fun vs H Q E h => ?_) (fun A outer s H vs Q E hr h => ?_)
  · obtain ⟨m, a, n, rfl, _⟩ := h
    rfl
  · obtain ⟨m, a, n, rfl, hn, k⟩ := h
    refine ⟨_, pss_cons (ps_expr (pe_call G1 (hr.mono (by decide)) rfl g1 kp1 b1 .nil pass0 (pa_cons (pv 2) pa_nil))) <|
      pss_one (ps_ret (pe_call G2 hr rfl g2 kp2 b2 .nil pass0 (pa_cons (pe_make M GI (hr.mono (by decide)) (by rfl) T.gK bI .nil pass0 (pa_cons (pv 0) (pa_cons (pv 1) (pa_cons (pv 2) pa_nil)))) pa_nil))), ?_⟩
    refine ⟨_, rfl, n, rfl, by omega, by omega, ?_⟩
    refine ⟨_, rfl, _, rfl, _, rfl, fun x dx hx hdx hne => ?_⟩
    exact k x dx hx hdx hne
end
end K75

set_option maxHeartbeats 8000000
/-! find_paper for the two kinds -/
namespace K75
open PySem PySem.Spec PyProof.Rows L2
theorem fnOk_ex {β : Type} {P : Program} {w : World} {K : PySem.W.Frag} {mg : Str → Option Value} {base : Heap} {CX : CXT} {k : Nat} {f : Addr} {fd : FuncData} {ps : List Str} {sp : β → Sp} (F : ∀ a, FnOk P w K mg base CX k f fd ps (sp a)) :
    FnOk P w K mg base CX k f fd ps (fun vs H Q E => ∃ a, sp a vs H Q E) :=
  ⟨fun vs H Q E ⟨a, q⟩ => (F a).len vs H Q E q, fun A outer s H args us vs Q E hr he hb hv ⟨a, hs⟩ => (F a).run A outer s H args us vs Q E hr he hb hv hs⟩
def PaperT (tab : Tab) (c : TC) (kd : Str) (i j : Nat) : Prop := (kd = "repeat" ∧ ∃ x, orb (tstep tab) c i = some x ∧ orb (tstep tab) c j = some x) ∨ (kd = "shift" ∧ ShiftOk tab c i j)
def PaperR (p0 : List Ins) (c : RC) (kd : Str) (i j : Nat) : Prop := (kd = "repeat" ∧ ∃ x, orb (rstep p0) c i = some x ∧ orb (rstep p0) c j = some x) ∨ (kd = "growth" ∧ GrowOk p0 c i j)
def spFindT (CT : Addr) (tab : Tab) : Sp := fun vs H Q _ => ∃ (m a : Addr) (c : TC), vs = [.ref m, .ref a, .int 12] ∧ TMach CT H m tab ∧ TCf H a c ∧ c.l.length ≤ 100 ∧ c.r.length ≤ 100 ∧ TabOk tab ∧
  (∀ H', Ex H H' → Q .non H') ∧ ∀ (kd : Str) (i j : Nat) (t : Addr) (H' : Hp), Ex H H' → i < j → j ≤ 12 → PaperT tab c kd i j → H' t = some (.tup [.str kd, .int i, .int j]) → Q (.ref t) H'
def spFindR (CR P2 : Addr) (k0 : Nat) (p0 : List Ins) : Sp := fun vs H Q _ => ∃ (m a : Addr) (c : RC), vs = [.ref m, .ref a, .int 12] ∧ RMach CR H m p0 ∧ RCf H a c ∧ RGood k0 p0 c ∧ ProgOk k0 p0 ∧ k0 ≤ 100 ∧ TabG H P2 ∧
  (∀ H', Ex H H' → Q .non H') ∧ ∀ (kd : Str) (i j : Nat) (t : Addr) (H' : Hp), Ex H H' → i < j → j ≤ 12 → PaperR p0 c kd i j → H' t = some (.tup [.str kd, .int i, .int j]) → Q (.ref t) H'
theorem datT {K : PySem.W.Frag} : Dat K TCf tD := ⟨fun _ _ _ => dp_tcf, shaped_tD, eqv_tD⟩
theorem datR {K : PySem.W.Frag} : Dat K RCf rD := ⟨fun _ _ _ => dp_rcf, shaped_rD, eqv_rD⟩
/-- Track(..), the instance made: Ex up to the instance -/
theorem made_ex {H : Hp} {x dx C : Addr} (nx : H x = none) (nd : H dx = none) (ne : dx ≠ x) : Ex H (upd (upd H dx (.own x)) x (.ins C dx [])) := (Ex.new nd).add (by rw [upd_ne (Ne.symm ne)]; exact nx)
section
variable {P : Program} {w : World} {K : PySem.W.Frag} {mg : Str → Option Value} {base : Heap} {CR CT CK : Addr}
theorem imp_T (T : Txt K mg CR CT CK) {tab : Tab} {vs : List V} {H : Hp} {Q : VK} {E : XK} (h : spFindT CT tab vs H Q E) :
    spFind CK (spKInit CK (fun H m => TMach CT H m tab) TCf (TPre tab) (tstep tab) (HeadsT tab)) (spFirst CR CT CK (spRight CK TCf (fun _ _ _ _ => False) (spShifts CK tab))) vs H Q E := by
  obtain ⟨m, a, c, rfl, hm, hc, hl, hr, hok, k0, k1⟩ := h
  have nRT : CT ≠ CR := fun z => by
    have h1 := T.kTR
    rw [z, T.kRR] at h1; cases h1
  refine ⟨m, a, 12, rfl, by decide, fun x dx nx nd ne => ?_⟩
  refine ⟨H, x, dx, m, a, 12, c, rfl, made_ex nx nd ne, nx, upd_same, by decide, hm, hc, fun i y hi oy => ?_, fun as cs hs H1 e1 hT hrun hHd => ⟨rfl, ?_⟩⟩
  · have := tsz i y oy
    exact ⟨by omega, by omega, hok⟩
  · refine ⟨x, m, CT, cs.length, PaperT tab c, fun H' => TrackAt CK TCf H' x m as cs hs ∧ TMach CT H' m tab, rfl, ⟨hT, hm.mono e1⟩, fun H2 H3 e h => ⟨h.1.mono e fun _ _ _ _ => Tk.tcf, h.2.mono e⟩, Nat.le_trans hrun.le (by decide), ?_, ?_, fun H' e => k0 H' (e1.trans e), fun kd i j t H' e hij hj _ hp ht => k1 kd i j t H' (e1.trans e) hij (by have := hrun.le; omega) hp ht⟩
    · rintro H2 ⟨hT2, hm2⟩
      obtain ⟨dx', fs, l, g, h1, h2, h3, h4, h5, h6, h7, h8, h9, h10⟩ := hT2.ex
      obtain ⟨dm, fm, d, kvs, g1, _⟩ := hm2.ex
      exact ⟨dx', fs, l, as.map V.ref, dm, fm, h1, h2, h3, h5, h8, by rw [List.length_map, h9.len], g1, .inr rfl⟩
    · rintro H2 Q2 kd i j ⟨hT2, hm2⟩ hij hj hkd kk
      refine ⟨x, m, as, cs, hs, kd, i, j, rfl, hT2, by omega, hj, ?_⟩
      rcases hkd with rfl | rfl
      · refine .inl ⟨rfl, fun b H' e hb => kk b H' e fun z => ?_⟩
        obtain ⟨y, h1, h2⟩ := hb z
        exact .inl ⟨rfl, y, hrun.get h1, hrun.get h2⟩
      · have ek : kindOf CR CT = "shift" := by unfold kindOf; rw [if_neg nRT]
        rw [ek] at kk ⊢
        refine .inr (.inr ⟨rfl, x, m, as, cs, hs, c, i, j, 12, rfl, hT2, hrun, hHd, hok, fun y hy => ?_, hij, hj, Nat.le_trans hrun.le (by decide), fun b H' e hb => kk b H' e fun z => .inr ⟨rfl, hb z⟩⟩)
        obtain ⟨u, hu, eu⟩ := List.getElem_of_mem hy
        have o := hrun.get (show cs[u]? = some y by rw [List.getElem?_eq_getElem hu, eu])
        have := tsz u y o
        have := hrun.le
        omega
theorem imp_R (T : Txt K mg CR CT CK) {k0 : Nat} {p0 : List Ins} {P2 : Addr} {vs : List V} {H : Hp} {Q : VK} {E : XK} (h : spFindR CR P2 k0 p0 vs H Q E) :
    spFind CK (spKInit CK (fun H m => RMach CR H m p0) RCf (RPre k0 p0) (rstep p0) (fun _ _ _ => True)) (spFirst CR CT CK (spRight CK RCf (spGrows CR CK P2 k0 p0) (fun _ _ _ _ => False))) vs H Q E := by
  obtain ⟨m, a, c, rfl, hm, hc, hg, hok, hk, hTG, q0, q1⟩ := h
  have good := orb_good hg (fun x y gx h => rgood_step hok gx h)
  refine ⟨m, a, 12, rfl, by decide, fun x dx nx nd ne => ?_⟩
  refine ⟨H, x, dx, m, a, 12, c, rfl, made_ex nx nd ne, nx, upd_same, by decide, hm, hc, fun i y hi oy => ⟨good _ _ oy, hok, hk⟩, fun as cs hs H1 e1 hT hrun _ => ⟨rfl, ?_⟩⟩
  refine ⟨x, m, CR, cs.length, PaperR p0 c, fun H' => TrackAt CK RCf H' x m as cs hs ∧ RMach CR H' m p0 ∧ TabG H' P2, rfl, ⟨hT, hm.mono e1, e1.tab _ hTG⟩, fun H2 H3 e h => ⟨h.1.mono e fun _ _ _ _ => Tk.rcf, h.2.1.mono e, e.tab _ h.2.2⟩, Nat.le_trans hrun.le (by decide), ?_, ?_, fun H' e => q0 H' (e1.trans e), fun kd i j t H' e hij hj _ hp ht => q1 kd i j t H' (e1.trans e) hij (by have := hrun.le; omega) hp ht⟩
  · rintro H2 ⟨hT2, hm2, _⟩
    obtain ⟨dx', fs, l, g, h1, h2, h3, h4, h5, h6, h7, h8, h9, h10⟩ := hT2.ex
    obtain ⟨dm, fm, d, kvs, g1, _⟩ := hm2.ex
    exact ⟨dx', fs, l, as.map V.ref, dm, fm, h1, h2, h3, h5, h8, by rw [List.length_map, h9.len], g1, .inl rfl⟩
  · rintro H2 Q2 kd i j ⟨hT2, hm2, hg2⟩ hij hj hkd kk
    refine ⟨x, m, as, cs, hs, kd, i, j, rfl, hT2, by omega, hj, ?_⟩
    rcases hkd with rfl | rfl
    · refine .inl ⟨rfl, fun b H' e hb => kk b H' e fun z => ?_⟩
      obtain ⟨y, h1, h2⟩ := hb z
      exact .inl ⟨rfl, y, hrun.get h1, hrun.get h2⟩
    · have ek : kindOf CR CR = "growth" := by unfold kindOf; rw [if_pos rfl]
      rw [ek] at kk ⊢
      refine .inr (.inl ⟨rfl, x, m, as, cs, hs, c, i, j, 12, rfl, hT2, hm2, hrun, fun y hy => ?_, hok, hij, hj, Nat.le_trans hrun.le (by decide), hg2, fun b H' e hb => kk b H' e fun z => .inr ⟨rfl, hb z⟩⟩)
      obtain ⟨u, hu, eu⟩ := List.getElem_of_mem hy
      exact good _ _ (hrun.get (show cs[u]? = some y by rw [List.getElem?_eq_getElem hu, eu]))
end
end K75

set_option maxHeartbeats 8000000
/-! the law's small defs: a cell, draws, strip -/
namespace K75
open PySem PySem.Spec PyProof.Rows L2
def spCell (K : PySem.W.Frag) : Sp := fun vs H Q _ => ∃ (a : Addr) (ns : List Int) (k : Nat), vs = [.ref a, .int k] ∧ SqL K H a (ns.map V.int) ∧ ns.length ≤ 1000 ∧ ∀ z : Int, Q (.int z) H
def spDraws : Sp := fun vs H Q _ => ∃ (z : Int) (n : Nat), vs = [.int z, .int n] ∧ n ≤ 100 ∧ ∀ (p : Addr) (ns : List Int) (H' : Hp), Ex H H' → H p = none → H' p = some (.lst (ns.map V.int)) → ns.length = n → (∀ x ∈ ns, 0 ≤ x ∧ x < 4096) → Q (.ref p) H'
def spStripL : Sp := fun vs H Q _ => ∃ (a : Addr) (ns : List Int), vs = [.ref a] ∧ H a = some (.lst (ns.map V.int)) ∧ ns.length ≤ 500 ∧ ∀ p H', Ex H H' → IT H' p (strip ns) → Q (.ref p) H'
def spStripT : Sp := fun vs H Q _ => ∃ (a : Addr) (ns : List Int), vs = [.ref a] ∧ IT H a ns ∧ ns.length ≤ 500 ∧ ∀ p H', Ex H H' → IT H' p (strip ns) → Q (.ref p) H'
section
variable {P : Program} {w : World} {K : PySem.W.Frag} {mg : Str → Option Value} {base : Heap} {CR CT CK : Addr}
theorem scCel : FnScope ["_law_script", "_law_k"] ["_law_script", "_law_k"] (defScope sCell) := ⟨rfl, rfl, rfl, by decide +kernel, rfl, by decide +kernel, by decide +kernel⟩
theorem ok_cell {f : Addr} {fd : FuncData} (F : FD K "_law_cell" "_law_cell" sCell f fd) (T : Txt K mg CR CT CK) : FnOk P w K mg base CX0 1 f fd ["_law_script", "_law_k"] (spCell K) := by
  refine FD.fok F scCel (fun vs H Q E h => ?_) (fun A outer s H vs Q E hr h => ?_)
  · obtain ⟨a, ns, k, rfl, _⟩ := h
    rfl
  · obtain ⟨a, ns, k, rfl, ha, hn, q⟩ := h
    refine ⟨_, pss_cons (ps_if (pt_cmpR op_lt (pv 1) (pe_callB call_len_seq (by rfl) T.len PySem.boot_len (pa_cons (pv 0) pa_nil)) (nomark _)) (pss_one (ps_ret (pe_callB call_abs (by rfl) T.abs (by decide +kernel) (pa_cons (pe_callTy call_int1 (by rfl) T.int (by decide +kernel) (pa_cons (pe_ix ix_list (pv 0) (pv 1) (fun _ _ => rfl)) pa_nil)) pa_nil)))) pss_nil) <|
      pss_one (ps_ret pe_int), ?_⟩
    refine ⟨_, rfl, _, rfl, a, _, rfl, .inl ha, _, _, rfl, rfl, _, rfl, ?_⟩
    rw [List.length_map]
    by_cases hk : k < ns.length
    · rw [decide_eq_true (by omega)]
      exact iteT ⟨_, rfl, _, rfl, a, _, _, _, rfl, rfl, ha, atI_nat (ints_at (getD_at hk)), .inl ⟨_, rfl, _, rfl, q _⟩⟩
    · rw [decide_eq_false (by omega)]
      exact iteF (q 0)
theorem scDra : FnScope ["_law_cell_here", "_law_count", "_law_rows", "_law_left", "_law_k", "_law_mixed"] ["_law_cell_here", "_law_count"] (defScope sDraws) := ⟨rfl, rfl, rfl, by decide +kernel, rfl, by decide +kernel, by decide +kernel⟩
theorem ok_draws {f : Addr} {fd : FuncData} (F : FD K "_law_draws" "_law_draws" sDraws f fd) (T : Txt K mg CR CT CK) : FnOk P w K mg base CX0 1 f fd ["_law_cell_here", "_law_count"] spDraws := by
  refine FD.fok F scDra (fun vs H Q E h => ?_) (fun A outer s H vs Q E hr h => ?_)
  · obtain ⟨z, n, rfl, _⟩ := h
    rfl
  · obtain ⟨z, n, rfl, hn, k⟩ := h
    refine ⟨_, pss_cons (ps_set (i := 2) scDra.nd rfl (.inl rfl) (pe_lst pa_nil)) <|
      pss_cons (ps_set (i := 3) scDra.nd rfl (.inl rfl) (pv 0)) <|
      pss_cons (ps_for PassesOwn.never rfl (pi_range1 rfl T.rng (pa_cons (pv 1) pa_nil)) (pg_name (i := 4) scDra.nd rfl (.inl rfl))
        (pss_one (ps_if (PW.pt (pw_and (pt_cmpR op_ge (pv 0) (pe_op op_pow pe_int pe_int) (nomark _)) (pw_and1 (pt_cmpR op_gt (pv 3) pe_int (nomark _)))))
          (pss_cons (ps_expr (pe_bm PySem.F.plainAttrs_list PySem.F.slot_list_append PySem.F.type_list_append mt_append (pv 2) (pa_cons (pe_op op_mod (pe_callTy call_int1 (by rfl) T.int (by decide +kernel) (pa_cons (pv 3) pa_nil)) pe_int) pa_nil))) <|
            pss_one (ps_set (i := 3) scDra.nd rfl (.inl rfl) (pe_op op_fdiv (pv 3) pe_int)))
          (pss_cons (ps_set (i := 5) scDra.nd rfl (.inl rfl) (pe_op op_mod (pe_callTy call_int1 (by rfl) T.int (by decide +kernel) (pa_cons (pe_op op_add (pe_op op_mul (pv 0) pe_int) (pe_op op_mul (pe_op op_add (pv 4) pe_int) pe_int)) pa_nil)) pe_int)) <|
            pss_cons (ps_set (i := 5) scDra.nd rfl (.inl rfl) (pe_op op_mod (pe_callTy call_int1 (by rfl) T.int (by decide +kernel) (pa_cons (pe_op op_add (pe_op op_add (pe_op op_mul (pv 5) (pv 5)) (pe_op op_mul (pv 5) pe_int)) (pe_op op_mul (pv 4) pe_int)) pa_nil)) pe_int)) <|
            pss_cons (ps_set (i := 5) scDra.nd rfl (.inl rfl) (pe_op op_mod (pe_callTy call_int1 (by rfl) T.int (by decide +kernel) (pa_cons (pe_op op_add (pe_op op_add (pe_op op_mul (pv 5) (pv 5)) (pv 0)) (pe_op op_mul pe_int (pv 4))) pa_nil)) pe_int)) <|
            pss_one (ps_expr (pe_bm PySem.F.plainAttrs_list PySem.F.slot_list_append PySem.F.type_list_append mt_append (pv 2) (pa_cons (pe_op op_mod (pe_op op_fdiv (pv 5) pe_int) pe_int) pa_nil))))))) <|
      pss_one (ps_ret (pv 2)), ?_⟩
    refine ⟨Nat.zero_le _, fun p hp => ?_⟩
    have e1 : ∀ o, Ex H (upd H p o) := fun o => Ex.new hp
    refine ⟨_, rfl, _, rfl, n, rfl, by omega, by omega, ?_⟩
    refine for_range (lo := 0) (n := (n : Int).toNat) (fun i σ H' => ∃ (v3 : Int) (v4 v5 : Option V) (ns : List Int), σ = [some (.int z), some (.int n), some (.ref p), some (.int v3), v4, v5] ∧ Ex H H' ∧ H' p = some (.lst (ns.map V.int)) ∧ ns.length = i ∧ ∀ x ∈ ns, 0 ≤ x ∧ x < 4096)
      ⟨z, none, none, [], rfl, e1 _, upd_same, rfl, fun x hx => by cases hx⟩ ?_ ?_
    · rintro i σ H1 hi ⟨v3, v4, v5, ns, rfl, x1, h1, hl, hb⟩
      rw [Int.toNat_natCast] at hi
      have step : ∀ (y v3' : Int) (v4' v5' : Option V), ∃ (u3 : Int) (u4 u5 : Option V) (ns' : List Int), [some (.int z), some (.int n), some (.ref p), some (V.int v3'), v4', v5'] = [some (V.int z), some (.int n), some (.ref p), some (.int u3), u4, u5] ∧ Ex H (upd H1 p (.lst (ns.map V.int ++ [.int (y % 4096)]))) ∧ (upd H1 p (.lst (ns.map V.int ++ [.int (y % 4096)]))) p = some (.lst (ns'.map V.int)) ∧ ns'.length = i + 1 ∧ ∀ x ∈ ns', 0 ≤ x ∧ x < 4096 := by
        intro y v3' v4' v5'
        refine ⟨v3', v4', v5', ns ++ [y % 4096], rfl, x1.put hp, ?_, by rw [List.length_append, hl]; rfl, fun x hx => ?_⟩
        · rw [upd_same, List.map_append]; rfl
        · rcases List.mem_append.mp hx with h | h
          · exact hb x h
          · have : x = y % 4096 := by simpa using h
            rw [this]; omega
      have hlen : (ns.map V.int).length < sizeLine := by rw [List.length_map, hl]; exact small1000 (by omega)
      refine ⟨_, rfl, 10, 18, rfl, rfl, ⟨by decide, by decide, by decide⟩, _, _, rfl, rfl, _, rfl, ?_⟩
      refine (fun els => ite2 (fun _ => ?_) (fun _ => iteF els)) ?_
      · refine ⟨_, rfl, _, _, rfl, rfl, _, rfl, ite2 (fun _ => ?_) (fun _ => els)⟩
        refine ⟨_, rfl, .inl ⟨rfl, _, SqL.of h1⟩, _, rfl, .inl ⟨_, rfl, _, _, rfl, rfl, (by show (0 : Int) < 4096; decide), p, _, _, rfl, rfl, h1, hlen, ?_⟩⟩
        refine ⟨_, rfl, _, _, rfl, rfl, ⟨by decide, by decide⟩, ?_⟩
        exact step v3 _ _ _
      · have q1 : ∀ x : Int, 0 ≤ x % 2147483647 ∧ x % 2147483647 < 2147483647 := fun x => by omega
        have q2 : ∀ x : Int, 0 ≤ x % 2147483629 ∧ x % 2147483629 < 2147483629 := fun x => by omega
        have q3 : ∀ x : Int, 0 ≤ x % 2147483587 ∧ x % 2147483587 < 2147483587 := fun x => by omega
        have sm : ∀ x m : Int, 0 ≤ x ∧ x < m → m < 2 ^ 62 → CMul x x := fun x m h1 h2 => .inl ⟨by omega, by omega⟩
        have sl : ∀ x y : Int, -(2 ^ 64) < y → y < 2 ^ 64 → CMul x y := fun x y h1 h2 => .inr ⟨h1, h2⟩
        refine ⟨_, rfl, _, _, rfl, rfl, sl _ _ (by decide) (by decide), _, rfl, _, _, rfl, rfl, _, _, rfl, rfl, sl _ _ (by decide) (by decide), _, _, rfl, rfl, .inl ⟨_, rfl, _, _, rfl, rfl, (by show (0 : Int) < 2147483647; decide), ?_⟩⟩
        refine ⟨_, rfl, _, rfl, _, _, rfl, rfl, sm _ _ (q1 _) (by decide), _, rfl, _, _, rfl, rfl, sl _ _ (by decide) (by decide), _, _, rfl, rfl, _, rfl, _, _, rfl, rfl, sl _ _ (by decide) (by decide), _, _, rfl, rfl, .inl ⟨_, rfl, _, _, rfl, rfl, (by show (0 : Int) < 2147483629; decide), ?_⟩⟩
        refine ⟨_, rfl, _, rfl, _, _, rfl, rfl, sm _ _ (q2 _) (by decide), _, rfl, _, _, rfl, rfl, _, rfl, _, _, rfl, rfl, .inl ⟨by decide, by decide⟩, _, _, rfl, rfl, .inl ⟨_, rfl, _, _, rfl, rfl, (by show (0 : Int) < 2147483587; decide), ?_⟩⟩
        refine ⟨_, rfl, .inl ⟨rfl, _, SqL.of h1⟩, _, rfl, _, _, rfl, rfl, ⟨by decide, by decide⟩, _, _, rfl, rfl, (by show (0 : Int) < 4096; decide), p, _, _, rfl, rfl, h1, hlen, ?_⟩
        exact step _ _ _ _
    · rintro σ H1 ⟨v3, v4, v5, ns, rfl, x1, h1, hl, hb⟩
      exact ⟨_, rfl, k p ns H1 x1 hp h1 (by rw [hl, Int.toNat_natCast]) hb⟩
end
end K75

set_option maxHeartbeats 8000000
/-! the law's strip, over a list and over a tuple -/
namespace K75
open PySem PySem.Spec PyProof.Rows L2
section
variable {P : Program} {w : World} {K : PySem.W.Frag} {mg : Str → Option Value} {base : Heap} {CR CT CK : Addr}
theorem scStr : FnScope ["_law_symbols", "_law_size", "_law_k"] ["_law_symbols"] (defScope sStrip) := ⟨rfl, rfl, rfl, by decide +kernel, rfl, by decide +kernel, by decide +kernel⟩
theorem ok_stripL {f : Addr} {fd : FuncData} (F : FD K "_law_strip" "_law_strip" sStrip f fd) (T : Txt K mg CR CT CK) : FnOk P w K mg base CX0 1 f fd ["_law_symbols"] spStripL := by
  refine FD.fok F scStr (fun vs H Q E h => ?_) (fun A outer s H vs Q E hr h => ?_)
  · obtain ⟨a, ns, rfl, _⟩ := h
    rfl
  · obtain ⟨a, ns, rfl, ha, hn, k⟩ := h
    refine ⟨_, pss_cons (ps_set (i := 1) scStr.nd rfl (.inl rfl) (pe_callB call_len_seq (by rfl) T.len PySem.boot_len (pa_cons (pv 0) pa_nil))) <|
      pss_cons (ps_for PassesOwn.never rfl (pi_range1 rfl T.rng (pa_cons (pe_callB call_len_seq (by rfl) T.len PySem.boot_len (pa_cons (pv 0) pa_nil)) pa_nil)) (pg_name (i := 2) scStr.nd rfl (.inl rfl))
        (pss_one (ps_if (PW.pt (pw_and (pt_cmpR op_gt (pv 1) pe_int (nomark _)) (pw_and1 (pt_cmpR op_eq (pe_ix ix_list (pv 0) (pe_op op_sub (pv 1) pe_int) (fun _ _ => rfl)) pe_int (nomark _)))))
          (pss_one (ps_set (i := 1) scStr.nd rfl (.inl rfl) (pe_op op_sub (pv 1) pe_int))) pss_nil))) <|
      pss_one (ps_ret (pe_callTy call_tuple_of (by rfl) T.tup (by decide +kernel) (pa_cons (pe_slice sl_list (pv 0) po_none (po_some (pv 1))) pa_nil))), ?_⟩
    have hlen : (ns.map V.int).length = ns.length := List.length_map ..
    refine ⟨_, rfl, a, _, rfl, .inl (SqL.of ha), ?_⟩
    refine ⟨_, rfl, a, _, rfl, .inl (SqL.of ha), ns.length, by rw [hlen], by omega, by omega, ?_⟩
    refine for_range (lo := 0) (n := (ns.length : Int).toNat) (fun i σ H' => ∃ (m : Nat) (v2 : Option V), σ = [some (.ref a), some (.int m), v2] ∧ H' = H ∧ m ≤ ns.length ∧ (∀ j x, m ≤ j → ns[j]? = some x → x = 0) ∧ (m = 0 ∨ (∃ x, ns[m - 1]? = some x ∧ x ≠ 0) ∨ m + i = ns.length))
      ⟨ns.length, none, by rw [hlen]; rfl, rfl, Nat.le_refl _, fun j x h1 h2 => absurd (List.getElem?_eq_some_iff.mp h2).1 (by omega), .inr (.inr (Nat.add_zero _))⟩ ?_ ?_
    · rintro i σ H1 hi ⟨m, v2, rfl, rfl, hm, hz, hw⟩
      rw [Int.toNat_natCast] at hi
      refine ⟨_, rfl, _, _, rfl, rfl, _, rfl, ?_⟩
      by_cases h0 : 0 < m
      · rw [decide_eq_true (by omega)]
        refine iteT ?_
        have hm1 : m - 1 < ns.length := by omega
        have em : (m : Int) - 1 = ((m - 1 : Nat) : Int) := by omega
        have hx := getD_at hm1
        refine ⟨_, rfl, _, rfl, _, _, rfl, rfl, a, _, _, .int (ns.getD (m - 1) 0), rfl, rfl, SqL.of ha, (by rw [em]; exact atI_nat (ints_at hx)), rfl, _, rfl, ?_⟩
        rw [dec_eq_int]
        by_cases hx0 : ns.getD (m - 1) 0 = 0
        · rw [decide_eq_true hx0]
          refine iteT ⟨_, rfl, _, _, rfl, rfl, m - 1, some (.int (0 + (i : Int))), ?_, rfl, by omega, fun j x h1 h2 => ?_, ?_⟩
          · rw [← em]; rfl
          · by_cases hj : j = m - 1
            · rw [hj, hx] at h2
              rw [← Option.some.inj h2]; exact hx0
            · exact hz j x (by omega) h2
          · rcases hw with h | ⟨x, h1, h2⟩ | h
            · omega
            · rw [hx] at h1
              exact absurd (by rw [← Option.some.inj h1]; exact hx0) h2
            · exact .inr (.inr (by omega))
        · rw [decide_eq_false hx0]
          exact iteF ⟨m, _, rfl, rfl, hm, hz, .inr (.inl ⟨_, hx, hx0⟩)⟩
      · rw [decide_eq_false (by omega)]
        refine iteF (iteF ⟨m, _, rfl, rfl, hm, hz, .inl (by omega)⟩)
    · rintro σ H1 ⟨m, v2, rfl, rfl, hm, hz, hw⟩
      rw [Int.toNat_natCast] at hw
      have e : ns.take m = strip ns := strip_take ns m hm hz (by
        rcases hw with h | h | h
        · exact .inl h
        · exact .inr h
        · exact .inl (by omega))
      refine ⟨_, rfl, _, rfl, _, rfl, a, _, rfl, SqL.of ha, fun q hq => ?_⟩
      have e1 : ∀ o, Ex H1 (upd H1 q o) := fun o => Ex.new hq
      refine ⟨q, _, rfl, .inl ⟨SqL.of upd_same, fun t ht => ?_⟩⟩
      have e2 := (e1 (.lst (cutV (ns.map V.int) none (some (m : Int))))).trans (Ex.new (o := .tup (cutV (ns.map V.int) none (some (m : Int)))) ht)
      refine k t _ e2 ?_
      show (upd _ t _) t = _
      rw [upd_same, cutV_take, ← List.map_take, e]
theorem ok_stripT {f : Addr} {fd : FuncData} (F : FD K "_law_strip" "_law_strip" sStrip f fd) (T : Txt K mg CR CT CK) : FnOk P w K mg base CX0 1 f fd ["_law_symbols"] spStripT := by
  refine FD.fok F scStr (fun vs H Q E h => ?_) (fun A outer s H vs Q E hr h => ?_)
  · obtain ⟨a, ns, rfl, _⟩ := h
    rfl
  · obtain ⟨a, ns, rfl, ha, hn, k⟩ := h
    refine ⟨_, pss_cons (ps_set (i := 1) scStr.nd rfl (.inl rfl) (pe_callB call_len_seq (by rfl) T.len PySem.boot_len (pa_cons (pv 0) pa_nil))) <|
      pss_cons (ps_for PassesOwn.never rfl (pi_range1 rfl T.rng (pa_cons (pe_callB call_len_seq (by rfl) T.len PySem.boot_len (pa_cons (pv 0) pa_nil)) pa_nil)) (pg_name (i := 2) scStr.nd rfl (.inl rfl))
        (pss_one (ps_if (PW.pt (pw_and (pt_cmpR op_gt (pv 1) pe_int (nomark _)) (pw_and1 (pt_cmpR op_eq (pe_ix ix_tup (pv 0) (pe_op op_sub (pv 1) pe_int) (fun _ _ => rfl)) pe_int (nomark _)))))
          (pss_one (ps_set (i := 1) scStr.nd rfl (.inl rfl) (pe_op op_sub (pv 1) pe_int))) pss_nil))) <|
      pss_one (ps_ret (pe_callTy call_tuple_of (by rfl) T.tup (by decide +kernel) (pa_cons (pe_slice sl_tupB (pv 0) po_none (po_some (pv 1))) pa_nil))), ?_⟩
    have hlen : (ns.map V.int).length = ns.length := List.length_map ..
    refine ⟨_, rfl, a, _, rfl, .inr (SqT.of ha), ?_⟩
    refine ⟨_, rfl, a, _, rfl, .inr (SqT.of ha), ns.length, by rw [hlen], by omega, by omega, ?_⟩
    refine for_range (lo := 0) (n := (ns.length : Int).toNat) (fun i σ H' => ∃ (m : Nat) (v2 : Option V), σ = [some (.ref a), some (.int m), v2] ∧ H' = H ∧ m ≤ ns.length ∧ (∀ j x, m ≤ j → ns[j]? = some x → x = 0) ∧ (m = 0 ∨ (∃ x, ns[m - 1]? = some x ∧ x ≠ 0) ∨ m + i = ns.length))
      ⟨ns.length, none, by rw [hlen]; rfl, rfl, Nat.le_refl _, fun j x h1 h2 => absurd (List.getElem?_eq_some_iff.mp h2).1 (by omega), .inr (.inr (Nat.add_zero _))⟩ ?_ ?_
    · rintro i σ H1 hi ⟨m, v2, rfl, rfl, hm, hz, hw⟩
      rw [Int.toNat_natCast] at hi
      refine ⟨_, rfl, _, _, rfl, rfl, _, rfl, ?_⟩
      by_cases h0 : 0 < m
      · rw [decide_eq_true (by omega)]
        refine iteT ?_
        have hm1 : m - 1 < ns.length := by omega
        have em : (m : Int) - 1 = ((m - 1 : Nat) : Int) := by omega
        have hx := getD_at hm1
        refine ⟨_, rfl, _, rfl, _, _, rfl, rfl, a, _, _, .int (ns.getD (m - 1) 0), rfl, rfl, SqT.of ha, (by rw [em]; exact atI_nat (ints_at hx)), rfl, _, rfl, ?_⟩
        rw [dec_eq_int]
        by_cases hx0 : ns.getD (m - 1) 0 = 0
        · rw [decide_eq_true hx0]
          refine iteT ⟨_, rfl, _, _, rfl, rfl, m - 1, some (.int (0 + (i : Int))), ?_, rfl, by omega, fun j x h1 h2 => ?_, ?_⟩
          · rw [← em]; rfl
          · by_cases hj : j = m - 1
            · rw [hj, hx] at h2
              rw [← Option.some.inj h2]; exact hx0
            · exact hz j x (by omega) h2
          · rcases hw with h | ⟨x, h1, h2⟩ | h
            · omega
            · rw [hx] at h1
              exact absurd (by rw [← Option.some.inj h1]; exact hx0) h2
            · exact .inr (.inr (by omega))
        · rw [decide_eq_false hx0]
          exact iteF ⟨m, _, rfl, rfl, hm, hz, .inr (.inl ⟨_, hx, hx0⟩)⟩
      · rw [decide_eq_false (by omega)]
        refine iteF (iteF ⟨m, _, rfl, rfl, hm, hz, .inl (by omega)⟩)
    · rintro σ H1 ⟨m, v2, rfl, rfl, hm, hz, hw⟩
      rw [Int.toNat_natCast] at hw
      have e : ns.take m = strip ns := strip_take ns m hm hz (by
        rcases hw with h | h | h
        · exact .inl h
        · exact .inr h
        · exact .inl (by omega))
      refine ⟨_, rfl, _, rfl, _, rfl, a, _, rfl, ha, fun q H2 e2 hq => ?_⟩
      refine ⟨q, _, rfl, .inr ⟨SqT.of hq, ?_⟩⟩
      refine k q _ e2 ?_
      show H2 q = _
      rw [hq, cutV_take, ← List.map_take, e]
end
end K75

set_option maxHeartbeats 8000000
/-! the law's table and rules -/
namespace K75
open PySem PySem.Spec PyProof.Rows L2
def spTable : Sp := fun vs H Q _ => ∃ (l : Addr) (as : List Addr) (rs : List Rl), vs = [.ref l] ∧ H l = some (.lst (as.map V.ref)) ∧ Each (RlAt H) as rs ∧ rs.length < 60 ∧ Apart rs ∧
  ∀ (d : Addr) (kvs : List (List Key × V)) (H' : Hp), Ex H H' → H' d = some (.dT kvs) → TabIs H' kvs (tabOf rs) → Q (.ref d) H'
def spRules : Sp := fun vs H Q _ => ∃ (a : Addr) (ds : List Int) (n k : Nat), vs = [.ref a, .int n, .int k] ∧ H a = some (.lst (ds.map V.int)) ∧ ds.length = 40 ∧ 1 ≤ n ∧ n ≤ 3 ∧ 2 ≤ k ∧ k ≤ 3 ∧
  ∀ (p : Addr) (as : List Addr) (rs : List Rl) (H' : Hp), Ex H H' → H' p = some (.lst (as.map V.ref)) → Each (RlAt H') as rs → rs.length < 60 → (∀ r ∈ rs, RlOk n k r) → Apart rs → Q (.ref p) H'
section
variable {P : Program} {w : World} {K : PySem.W.Frag} {mg : Str → Option Value} {base : Heap} {CR CT CK : Addr}
theorem scTab : FnScope ["_law_rules_here", "_law_table_here", "_law_state", "_law_symbol", "_law_written", "_law_move", "_law_following"] ["_law_rules_here"] (defScope sTable) := ⟨rfl, rfl, rfl, by decide +kernel, rfl, by decide +kernel, by decide +kernel⟩
theorem ok_table {f : Addr} {fd : FuncData} (F : FD K "_law_table" "_law_table" sTable f fd) (T : Txt K mg CR CT CK) : FnOk P w K mg base CX0 1 f fd ["_law_rules_here"] spTable := by
  refine FD.fok F scTab (fun vs H Q E h => ?_) (fun A outer s H vs Q E hr h => ?_)
  · obtain ⟨l, as, rs, rfl, _⟩ := h
    rfl
  · obtain ⟨l, as, rs, rfl, hl, he, hlen, hap, kont⟩ := h
    have hu := hu_of hr
    refine ⟨_, pss_cons (ps_set (i := 1) scTab.nd rfl (.inl rfl) pe_dnewT) <|
      pss_cons (ps_for PassesOwn.never rfl (pi_list (pv 0)) (pg_tup (by rfl) (pgs_cons (pg_name (i := 2) scTab.nd rfl (.inl rfl)) (pgs_cons (pg_name (i := 3) scTab.nd rfl (.inl rfl)) (pgs_cons (pg_name (i := 4) scTab.nd rfl (.inl rfl)) (pgs_cons (pg_name (i := 5) scTab.nd rfl (.inl rfl)) (pgs_cons (pg_name (i := 6) scTab.nd rfl (.inl rfl)) pgs_nil))))))
        (pss_one (ps_dput hu (pv 1) (pe_tup (pa_cons (pv 2) (pa_cons (pv 3) pa_nil))) (pe_tup (pa_cons (pv 4) (pa_cons (pv 5) (pa_cons (pv 6) pa_nil)))) rfl))) <|
      pss_one (ps_ret (pv 1)), ?_⟩
    intro d hd
    have e1 : ∀ o, Ex H (upd H d o) := fun o => Ex.new hd
    refine ⟨_, rfl, l, rfl, ⟨_, SqL.of ((e1 _).lst hl)⟩, for_list (K := K) (a := l) (xs := as.map V.ref) (fun i σ H' => ∃ v5 v6 v7 v8 v9 kvs, σ = [some (.ref l), some (.ref d), v5, v6, v7, v8, v9] ∧ Ex H H' ∧ H' d = some (.dT kvs) ∧
        TabIs H' kvs (tabOf (rs.take i)) ∧ kvs.length ≤ i)
      ⟨none, none, none, none, none, [], rfl, e1 _, upd_same, ⟨fun s b h => rfl, fun s b w m f h => (by cases h)⟩, Nat.le_refl _⟩
      (fun i σ H' _ ⟨_, _, _, _, _, _, _, x1, _⟩ => SqL.of (x1.lst hl)) ?_ ?_⟩
    · rintro i x σ H1 hx ⟨v5, v6, v7, v8, v9, kvs, rfl, x1, hd1, hT, hlk⟩
      obtain ⟨a, ha, rfl⟩ := ref_at hx
      obtain ⟨r, hri, hra⟩ := he.get' ha
      have hr1 := x1.tup hra
      have hi : i < rs.length := (List.getElem?_eq_some_iff.mp hri).1
      refine ⟨a, _, rfl, SqT.of hr1, rfl, _, _, rfl, _, _, rfl, _, _, rfl, _, _, rfl, _, _, rfl, rfl, ?_⟩
      refine ⟨_, rfl, _, rfl, _, rfl, by show 3 ≤ sizeLine; decide, fun t ht => ?_⟩
      have y3 : ∀ o, Ex H1 (upd H1 t o) := fun o => Ex.new ht
      refine ⟨_, rfl, _, rfl, _, rfl, by show 2 ≤ sizeLine; decide, fun q2 hq2 => ?_⟩
      have y4 : ∀ o, Ex (upd H1 t (.tup [.int r.w, .int r.m, .int r.f])) (upd (upd H1 t (.tup [.int r.w, .int r.m, .int r.f])) q2 o) := fun o => Ex.new hq2
      have y5 := (y3 _).trans (y4 (.tup [.int r.s, .int r.b]))
      have hd5 := y5.dT hd1
      refine ⟨d, _, rfl, DPut.t (k := tk r.s r.b) hd5 upd_same (Nat.lt_of_le_of_lt hlk (Nat.lt_trans hi (Nat.lt_trans hlen (by decide)))), ?_⟩
      refine ⟨_, _, _, _, _, _, rfl, (x1.trans y5).put hd, upd_same, ?_, Nat.le_trans (length_putK _ _ _) (Nat.succ_le_succ hlk)⟩
      rw [tabOf_next hri]
      exact ((hT.ex y5).put r ((y4 _).tup upd_same)).byT (Tk.putD hd5)
    · rintro σ H1 ⟨v5, v6, v7, v8, v9, kvs, rfl, x1, hd1, hT, hlk⟩
      rw [List.length_map, he.len] at hT
      rw [List.take_of_length_le (Nat.le_refl _)] at hT
      exact ⟨_, rfl, kont d kvs H1 x1 hd1 hT⟩
theorem scRls : FnScope ["_law_draws_here", "_law_states", "_law_symbols", "_law_rules_here", "_law_state", "_law_symbol", "_law_draw"] ["_law_draws_here", "_law_states", "_law_symbols"] (defScope sRules) := ⟨rfl, rfl, rfl, by decide +kernel, rfl, by decide +kernel, by decide +kernel⟩
theorem ok_rules {f : Addr} {fd : FuncData} (F : FD K "_law_rules" "_law_rules" sRules f fd) (T : Txt K mg CR CT CK) : FnOk P w K mg base CX0 1 f fd ["_law_draws_here", "_law_states", "_law_symbols"] spRules := by
  refine FD.fok F scRls (fun vs H Q E h => ?_) (fun A outer s H vs Q E hr h => ?_)
  · obtain ⟨a, ds, n, k, rfl, _⟩ := h
    rfl
  · obtain ⟨a, ds, n, k, rfl, ha, hds, hn1, hn2, hk1, hk2, kont⟩ := h
    refine ⟨_, pss_cons (ps_set (i := 3) scRls.nd rfl (.inl rfl) (pe_lst pa_nil)) <|
      pss_cons (ps_for PassesOwn.never rfl (pi_range1 rfl T.rng (pa_cons (pv 1) pa_nil)) (pg_name (i := 4) scRls.nd rfl (.inl rfl))
        (pss_one (ps_for PassesOwn.never rfl (pi_range1 rfl T.rng (pa_cons (pv 2) pa_nil)) (pg_name (i := 5) scRls.nd rfl (.inl rfl))
          (pss_cons (ps_set (i := 6) scRls.nd rfl (.inl rfl) (pe_ix ix_list (pv 0) (pe_op op_mod (pe_op op_add (pe_op op_mul (pv 4) (pv 2)) (pv 5)) (pe_callB call_len_seq (by rfl) T.len PySem.boot_len (pa_cons (pv 0) pa_nil))) (fun _ _ => rfl))) <|
            pss_one (ps_if (pt_cmpR op_gt (pe_op op_mod (pv 6) pe_int) pe_int (nomark _))
              (pss_one (ps_expr (pe_bm PySem.F.plainAttrs_list PySem.F.slot_list_append PySem.F.type_list_append mt_append (pv 3) (pa_cons (pe_tup (pa_cons (pv 4) (pa_cons (pv 5) (pa_cons (pe_op op_mod (pe_op op_fdiv (pv 6) pe_int) (pv 2)) (pa_cons (pe_op op_sub (pe_op op_mod (pe_op op_fdiv (pv 6) pe_int) pe_int) pe_int) (pa_cons (pe_op op_mod (pe_op op_fdiv (pv 6) pe_int) (pv 1)) pa_nil)))))) pa_nil)))) pss_nil))))) <|
      pss_one (ps_ret (pv 3)), ?_⟩
    refine ⟨Nat.zero_le _, fun p hp => ?_⟩
    have e1 : ∀ o, Ex H (upd H p o) := fun o => Ex.new hp
    refine ⟨_, rfl, n, rfl, by omega, by omega, ?_⟩
    refine for_range (lo := 0) (n := (n : Int).toNat) (fun i σ H' => ∃ (v4 v5 v6 : Option V) (as : List Addr) (rs : List Rl), σ = [some (.ref a), some (.int n), some (.int k), some (.ref p), v4, v5, v6] ∧ Ex H H' ∧ H' p = some (.lst (as.map V.ref)) ∧ Each (RlAt H') as rs ∧ rs.length ≤ 3 * i ∧ (∀ r ∈ rs, RlOk n k r) ∧ Apart rs ∧ ∀ r ∈ rs, r.s < (i : Int))
      ⟨none, none, none, [], [], rfl, e1 _, upd_same, Each.nil, Nat.zero_le _, fun x hx => (by cases hx), List.Pairwise.nil, fun x hx => by cases hx⟩ ?_ ?_
    · rintro i σ H1 hi ⟨v4, v5, v6, as, rs, rfl, x1, h1, he, hl, hok, hap, hlt⟩
      rw [Int.toNat_natCast] at hi
      refine ⟨_, rfl, k, rfl, by omega, by omega, ?_⟩
      refine for_range (lo := 0) (n := (k : Int).toNat) (fun j σ H' => ∃ (v5 v6 : Option V) (as : List Addr) (rs : List Rl), σ = [some (.ref a), some (.int n), some (.int k), some (.ref p), some (.int (0 + (i : Int))), v5, v6] ∧ Ex H H' ∧ H' p = some (.lst (as.map V.ref)) ∧ Each (RlAt H') as rs ∧ rs.length ≤ 3 * i + j ∧ (∀ r ∈ rs, RlOk n k r) ∧ Apart rs ∧ ∀ r ∈ rs, r.s < (i : Int) ∨ (r.s = (i : Int) ∧ r.b < (j : Int)))
        ⟨_, _, as, rs, rfl, x1, h1, he, by omega, hok, hap, fun r hr => .inl (hlt r hr)⟩ ?_ ?_
      · rintro j σ H2 hj ⟨v5, v6, as, rs, rfl, x2, h2, he, hl, hok, hap, hlt⟩
        rw [Int.toNat_natCast] at hj
        have hix : ∃ x : Nat, ((0 + (i : Int)) * (k : Int) + (0 + (j : Int))) % (((ds.map V.int).length : Nat) : Int) = (x : Int) ∧ x < ds.length := by
          rw [List.length_map, hds]
          refine ⟨(((0 + (i : Int)) * (k : Int) + (0 + (j : Int))) % ((40 : Nat) : Int)).toNat, ?_, ?_⟩
          · omega
          · omega
        obtain ⟨x, hx1, hx2⟩ := hix
        have hlz : (0 : Int) < (((ds.map V.int).length : Nat) : Int) := by rw [List.length_map, hds]; decide
        have hcm : CMul (0 + (i : Int)) (k : Int) := .inr ⟨by omega, by omega⟩
        refine ⟨_, rfl, _, rfl, _, rfl, _, _, rfl, rfl, hcm, _, rfl, _, _, rfl, rfl, _, rfl, a, _, rfl, .inl (SqL.of (x2.lst ha)), _, _, rfl, rfl, hlz, a, _, _, _, rfl, rfl, SqL.of (x2.lst ha), (by rw [hx1]; exact atI_nat (ints_at (getD_at hx2))), ?_⟩
        generalize ds.getD x 0 = d
        refine ⟨_, rfl, _, _, rfl, rfl, (by show (0 : Int) < 6; decide), _, _, rfl, rfl, _, rfl, ?_⟩
        refine ite2 (fun _ => ?_) (fun _ => ?_)
        · refine ⟨_, rfl, .inl ⟨rfl, _, SqL.of h2⟩, ?_⟩
          have hkp : (0 : Int) < (k : Int) := by omega
          have hnp : (0 : Int) < (n : Int) := by omega
          refine ⟨_, rfl, _, rfl, _, rfl, _, _, rfl, rfl, ⟨by decide, by decide⟩, _, rfl, _, _, rfl, rfl, hkp, _, rfl, _, _, rfl, rfl, ⟨by decide, by decide⟩, _, _, rfl, rfl, (by show (0 : Int) < 3; decide), _, _, rfl, rfl, _, rfl, _, _, rfl, rfl, ⟨by decide, by decide⟩, _, rfl, _, _, rfl, rfl, hnp, by show 5 ≤ sizeLine; decide, fun t ht => ?_⟩
          have e3 : ∀ o, Ex H2 (upd H2 t o) := fun o => Ex.new ht
          refine ⟨p, _, _, rfl, rfl, (e3 _).lst h2, ?_, ?_⟩
          · rw [List.length_map, he.len]; exact small1000 (by omega)
          let r : Rl := ⟨0 + (i : Int), 0 + (j : Int), d / 6 % (k : Int), d / 60 % 3 - 1, d / 180 % (n : Int)⟩
          have hr : RlOk n k r := ⟨⟨by show (0 : Int) ≤ 0 + (i : Int); omega, by show 0 + (i : Int) < (n : Int); omega⟩, ⟨by show (0 : Int) ≤ 0 + (j : Int); omega, by show 0 + (j : Int) < (k : Int); omega⟩, ⟨Int.emod_nonneg _ (by omega), Int.emod_lt_of_pos _ hkp⟩,
            (by show d / 60 % 3 - 1 = -1 ∨ d / 60 % 3 - 1 = 0 ∨ d / 60 % 3 - 1 = 1; omega), ⟨Int.emod_nonneg _ (by omega), Int.emod_lt_of_pos _ hnp⟩⟩
          refine ⟨_, _, as ++ [t], rs ++ [r], rfl, (x2.trans (e3 _)).put hp, ?_, ?_, ?_, fun x hx => ?_, ?_, fun x hx => ?_⟩
          · rw [upd_same, List.map_append]; rfl
          · have q : Each (RlAt (upd H2 t (.tup [.int r.s, .int r.b, .int r.w, .int r.m, .int r.f]))) (as ++ [t]) (rs ++ [r]) := (he.mono fun a c h => (e3 _).tup h).snoc upd_same
            exact q.mono fun a c h => by
              have np : a ≠ p := ne_of h ((e3 _).lst h2) (by intro z; cases z)
              show (upd _ p _) a = _
              rw [upd_ne np]; exact h
          · rw [List.length_append]; show rs.length + 1 ≤ _; omega
          · rcases List.mem_append.mp hx with z | z
            · exact hok x z
            · have : x = r := by simpa using z
              rw [this]; exact hr
          · refine List.pairwise_append.mpr ⟨hap, List.pairwise_singleton _ _, fun y hy z hz => ?_⟩
            have : z = r := by simpa using hz
            rw [this]
            rintro ⟨g1, g2⟩
            have g1' : y.s = 0 + (i : Int) := g1
            have g2' : y.b = 0 + (j : Int) := g2
            rcases hlt y hy with z | z <;> omega
          · rcases List.mem_append.mp hx with z | z
            · rcases hlt x z with z | z
              · exact .inl z
              · exact .inr ⟨z.1, by omega⟩
            · have : x = r := by simpa using z
              rw [this]
              exact .inr ⟨by show 0 + (i : Int) = i; omega, by show 0 + (j : Int) < ((j + 1 : Nat) : Int); omega⟩
        · refine ⟨_, _, as, rs, rfl, x2, h2, he, by omega, hok, hap, fun r hr => ?_⟩
          rcases hlt r hr with z | z
          · exact .inl z
          · exact .inr ⟨z.1, by omega⟩
      · rintro σ H2 ⟨v5, v6, as, rs, rfl, x2, h2, he, hl, hok, hap, hlt⟩
        refine ⟨_, _, _, as, rs, rfl, x2, h2, he, by omega, hok, hap, fun r hr => ?_⟩
        rcases hlt r hr with z | z
        · omega
        · omega
    · rintro σ H1 ⟨v4, v5, v6, as, rs, rfl, x1, h1, he, hl, hok, hap, hlt⟩
      rw [Int.toNat_natCast] at hl
      exact ⟨_, rfl, kont p as rs H1 x1 h1 he (by omega) hok hap⟩
end
end K75

set_option maxHeartbeats 8000000
/-! the law's instructions -/
namespace K75
open PySem PySem.Spec PyProof.Rows L2
def spInstr : Sp := fun vs H Q _ => ∃ (a : Addr) (ds : List Int) (k n : Nat), vs = [.ref a, .int k, .int n] ∧ H a = some (.lst (ds.map V.int)) ∧ ds.length = 40 ∧ 1 ≤ k ∧ k ≤ 3 ∧ 1 ≤ n ∧ n ≤ 5 ∧
  ∀ (p : Addr) (as : List Addr) (ps : List Ins) (H' : Hp), Ex H H' → H' p = some (.lst (as.map V.ref)) → Each (InsAt H') as ps → ps.length = n → ProgOk k ps → Q (.ref p) H'
theorem pick_ok {xs : List Int} {n : Nat} (h : ∀ x ∈ xs, 0 ≤ x ∧ x < (n : Int)) {i : Int} {m : Nat} (hm : (m : Int) = xs.length) (h0 : 0 ≤ i ∧ i < (m : Int)) : ∃ x : Int, atI (xs.map V.int) i = some (V.int x) ∧ 0 ≤ x ∧ x < (n : Int) := by
  obtain ⟨j, rfl⟩ := nat_of h0.1
  have hj : j < xs.length := by omega
  refine ⟨xs.getD j 0, atI_nat (ints_at (getD_at hj)), ?_⟩
  exact h _ (List.mem_of_getElem? (getD_at hj))
section
variable {P : Program} {w : World} {K : PySem.W.Frag} {mg : Str → Option Value} {base : Heap} {CR CT CK : Addr}
theorem scIns : FnScope ["_law_draws_here", "_law_cells", "_law_count", "_law_found", "_law_k", "_law_draw", "_law_near", "_law_far"] ["_law_draws_here", "_law_cells", "_law_count"] (defScope sInstr) := ⟨rfl, rfl, rfl, by decide +kernel, rfl, by decide +kernel, by decide +kernel⟩
theorem ok_instr {f : Addr} {fd : FuncData} (F : FD K "_law_instructions" "_law_instructions" sInstr f fd) (T : Txt K mg CR CT CK) : FnOk P w K mg base CX0 1 f fd ["_law_draws_here", "_law_cells", "_law_count"] spInstr := by
  refine FD.fok F scIns (fun vs H Q E h => ?_) (fun A outer s H vs Q E hr h => ?_)
  · obtain ⟨a, ds, k, n, rfl, _⟩ := h
    rfl
  · obtain ⟨a, ds, k, n, rfl, ha, hds, hk1, hk2, hn1, hn2, kont⟩ := h
    refine ⟨_, (pss_cons (ps_set (i := 3) scIns.nd rfl (.inl rfl) (pe_lst pa_nil)) (pss_cons (ps_for PassesOwn.never rfl (pi_range1 rfl T.rng (pa_cons (pv 2) pa_nil)) (pg_name (i := 4) scIns.nd rfl (.inl rfl)) (pss_cons (ps_set (i := 5) scIns.nd rfl (.inl rfl) (pe_ix ix_list (pv 0) (pe_op op_mod (pv 4) (pe_callB call_len_seq (by rfl) T.len PySem.boot_len (pa_cons (pv 0) pa_nil))) (fun _ _ => rfl))) (pss_cons (ps_set (i := 6) scIns.nd rfl (.inl rfl) (pe_op op_mod (pe_op op_add (pv 4) pe_int) (pv 2))) (pss_cons (ps_set (i := 7) scIns.nd rfl (.inl rfl) (pe_op op_mod (pe_op op_fdiv (pv 5) pe_int) (pv 2))) (pss_one (ps_if (pt_cmpR op_eq (pe_op op_mod (pv 5) pe_int) pe_int (nomark _)) (pss_one (ps_expr (pe_bm PySem.F.plainAttrs_list PySem.F.slot_list_append PySem.F.type_list_append mt_append (pv 3) (pa_cons (pe_tup (pa_cons pe_str pa_nil)) pa_nil)))) (pss_one (ps_if (pt_cmpR op_lt (pe_op op_mod (pv 5) pe_int) pe_int (nomark _)) (pss_one (ps_expr (pe_bm PySem.F.plainAttrs_list PySem.F.slot_list_append PySem.F.type_list_append mt_append (pv 3) (pa_cons (pe_tup (pa_cons pe_str (pa_cons (pe_op op_mod (pe_op op_fdiv (pv 5) pe_int) (pv 1)) (pa_cons (pe_ix ix_list (pe_lst (pa_cons (pv 6) (pa_cons (pv 6) (pa_cons (pv 7) pa_nil)))) (pe_op op_mod (pe_op op_fdiv (pv 5) pe_int) pe_int) (fun _ _ => rfl)) pa_nil)))) pa_nil)))) (pss_one (ps_expr (pe_bm PySem.F.plainAttrs_list PySem.F.slot_list_append PySem.F.type_list_append mt_append (pv 3) (pa_cons (pe_tup (pa_cons pe_str (pa_cons (pe_op op_mod (pe_op op_fdiv (pv 5) pe_int) (pv 1)) (pa_cons (pe_ix ix_list (pe_lst (pa_cons (pv 6) (pa_cons (pv 7) pa_nil))) (pe_op op_mod (pe_op op_fdiv (pv 5) pe_int) pe_int) (fun _ _ => rfl)) (pa_cons (pe_op op_mod (pe_op op_fdiv (pv 5) pe_int) (pv 2)) pa_nil))))) pa_nil)))))))))))) (pss_one (ps_ret (pv 3))))), ?_⟩
    refine ⟨Nat.zero_le _, fun p hp => ?_⟩
    have e1 : ∀ o, Ex H (upd H p o) := fun o => Ex.new hp
    refine ⟨_, rfl, n, rfl, by omega, by omega, ?_⟩
    have hkp : (0 : Int) < (k : Int) := by omega
    have hnp : (0 : Int) < (n : Int) := by omega
    refine for_range (lo := 0) (n := (n : Int).toNat) (fun i σ H' => ∃ (v4 v5 v6 v7 : Option V) (as : List Addr) (ps : List Ins), σ = [some (.ref a), some (.int k), some (.int n), some (.ref p), v4, v5, v6, v7] ∧ Ex H H' ∧ H' p = some (.lst (as.map V.ref)) ∧ Each (InsAt H') as ps ∧ ps.length = i ∧ ∀ x ∈ ps, InsOk k n x)
      ⟨none, none, none, none, [], [], rfl, e1 _, upd_same, Each.nil, rfl, fun x hx => by cases hx⟩ ?_ ?_
    · rintro i σ H1 hi ⟨v4, v5, v6, v7, as, ps, rfl, x1, h1, he, hl, hok⟩
      rw [Int.toNat_natCast] at hi
      have step : ∀ (t : Addr) (H3 : Hp) (x : Ins) (v4 v5 v6 v7 : Option V), Ex H1 H3 → InsAt H3 t x → InsOk k n x → ∃ (u4 u5 u6 u7 : Option V) (as' : List Addr) (ps' : List Ins), [some (.ref a), some (.int k), some (.int n), some (.ref p), v4, v5, v6, v7] = [some (.ref a), some (.int k), some (.int n), some (.ref p), u4, u5, u6, u7] ∧
          Ex H (upd H3 p (.lst (as.map V.ref ++ [.ref t]))) ∧ (upd H3 p (.lst (as.map V.ref ++ [.ref t]))) p = some (.lst (as'.map V.ref)) ∧ Each (InsAt (upd H3 p (.lst (as.map V.ref ++ [.ref t])))) as' ps' ∧ ps'.length = i + 1 ∧ ∀ x ∈ ps', InsOk k n x := by
        intro t H3 x v4 v5 v6 v7 e3 h3 ho
        refine ⟨v4, v5, v6, v7, as ++ [t], ps ++ [x], rfl, (x1.trans e3).put hp, ?_, ?_, ?_, fun y hy => ?_⟩
        · rw [upd_same, List.map_append]; rfl
        · have q : Each (InsAt H3) (as ++ [t]) (ps ++ [x]) := (he.mono fun a c h => e3.tup h).snoc h3
          exact q.mono fun a c h => by
            have np : a ≠ p := ne_of h (e3.lst h1) (by intro z; cases z)
            show (upd _ p _) a = _
            rw [upd_ne np]; exact h
        · rw [List.length_append, hl]; rfl
        · rcases List.mem_append.mp hy with z | z
          · exact hok y z
          · have : y = x := by simpa using z
            rw [this]; exact ho
      have hlen : (as.map V.ref).length < sizeLine := by rw [List.length_map, he.len]; exact small1000 (by omega)
      have hlz : (0 : Int) < (((ds.map V.int).length : Nat) : Int) := by rw [List.length_map, hds]; decide
      have hix : ∃ x : Nat, (0 + (i : Int)) % (((ds.map V.int).length : Nat) : Int) = (x : Int) ∧ x < ds.length := by
        rw [List.length_map, hds]
        exact ⟨((0 + (i : Int)) % ((40 : Nat) : Int)).toNat, by omega, by omega⟩
      obtain ⟨x, hx1, hx2⟩ := hix
      refine ⟨_, rfl, _, rfl, _, rfl, a, _, rfl, .inl (SqL.of (x1.lst ha)), _, _, rfl, rfl, hlz, a, _, _, _, rfl, rfl, SqL.of (x1.lst ha), (by rw [hx1]; exact atI_nat (ints_at (getD_at hx2))), ?_⟩
      generalize ds.getD x 0 = d
      refine ⟨_, rfl, _, _, rfl, rfl, _, rfl, _, _, rfl, rfl, hnp, ?_⟩
      have hnear : 0 ≤ (0 + (i : Int) + 1) % (n : Int) ∧ (0 + (i : Int) + 1) % (n : Int) < (n : Int) := ⟨Int.emod_nonneg _ (by omega), Int.emod_lt_of_pos _ hnp⟩
      refine ⟨_, rfl, _, _, rfl, rfl, ⟨by decide, by decide⟩, _, rfl, _, _, rfl, rfl, hnp, ?_⟩
      have hfar : 0 ≤ d / 40 % (n : Int) ∧ d / 40 % (n : Int) < (n : Int) := ⟨Int.emod_nonneg _ (by omega), Int.emod_lt_of_pos _ hnp⟩
      have hreg : 0 ≤ d / 7 % (k : Int) ∧ d / 7 % (k : Int) < (k : Int) := ⟨Int.emod_nonneg _ (by omega), Int.emod_lt_of_pos _ hkp⟩
      have hoth : 0 ≤ d / 560 % (n : Int) ∧ d / 560 % (n : Int) < (n : Int) := ⟨Int.emod_nonneg _ (by omega), Int.emod_lt_of_pos _ hnp⟩
      refine ⟨_, rfl, _, _, rfl, rfl, (by show (0 : Int) < 7; decide), rfl, _, rfl, ?_⟩
      refine ite2 (fun _ => ?_) (fun _ => ?_)
      · refine ⟨_, rfl, .inl ⟨rfl, _, SqL.of h1⟩, by show 1 ≤ sizeLine; decide, fun t ht => ?_⟩
        have e3 : ∀ o, Ex H1 (upd H1 t o) := fun o => Ex.new ht
        refine ⟨p, _, _, rfl, rfl, (e3 _).lst h1, hlen, ?_⟩
        exact step t _ .fin _ _ _ _ (e3 _) upd_same trivial
      · refine ⟨_, rfl, _, _, rfl, rfl, (by show (0 : Int) < 7; decide), _, _, rfl, rfl, _, rfl, ?_⟩
        refine ite2 (fun _ => ?_) (fun _ => ?_)
        · refine ⟨_, rfl, .inl ⟨rfl, _, SqL.of h1⟩, ?_⟩
          obtain ⟨nx, hnx, hnx2⟩ := pick_ok (xs := [((0 + (i : Int) + 1) % (n : Int)), ((0 + (i : Int) + 1) % (n : Int)), (d / 40 % (n : Int))]) (n := n) (m := 3) (i := d / 280 % 3) (fun x hx => by
            rcases List.mem_cons.mp hx with z | z
            · rw [z]; exact hnear
            · rcases List.mem_cons.mp z with z | z
              · rw [z]; exact hnear
              · have : x = (d / 40 % (n : Int)) := by simpa using z
                rw [this]; exact hfar) rfl (by omega)
          refine ⟨_, rfl, _, _, rfl, rfl, ⟨by decide, by decide⟩, _, rfl, _, _, rfl, rfl, hkp, ?_⟩
          refine ⟨_, rfl, _, rfl, _, rfl, by show 3 ≤ sizeLine; decide, fun q hq => ?_⟩
          have e3 : ∀ o, Ex H1 (upd H1 q o) := fun o => Ex.new hq
          refine ⟨_, rfl, _, _, rfl, rfl, ⟨by decide, by decide⟩, _, _, rfl, rfl, (by show (0 : Int) < 3; decide), q, _, _, _, rfl, rfl, SqL.of upd_same, hnx, by show 3 ≤ sizeLine; decide, fun t ht => ?_⟩
          have e4 : ∀ o, Ex H1 (upd (upd H1 q (.lst [.int ((0 + (i : Int) + 1) % (n : Int)), .int ((0 + (i : Int) + 1) % (n : Int)), .int (d / 40 % (n : Int))])) t o) := fun o => (e3 _).trans (Ex.new ht)
          refine ⟨p, _, _, rfl, rfl, (e4 _).lst h1, hlen, ?_⟩
          exact step t _ (.inc _ nx) _ _ _ _ (e4 _) upd_same ⟨hreg, hnx2⟩
        · refine ⟨_, rfl, .inl ⟨rfl, _, SqL.of h1⟩, ?_⟩
          obtain ⟨nx, hnx, hnx2⟩ := pick_ok (xs := [((0 + (i : Int) + 1) % (n : Int)), (d / 40 % (n : Int))]) (n := n) (m := 2) (i := d / 280 % 2) (fun x hx => by
            rcases List.mem_cons.mp hx with z | z
            · rw [z]; exact hnear
            · have : x = (d / 40 % (n : Int)) := by simpa using z
              rw [this]; exact hfar) rfl (by omega)
          refine ⟨_, rfl, _, _, rfl, rfl, ⟨by decide, by decide⟩, _, rfl, _, _, rfl, rfl, hkp, ?_⟩
          refine ⟨_, rfl, _, rfl, by show 2 ≤ sizeLine; decide, fun q hq => ?_⟩
          have e3 : ∀ o, Ex H1 (upd H1 q o) := fun o => Ex.new hq
          refine ⟨_, rfl, _, _, rfl, rfl, ⟨by decide, by decide⟩, _, _, rfl, rfl, (by show (0 : Int) < 2; decide), q, _, _, _, rfl, rfl, SqL.of upd_same, hnx, ?_⟩
          refine ⟨_, rfl, _, _, rfl, rfl, ⟨by decide, by decide⟩, _, rfl, _, _, rfl, rfl, hnp, by show 4 ≤ sizeLine; decide, fun t ht => ?_⟩
          have e4 : ∀ o, Ex H1 (upd (upd H1 q (.lst [.int ((0 + (i : Int) + 1) % (n : Int)), .int (d / 40 % (n : Int))])) t o) := fun o => (e3 _).trans (Ex.new ht)
          refine ⟨p, _, _, rfl, rfl, (e4 _).lst h1, hlen, ?_⟩
          exact step t _ (.dec _ nx _) _ _ _ _ (e4 _) upd_same ⟨hreg, hnx2, hoth⟩
    · rintro σ H1 ⟨v4, v5, v6, v7, as, ps, rfl, x1, h1, he, hl, hok⟩
      rw [Int.toNat_natCast] at hl
      exact ⟨_, rfl, kont p as ps H1 x1 h1 he hl (by unfold ProgOk; rw [hl]; exact hok)⟩
end
end K75

set_option maxHeartbeats 8000000
/-! the law's tape -/
namespace K75
open PySem PySem.Spec PyProof.Rows L2
def spTape : Sp := fun vs H Q _ => ∃ (a : Addr) (ds : List Int) (n k : Nat), vs = [.ref a, .int n, .int k, .int 2] ∧ H a = some (.lst (ds.map V.int)) ∧ ds.length = 30 ∧ 1 ≤ n ∧ 1 ≤ k ∧
  ∀ (p : Addr) (c : TC) (H' : Hp), Ex H H' → TCf H' p c → TGood c → c.l.length ≤ 2 → c.r.length ≤ 2 → Q (.ref p) H'
theorem strip_len : ∀ l : List Int, (strip l).length ≤ l.length
  | [] => Nat.le_refl _
  | x :: xs => by
    have ih := strip_len xs
    rw [strip_cons]
    split
    · exact Nat.zero_le _
    · show (strip xs).length + 1 ≤ xs.length + 1
      omega
section
variable {P : Program} {w : World} {K : PySem.W.Frag} {mg : Str → Option Value} {base : Heap} {CR CT CK : Addr}
theorem scTp : FnScope ["_law_draws_here", "_law_states", "_law_symbols", "_law_most", "_law_left", "_law_right", "_law_k"] ["_law_draws_here", "_law_states", "_law_symbols", "_law_most"] (defScope sTape) := ⟨rfl, rfl, rfl, by decide +kernel, rfl, by decide +kernel, by decide +kernel⟩
theorem ok_tape {f : Addr} {fd : FuncData} (F : FD K "_law_tape" "_law_tape" sTape f fd) (T : Txt K mg CR CT CK) (Z : Cal P w K mg base "_law_strip" 1 ["_law_symbols"] spStripL) : FnOk P w K mg base CX0 2 f fd ["_law_draws_here", "_law_states", "_law_symbols", "_law_most"] spTape := by
  obtain ⟨f1, fd1, g1, kp1, b1, G1⟩ := Z.ex
  refine FD.fok F scTp (fun vs H Q E h => ?_) (fun A outer s H vs Q E hr h => ?_)
  · obtain ⟨a, ds, n, k, rfl, _⟩ := h
    rfl
  · obtain ⟨a, ds, n, k, rfl, ha, hds, hn1, hk1, kont⟩ := h
    refine ⟨_, (pss_cons (ps_setLc (i := 4) (own := [("_law_k", 6)]) (g := gName 6) (tt := tYes) (by rfl) scTp.nd rfl rfl (sw_true rfl rfl rfl (by rfl)) (pi_range1 rfl T.rng (pa_cons (pe_op op_mod (pe_ix ix_list (pv 0) pe_int (fun _ _ => rfl)) (pe_op op_add (pv 3) pe_int)) pa_nil)) (blkOk_by (own := [("_law_k", 6)]) (N := ["_law_draws_here", "_law_states", "_law_symbols", "_law_most", "_law_left", "_law_right", "_law_k"]) (sc := defScope sTape) (by decide +kernel)) (fun _ _ _ _ _ => pg_name (i := 6) scTp.nd rfl (Or.inl rfl)) (fun _ _ _ _ _ => pts_nil) (fun _ _ _ _ _ => (pe_op op_mod (pe_ix (show IxR _ (rIxL K) from ix_list) (pv 0) (pe_op op_add pe_int (pv 6)) (fun _ _ => rfl)) (pv 2)))) (pss_cons (ps_setLc (i := 5) (own := [("_law_k", 6)]) (g := gName 6) (tt := tYes) (by rfl) scTp.nd rfl rfl (sw_true rfl rfl rfl (by rfl)) (pi_range1 rfl T.rng (pa_cons (pe_op op_mod (pe_op op_fdiv (pe_ix ix_list (pv 0) pe_int (fun _ _ => rfl)) pe_int) (pe_op op_add (pv 3) pe_int)) pa_nil)) (blkOk_by (own := [("_law_k", 6)]) (N := ["_law_draws_here", "_law_states", "_law_symbols", "_law_most", "_law_left", "_law_right", "_law_k"]) (sc := defScope sTape) (by decide +kernel)) (fun _ _ _ _ _ => pg_name (i := 6) scTp.nd rfl (Or.inl rfl)) (fun _ _ _ _ _ => pts_nil) (fun _ _ _ _ _ => (pe_op op_mod (pe_ix (show IxR _ (rIxL K) from ix_list) (pv 0) (pe_op op_add pe_int (pv 6)) (fun _ _ => rfl)) (pv 2)))) (pss_one (ps_ret (pe_tup (pa_cons (pe_op op_mod (pe_op op_fdiv (pe_ix ix_list (pv 0) pe_int (fun _ _ => rfl)) pe_int) (pv 1)) (pa_cons (pe_call G1 (hr.mono (by decide)) rfl g1 kp1 b1 .nil pass0 (pa_cons (pv 4) pa_nil)) (pa_cons (pe_op op_mod (pe_ix ix_list (pv 0) pe_int (fun _ _ => rfl)) (pv 2)) (pa_cons (pe_call G1 (hr.mono (by decide)) rfl g1 kp1 b1 .nil pass0 (pa_cons (pv 5) pa_nil)) pa_nil))))))))), ?_⟩
    have hnp : (0 : Int) < (n : Int) := by omega
    have hkp : (0 : Int) < (k : Int) := by omega
    have g : ∀ j : Nat, j < 30 → atI (ds.map V.int) (j : Int) = some (.int (ds.getD j 0)) := fun j hj => atI_nat (ints_at (getD_at (by omega)))
    refine ⟨_, rfl, a, _, _, _, rfl, rfl, SqL.of ha, g 0 (by decide), _, rfl, _, _, rfl, rfl, _, _, rfl, rfl, (by show (0 : Int) < 2 + 1; decide), _, rfl, by omega, by omega, ?_⟩
    refine fun D hD => ?_
    have e1 : ∀ o, Ex H (upd H D o) := fun o => Ex.new hD
    refine lc_range (lo := 0) (n := (ds.getD 0 0 % (2 + 1)).toNat) (fun i H' => Ex H H' ∧ ∃ ns : List Int, H' D = some (.lst (ns.map V.int)) ∧ ns.length = i) ⟨e1 _, [], upd_same, rfl⟩ ?_ ?_
    · rintro i H1 hi ⟨x1, ns, h1, hl⟩
      refine ⟨rfl, tyes ?_⟩
      refine ⟨_, rfl, _, rfl, _, _, rfl, rfl, a, _, _, _, rfl, rfl, SqL.of (x1.lst ha), (by rw [show (1 : Int) + (0 + (i : Int)) = ((i + 1 : Nat) : Int) by omega]; exact g (i + 1) (by omega)), _, rfl, _, _, rfl, rfl, hkp, ?_⟩
      refine ⟨_, h1, (by rw [List.length_map, hl]; exact small1000 (by omega)), x1.put hD, ns ++ [ds.getD (i + 1) 0 % (k : Int)], ?_, by rw [List.length_append, hl]; rfl⟩
      rw [upd_same, List.map_append]; rfl
    rintro H1 ⟨x1, l1, hl1, hn1'⟩
    refine ⟨_, rfl, a, _, _, _, rfl, rfl, SqL.of (x1.lst ha), g 0 (by decide), ?_⟩
    refine ⟨_, _, rfl, rfl, ⟨by decide, by decide⟩, _, rfl, _, _, rfl, rfl, _, _, rfl, rfl, (by show (0 : Int) < 2 + 1; decide), _, rfl, by omega, by omega, ?_⟩
    refine fun D2 hD2 => ?_
    have e2 : ∀ o, Ex H1 (upd H1 D2 o) := fun o => Ex.new hD2
    refine lc_range (lo := 0) (n := (ds.getD 0 0 / 8 % (2 + 1)).toNat) (fun i H' => Ex H1 H' ∧ ∃ ns : List Int, H' D2 = some (.lst (ns.map V.int)) ∧ ns.length = i) ⟨e2 _, [], upd_same, rfl⟩ ?_ ?_
    · rintro i H2 hi ⟨x2, ns, h1, hl⟩
      refine ⟨rfl, tyes ?_⟩
      refine ⟨_, rfl, _, rfl, _, _, rfl, rfl, a, _, _, _, rfl, rfl, SqL.of (x2.lst (x1.lst ha)), (by rw [show (7 : Int) + (0 + (i : Int)) = ((i + 7 : Nat) : Int) by omega]; exact g (i + 7) (by omega)), _, rfl, _, _, rfl, rfl, hkp, ?_⟩
      refine ⟨_, h1, (by rw [List.length_map, hl]; exact small1000 (by omega)), x2.put hD2, ns ++ [ds.getD (i + 7) 0 % (k : Int)], ?_, by rw [List.length_append, hl]; rfl⟩
      rw [upd_same, List.map_append]; rfl
    rintro H2 ⟨x2, l2, hl2, hn2'⟩
    have x12 := x1.trans x2
    refine ⟨_, rfl, a, _, _, _, rfl, rfl, SqL.of (x12.lst ha), g 0 (by decide), _, _, rfl, rfl, ⟨by decide, by decide⟩, _, rfl, _, _, rfl, rfl, hnp, ?_⟩
    refine ⟨_, rfl, D, l1, rfl, x2.lst hl1, by omega, fun p1 H3 e3 h3 => ?_⟩
    refine ⟨_, rfl, a, _, _, _, rfl, rfl, SqL.of (e3.lst (x12.lst ha)), g 13 (by decide), _, rfl, _, _, rfl, rfl, hkp, ?_⟩
    refine ⟨_, rfl, D2, l2, rfl, e3.lst hl2, by omega, fun p2 H4 e4 h4 => ?_⟩
    refine ⟨by show 4 ≤ sizeLine; decide, fun p hp => ?_⟩
    have e5 : ∀ o, Ex H4 (upd H4 p o) := fun o => Ex.new hp
    have s1 := strip_len l1
    have s2 := strip_len l2
    refine kont p ⟨_, strip l1, _, strip l2⟩ _ (x12.trans (e3.trans (e4.trans (e5 _)))) ⟨p1, p2, upd_same, (e5 _).it (e4.it h3), (e5 _).it h4⟩ ⟨strd_strip l1, strd_strip l2⟩ (by show (strip l1).length ≤ 2; omega) (by show (strip l2).length ≤ 2; omega)
end
end K75

set_option maxHeartbeats 8000000
/-! the law's own steps -/
namespace K75
open PySem PySem.Spec PyProof.Rows L2
def LTab (tab : Tab) (H : Hp) (d : Addr) : Prop := ∃ kvs, H d = some (.dT kvs) ∧ TabIs H kvs tab
def LPre (c : TC) : Prop := c.l.length ≤ 400 ∧ c.r.length ≤ 400
def LIns (ps : List Ins) (H : Hp) (l : Addr) : Prop := ∃ as : List Addr, H l = some (.lst (as.map V.ref)) ∧ Each (InsAt H) as ps
theorem cat_head (xs : List Int) : atI (xs.map V.int ++ [V.int 0]) 0 = some (V.int (xs.headD 0)) := by
  refine atI_nat (j := 0) ?_
  cases xs <;> rfl
theorem ixN_of {n j : Nat} (hj : j < n) : ixN n (j : Int) = some j := by
  unfold ixN
  rw [if_pos (by omega), if_pos (by omega), Int.toNat_natCast]
theorem cut_tail (xs : List Int) : cutV (xs.map V.int) (some 1) none = xs.tail.map V.int := by
  rw [show (1 : Int) = ((1 : Nat) : Int) by rfl, cutV_drop]
  cases xs <;> rfl
section
variable {P : Program} {w : World} {K : PySem.W.Frag} {mg : Str → Option Value} {base : Heap} {CR CT CK : Addr}
theorem scLS : FnScope ["_law_table_here", "_law_here", "_law_state", "_law_left", "_law_symbol", "_law_right", "_law_written", "_law_move", "_law_following"] ["_law_table_here", "_law_here"] (defScope sLStep) := ⟨rfl, rfl, rfl, by decide +kernel, rfl, by decide +kernel, by decide +kernel⟩
theorem ok_lstep {f : Addr} {fd : FuncData} {tab : Tab} (F : FD K "_law_turing_step" "_law_turing_step" sLStep f fd) (T : Txt K mg CR CT CK) (Z : Cal P w K mg base "_law_strip" 1 ["_law_symbols"] spStripT) :
    FnOk P w K mg base CX0 2 f fd ["_law_table_here", "_law_here"] (spStep (LTab tab) TCf LPre (lstep tab)) := by
  obtain ⟨f1, fd1, g1, kp1, b1, G1⟩ := Z.ex
  refine FD.fok F scLS (fun vs H Q E h => ?_) (fun A outer s H vs Q E hr h => ?_)
  · obtain ⟨m, a, c, rfl, _⟩ := h
    rfl
  · obtain ⟨d, a, c, rfl, ⟨kvs, h5, h6⟩, hc, ⟨hl, hrr⟩, kN, kS⟩ := h
    obtain ⟨l, r, hc1, hc2, hc3⟩ := hc.ex
    have hu := hu_of hr
    refine ⟨_, (pss_cons (ps_asg (pv 1) (pg_tup (by rfl) (pgs_cons (pg_name (i := 2) scLS.nd rfl (.inl rfl)) (pgs_cons (pg_name (i := 3) scLS.nd rfl (.inl rfl)) (pgs_cons (pg_name (i := 4) scLS.nd rfl (.inl rfl)) (pgs_cons (pg_name (i := 5) scLS.nd rfl (.inl rfl)) pgs_nil)))))) (pss_cons (ps_if (pt_cmp (pc_dnotin hu (pe_tup (pa_cons (pv 2) (pa_cons (pv 4) pa_nil))) (pv 0))) (pss_one (ps_ret pe_non)) pss_nil) (pss_cons (ps_asg (pe_dget hu (pv 0) (pe_tup (pa_cons (pv 2) (pa_cons (pv 4) pa_nil))) (fun _ _ => rfl)) (pg_tup (by rfl) (pgs_cons (pg_name (i := 6) scLS.nd rfl (.inl rfl)) (pgs_cons (pg_name (i := 7) scLS.nd rfl (.inl rfl)) (pgs_cons (pg_name (i := 8) scLS.nd rfl (.inl rfl)) pgs_nil))))) (pss_cons (ps_if (pt_cmpR op_eq (pv 7) pe_int (nomark _)) (pss_one (ps_ret (pe_tup (pa_cons (pv 8) (pa_cons (pv 3) (pa_cons (pv 6) (pa_cons (pv 5) pa_nil))))))) pss_nil) (pss_cons (ps_if (pt_cmpR op_eq (pv 7) pe_int (nomark _)) (pss_one (ps_ret (pe_tup (pa_cons (pv 8) (pa_cons (pe_call G1 (hr.mono (by decide)) rfl g1 kp1 b1 .nil pass0 (pa_cons (pe_op op_catB (pe_tup (pa_cons (pv 6) pa_nil)) (pv 3)) pa_nil)) (pa_cons (pe_ix ix_tup (pe_op op_catB (pv 5) (pe_tup (pa_cons pe_int pa_nil))) pe_int (fun _ _ => rfl)) (pa_cons (pe_slice sl_tupB (pv 5) (po_some pe_int) po_none) pa_nil))))))) pss_nil) (pss_one (ps_ret (pe_tup (pa_cons (pv 8) (pa_cons (pe_slice sl_tupB (pv 3) (po_some pe_int) po_none) (pa_cons (pe_ix ix_tup (pe_op op_catB (pv 3) (pe_tup (pa_cons pe_int pa_nil))) pe_int (fun _ _ => rfl)) (pa_cons (pe_call G1 (hr.mono (by decide)) rfl g1 kp1 b1 .nil pass0 (pa_cons (pe_op op_catB (pe_tup (pa_cons (pv 6) pa_nil)) (pv 5)) pa_nil)) pa_nil)))))))))))), ?_⟩
    refine ⟨_, rfl, a, _, rfl, SqT.of hc1, rfl, _, _, rfl, _, _, rfl, _, _, rfl, _, _, rfl, rfl, ?_⟩
    refine ⟨_, rfl, _, rfl, by show 2 ≤ sizeLine; decide, fun q hq => ?_⟩
    have e1 : ∀ o, Ex H (upd H q o) := fun o => Ex.new hq
    refine ⟨_, rfl, d, _, rfl, DGet.t (k := tk c.q c.h) ((e1 _).dT h5) upd_same, _, rfl, ?_⟩
    cases e : tab c.q c.h with
    | none =>
      rw [h6.no _ _ e]
      refine iteT ?_
      refine kN ?_ _ (e1 _)
      unfold lstep
      rw [e]
    | some p =>
      obtain ⟨w, mv, f⟩ := p
      obtain ⟨t, gt, ht⟩ := h6.yes _ _ _ _ _ e
      rw [gt]
      refine iteF ?_
      refine ⟨_, rfl, _, rfl, _, rfl, by show 2 ≤ sizeLine; decide, fun q2 hq2 => ?_⟩
      have e2 : ∀ o, Ex (upd H q (.tup [.int c.q, .int c.h])) (upd (upd H q (.tup [.int c.q, .int c.h])) q2 o) := fun o => Ex.new hq2
      have e3 : ∀ o, Ex H (upd (upd H q (.tup [.int c.q, .int c.h])) q2 o) := fun o => (e1 _).trans (e2 o)
      refine ⟨d, _, rfl, (show DGet _ d (.ref q2) (some (.ref t)) from gt ▸ DGet.t (k := tk c.q c.h) ((e3 _).dT h5) upd_same), ?_⟩
      refine ⟨t, _, rfl, SqT.of ((e3 _).tup ht), rfl, _, _, rfl, _, _, rfl, _, _, rfl, rfl, ?_⟩
      refine ⟨_, rfl, rfl, _, rfl, ?_⟩
      have x1 := e3 (.tup [.int c.q, .int c.h])
      generalize upd (upd H q (.tup [.int c.q, .int c.h])) q2 (.tup [.int c.q, .int c.h]) = H1 at x1 ⊢
      by_cases z0 : mv = 0
      · subst z0
        refine iteT ?_
        refine ⟨_, rfl, _, rfl, _, rfl, _, rfl, by show 4 ≤ sizeLine; decide, fun p hp => ?_⟩
        have e4 : ∀ o, Ex H (upd H1 p o) := fun o => x1.trans (Ex.new hp)
        refine kS ⟨f, c.l, w, c.r⟩ ?_ p _ (e4 _) ⟨l, r, upd_same, (e4 _).it hc2, (e4 _).it hc3⟩
        unfold lstep
        rw [e]
        rfl
      · rw [decide_eq_false (fun z => z0 (by injection z))]
        refine iteF ?_
        refine ⟨_, rfl, rfl, _, rfl, ?_⟩
        by_cases z1 : mv = 1
        · subst z1
          refine iteT ?_
          refine ⟨_, rfl, _, rfl, by show 1 ≤ sizeLine; decide, fun q3 hq3 => ?_⟩
          have e4 : ∀ o, Ex H (upd H1 q3 o) := fun o => x1.trans (Ex.new hq3)
          refine ⟨_, rfl, q3, l, _, _, rfl, rfl, upd_same, (e4 _).it hc2, (by rw [List.length_map]; show 1 + c.l.length ≤ 1000; omega), fun p1 H2 e5 h5' => ?_⟩
          refine ⟨p1, w :: c.l, rfl, h5', (by show c.l.length + 1 ≤ 500; omega), fun p2 H3 e6 h6' => ?_⟩
          have x3 := ((e4 _).trans e5).trans e6
          refine ⟨_, rfl, by show 1 ≤ sizeLine; decide, fun q4 hq4 => ?_⟩
          have e7 : ∀ o, Ex H3 (upd H3 q4 o) := fun o => Ex.new hq4
          refine ⟨r, q4, _, _, rfl, rfl, (e7 _).it (x3.it hc3), upd_same, (by rw [List.length_map]; show c.r.length + 1 ≤ 1000; omega), fun p3 H4 e8 h8 => ?_⟩
          refine ⟨p3, _, _, _, rfl, rfl, SqT.of h8, cat_head _, ?_⟩
          have x4 := x3.trans ((e7 _).trans e8)
          refine ⟨_, rfl, _, rfl, r, _, rfl, x4.it hc3, fun p4 H5 e9 h9 => ?_⟩
          rw [cut_tail] at h9
          refine ⟨by show 4 ≤ sizeLine; decide, fun p5 hp5 => ?_⟩
          have e10 : ∀ o, Ex H5 (upd H5 p5 o) := fun o => Ex.new hp5
          refine kS ⟨f, strip (w :: c.l), c.r.headD 0, c.r.tail⟩ ?_ p5 _ ((x4.trans e9).trans (e10 _)) ⟨p2, p4, upd_same, ((((e7 _).trans e8).trans e9).trans (e10 _)).it h6', (e10 _).it h9⟩
          unfold lstep
          rw [e]
          rfl
        · rw [decide_eq_false (fun z => z1 (by injection z))]
          refine iteF ?_
          refine ⟨_, rfl, _, rfl, _, rfl, l, _, rfl, x1.it hc2, fun p1 H2 e4 h4 => ?_⟩
          rw [cut_tail] at h4
          refine ⟨_, rfl, by show 1 ≤ sizeLine; decide, fun q3 hq3 => ?_⟩
          have x2 : ∀ o, Ex H (upd H2 q3 o) := fun o => (x1.trans e4).trans (Ex.new hq3)
          have e5 : ∀ o, Ex H2 (upd H2 q3 o) := fun o => Ex.new hq3
          refine ⟨l, q3, _, _, rfl, rfl, (x2 _).it hc2, upd_same, (by rw [List.length_map]; show c.l.length + 1 ≤ 1000; omega), fun p2 H3 e6 h6' => ?_⟩
          refine ⟨p2, _, _, _, rfl, rfl, SqT.of h6', cat_head _, ?_⟩
          have x3 := (x2 _).trans e6
          refine ⟨_, rfl, by show 1 ≤ sizeLine; decide, fun q4 hq4 => ?_⟩
          have e7 : ∀ o, Ex H3 (upd H3 q4 o) := fun o => Ex.new hq4
          refine ⟨_, rfl, q4, r, _, _, rfl, rfl, upd_same, (e7 _).it (x3.it hc3), (by rw [List.length_map]; show 1 + c.r.length ≤ 1000; omega), fun p3 H4 e8 h8 => ?_⟩
          refine ⟨p3, w :: c.r, rfl, h8, (by show c.r.length + 1 ≤ 500; omega), fun p4 H5 e9 h9 => ?_⟩
          refine ⟨by show 4 ≤ sizeLine; decide, fun p5 hp5 => ?_⟩
          have e10 : ∀ o, Ex H5 (upd H5 p5 o) := fun o => Ex.new hp5
          have y := (((e7 _).trans e8).trans e9).trans (e10 (.tup [.int f, .ref p1, .int (c.l.headD 0), .ref p4]))
          refine kS ⟨f, c.l.tail, c.l.headD 0, strip (w :: c.r)⟩ ?_ p5 _ (x3.trans y) ⟨p1, p4, upd_same, (((e5 _).trans e6).trans y).it h4, (e10 _).it h9⟩
          unfold lstep
          rw [e]
          show (if mv = 0 then _ else if mv = 1 then _ else _) = _
          rw [if_neg z0, if_neg z1]
theorem scLR : FnScope ["_law_instructions_here", "_law_here", "_law_place", "_law_values", "_law_one", "_law_row"] ["_law_instructions_here", "_law_here"] (defScope sLRStep) := ⟨rfl, rfl, rfl, by decide +kernel, rfl, by decide +kernel, by decide +kernel⟩
theorem ok_lrstep {f : Addr} {fd : FuncData} {n : Nat} {p : List Ins} (F : FD K "_law_registers_step" "_law_registers_step" sLRStep f fd) (T : Txt K mg CR CT CK) :
    FnOk P w K mg base CX0 2 f fd ["_law_instructions_here", "_law_here"] (spStep (LIns p) RCf (RPre n p) (rstep p)) := by
  refine FD.fok F scLR (fun vs H Q E h => ?_) (fun A outer s H vs Q E hr h => ?_)
  · obtain ⟨m, a, c, rfl, _⟩ := h
    rfl
  · obtain ⟨m, a, c, rfl, ⟨as, h4, h5⟩, hc, ⟨hg, hok, hle⟩, kN, kS⟩ := h
    obtain ⟨v, hc1, hc2⟩ := hc.ex
    refine ⟨_, (pss_cons (ps_asg (pv 1) (pg_tup (by rfl) (pgs_cons (pg_name (i := 2) scLR.nd rfl (.inl rfl)) (pgs_cons (pg_name (i := 3) scLR.nd rfl (.inl rfl)) pgs_nil)))) (pss_cons (ps_set (i := 4) scLR.nd rfl (.inl rfl) (pe_ix ix_list (pv 0) (pv 2) (fun _ _ => rfl))) (pss_cons (ps_if (pt_cmpR op_eq (pe_ix ix_tup (pv 4) pe_int (fun _ _ => rfl)) pe_str (nomark _)) (pss_one (ps_ret pe_non)) pss_nil) (pss_cons (ps_set (i := 5) scLR.nd rfl (.inl rfl) (pe_callTy call_list_of (by rfl) T.lst (by decide +kernel) (pa_cons (pv 3) pa_nil))) (pss_cons (ps_if (pt_cmpR op_eq (pe_ix ix_tup (pv 4) pe_int (fun _ _ => rfl)) pe_str (nomark _)) (pss_cons (ps_asg (pe_op op_add (pe_ix ix_list (pv 5) (pe_ix ix_tup (pv 4) pe_int (fun _ _ => rfl)) (fun _ _ => rfl)) pe_int) (pg_sub (pv 5) (pe_ix ix_tup (pv 4) pe_int (fun _ _ => rfl)) set_list)) (pss_one (ps_ret (pe_tup (pa_cons (pe_ix ix_tup (pv 4) pe_int (fun _ _ => rfl)) (pa_cons (pe_callTy call_tuple_of (by rfl) T.tup (by decide +kernel) (pa_cons (pv 5) pa_nil)) pa_nil)))))) pss_nil) (pss_cons (ps_if (pt_cmpR op_eq (pe_ix ix_list (pv 5) (pe_ix ix_tup (pv 4) pe_int (fun _ _ => rfl)) (fun _ _ => rfl)) pe_int (nomark _)) (pss_one (ps_ret (pe_tup (pa_cons (pe_ix ix_tup (pv 4) pe_int (fun _ _ => rfl)) (pa_cons (pv 3) pa_nil))))) pss_nil) (pss_cons (ps_asg (pe_op op_sub (pe_ix ix_list (pv 5) (pe_ix ix_tup (pv 4) pe_int (fun _ _ => rfl)) (fun _ _ => rfl)) pe_int) (pg_sub (pv 5) (pe_ix ix_tup (pv 4) pe_int (fun _ _ => rfl)) set_list)) (pss_one (ps_ret (pe_tup (pa_cons (pe_ix ix_tup (pv 4) pe_int (fun _ _ => rfl)) (pa_cons (pe_callTy call_tuple_of (by rfl) T.tup (by decide +kernel) (pa_cons (pv 5) pa_nil)) pa_nil)))))))))))), ?_⟩
    refine ⟨_, rfl, a, _, rfl, SqT.of hc1, rfl, _, _, rfl, _, _, rfl, rfl, ?_⟩
    obtain ⟨pl, ep⟩ := nat_of hg.lo
    have hpl : pl < p.length := by have := hg.hi; omega
    have hx : p[pl]? = some p[pl] := List.getElem?_eq_getElem hpl
    obtain ⟨ia, hia, hI⟩ := h5.get hx
    refine ⟨_, rfl, _, rfl, m, _, _, _, rfl, rfl, SqL.of h4, (by rw [ep]; exact atI_nat (refs_at hia)), ?_⟩
    have stp : rstep p c = (match p[pl] with
      | .fin => none
      | .inc r n => some (n, c.2.set r.toNat (rv c r + 1))
      | .dec r n o => if rv c r = 0 then some (o, c.2) else some (n, c.2.set r.toNat (rv c r - 1))) := by
      unfold rstep
      rw [ep, Int.toNat_natCast, hx]
      cases p[pl] <;> rfl
    have io : InsOk n p.length p[pl] := hok _ (List.getElem_mem hpl)
    cases e : p[pl] with
    | fin =>
      rw [e] at hI stp
      refine ⟨_, rfl, ia, _, _, _, rfl, rfl, SqT.of hI, atI_nat (j := 0) rfl, rfl, _, rfl, iteT ?_⟩
      exact kN stp H (Ex.refl H)
    | inc r nx =>
      rw [e] at hI stp io
      obtain ⟨⟨r0, r1⟩, _⟩ := io
      obtain ⟨rr, er⟩ := nat_of r0
      subst er
      have hrl : rr < c.2.length := by rw [hg.len]; omega
      refine ⟨_, rfl, ia, _, _, _, rfl, rfl, SqT.of hI, atI_nat (j := 0) rfl, rfl, _, rfl, iteF ?_⟩
      refine ⟨_, rfl, v, _, rfl, .inr (SqT.of hc2), fun q hq => ?_⟩
      have e1 : ∀ o, Ex H (upd H q o) := fun o => Ex.new hq
      refine ⟨_, rfl, ia, _, _, _, rfl, rfl, SqT.of ((e1 _).tup hI), atI_nat (j := 0) rfl, rfl, _, rfl, iteT ?_⟩
      have hat : atI (c.2.map V.int) ((rr : Nat) : Int) = some (.int (c.2.getD rr 0)) := atI_nat (ints_at (getD_at hrl))
      refine ⟨_, rfl, _, rfl, ia, _, _, _, rfl, rfl, SqT.of ((e1 _).tup hI), atI_nat (j := 1) rfl, q, _, _, _, rfl, rfl, SqL.of upd_same, hat, _, _, rfl, rfl, ?_⟩
      refine ⟨_, rfl, _, rfl, ia, _, _, _, rfl, rfl, SqT.of ((e1 _).tup hI), atI_nat (j := 1) rfl, q, _, _, rr, rfl, rfl, upd_same, ?_, ?_⟩
      · exact ixN_of (by rw [List.length_map]; exact hrl)
      rw [upd_upd]
      refine ⟨_, rfl, ia, _, _, _, rfl, rfl, SqT.of ((e1 _).tup hI), atI_nat (j := 2) rfl, ?_⟩
      refine ⟨_, rfl, q, _, rfl, .inl ⟨SqL.of upd_same, fun t ht => ?_⟩⟩
      have e2 : ∀ o, Ex H (upd (upd H q (.lst ((c.2.map V.int).set rr (.int (c.2.getD rr 0 + 1))))) t o) := fun o => (e1 _).trans (Ex.new ht)
      refine ⟨by show 2 ≤ sizeLine; decide, fun q6 n6 => ?_⟩
      have e6 : ∀ o, Ex (upd (upd H q (.lst ((c.2.map V.int).set rr (.int (c.2.getD rr 0 + 1))))) t (.tup ((c.2.map V.int).set rr (.int (c.2.getD rr 0 + 1))))) _ := fun o => Ex.new (o := o) n6
      refine kS _ stp q6 _ ((e2 _).trans (e6 _)) ⟨t, upd_same, (e6 _).it ?_⟩
      show upd _ t _ t = some (HO.tup ((c.2.set (rr : Int).toNat (rv c rr + 1)).map V.int))
      rw [upd_same, Int.toNat_natCast, List.map_set]
      unfold rv
      rw [Int.toNat_natCast]
    | dec r nx ot =>
      rw [e] at hI stp io
      obtain ⟨⟨r0, r1⟩, _⟩ := io
      obtain ⟨rr, er⟩ := nat_of r0
      subst er
      have hrl : rr < c.2.length := by rw [hg.len]; omega
      refine ⟨_, rfl, ia, _, _, _, rfl, rfl, SqT.of hI, atI_nat (j := 0) rfl, rfl, _, rfl, iteF ?_⟩
      refine ⟨_, rfl, v, _, rfl, .inr (SqT.of hc2), fun q hq => ?_⟩
      have e1 : ∀ o, Ex H (upd H q o) := fun o => Ex.new hq
      refine ⟨_, rfl, ia, _, _, _, rfl, rfl, SqT.of ((e1 _).tup hI), atI_nat (j := 0) rfl, rfl, _, rfl, iteF ?_⟩
      have hat : atI (c.2.map V.int) ((rr : Nat) : Int) = some (.int (c.2.getD rr 0)) := atI_nat (ints_at (getD_at hrl))
      refine ⟨_, rfl, _, rfl, ia, _, _, _, rfl, rfl, SqT.of ((e1 _).tup hI), atI_nat (j := 1) rfl, q, _, _, _, rfl, rfl, SqL.of upd_same, hat, rfl, _, rfl, ?_⟩
      have erv : rv c rr = c.2.getD rr 0 := by unfold rv; rw [Int.toNat_natCast]
      have stp2 : rstep p c = (if rv c (rr : Int) = 0 then some (ot, c.2) else some (nx, c.2.set (rr : Int).toNat (rv c (rr : Int) - 1))) := stp
      rw [dec_eq_int]
      by_cases z : c.2.getD rr 0 = 0
      · rw [if_pos (by rw [erv]; exact z)] at stp2
        rw [decide_eq_true z]
        refine iteT ?_
        refine ⟨_, rfl, ia, _, _, _, rfl, rfl, SqT.of ((e1 _).tup hI), atI_nat (j := 3) rfl, _, rfl, (by show 2 ≤ sizeLine; decide), fun q6 n6 => ?_⟩
        have e6 : ∀ o, Ex H (upd (upd H q (.lst (c.2.map V.int))) q6 o) := fun o => (e1 _).trans (Ex.new n6)
        exact kS _ stp2 q6 _ (e6 _) ⟨v, upd_same, (e6 _).it hc2⟩
      · rw [if_neg (by rw [erv]; exact z)] at stp2
        rw [decide_eq_false z]
        refine iteF ?_
        refine ⟨_, rfl, _, rfl, ia, _, _, _, rfl, rfl, SqT.of ((e1 _).tup hI), atI_nat (j := 1) rfl, q, _, _, _, rfl, rfl, SqL.of upd_same, hat, _, _, rfl, rfl, ?_⟩
        refine ⟨_, rfl, _, rfl, ia, _, _, _, rfl, rfl, SqT.of ((e1 _).tup hI), atI_nat (j := 1) rfl, q, _, _, rr, rfl, rfl, upd_same, ?_, ?_⟩
        · exact ixN_of (by rw [List.length_map]; exact hrl)
        rw [upd_upd]
        refine ⟨_, rfl, ia, _, _, _, rfl, rfl, SqT.of ((e1 _).tup hI), atI_nat (j := 2) rfl, ?_⟩
        refine ⟨_, rfl, q, _, rfl, .inl ⟨SqL.of upd_same, fun t ht => ?_⟩⟩
        have e2 : ∀ o, Ex H (upd (upd H q (.lst ((c.2.map V.int).set rr (.int (c.2.getD rr 0 - 1))))) t o) := fun o => (e1 _).trans (Ex.new ht)
        refine ⟨by show 2 ≤ sizeLine; decide, fun q6 n6 => ?_⟩
        have e6 : ∀ o, Ex (upd (upd H q (.lst ((c.2.map V.int).set rr (.int (c.2.getD rr 0 - 1))))) t (.tup ((c.2.map V.int).set rr (.int (c.2.getD rr 0 - 1))))) _ := fun o => Ex.new (o := o) n6
        refine kS _ stp2 q6 _ ((e2 _).trans (e6 _)) ⟨t, upd_same, (e6 _).it ?_⟩
        show upd _ t _ t = some (HO.tup ((c.2.set (rr : Int).toNat (rv c rr - 1)).map V.int))
        rw [upd_same, Int.toNat_natCast, List.map_set, erv]
end
end K75

set_option maxHeartbeats 8000000
/-! the law's own run -/
namespace K75
open PySem PySem.Spec PyProof.Rows L2
theorem IsRun.congr {α : Type} {s s' : α → Option α} {c : α} {n : Nat} {cs : List α} (e : ∀ i, orb s c i = orb s' c i) (R : IsRun s c n cs) : IsRun s' c n cs :=
  ⟨R.pos, R.le, fun i hi => (R.at_ i hi).trans (e i), fun h => (e _) ▸ R.fin h⟩
def spOwnT (rs : List Rl) : Sp := fun vs H Q _ => ∃ (l a : Addr) (n : Nat) (as : List Addr) (c : TC), vs = [.int 0, .ref l, .ref a, .int n] ∧ n ≤ 200 ∧ H l = some (.lst (as.map V.ref)) ∧ Each (RlAt H) as rs ∧ rs.length < 60 ∧ Apart rs ∧ TCf H a c ∧ TGood c ∧ c.l.length ≤ 100 ∧ c.r.length ≤ 100 ∧
  ∀ (p : Addr) (as : List Addr) (cs : List TC) (H' : Hp), Ex H H' → H' p = some (.lst (as.map V.ref)) → Each (TCf H') as cs → IsRun (tstep (tabOf rs)) c n cs → Q (.ref p) H'
def spOwnR (k : Nat) (ps : List Ins) : Sp := fun vs H Q _ => ∃ (l a : Addr) (n : Nat) (c : RC), vs = [.int 1, .ref l, .ref a, .int n] ∧ n ≤ 200 ∧ LIns ps H l ∧ RCf H a c ∧ RGood k ps c ∧ ProgOk k ps ∧ k ≤ 100 ∧
  ∀ (p : Addr) (as : List Addr) (cs : List RC) (H' : Hp), Ex H H' → H' p = some (.lst (as.map V.ref)) → Each (RCf H') as cs → IsRun (rstep ps) c n cs → Q (.ref p) H'
section
variable {P : Program} {w : World} {K : PySem.W.Frag} {mg : Str → Option Value} {base : Heap} {CR CT CK : Addr}
theorem scOwn : FnScope ["_law_sort", "_law_made", "_law_begin", "_law_most", "_law_found", "_law_table_here", "_law_k", "_law_following"] ["_law_sort", "_law_made", "_law_begin", "_law_most"] (defScope sOwn) := ⟨rfl, rfl, rfl, by decide +kernel, rfl, by decide +kernel, by decide +kernel⟩
theorem ok_ownT {sp3 : Sp} {rs : List Rl} {f : Addr} {fd : FuncData} (F : FD K "_law_own_run" "_law_own_run" sOwn f fd) (T : Txt K mg CR CT CK) (Z1 : Cal P w K mg base "_law_table" 1 ["_law_rules_here"] spTable)
    (Z2 : Cal P w K mg base "_law_turing_step" 2 ["_law_table_here", "_law_here"] (spStep (LTab (tabOf rs)) TCf LPre (lstep (tabOf rs)))) (Z3 : Cal P w K mg base "_law_registers_step" 2 ["_law_instructions_here", "_law_here"] sp3) :
    FnOk P w K mg base CX0 3 f fd ["_law_sort", "_law_made", "_law_begin", "_law_most"] (spOwnT rs) := by
  obtain ⟨f1, fd1, g1, kp1, b1, G1⟩ := Z1.ex
  obtain ⟨f2, fd2, g2, kp2, b2, G2⟩ := Z2.ex
  obtain ⟨f3, fd3, g3, kp3, b3, G3⟩ := Z3.ex
  refine FD.fok F scOwn (fun vs H Q E h => ?_) (fun A outer s H vs Q E hr h => ?_)
  · obtain ⟨l, a, n, as0, c, rfl, _⟩ := h
    rfl
  · obtain ⟨l, a, n, as0, c, rfl, hn, hl, hea, hrl, hap, hc, hg, hcl, hcr, kont⟩ := h
    refine ⟨_, (pss_cons (ps_set (i := 4) scOwn.nd rfl (.inl rfl) (pe_lst (pa_cons (pv 2) pa_nil))) (pss_cons (ps_set (i := 5) scOwn.nd rfl (.inl rfl) pe_dnewT) (pss_cons (ps_if (pt_cmpR op_eq (pv 0) pe_int (nomark _)) (pss_one (ps_set (i := 5) scOwn.nd rfl (.inl rfl) (pe_call G1 (hr.mono (by decide)) rfl g1 kp1 b1 .nil pass0 (pa_cons (pv 1) pa_nil)))) pss_nil) (pss_cons (ps_for PassesOwn.never rfl (pi_range1 rfl T.rng (pa_cons (pv 3) pa_nil)) (pg_name (i := 6) scOwn.nd rfl (.inl rfl)) (pss_cons (ps_if (pt_cmpR op_eq (pv 0) pe_int (nomark _)) (pss_one (ps_set (i := 7) scOwn.nd rfl (.inl rfl) (pe_call G2 (hr.mono (by decide)) rfl g2 kp2 b2 .nil pass0 (pa_cons (pv 5) (pa_cons (pe_ix ix_list (pv 4) (pe_un un_neg pe_int) (fun _ _ => rfl)) pa_nil))))) (pss_one (ps_set (i := 7) scOwn.nd rfl (.inl rfl) (pe_call G3 (hr.mono (by decide)) rfl g3 kp3 b3 .nil pass0 (pa_cons (pv 1) (pa_cons (pe_ix ix_list (pv 4) (pe_un un_neg pe_int) (fun _ _ => rfl)) pa_nil)))))) (pss_cons (ps_if (pt_cmpR op_isN (pv 7) pe_non (nomark _)) (pss_one ps_break) pss_nil) (pss_one (ps_expr (pe_bm PySem.F.plainAttrs_list PySem.F.slot_list_append PySem.F.type_list_append mt_append (pv 4) (pa_cons (pv 7) pa_nil))))))) (pss_one (ps_ret (pv 4))))))), ?_⟩
    refine ⟨_, rfl, by show 1 ≤ sizeLine; decide, fun p hp => ?_⟩
    have e1 : ∀ o, Ex H (upd H p o) := fun o => Ex.new hp
    intro t0 ht0
    have e2 : ∀ o, Ex (upd H p (.lst [.ref a])) (upd (upd H p (.lst [.ref a])) t0 o) := fun o => Ex.new ht0
    have e12 := (e1 (.lst [.ref a])).trans (e2 (.dT []))
    have hp2 := (e2 (.dT [])).lst (p := p) upd_same
    generalize upd (upd H p (.lst [.ref a])) t0 (.dT []) = H0 at e12 hp2 ⊢
    refine ⟨_, rfl, rfl, _, rfl, ?_⟩
    refine iteT ⟨_, rfl, l, as0, rs, rfl, e12.lst hl, hea.mono fun _ _ h => e12.tup h, hrl, hap, fun d kvs H3 e3 hd hT => ?_⟩
    have hco : ∀ i, orb (lstep (tabOf rs)) c i = orb (tstep (tabOf rs)) c i := orb_congr hg (fun x y gx h => tgood_step gx h) (fun x gx => lstep_eq gx)
    have hpre : ∀ i x, i ≤ n → orb (lstep (tabOf rs)) c i = some x → LPre x := fun i x hi h => by
      rw [hco] at h
      have := tsz i x h
      exact ⟨by omega, by omega⟩
    have x3 := e12.trans e3
    have npd : d ≠ p := ne_of hd (e3.lst hp2) (by intro z; cases z)
    refine ⟨_, rfl, n, rfl, by omega, by omega, ?_⟩
    have cfL : ∀ (H : Hp) (xs ys : List V) (b : Addr) (z : TC), H p = some (.lst xs) → TCf H b z → TCf (upd H p (.lst ys)) b z := fun H xs ys b z h => Tk.tcf (Tk.putL h)
    refine for_range (lo := 0) (n := (n : Int).toNat) (fun i σ H' => ∃ (as : List Addr) (cs : List TC) (v6 v7 : Option V), σ = [some (.int 0), some (.ref l), some (.ref a), some (.int n), some (.ref p), some (.ref d), v6, v7] ∧ Ex H H' ∧ LTab (tabOf rs) H' d ∧ H' p = some (.lst (as.map V.ref)) ∧ Each (TCf H') as cs ∧ Part (lstep (tabOf rs)) c i cs)
      ⟨[a], [c], none, none, rfl, x3, ⟨kvs, hd, hT⟩, e3.lst hp2, ⟨rfl, fun i b d h1 h2 => ?_⟩, Part.one _ c⟩ ?_ ?_
    · cases i with
      | zero => cases h1; cases h2; exact (x3).tcf hc
      | succ i => simp at h1
    · rintro i σ H1 hi ⟨as, cs, v6, v7, rfl, x1, hM, hp1, he, hP⟩
      rw [Int.toNat_natCast] at hi
      obtain ⟨x, hx, ox⟩ := hP.last
      obtain ⟨b, hb, cb⟩ := he.get hx
      have hlen : (as.map V.ref).length = i + 1 := by rw [List.length_map, he.len, hP.len]
      refine ⟨_, rfl, rfl, _, rfl, iteT ?_⟩
      refine ⟨_, rfl, _, rfl, _, rfl, p, _, _, _, rfl, rfl, SqL.of hp1, atI_m1 hlen (refs_at hb), ?_⟩
      refine ⟨_, b, x, rfl, hM, cb, hpre i x (by omega) ox, fun hno H2 e2 => ?_, fun y hy q H2 e2 hq => ?_⟩
      · refine ⟨_, rfl, rfl, _, rfl, iteT ?_⟩
        refine ⟨_, rfl, ?_⟩
        exact kont p as cs H2 (x1.trans e2) (e2.lst hp1) (he.mono fun _ _ z => e2.tcf z) (IsRun.congr hco (hP.run (by omega) fun _ => by rw [orb_succ ox, hno]))
      · refine ⟨_, rfl, rfl, _, rfl, iteF ?_⟩
        refine ⟨_, rfl, .inl ⟨rfl, _, SqL.of (e2.lst hp1)⟩, _, rfl, p, _, _, rfl, rfl, e2.lst hp1, Nat.lt_of_le_of_lt (Nat.le_of_eq hlen) (Nat.lt_of_le_of_lt (by omega : i + 1 ≤ 1000) (by decide)), ?_⟩
        have hpn : ∀ o, Ex H (upd H2 p o) := fun o => (x1.trans e2).put hp
        refine ⟨as ++ [q], cs ++ [y], _, _, rfl, hpn _, (let ⟨kv, z1, z2⟩ := hM; ⟨kv, by rw [upd_ne npd]; exact e2.dT z1, (z2.ex e2).byT (Tk.putL (e2.lst hp1))⟩), ?_, ?_, hP.next ox hy⟩
        · rw [upd_same, List.map_append]; rfl
        · exact (he.mono fun _ _ z => cfL _ _ _ _ _ (e2.lst hp1) (e2.tcf z)).snoc (cfL _ _ _ _ _ (e2.lst hp1) hq)
    · rintro σ H1 ⟨as, cs, v6, v7, rfl, x1, hM, hp1, he, hP⟩
      rw [Int.toNat_natCast] at hP
      refine ⟨_, rfl, ?_⟩
      exact kont p as cs H1 x1 hp1 he (IsRun.congr hco (hP.run (Nat.le_refl _) fun z => absurd z (Nat.lt_irrefl _)))

theorem ok_ownR {sp1 sp2 : Sp} {k : Nat} {ps : List Ins} {f : Addr} {fd : FuncData} (F : FD K "_law_own_run" "_law_own_run" sOwn f fd) (T : Txt K mg CR CT CK) (Z1 : Cal P w K mg base "_law_table" 1 ["_law_rules_here"] sp1)
    (Z2 : Cal P w K mg base "_law_turing_step" 2 ["_law_table_here", "_law_here"] sp2) (Z3 : Cal P w K mg base "_law_registers_step" 2 ["_law_instructions_here", "_law_here"] (spStep (LIns ps) RCf (RPre k ps) (rstep ps))) :
    FnOk P w K mg base CX0 3 f fd ["_law_sort", "_law_made", "_law_begin", "_law_most"] (spOwnR k ps) := by
  obtain ⟨f1, fd1, g1, kp1, b1, G1⟩ := Z1.ex
  obtain ⟨f2, fd2, g2, kp2, b2, G2⟩ := Z2.ex
  obtain ⟨f3, fd3, g3, kp3, b3, G3⟩ := Z3.ex
  refine FD.fok F scOwn (fun vs H Q E h => ?_) (fun A outer s H vs Q E hr h => ?_)
  · obtain ⟨l, a, n, c, rfl, _⟩ := h
    rfl
  · obtain ⟨l, a, n, c, rfl, hn, hm, hc, hg, hok, hk, kont⟩ := h
    refine ⟨_, (pss_cons (ps_set (i := 4) scOwn.nd rfl (.inl rfl) (pe_lst (pa_cons (pv 2) pa_nil))) (pss_cons (ps_set (i := 5) scOwn.nd rfl (.inl rfl) pe_dnewT) (pss_cons (ps_if (pt_cmpR op_eq (pv 0) pe_int (nomark _)) (pss_one (ps_set (i := 5) scOwn.nd rfl (.inl rfl) (pe_call G1 (hr.mono (by decide)) rfl g1 kp1 b1 .nil pass0 (pa_cons (pv 1) pa_nil)))) pss_nil) (pss_cons (ps_for PassesOwn.never rfl (pi_range1 rfl T.rng (pa_cons (pv 3) pa_nil)) (pg_name (i := 6) scOwn.nd rfl (.inl rfl)) (pss_cons (ps_if (pt_cmpR op_eq (pv 0) pe_int (nomark _)) (pss_one (ps_set (i := 7) scOwn.nd rfl (.inl rfl) (pe_call G2 (hr.mono (by decide)) rfl g2 kp2 b2 .nil pass0 (pa_cons (pv 5) (pa_cons (pe_ix ix_list (pv 4) (pe_un un_neg pe_int) (fun _ _ => rfl)) pa_nil))))) (pss_one (ps_set (i := 7) scOwn.nd rfl (.inl rfl) (pe_call G3 (hr.mono (by decide)) rfl g3 kp3 b3 .nil pass0 (pa_cons (pv 1) (pa_cons (pe_ix ix_list (pv 4) (pe_un un_neg pe_int) (fun _ _ => rfl)) pa_nil)))))) (pss_cons (ps_if (pt_cmpR op_isN (pv 7) pe_non (nomark _)) (pss_one ps_break) pss_nil) (pss_one (ps_expr (pe_bm PySem.F.plainAttrs_list PySem.F.slot_list_append PySem.F.type_list_append mt_append (pv 4) (pa_cons (pv 7) pa_nil))))))) (pss_one (ps_ret (pv 4))))))), ?_⟩
    refine ⟨_, rfl, by show 1 ≤ sizeLine; decide, fun p hp => ?_⟩
    have e1 : ∀ o, Ex H (upd H p o) := fun o => Ex.new hp
    intro t0 ht0
    have e2 : ∀ o, Ex (upd H p (.lst [.ref a])) (upd (upd H p (.lst [.ref a])) t0 o) := fun o => Ex.new ht0
    have e12 := (e1 (.lst [.ref a])).trans (e2 (.dT []))
    have hp2 := (e2 (.dT [])).lst (p := p) upd_same
    generalize upd (upd H p (.lst [.ref a])) t0 (.dT []) = H0 at e12 hp2 ⊢
    refine ⟨_, rfl, rfl, _, rfl, ?_⟩
    refine iteF ?_
    have hpre : ∀ i x, i ≤ n → orb (rstep ps) c i = some x → RPre k ps x := fun i x hi h => ⟨orb_good hg (fun x y gx h => rgood_step hok gx h) i x h, hok, hk⟩
    have npd : l ≠ p := fun z => by obtain ⟨_, z1, _⟩ := hm; rw [z, hp] at z1; cases z1
    refine ⟨_, rfl, n, rfl, by omega, by omega, ?_⟩
    have cfL : ∀ (H : Hp) (xs ys : List V) (b : Addr) (z : RC), H p = some (.lst xs) → RCf H b z → RCf (upd H p (.lst ys)) b z := fun H xs ys b z h => Tk.rcf (Tk.putL h)
    refine for_range (lo := 0) (n := (n : Int).toNat) (fun i σ H' => ∃ (as : List Addr) (cs : List RC) (v6 v7 : Option V), σ = [some (.int 1), some (.ref l), some (.ref a), some (.int n), some (.ref p), some (.ref t0), v6, v7] ∧ Ex H H' ∧ LIns ps H' l ∧ H' p = some (.lst (as.map V.ref)) ∧ Each (RCf H') as cs ∧ Part (rstep ps) c i cs)
      ⟨[a], [c], none, none, rfl, e12, (let ⟨ai, z1, z2⟩ := hm; ⟨ai, e12.lst z1, z2.mono fun _ _ h => e12.tup h⟩), hp2, ⟨rfl, fun i b d h1 h2 => ?_⟩, Part.one _ c⟩ ?_ ?_
    · cases i with
      | zero => cases h1; cases h2; exact (e12).rcf hc
      | succ i => simp at h1
    · rintro i σ H1 hi ⟨as, cs, v6, v7, rfl, x1, hM, hp1, he, hP⟩
      rw [Int.toNat_natCast] at hi
      obtain ⟨x, hx, ox⟩ := hP.last
      obtain ⟨b, hb, cb⟩ := he.get hx
      have hlen : (as.map V.ref).length = i + 1 := by rw [List.length_map, he.len, hP.len]
      refine ⟨_, rfl, rfl, _, rfl, iteF ?_⟩
      refine ⟨_, rfl, _, rfl, _, rfl, p, _, _, _, rfl, rfl, SqL.of hp1, atI_m1 hlen (refs_at hb), ?_⟩
      refine ⟨_, b, x, rfl, hM, cb, hpre i x (by omega) ox, fun hno H2 e2 => ?_, fun y hy q H2 e2 hq => ?_⟩
      · refine ⟨_, rfl, rfl, _, rfl, iteT ?_⟩
        refine ⟨_, rfl, ?_⟩
        exact kont p as cs H2 (x1.trans e2) (e2.lst hp1) (he.mono fun _ _ z => e2.rcf z) (id (hP.run (by omega) fun _ => by rw [orb_succ ox, hno]))
      · refine ⟨_, rfl, rfl, _, rfl, iteF ?_⟩
        refine ⟨_, rfl, .inl ⟨rfl, _, SqL.of (e2.lst hp1)⟩, _, rfl, p, _, _, rfl, rfl, e2.lst hp1, Nat.lt_of_le_of_lt (Nat.le_of_eq hlen) (Nat.lt_of_le_of_lt (by omega : i + 1 ≤ 1000) (by decide)), ?_⟩
        have hpn : ∀ o, Ex H (upd H2 p o) := fun o => (x1.trans e2).put hp
        refine ⟨as ++ [q], cs ++ [y], _, _, rfl, hpn _, (let ⟨ai, z1, z2⟩ := hM; ⟨ai, by rw [upd_ne npd]; exact e2.lst z1, z2.mono fun _ _ h => Tk.putL (e2.lst hp1) _ _ (e2.tup h)⟩), ?_, ?_, hP.next ox hy⟩
        · rw [upd_same, List.map_append]; rfl
        · exact (he.mono fun _ _ z => cfL _ _ _ _ _ (e2.lst hp1) (e2.rcf z)).snoc (cfL _ _ _ _ _ (e2.lst hp1) hq)
    · rintro σ H1 ⟨as, cs, v6, v7, rfl, x1, hM, hp1, he, hP⟩
      rw [Int.toNat_natCast] at hP
      refine ⟨_, rfl, ?_⟩
      exact kont p as cs H1 x1 hp1 he (id (hP.run (Nat.le_refl _) fun z => absurd z (Nat.lt_irrefl _)))

end
end K75

set_option maxHeartbeats 8000000
/-! the law's places -/
namespace K75
open PySem PySem.Spec PyProof.Rows L2
def spPlaces : Sp := fun vs H Q _ => ∃ (l q : Addr) (as0 as : List Addr) (rs : List Rl) (cs : List TC) (c : TC) (n : Nat), vs = [.ref l, .ref q] ∧ H l = some (.lst (as0.map V.ref)) ∧ Each (RlAt H) as0 rs ∧ rs.length < 60 ∧ Apart rs ∧ H q = some (.lst (as.map V.ref)) ∧ Each (TCf H) as cs ∧
  IsRun (tstep (tabOf rs)) c n cs ∧ n ≤ 200 ∧ ∀ (p : Addr) (hs : List Int) (H' : Hp), Ex H H' → H' p = some (.lst (hs.map V.int)) → HeadsT (tabOf rs) c cs hs → Q (.ref p) H'
section
variable {P : Program} {w : World} {K : PySem.W.Frag} {mg : Str → Option Value} {base : Heap} {CR CT CK : Addr}
theorem scPl : FnScope ["_law_made", "_law_run", "_law_table_here", "_law_heads", "_law_here"] ["_law_made", "_law_run"] (defScope sPlaces) := ⟨rfl, rfl, rfl, by decide +kernel, rfl, by decide +kernel, by decide +kernel⟩
theorem ok_places {f : Addr} {fd : FuncData} (F : FD K "_law_places" "_law_places" sPlaces f fd) (T : Txt K mg CR CT CK) (Z1 : Cal P w K mg base "_law_table" 1 ["_law_rules_here"] spTable) :
    FnOk P w K mg base CX0 2 f fd ["_law_made", "_law_run"] spPlaces := by
  obtain ⟨f1, fd1, g1, kp1, b1, G1⟩ := Z1.ex
  refine FD.fok F scPl (fun vs H Q E h => ?_) (fun A outer s H vs Q E hr h => ?_)
  · obtain ⟨l, q, as0, as, rs, cs, c, n, rfl, _⟩ := h
    rfl
  · obtain ⟨l, q, as0, as, rs, cs, c, n, rfl, hl, hea, hrl, hap, hq, he, hrun, hn, kont⟩ := h
    have hu := hu_of hr
    refine ⟨_, (pss_cons (ps_set (i := 2) scPl.nd rfl (.inl rfl) (pe_call G1 (hr.mono (by decide)) rfl g1 kp1 b1 .nil pass0 (pa_cons (pv 0) pa_nil))) (pss_cons (ps_set (i := 3) scPl.nd rfl (.inl rfl) (pe_lst (pa_cons pe_int pa_nil))) (pss_cons (ps_for PassesOwn.never rfl (pi_list (pe_slice sl_list (pv 1) po_none (po_some (pe_un un_neg pe_int)))) (pg_name (i := 4) scPl.nd rfl (.inl rfl)) (pss_one (ps_expr (pe_bm PySem.F.plainAttrs_list PySem.F.slot_list_append PySem.F.type_list_append mt_append (pv 3) (pa_cons (pe_op op_add (pe_ix ix_list (pv 3) (pe_un un_neg pe_int) (fun _ _ => rfl)) (pe_ix ix_tup (pe_dget hu (pv 2) (pe_tup (pa_cons (pe_ix ix_tup (pv 4) pe_int (fun _ _ => rfl)) (pa_cons (pe_ix ix_tup (pv 4) pe_int (fun _ _ => rfl)) pa_nil))) (fun _ _ => rfl)) pe_int (fun _ _ => rfl))) pa_nil))))) (pss_one (ps_ret (pv 3)))))), ?_⟩
    refine ⟨_, rfl, l, as0, rs, rfl, hl, hea, hrl, hap, fun d kvs H1 e1 hd hT => ?_⟩
    refine ⟨by show 1 ≤ sizeLine; decide, fun g hg => ?_⟩
    have e2 : ∀ o, Ex H1 (upd H1 g o) := fun o => Ex.new hg
    have e12 := e1.trans (e2 (.lst [.int 0]))
    have hg0 : H g = none := e1.free g hg
    have hd2 := (e2 (.lst [.int 0])).dT hd
    have hT2 := hT.ex (e2 (.lst [.int 0]))
    have hg2 : (upd H1 g (.lst [.int 0])) g = some (.lst [.int 0]) := upd_same
    generalize upd H1 g (.lst [.int 0]) = H2 at e12 hd2 hT2 hg2 ⊢
    refine ⟨_, rfl, _, rfl, _, rfl, q, _, rfl, SqL.of (e12.lst hq), fun q2 hq2 => ?_⟩
    have c1 : cutV (as.map V.ref) none (some (-1)) = as.dropLast.map V.ref := by rw [cutV_last, map_dropLast]
    refine ⟨q2, rfl, ⟨_, SqL.of upd_same⟩, ?_⟩
    show ∃ W, _
    rw [c1]
    have e3 : ∀ o, Ex H2 (upd H2 q2 o) := fun o => Ex.new hq2
    have hq20 : H q2 = none := e12.free q2 hq2
    have ngq : g ≠ q2 := fun z => by rw [z, hq2] at hg2; cases hg2
    have ngd : d ≠ g := ne_of hd2 hg2 (by intro z; cases z)
    have hlen : as.dropLast.length = cs.length - 1 := by rw [List.length_dropLast, he.len]
    have hpos := hrun.pos
    have hle := hrun.le
    refine for_list (K := K) (a := q2) (xs := as.dropLast.map V.ref) (fun i σ H' => ∃ (v4 : Option V) (hs : List Int), σ = [some (.ref l), some (.ref q), some (.ref d), some (.ref g), v4] ∧ Ex H H' ∧ H' d = some (.dT kvs) ∧ TabIs H' kvs (tabOf rs) ∧
        H' q2 = some (.lst (as.dropLast.map V.ref)) ∧ H' g = some (.lst (hs.map V.int)) ∧ hs.length = i + 1 ∧ ∀ k, k < i + 1 → hs[k]? = some (hgt (tabOf rs) c k))
      ⟨none, [0], rfl, e12.trans (e3 _), (e3 _).dT hd2, hT2.ex (e3 _), upd_same, (e3 _).lst hg2, rfl, fun k hk => ?_⟩
      (fun i σ H' _ ⟨_, _, _, _, _, _, h, _⟩ => SqL.of h) ?_ ?_
    · have : k = 0 := by omega
      subst this; rfl
    · rintro i x σ H3 hx ⟨v4, hs, rfl, x3, zd, zT, zq, zg, zh, zv⟩
      obtain ⟨b, hb, rfl⟩ := ref_at hx
      have hi : i < cs.length - 1 := by rw [← hlen]; exact (List.getElem?_eq_some_iff.mp hb).1
      have hba : as[i]? = some b := by
        rw [List.getElem?_dropLast] at hb
        split at hb
        · exact hb
        · cases hb
      obtain ⟨ci, hci, hcb⟩ := he.get' hba
      obtain ⟨bl, br, hb1, hb2, hb3⟩ := hcb.ex
      have oi := hrun.get hci
      have oi1 : ∃ y, orb (tstep (tabOf rs)) c (i + 1) = some y := by
        have hi1 : i + 1 < cs.length := by omega
        exact ⟨cs[i + 1], by rw [← hrun.at_ _ hi1, List.getElem?_eq_getElem hi1]⟩
      obtain ⟨y, oy⟩ := oi1
      have sy : tstep (tabOf rs) ci = some y := by rw [← oy]; exact (orb_succ oi).symm
      cases et : tabOf rs ci.q ci.h with
      | none =>
        unfold tstep at sy
        rw [et] at sy; cases sy
      | some r3 =>
        obtain ⟨wr, mv', fo⟩ := r3
        obtain ⟨t, gt, ht⟩ := zT.yes _ _ _ _ _ et
        have hgk : hs[i]? = some (hgt (tabOf rs) c i) := zv i (by omega)
        refine ⟨_, rfl, .inl ⟨rfl, _, SqL.of zg⟩, _, rfl, _, rfl, g, _, _, _, rfl, rfl, SqL.of zg, atI_m1 (by rw [List.length_map]; exact zh) (ints_at hgk), ?_⟩
        refine ⟨_, rfl, _, rfl, b, _, _, _, rfl, rfl, SqT.of (x3.tup hb1), atI_nat (j := 0) rfl, _, rfl, b, _, _, _, rfl, rfl, SqT.of (x3.tup hb1), atI_nat (j := 2) rfl, by show 2 ≤ sizeLine; decide, fun q3 hq3 => ?_⟩
        have e4 : ∀ o, Ex H3 (upd H3 q3 o) := fun o => Ex.new hq3
        refine ⟨d, _, rfl, (show DGet _ d (.ref q3) (some (.ref t)) from gt ▸ DGet.t (k := tk ci.q ci.h) ((e4 _).dT zd) upd_same), ?_⟩
        refine ⟨t, _, _, _, rfl, rfl, SqT.of ((e4 _).tup ht), atI_nat (j := 1) rfl, _, _, rfl, rfl, ?_⟩
        have zg2 := (e4 (.tup [.int ci.q, .int ci.h])).lst zg
        refine ⟨g, _, _, rfl, rfl, zg2, by rw [List.length_map, zh]; exact Nat.lt_of_le_of_lt (by omega : i + 1 ≤ 1000) (by decide), ?_⟩
        refine ⟨_, hs ++ [hgt (tabOf rs) c i + mv'], rfl, (x3.trans (e4 _)).put hg0, by rw [upd_ne ngd]; exact (e4 _).dT zd, (zT.ex (e4 _)).byT (Tk.putL zg2), by rw [upd_ne ngq.symm]; exact (e4 _).lst zq, ?_, by rw [List.length_append, zh]; rfl, fun k hk => ?_⟩
        · rw [upd_same, List.map_append]; rfl
        · by_cases hk1 : k < i + 1
          · rw [List.getElem?_append_left (by rw [zh]; exact hk1)]; exact zv k hk1
          · have : k = i + 1 := by omega
            subst this
            rw [List.getElem?_append_right (by rw [zh]; exact Nat.le_refl _), zh, Nat.sub_self, hgt_succ oi]
            unfold mv
            rw [et]
            rfl
    · rintro σ H3 ⟨v4, hs, rfl, x3, zd, zT, zq, zg, zh, zv⟩
      rw [List.length_map, hlen] at zh zv
      exact ⟨_, rfl, kont g hs H3 x3 zg ⟨by omega, fun i hi => zv i (by omega)⟩⟩
end
end K75

set_option maxHeartbeats 8000000
/-! the law's drawn machine -/
namespace K75
open PySem PySem.Spec PyProof.Rows L2
def spDrawn (CR CT P1 : Addr) : Sp := fun vs H Q _ => ∃ z : Int, (vs = [.int z, .int 0] ∧ ∀ (p m l a : Addr) (as : List Addr) (rs : List Rl) (n k : Nat) (c : TC) (H' : Hp), Ex H H' → H' p = some (.lst [.ref m, .ref l, .ref a]) → TMach CT H' m (tabOf rs) → H' l = some (.lst (as.map V.ref)) → Each (RlAt H') as rs → rs.length < 60 →
    (∀ r ∈ rs, RlOk n k r) → Apart rs → TCf H' a c → TGood c → c.l.length ≤ 2 → c.r.length ≤ 2 → Q (.ref p) H') ∨
  (vs = [.int z, .int 1] ∧ TabG H P1 ∧ ∀ (p m l a : Addr) (ps : List Ins) (k : Nat) (c : RC) (H' : Hp), Ex H H' → H' p = some (.lst [.ref m, .ref l, .ref a]) → RMach CR H' m ps → LIns ps H' l → RCf H' a c → RGood k ps c → ProgOk k ps → k ≤ 100 → Q (.ref p) H')
section
variable {P : Program} {w : World} {K : PySem.W.Frag} {mg : Str → Option Value} {base : Heap} {CR CT CK : Addr}
theorem scDr : FnScope ["_law_cell_here", "_law_sort", "_law_draws_here", "_law_states", "_law_rules_here", "_law_cells", "_law_count", "_law_instructions_here", "_law_values", "_law_k"] ["_law_cell_here", "_law_sort"] (defScope sDrawn) := ⟨rfl, rfl, rfl, by decide +kernel, rfl, by decide +kernel, by decide +kernel⟩
theorem ok_drawn {f fT fR P1 : Addr} {fd fdT fdR : FuncData} (F : FD K "_law_drawn_machine" "_law_drawn_machine" sDrawn f fd) (T : Txt K mg CR CT CK) (Z1 : Cal P w K mg base "_law_draws" 1 ["_law_cell_here", "_law_count"] spDraws)
    (Z2 : Cal P w K mg base "_law_rules" 1 ["_law_draws_here", "_law_states", "_law_symbols"] spRules) (Z3 : Cal P w K mg base "_law_tape" 2 ["_law_draws_here", "_law_states", "_law_symbols", "_law_most"] spTape) (Z4 : Cal P w K mg base "_law_instructions" 1 ["_law_draws_here", "_law_cells", "_law_count"] spInstr)
    (MT : Mk K CT fT) (bT : Binds K fdT ["self", "states", "symbols", "rules"] []) (GT : FnOk P w K mg base CX0 1 fT fdT ["self", "states", "symbols", "rules"] (spTInit CT))
    (MR : Mk K CR fR) (bR : Binds K fdR ["self", "count", "instructions"] []) (GR : FnOk P w K mg base CX0 1 fR fdR ["self", "count", "instructions"] (spRInit CR P1)) :
    FnOk P w K mg base CX0 3 f fd ["_law_cell_here", "_law_sort"] (spDrawn CR CT P1) := by
  obtain ⟨f1, fd1, g1, kp1, b1, G1⟩ := Z1.ex
  obtain ⟨f2, fd2, g2, kp2, b2, G2⟩ := Z2.ex
  obtain ⟨f3, fd3, g3, kp3, b3, G3⟩ := Z3.ex
  obtain ⟨f4, fd4, g4, kp4, b4, G4⟩ := Z4.ex
  refine FD.fok F scDr (fun vs H Q E h => ?_) (fun A outer s H vs Q E hr h => ?_)
  · obtain ⟨z, ⟨rfl, _⟩ | ⟨rfl, _⟩⟩ := h <;> rfl
  · refine ⟨_, (pss_cons (ps_set (i := 2) scDr.nd rfl (.inr rfl) (pe_call G1 (hr.mono (by decide)) rfl g1 kp1 b1 .nil pass0 (pa_cons (pv 0) (pa_cons pe_int pa_nil)))) (pss_cons (ps_if (pt_cmpR op_eq (pv 1) pe_int (nomark _)) (pss_cons (ps_set (i := 3) scDr.nd rfl (.inl rfl) (pe_op op_add pe_int (pe_op op_mod (pe_ix ix_list (pv 2) pe_int (fun _ _ => rfl)) pe_int))) (pss_cons (ps_set (i := 4) scDr.nd rfl (.inl rfl) (pe_call G2 (hr.mono (by decide)) rfl g2 kp2 b2 .nil pass0 (pa_cons (pv 2) (pa_cons (pv 3) (pa_cons (pe_op op_add pe_int (pe_op op_mod (pe_ix ix_list (pv 2) pe_int (fun _ _ => rfl)) pe_int)) pa_nil))))) (pss_one (ps_ret (pe_lst (pa_cons (pe_make MT GT (hr.mono (by decide)) (by rfl) T.gT bT .nil pass0 (pa_cons (pv 3) (pa_cons (pe_op op_add pe_int (pe_op op_mod (pe_ix ix_list (pv 2) pe_int (fun _ _ => rfl)) pe_int)) (pa_cons (pe_callTy call_list_of (by rfl) T.lst (by decide +kernel) (pa_cons (pv 4) pa_nil)) pa_nil)))) (pa_cons (pv 4) (pa_cons (pe_call G3 (hr.mono (by decide)) rfl g3 kp3 b3 .nil pass0 (pa_cons (pe_slice sl_list (pv 2) (po_some pe_int) po_none) (pa_cons (pv 3) (pa_cons (pe_op op_add pe_int (pe_op op_mod (pe_ix ix_list (pv 2) pe_int (fun _ _ => rfl)) pe_int)) (pa_cons pe_int pa_nil))))) pa_nil)))))))) pss_nil) (pss_cons (ps_set (i := 5) scDr.nd rfl (.inl rfl) (pe_op op_add pe_int (pe_op op_mod (pe_ix ix_list (pv 2) pe_int (fun _ _ => rfl)) pe_int))) (pss_cons (ps_set (i := 6) scDr.nd rfl (.inl rfl) (pe_op op_add pe_int (pe_op op_mod (pe_ix ix_list (pv 2) pe_int (fun _ _ => rfl)) pe_int))) (pss_cons (ps_set (i := 7) scDr.nd rfl (.inl rfl) (pe_call G4 (hr.mono (by decide)) rfl g4 kp4 b4 .nil pass0 (pa_cons (pv 2) (pa_cons (pv 5) (pa_cons (pv 6) pa_nil))))) (pss_cons (ps_set (i := 8) scDr.nd rfl (.inl rfl) (pe_callTy call_tuple_of (by rfl) T.tup (by decide +kernel) (pa_cons (pe_lc (own := [("_law_k", 9)]) (g := gName 9) (tt := tYes) (by rfl) scDr.nd (pi_range1 rfl T.rng (pa_cons (pv 5) pa_nil)) (blkOk_by (own := [("_law_k", 9)]) (N := ["_law_cell_here", "_law_sort", "_law_draws_here", "_law_states", "_law_rules_here", "_law_cells", "_law_count", "_law_instructions_here", "_law_values", "_law_k"]) (sc := defScope sDrawn) (by decide +kernel)) (fun _ _ _ _ _ => pg_name (i := 9) scDr.nd rfl (Or.inl rfl)) (fun _ _ _ _ _ => pts_nil) (fun _ _ _ _ _ => (pe_op op_mod (pe_ix (show IxR _ (rIxL K) from ix_list) (pv 2) (pe_op op_add pe_int (pv 9)) (fun _ _ => rfl)) pe_int))) pa_nil))) (pss_one (ps_ret (pe_lst (pa_cons (pe_make MR GR (hr.mono (by decide)) (by rfl) T.gR bR .nil pass0 (pa_cons (pv 5) (pa_cons (pe_callTy call_list_of (by rfl) T.lst (by decide +kernel) (pa_cons (pv 7) pa_nil)) pa_nil))) (pa_cons (pv 7) (pa_cons (pe_tup (pa_cons (pe_op op_mod (pe_ix ix_list (pv 2) pe_int (fun _ _ => rfl)) (pv 6)) (pa_cons (pv 8) pa_nil))) pa_nil)))))))))))), ?_⟩
    obtain ⟨z, ⟨rfl, kont⟩ | ⟨rfl, hTG, kont⟩⟩ := h
    · refine ⟨_, rfl, z, 40, rfl, by decide, fun a ds H1 x1 hp0 ha hds hb => ?_⟩
      have g : ∀ j : Nat, j < 40 → atI (ds.map V.int) (j : Int) = some (.int (ds.getD j 0)) := fun j hj => atI_nat (ints_at (getD_at (by omega)))
      refine ⟨_, rfl, rfl, _, rfl, iteT ?_⟩
      have en : 1 + ds.getD 39 0 % 3 = ((1 + ds.getD 39 0 % 3).toNat : Int) := by omega
      have ek : 2 + ds.getD 38 0 % 2 = ((2 + ds.getD 38 0 % 2).toNat : Int) := by omega
      refine ⟨_, rfl, a, _, _, _, rfl, rfl, SqL.of ((Ex.refl H1).lst ha), g 39 (by decide), _, _, rfl, rfl, (by show (0 : Int) < 3; decide), _, _, rfl, rfl, ?_⟩
      refine ⟨_, rfl, _, rfl, _, rfl, a, _, _, _, rfl, rfl, SqL.of ((Ex.refl H1).lst ha), g 38 (by decide), _, _, rfl, rfl, (by show (0 : Int) < 2; decide), _, _, rfl, rfl, ?_⟩
      refine ⟨a, ds, (1 + ds.getD 39 0 % 3).toNat, (2 + ds.getD 38 0 % 2).toNat, ?_, ha, hds, by omega, by omega, by omega, by omega, fun l as rs H2 e2 hl he hrl hok hap => ?_⟩
      · rw [← en, ← ek]; rfl
      have x2 := x1.trans e2
      refine ⟨_, rfl, _, rfl, a, _, _, _, rfl, rfl, SqL.of (e2.lst ha), g 38 (by decide), _, _, rfl, rfl, (by show (0 : Int) < 2; decide), _, _, rfl, rfl, _, rfl, l, _, rfl, .inl (SqL.of hl), fun l2 hl2 => ?_⟩
      have e3 : ∀ o, Ex H2 (upd H2 l2 o) := fun o => Ex.new hl2
      intro x dx nx nd ne
      have e4 := made_ex (C := CT) nx nd ne
      refine ⟨x, dx, l2, (1 + ds.getD 39 0 % 3).toNat, (2 + ds.getD 38 0 % 2).toNat, as, rs, ?_, upd_same, by omega, by omega, by omega, by omega, e4.lst upd_same, he.mono fun _ _ h => e4.tup ((e3 _).tup h), hrl, hok, hap, fun H3 e5 hm => ⟨rfl, ?_⟩⟩
      · rw [← en, ← ek]; rfl
      have y3 := (e3 (.lst (as.map V.ref))).trans (ExB.made nx nd e5)
      have x3 := x2.trans y3
      refine ⟨_, rfl, _, rfl, _, rfl, a, _, rfl, SqL.of (y3.lst (e2.lst ha)), fun q hq => ?_⟩
      have e6 : ∀ o, Ex H3 (upd H3 q o) := fun o => Ex.new hq
      refine ⟨_, rfl, _, rfl, a, _, _, _, rfl, rfl, SqL.of ((e6 _).lst (y3.lst (e2.lst ha))), g 38 (by decide), _, _, rfl, rfl, (by show (0 : Int) < 2; decide), _, _, rfl, rfl, ?_⟩
      refine ⟨q, ds.drop 10, (1 + ds.getD 39 0 % 3).toNat, (2 + ds.getD 38 0 % 2).toNat, ?_, ?_, by rw [List.length_drop, hds], by omega, by omega, fun ta c H4 e7 hc hg hcl hcr => ?_⟩
      · rw [← en, ← ek]; rfl
      · show upd _ q _ q = _
        rw [upd_same, List.map_drop]
        exact congrArg (fun z => some (HO.lst z)) (cutV_drop _ 10)
      refine ⟨by show 3 ≤ sizeLine; decide, fun p hp => ?_⟩
      have e8 : ∀ o, Ex H4 (upd H4 p o) := fun o => Ex.new hp
      have y4 := ((e6 (.lst (cutV (ds.map V.int) (some 10) none))).trans e7).trans (e8 (.lst [.ref x, .ref l, .ref ta]))
      exact kont p x l ta as rs _ _ c _ (x3.trans y4) upd_same (hm.mono y4) (y4.lst (y3.lst hl)) (he.mono fun _ _ h => y4.tup (y3.tup h)) hrl hok hap ((e8 _).tcf hc) hg hcl hcr
    · refine ⟨_, rfl, z, 40, rfl, by decide, fun a ds H1 x1 hp0 ha hds hb => ?_⟩
      have g : ∀ j : Nat, j < 40 → atI (ds.map V.int) (j : Int) = some (.int (ds.getD j 0)) := fun j hj => atI_nat (ints_at (getD_at (by omega)))
      refine ⟨_, rfl, rfl, _, rfl, iteF ?_⟩
      have en : 1 + ds.getD 39 0 % 3 = ((1 + ds.getD 39 0 % 3).toNat : Int) := by omega
      have ek : 1 + ds.getD 38 0 % 5 = ((1 + ds.getD 38 0 % 5).toNat : Int) := by omega
      refine ⟨_, rfl, a, _, _, _, rfl, rfl, SqL.of ((Ex.refl H1).lst ha), g 39 (by decide), _, _, rfl, rfl, (by show (0 : Int) < 3; decide), _, _, rfl, rfl, ?_⟩
      refine ⟨_, rfl, a, _, _, _, rfl, rfl, SqL.of ((Ex.refl H1).lst ha), g 38 (by decide), _, _, rfl, rfl, (by show (0 : Int) < 5; decide), _, _, rfl, rfl, ?_⟩
      refine ⟨_, rfl, _, rfl, _, rfl, a, ds, (1 + ds.getD 39 0 % 3).toNat, (1 + ds.getD 38 0 % 5).toNat, ?_, ha, hds, by omega, by omega, by omega, by omega, fun l as ps H2 e2 hl he hpl hok => ?_⟩
      · rw [← en, ← ek]; rfl
      have x2 := x1.trans e2
      have hkp : (0 : Int) < 1 + ds.getD 38 0 % 5 := by omega
      refine ⟨_, rfl, _, rfl, by omega, by omega, fun D hD => ?_⟩
      have e3 : ∀ o, Ex H2 (upd H2 D o) := fun o => Ex.new hD
      refine lc_range (lo := 0) (n := (1 + ds.getD 39 0 % 3).toNat) (fun i H' => Ex H2 H' ∧ ∃ ns : List Int, H' D = some (.lst (ns.map V.int)) ∧ ns.length = i ∧ ∀ v ∈ ns, 0 ≤ v) ⟨e3 _, [], upd_same, rfl, fun v hv => by cases hv⟩ ?_ ?_
      · rintro i H3 hi ⟨x3, ns, h3, hnl, hnn⟩
        refine ⟨rfl, tyes ?_⟩
        refine ⟨_, rfl, _, rfl, _, _, rfl, rfl, a, _, _, _, rfl, rfl, SqL.of (x3.lst (e2.lst ha)), (by rw [show (30 : Int) + (0 + (i : Int)) = ((i + 30 : Nat) : Int) by omega]; exact g (i + 30) (by omega)), _, _, rfl, rfl, (by show (0 : Int) < 3; decide), ?_⟩
        refine ⟨_, h3, (by rw [List.length_map, hnl]; exact small1000 (by omega)), x3.put hD, ns ++ [ds.getD (i + 30) 0 % 3], ?_, by rw [List.length_append, hnl]; rfl, fun v hv => ?_⟩
        · rw [upd_same, List.map_append]; rfl
        · rcases List.mem_append.mp hv with h | h
          · exact hnn v h
          · have : v = ds.getD (i + 30) 0 % 3 := by simpa using h
            rw [this]; omega
      rintro H3 ⟨e3', ns, h3, hnl, hnn⟩
      refine ⟨D, _, rfl, .inl ⟨SqL.of h3, fun t ht => ?_⟩⟩
      have e4 : ∀ o, Ex H3 (upd H3 t o) := fun o => Ex.new ht
      have ht1 : (upd H3 t (.tup (ns.map V.int))) t = some (.tup (ns.map V.int)) := upd_same
      have y3 := e3'.trans (e4 (.tup (ns.map V.int)))
      generalize upd H3 t (.tup (ns.map V.int)) = H4 at y3 ht1 ⊢
      refine ⟨_, rfl, _, rfl, l, _, rfl, .inl (SqL.of (y3.lst hl)), fun l2 hl2 => ?_⟩
      have e5 : ∀ o, Ex H4 (upd H4 l2 o) := fun o => Ex.new hl2
      intro x dx nx nd ne
      have e6 := made_ex (C := CR) nx nd ne
      refine ⟨x, dx, l2, (1 + ds.getD 39 0 % 3).toNat, as, ps, ?_, upd_same, by omega, by omega, e6.lst upd_same, he.mono fun _ _ h => e6.tup ((e5 _).tup (y3.tup h)), by omega, by omega, hok, e6.tab _ ((e5 _).tab _ (y3.tab _ (x2.tab _ hTG))), fun H5 e7 hm => ⟨rfl, ?_⟩⟩
      · rw [← en]; rfl
      have y5 := (e5 (.lst (as.map V.ref))).trans (ExB.made nx nd e7)
      refine ⟨_, rfl, _, rfl, a, _, _, _, rfl, rfl, SqL.of (y5.lst (y3.lst (e2.lst ha))), g 29 (by decide), _, rfl, _, _, rfl, rfl, hkp, _, rfl, by show 2 ≤ sizeLine; decide, fun c0 hc0 => ?_⟩
      have e8 : ∀ o, Ex H5 (upd H5 c0 o) := fun o => Ex.new hc0
      refine ⟨by show 3 ≤ sizeLine; decide, fun p hp => ?_⟩
      have e9 : ∀ o, Ex (upd H5 c0 (.tup [.int (ds.getD 29 0 % (1 + ds.getD 38 0 % 5)), .ref t])) (upd (upd H5 c0 (.tup [.int (ds.getD 29 0 % (1 + ds.getD 38 0 % 5)), .ref t])) p o) := fun o => Ex.new hp
      have y9 := (e8 _).trans (e9 (.lst [.ref x, .ref l, .ref c0]))
      refine kont p x l c0 ps _ (ds.getD 29 0 % (1 + ds.getD 38 0 % 5), ns) _ (x2.trans (y3.trans (y5.trans y9))) upd_same (hm.mono y9) ⟨as, y9.lst (y5.lst (y3.lst hl)), he.mono fun _ _ h => y9.tup (y5.tup (y3.tup h))⟩ ⟨t, (e9 _).tup upd_same, y9.it (y5.it ht1)⟩ ⟨?_, ?_, hnl, hnn⟩ hok (by omega)
      · exact Int.emod_nonneg _ (by omega)
      · rw [hpl, ← ek]; exact Int.emod_lt_of_pos _ hkp
end
end K75

set_option maxHeartbeats 8000000
/-! the law, in plain -/
namespace K75
open PySem PySem.Spec PyProof.Rows L2
theorem nRS : ¬ (("repeat" : Str) = "shift") := by decide +kernel
theorem nSR : ¬ (("shift" : Str) = "repeat") := by decide +kernel
theorem nRG : ¬ (("repeat" : Str) = "growth") := by decide +kernel
theorem nGR : ¬ (("growth" : Str) = "repeat") := by decide +kernel
theorem nSG : ¬ (("shift" : Str) = "growth") := by decide +kernel
theorem nGS : ¬ (("growth" : Str) = "shift") := by decide +kernel
theorem lawT {tab : Tab} {c : TC} {kd : Str} {i j : Nat} (ok : TabOk tab) (hij : i < j) (h : PaperT tab c kd i j) :
    ∀ t, ∃ x y, orb (tstep tab) c (i + t) = some x ∧ orb (tstep tab) c (j + t) = some y ∧ x.q = y.q ∧ (kd = "repeat" → x = y) ∧ (kd = "shift" → x.h = y.h ∧ hgt tab c (j + t) - hgt tab c (i + t) = hgt tab c j - hgt tab c i) := by
  intro t
  rcases h with ⟨rfl, x, hi, hj⟩ | ⟨rfl, P⟩
  · obtain ⟨h1, h2⟩ := repeat_go hij hi hj t
    cases e : orb (tstep tab) c (i + t) with
    | none => exact absurd e h2
    | some y =>
      rw [e] at h1
      exact ⟨y, y, rfl, h1, rfl, fun _ => rfl, fun z => absurd z nRS⟩
  · obtain ⟨x, y, h1, h2, h3, h4, h5⟩ := shift_go ok P t
    exact ⟨x, y, h1, h2, h3, fun z => absurd z nSR, fun _ => ⟨h4, by omega⟩⟩
theorem lawR {k : Nat} {p : List Ins} {c : RC} {kd : Str} {i j : Nat} (ok : ProgOk k p) (g : RGood k p c) (hij : i < j) (h : PaperR p c kd i j) :
    ∃ δ : Nat → Int, ∀ t, ∃ x y, orb (rstep p) c (i + t) = some x ∧ orb (rstep p) c (j + t) = some y ∧ x.1 = y.1 ∧ (kd = "repeat" → x = y) ∧ (kd = "growth" → ∀ r, y.2.getD r 0 = x.2.getD r 0 + δ r) := by
  rcases h with ⟨rfl, x, hi, hj⟩ | ⟨rfl, G⟩
  · refine ⟨fun _ => 0, fun t => ?_⟩
    obtain ⟨h1, h2⟩ := repeat_go hij hi hj t
    cases e : orb (rstep p) c (i + t) with
    | none => exact absurd e h2
    | some y =>
      rw [e] at h1
      exact ⟨y, y, rfl, h1, rfl, fun _ => rfl, fun z => absurd z nRG⟩
  · obtain ⟨δ, _, h⟩ := grow_go ok g G
    refine ⟨δ, fun t => ?_⟩
    obtain ⟨x, y, h1, h2, h3, h4, _⟩ := h t
    exact ⟨x, y, h1, h2, h3, fun z => absurd z nGR, fun _ => h4⟩
theorem orb_all {α : Type} {step : α → Option α} {c : α} {j : Nat} (h : ∀ t, ∃ y, orb step c (j + t) = some y) (k : Nat) : orb step c k ≠ none := by
  by_cases hk : j ≤ k
  · obtain ⟨y, hy⟩ := h (k - j)
    rw [show j + (k - j) = k by omega] at hy
    rw [hy]; exact fun z => nomatch z
  · obtain ⟨y, hy⟩ := h 0
    obtain ⟨x, hx⟩ := orb_le hy k (by omega)
    rw [hx]; exact fun z => nomatch z
end K75

set_option maxHeartbeats 8000000
/-! the law -/
namespace K75
open PySem PySem.Spec PyProof.Rows L2
def spFindA (CR CT P2 : Addr) : Sp := fun vs H Q E => (∃ tab, spFindT CT tab vs H Q E) ∨ ∃ q : Nat × List Ins, spFindR CR P2 q.1 q.2 vs H Q E
def spOwnA : Sp := fun vs H Q E => (∃ rs, spOwnT rs vs H Q E) ∨ ∃ q : Nat × List Ins, spOwnR q.1 q.2 vs H Q E
def spLaw (K : PySem.W.Frag) (P1 P2 : Addr) : Sp := fun vs H Q _ => ∃ (a : Addr) (ns : List Int), vs = [.ref a] ∧ SqL K H a (ns.map V.int) ∧ ns.length ≤ 1000 ∧ TabG H P1 ∧ TabG H P2 ∧ ∀ H', Ex H H' → Q (.bl true) H'
section
variable {P : Program} {w : World} {K : PySem.W.Frag} {mg : Str → Option Value} {base : Heap} {CR CT CK : Addr}
theorem scLaw : FnScope ["_law_script", "_law_sort", "_law_machine", "_law_made", "_law_begin", "_law_paper", "_law_word", "_law_i", "_law_j", "_law_most", "_law_run", "_law_heads", "_law_k", "_law_before", "_law_rows", "_law_c"] ["_law_script"] (defScope sLaw) := ⟨rfl, rfl, rfl, by decide +kernel, rfl, by decide +kernel, by decide +kernel⟩
theorem ok_law {f P1 P2 : Addr} {fd : FuncData} (F : FD K "law" "law" sLaw f fd) (T : Txt K mg CR CT CK) (Z1 : Cal P w K mg base "_law_cell" 1 ["_law_script", "_law_k"] (spCell K)) (Z2 : Cal P w K mg base "_law_drawn_machine" 3 ["_law_cell_here", "_law_sort"] (spDrawn CR CT P1))
    (Z3 : Cal P w K mg base "find_paper" 6 ["machine", "configuration", "limit"] (spFindA CR CT P2)) (Z4 : Cal P w K mg base "_law_own_run" 3 ["_law_sort", "_law_made", "_law_begin", "_law_most"] spOwnA) (Z5 : Cal P w K mg base "_law_places" 2 ["_law_made", "_law_run"] spPlaces) :
    FnOk P w K mg base CX0 7 f fd ["_law_script"] (spLaw K P1 P2) := by
  obtain ⟨f1, fd1, g1, kp1, b1, G1⟩ := Z1.ex
  obtain ⟨f2, fd2, g2, kp2, b2, G2⟩ := Z2.ex
  obtain ⟨f3, fd3, g3, kp3, b3, G3⟩ := Z3.ex
  obtain ⟨f4, fd4, g4, kp4, b4, G4⟩ := Z4.ex
  obtain ⟨f5, fd5, g5, kp5, b5, G5⟩ := Z5.ex
  refine FD.fok F scLaw (fun vs H Q E h => ?_) (fun A outer s H vs Q E hr h => ?_)
  · obtain ⟨a, ns, rfl, _⟩ := h
    rfl
  · obtain ⟨a, ns, rfl, ha, hn, hP1, hP2, kont⟩ := h
    refine ⟨_, (pss_cons (ps_for PassesOwn.never rfl (pi_range1 rfl T.rng (pa_cons pe_int pa_nil)) (pg_name (i := 1) scLaw.nd rfl (.inl rfl)) (pss_cons (ps_asg (pe_call G2 (hr.mono (by decide)) rfl g2 kp2 b2 .nil pass0 (pa_cons (pe_call G1 (hr.mono (by decide)) rfl g1 kp1 b1 .nil pass0 (pa_cons (pv 0) (pa_cons (pv 1) pa_nil))) (pa_cons (pv 1) pa_nil))) (pg_unl (by rfl) (pgs_cons (pg_name (i := 2) scLaw.nd rfl (.inl rfl)) (pgs_cons (pg_name (i := 3) scLaw.nd rfl (.inl rfl)) (pgs_cons (pg_name (i := 4) scLaw.nd rfl (.inl rfl)) pgs_nil))))) (pss_cons (ps_set (i := 5) scLaw.nd rfl (.inl rfl) (pe_call G3 hr rfl g3 kp3 b3 .nil pass0 (pa_cons (pv 2) (pa_cons (pv 4) (pa_cons pe_int pa_nil))))) (pss_one (ps_if (pt_cmp (pc_notN (pv 5))) (pss_cons (ps_asg (pv 5) (pg_tup (by rfl) (pgs_cons (pg_name (i := 6) scLaw.nd rfl (.inl rfl)) (pgs_cons (pg_name (i := 7) scLaw.nd rfl (.inr rfl)) (pgs_cons (pg_name (i := 8) scLaw.nd rfl (.inr rfl)) pgs_nil))))) (pss_cons (ps_set (i := 9) scLaw.nd rfl (.inl rfl) (pe_op op_add (pv 8) (pe_op op_mul (pe_op op_fdiv pe_int (pe_op op_sub (pv 8) (pv 7))) (pe_op op_sub (pv 8) (pv 7))))) (pss_cons (ps_set (i := 10) scLaw.nd rfl (.inr rfl) (pe_call G4 (hr.mono (by decide)) rfl g4 kp4 b4 .nil pass0 (pa_cons (pv 1) (pa_cons (pv 3) (pa_cons (pv 4) (pa_cons (pv 9) pa_nil)))))) (pss_cons (ps_if (pt_cmpR op_ne (pe_callB call_len_seq (by rfl) T.len PySem.boot_len (pa_cons (pv 10) pa_nil)) (pe_op op_add (pv 9) pe_int) (nomark _)) (pss_one (ps_ret pe_bl)) pss_nil) (pss_cons (ps_set (i := 11) scLaw.nd rfl (.inl rfl) (pe_lst pa_nil)) (pss_cons (ps_if (pt_cmpR op_eq (pv 6) pe_str (nomark _)) (pss_one (ps_set (i := 11) scLaw.nd rfl (.inl rfl) (pe_call G5 (hr.mono (by decide)) rfl g5 kp5 b5 .nil pass0 (pa_cons (pv 3) (pa_cons (pv 10) pa_nil))))) pss_nil) (pss_one (ps_for PassesOwn.never rfl (pi_range2 (by rfl) T.rng (pa_cons (pv 8) (pa_cons (pe_op op_add (pv 9) pe_int) pa_nil))) (pg_name (i := 12) scLaw.nd rfl (.inr rfl)) (pss_cons (ps_set (i := 13) scLaw.nd rfl (.inr rfl) (pe_ix ix_list (pv 10) (pe_op op_sub (pv 12) (pe_op op_sub (pv 8) (pv 7))) (fun _ _ => rfl))) (pss_cons (ps_if (PW.pt (pw_or (pt_cmpR op_ne (pe_ix ix_tup (pv 13) pe_int (fun _ _ => rfl)) (pe_ix ix_tup (pe_ix ix_list (pv 10) (pv 12) (fun _ _ => rfl)) pe_int (fun _ _ => rfl)) (nomark _)) (pw_or1 (PW.pt (pw_and (pt_cmpR op_eq (pv 6) pe_str (nomark _)) (pw_and1 (pt_cmpR (op_neD hr.units) (pv 13) (pe_ix ix_list (pv 10) (pv 12) (fun _ _ => rfl)) (nomark _)))))))) (pss_one (ps_ret pe_bl)) pss_nil) (pss_cons (ps_if (PW.pt (pw_and (pt_cmpR op_eq (pv 6) pe_str (nomark _)) (pw_and1 (PW.pt (pw_or (pt_cmpR op_ne (pe_op op_sub (pe_ix ix_list (pv 11) (pv 12) (fun _ _ => rfl)) (pe_ix ix_list (pv 11) (pe_op op_sub (pv 12) (pe_op op_sub (pv 8) (pv 7))) (fun _ _ => rfl))) (pe_op op_sub (pe_ix ix_list (pv 11) (pv 8) (fun _ _ => rfl)) (pe_ix ix_list (pv 11) (pv 7) (fun _ _ => rfl))) (nomark _)) (pw_or1 (pt_cmpR op_ne (pe_ix ix_tup (pv 13) pe_int (fun _ _ => rfl)) (pe_ix ix_tup (pe_ix ix_list (pv 10) (pv 12) (fun _ _ => rfl)) pe_int (fun _ _ => rfl)) (nomark _)))))))) (pss_one (ps_ret pe_bl)) pss_nil) (pss_one (ps_if (PW.pt (pw_and (pt_cmpR op_eq (pv 6) pe_str (nomark _)) (pw_and1 (pt_cmpR op_eq (pe_op op_mod (pv 12) (pe_op op_sub (pv 8) (pv 7))) (pe_op op_mod (pv 8) (pe_op op_sub (pv 8) (pv 7))) (nomark _))))) (pss_cons (ps_setLc (i := 14) (own := [("_law_c", 15)]) (g := gName 15) (tt := tYes) (by rfl) scLaw.nd rfl rfl (sw_true rfl rfl rfl (by rfl)) (pi_range1 rfl T.rng (pa_cons (pe_callB call_len_seq (by rfl) T.len PySem.boot_len (pa_cons (pe_ix ix_tup (pv 13) pe_int (fun _ _ => rfl)) pa_nil)) pa_nil)) (blkOk_by (own := [("_law_c", 15)]) (N := ["_law_script", "_law_sort", "_law_machine", "_law_made", "_law_begin", "_law_paper", "_law_word", "_law_i", "_law_j", "_law_most", "_law_run", "_law_heads", "_law_k", "_law_before", "_law_rows", "_law_c"]) (sc := defScope sLaw) (by decide +kernel)) (fun _ _ _ _ _ => pg_name (i := 15) scLaw.nd rfl (Or.inl rfl)) (fun _ _ _ _ _ => pts_nil) (fun _ _ _ _ _ => (pe_op op_sub (pe_ix (show IxR _ (rIxT K) from ix_tup) (pe_ix (show IxR _ (rIxT K) from ix_tup) (pe_ix (show IxR _ (rIxL K) from ix_list) (pv 10) (pv 12) (fun _ _ => rfl)) pe_int (fun _ _ => rfl)) (pv 15) (fun _ _ => rfl)) (pe_ix (show IxR _ (rIxT K) from ix_tup) (pe_ix (show IxR _ (rIxT K) from ix_tup) (pv 13) pe_int (fun _ _ => rfl)) (pv 15) (fun _ _ => rfl))))) (pss_one (ps_if (pt_cmpR (op_neD hr.units) (pv 14) (pe_lc (own := [("_law_c", 15)]) (g := gName 15) (tt := tYes) (by rfl) scLaw.nd (pi_range1 rfl T.rng (pa_cons (pe_callB call_len_seq (by rfl) T.len PySem.boot_len (pa_cons (pe_ix ix_tup (pv 13) pe_int (fun _ _ => rfl)) pa_nil)) pa_nil)) (blkOk_by (own := [("_law_c", 15)]) (N := ["_law_script", "_law_sort", "_law_machine", "_law_made", "_law_begin", "_law_paper", "_law_word", "_law_i", "_law_j", "_law_most", "_law_run", "_law_heads", "_law_k", "_law_before", "_law_rows", "_law_c"]) (sc := defScope sLaw) (by decide +kernel)) (fun _ _ _ _ _ => pg_name (i := 15) scLaw.nd rfl (Or.inl rfl)) (fun _ _ _ _ _ => pts_nil) (fun _ _ _ _ _ => (pe_op op_sub (pe_ix (show IxR _ (rIxT K) from ix_tup) (pe_ix (show IxR _ (rIxT K) from ix_tup) (pe_ix (show IxR _ (rIxL K) from ix_list) (pv 10) (pv 8) (fun _ _ => rfl)) pe_int (fun _ _ => rfl)) (pv 15) (fun _ _ => rfl)) (pe_ix (show IxR _ (rIxT K) from ix_tup) (pe_ix (show IxR _ (rIxT K) from ix_tup) (pe_ix (show IxR _ (rIxL K) from ix_list) (pv 10) (pv 7) (fun _ _ => rfl)) pe_int (fun _ _ => rfl)) (pv 15) (fun _ _ => rfl))))) (nomark _)) (pss_one (ps_ret pe_bl)) pss_nil))) pss_nil))))))))))))) pss_nil))))) (pss_one (ps_ret pe_bl))), ?_⟩
    have fin0 : True := trivial
    refine ⟨2, rfl, by decide, by decide, ?_⟩
    refine for_range (lo := 0) (n := (2 : Int).toNat) (fun i σ H' => ∃ v1 v2 v3 v4 v5 v6 v7 v8 v9 v10 v11 v12 v13 v14 v15 : Option V, σ = [some (.ref a), v1, v2, v3, v4, v5, v6, v7, v8, v9, v10, v11, v12, v13, v14, v15] ∧ Ex H H')
      ⟨_, _, _, _, _, _, _, _, _, _, _, _, _, _, _, rfl, Ex.refl H⟩ ?_ ?_
    · rintro s0 σ H0 hs0 ⟨v1, v2, v3, v4, v5, v6, v7, v8, v9, v10, v11, v12, v13, v14, v15, rfl, x0⟩
      have ha0 := x0.sqL ha
      match s0, hs0 with
      | 0, _ =>
        refine ⟨_, rfl, _, rfl, a, ns, 0, rfl, ha0, hn, fun z => ?_⟩
        refine ⟨_, rfl, z, .inl ⟨rfl, fun p m l b as rs n0 k0 c H1 e1 hp hm hl he hrl hok hap hc hg hcl hcr => ?_⟩⟩
        have x1 := x0.trans e1
        refine ⟨p, _, rfl, SqL.of hp, rfl, _, _, rfl, _, _, rfl, _, _, rfl, rfl, ?_⟩
        refine ⟨_, rfl, _, rfl, .inl ⟨tabOf rs, m, b, c, rfl, hm, hc, by omega, by omega, tabOk_of hok, fun H2 e2 => ?_, fun kd i j tp H2 e2 hij hj hP ht => ?_⟩⟩
        · exact ⟨_, rfl, _, rfl, iteF ⟨_, _, _, _, _, _, _, _, _, _, _, _, _, _, _, rfl, x1.trans e2⟩⟩
        have x2 := x1.trans e2
        refine ⟨_, rfl, _, rfl, iteT ?_⟩
        refine ⟨_, rfl, tp, _, rfl, SqT.of ht, rfl, _, _, rfl, _, _, rfl, _, _, rfl, rfl, ?_⟩
        have hd1 : (0 : Int) < (j : Int) - (i : Int) := by omega
        have hd2 : (j : Int) - (i : Int) < 1073741824 := by omega
        have m1 : 120 / ((j : Int) - (i : Int)) * ((j : Int) - (i : Int)) ≤ 120 := Int.ediv_mul_le _ (by omega)
        have m2 : 0 ≤ 120 / ((j : Int) - (i : Int)) * ((j : Int) - (i : Int)) := Int.mul_nonneg (Int.ediv_nonneg (by decide) (by omega)) (by omega)
        refine ⟨_, rfl, _, rfl, _, rfl, _, _, rfl, rfl, _, _, rfl, rfl, ⟨hd1, hd2⟩, _, rfl, _, rfl, _, _, rfl, rfl, _, _, rfl, rfl, .inr ⟨by omega, by omega⟩, _, _, rfl, rfl, ?_⟩
        obtain ⟨n, en⟩ := nat_of (show 0 ≤ (j : Int) + 120 / ((j : Int) - (i : Int)) * ((j : Int) - (i : Int)) by omega)
        have hlaw := lawT (tabOk_of hok) hij hP
        have hfull : ∀ k, k ≤ n → orb (tstep (tabOf rs)) c k ≠ none := fun k _ => orb_all (fun t => by obtain ⟨x, y, h1, h2, _⟩ := hlaw t; exact ⟨y, h2⟩) k
        refine ⟨_, rfl, _, rfl, _, rfl, _, rfl, .inl ⟨rs, l, b, n, as, c, ?_, by omega, e2.lst hl, he.mono fun _ _ h => e2.tup h, hrl, hap, e2.tcf hc, hg, by omega, by omega, fun q as2 cs H3 e3 hq hcs hrun => ?_⟩⟩
        · rw [← en]; rfl
        have hlen := hrun.full hfull
        have x3 := x2.trans e3
        refine ⟨_, rfl, q, _, rfl, .inl (SqL.of hq), _, rfl, _, _, rfl, rfl, rfl, _, rfl, ?_⟩
        rw [List.length_map, hcs.len, hlen, dec_ne_int, decide_eq_false (fun z => z (by omega))]
        refine iteF ?_
        refine ⟨Nat.zero_le _, fun g hg0 => ?_⟩
        have e4 : ∀ o, Ex H3 (upd H3 g o) := fun o => Ex.new hg0
        -- a turn's two configurations
        have bnd : ∀ t : Nat, j + t ≤ n → ∃ x y ax ay, cs[i + t]? = some x ∧ cs[j + t]? = some y ∧ as2[i + t]? = some ax ∧ as2[j + t]? = some ay ∧ TCf H3 ax x ∧ TCf H3 ay y ∧ x.q = y.q ∧ (kd = "repeat" → x = y) ∧ (kd = "shift" → x.h = y.h ∧ hgt (tabOf rs) c (j + t) - hgt (tabOf rs) c (i + t) = hgt (tabOf rs) c j - hgt (tabOf rs) c i) := fun t ht => by
          obtain ⟨x, y, h1, h2, h3⟩ := hlaw t
          have c1 : cs[i + t]? = some x := by rw [hrun.at_ _ (by omega), h1]
          have c2 : cs[j + t]? = some y := by rw [hrun.at_ _ (by omega), h2]
          obtain ⟨ax, a1, b1⟩ := hcs.get c1
          obtain ⟨ay, a2, b2⟩ := hcs.get c2
          exact ⟨x, y, ax, ay, c1, c2, a1, a2, b1, b2, h3⟩
        rcases (show kd = "repeat" ∨ kd = "shift" from hP.imp And.left And.left) with rfl | rfl
        · skip
          refine ⟨_, rfl, rfl, _, rfl, iteF ?_⟩
          have y5 := e4 (.lst [])
          generalize upd H3 g (.lst []) = H5 at y5 ⊢
          have x5 := x3.trans y5
          have hq5 := y5.lst hq
          refine ⟨_, rfl, _, rfl, _, _, rfl, rfl, _, _, rfl, ⟨by omega, by omega, by omega, by omega⟩, ?_⟩
          refine for_range (lo := (j : Int)) (n := ((j : Int) + 120 / ((j : Int) - (i : Int)) * ((j : Int) - (i : Int)) + 1 - (j : Int)).toNat) (fun t σ H' => ∃ (v12 v13 v14 v15 : Option V), σ = [some (.ref a), some (.int 0), some (.ref m), some (.ref l), some (.ref b), some (.ref tp), some (.str "repeat"), some (.int i), some (.int j), some (.int ((j : Int) + 120 / ((j : Int) - (i : Int)) * ((j : Int) - (i : Int)))), some (.ref q), some (.ref g), v12, v13, v14, v15] ∧ Ex H5 H')
            ⟨_, _, _, _, rfl, Ex.refl H5⟩ ?_ ?_
          · rintro t σ H6 ht ⟨v12, v13, v14, v15, rfl, x6⟩
            have htn : j + t ≤ n := by omega
            obtain ⟨x, y, ax, ay, c1, c2, a1, a2, b1, b2, hxy, hrep, hsh⟩ := bnd t htn
            obtain ⟨xl, xr, hx1, hx2, hx3⟩ := (x6.tcf (y5.tcf b1)).ex
            obtain ⟨yl, yr, hy1, hy2, hy3⟩ := (x6.tcf (y5.tcf b2)).ex
            refine ⟨_, rfl, _, rfl, _, rfl, _, rfl, _, _, rfl, rfl, _, _, rfl, rfl, q, _, _, _, rfl, rfl, SqL.of (x6.lst hq5), (by rw [show (j : Int) + (t : Int) - ((j : Int) - (i : Int)) = ((i + t : Nat) : Int) by omega]; exact atI_nat (refs_at a1)), ?_⟩
            refine ⟨_, rfl, ax, _, _, _, rfl, rfl, SqT.of hx1, atI_nat (j := 0) rfl, _, rfl, _, rfl, q, _, _, _, rfl, rfl, SqL.of (x6.lst hq5), (by rw [show (j : Int) + (t : Int) = ((j + t : Nat) : Int) by omega]; exact atI_nat (refs_at a2)), ay, _, _, _, rfl, rfl, SqT.of hy1, atI_nat (j := 0) rfl, rfl, _, rfl, ?_⟩
            rw [dec_ne_int, decide_eq_false (fun z => z hxy)]
            refine iteF ?_
            refine ⟨_, rfl, rfl, _, rfl, iteT ?_⟩
            refine ⟨_, rfl, _, rfl, _, rfl, q, _, _, _, rfl, rfl, SqL.of (x6.lst hq5), (by rw [show (j : Int) + (t : Int) = ((j + t : Nat) : Int) by omega]; exact atI_nat (refs_at a2)), _, _, dp_tcf (x6.tcf (y5.tcf b1)), dp_tcf (x6.tcf (y5.tcf b2)), shaped_tD _, shaped_tD _, _, rfl, ?_⟩
            rw [(eqv_tD x y).mpr (hrep rfl)]
            refine iteF ?_
            refine ⟨_, rfl, rfl, _, rfl, iteF (iteF ?_)⟩
            refine ⟨_, rfl, rfl, _, rfl, iteF (iteF ?_)⟩
            exact ⟨_, _, _, _, rfl, x6⟩
          · rintro σ H6 ⟨v12, v13, v14, v15, rfl, x6⟩
            exact ⟨_, _, _, _, _, _, _, _, _, _, _, _, _, _, _, rfl, x5.trans x6⟩
        · skip
          refine ⟨_, rfl, rfl, _, rfl, iteT ?_⟩
          refine ⟨_, rfl, _, rfl, l, q, as, as2, rs, cs, c, n, rfl, (e4 _).lst (e3.lst (e2.lst hl)), he.mono fun _ _ h => (e4 _).tup (e3.tup (e2.tup h)), hrl, hap, (e4 _).lst hq, hcs.mono fun _ _ h => (e4 _).tcf h, hrun, by omega, fun g2 hs H5 e5 hg5 hHd => ?_⟩
          have y5 := (e4 (.lst [])).trans e5
          have x5 := x3.trans y5
          have hq5 := y5.lst hq
          refine ⟨_, rfl, _, rfl, _, _, rfl, rfl, _, _, rfl, ⟨by omega, by omega, by omega, by omega⟩, ?_⟩
          refine for_range (lo := (j : Int)) (n := ((j : Int) + 120 / ((j : Int) - (i : Int)) * ((j : Int) - (i : Int)) + 1 - (j : Int)).toNat) (fun t σ H' => ∃ (v12 v13 v14 v15 : Option V), σ = [some (.ref a), some (.int 0), some (.ref m), some (.ref l), some (.ref b), some (.ref tp), some (.str "shift"), some (.int i), some (.int j), some (.int ((j : Int) + 120 / ((j : Int) - (i : Int)) * ((j : Int) - (i : Int)))), some (.ref q), some (.ref g2), v12, v13, v14, v15] ∧ Ex H5 H')
            ⟨_, _, _, _, rfl, Ex.refl H5⟩ ?_ ?_
          · rintro t σ H6 ht ⟨v12, v13, v14, v15, rfl, x6⟩
            have htn : j + t ≤ n := by omega
            obtain ⟨x, y, ax, ay, c1, c2, a1, a2, b1, b2, hxy, hrep, hsh⟩ := bnd t htn
            obtain ⟨xl, xr, hx1, hx2, hx3⟩ := (x6.tcf (y5.tcf b1)).ex
            obtain ⟨yl, yr, hy1, hy2, hy3⟩ := (x6.tcf (y5.tcf b2)).ex
            refine ⟨_, rfl, _, rfl, _, rfl, _, rfl, _, _, rfl, rfl, _, _, rfl, rfl, q, _, _, _, rfl, rfl, SqL.of (x6.lst hq5), (by rw [show (j : Int) + (t : Int) - ((j : Int) - (i : Int)) = ((i + t : Nat) : Int) by omega]; exact atI_nat (refs_at a1)), ?_⟩
            refine ⟨_, rfl, ax, _, _, _, rfl, rfl, SqT.of hx1, atI_nat (j := 0) rfl, _, rfl, _, rfl, q, _, _, _, rfl, rfl, SqL.of (x6.lst hq5), (by rw [show (j : Int) + (t : Int) = ((j + t : Nat) : Int) by omega]; exact atI_nat (refs_at a2)), ay, _, _, _, rfl, rfl, SqT.of hy1, atI_nat (j := 0) rfl, rfl, _, rfl, ?_⟩
            rw [dec_ne_int, decide_eq_false (fun z => z hxy)]
            refine iteF ?_
            refine ⟨_, rfl, rfl, _, rfl, iteF (iteF ?_)⟩
            refine ⟨_, rfl, rfl, _, rfl, iteT ?_⟩
            obtain ⟨hh, hhg⟩ := hsh rfl
            have k1 := hHd.2 (j + t) (by omega)
            have k2 := hHd.2 (i + t) (by omega)
            have k3 := hHd.2 j (by omega)
            have k4 := hHd.2 i (by omega)
            refine ⟨_, rfl, _, rfl, g2, _, _, _, rfl, rfl, SqL.of (x6.lst hg5), (by rw [show (j : Int) + (t : Int) = ((j + t : Nat) : Int) by omega]; exact atI_nat (ints_at k1)), _, rfl, _, rfl, _, rfl, _, rfl, _, _, rfl, rfl, _, _, rfl, rfl, g2, _, _, _, rfl, rfl, SqL.of (x6.lst hg5), (by rw [show (j : Int) + (t : Int) - ((j : Int) - (i : Int)) = ((i + t : Nat) : Int) by omega]; exact atI_nat (ints_at k2)), _, _, rfl, rfl, _, rfl, _, rfl, g2, _, _, _, rfl, rfl, SqL.of (x6.lst hg5), atI_nat (ints_at k3), _, rfl, _, rfl, g2, _, _, _, rfl, rfl, SqL.of (x6.lst hg5), atI_nat (ints_at k4), _, _, rfl, rfl, rfl, _, rfl, ?_⟩
            rw [dec_ne_int, decide_eq_false (fun z => z hhg)]
            refine iteF ?_
            refine ⟨_, rfl, ax, _, _, _, rfl, rfl, SqT.of hx1, atI_nat (j := 2) rfl, _, rfl, _, rfl, q, _, _, _, rfl, rfl, SqL.of (x6.lst hq5), (by rw [show (j : Int) + (t : Int) = ((j + t : Nat) : Int) by omega]; exact atI_nat (refs_at a2)), ay, _, _, _, rfl, rfl, SqT.of hy1, atI_nat (j := 2) rfl, rfl, _, rfl, ?_⟩
            rw [dec_ne_int, decide_eq_false (fun z => z hh)]
            refine iteF ?_
            refine ⟨_, rfl, rfl, _, rfl, iteF (iteF ?_)⟩
            exact ⟨_, _, _, _, rfl, x6⟩
          · rintro σ H6 ⟨v12, v13, v14, v15, rfl, x6⟩
            exact ⟨_, _, _, _, _, _, _, _, _, _, _, _, _, _, _, rfl, x5.trans x6⟩
      | 1, _ =>
        refine ⟨_, rfl, _, rfl, a, ns, 1, rfl, ha0, hn, fun z => ?_⟩
        refine ⟨_, rfl, z, .inr ⟨rfl, x0.tab _ hP1, fun p m l b ps k0 c H1 e1 hp hm hl hc hg hok hk => ?_⟩⟩
        have x1 := x0.trans e1
        refine ⟨p, _, rfl, SqL.of hp, rfl, _, _, rfl, _, _, rfl, _, _, rfl, rfl, ?_⟩
        refine ⟨_, rfl, _, rfl, .inr ⟨(k0, ps), m, b, c, rfl, hm, hc, hg, hok, hk, x1.tab _ hP2, fun H2 e2 => ?_, fun kd i j tp H2 e2 hij hj hP ht => ?_⟩⟩
        · exact ⟨_, rfl, _, rfl, iteF ⟨_, _, _, _, _, _, _, _, _, _, _, _, _, _, _, rfl, x1.trans e2⟩⟩
        have x2 := x1.trans e2
        refine ⟨_, rfl, _, rfl, iteT ?_⟩
        refine ⟨_, rfl, tp, _, rfl, SqT.of ht, rfl, _, _, rfl, _, _, rfl, _, _, rfl, rfl, ?_⟩
        have hd1 : (0 : Int) < (j : Int) - (i : Int) := by omega
        have hd2 : (j : Int) - (i : Int) < 1073741824 := by omega
        have m1 : 120 / ((j : Int) - (i : Int)) * ((j : Int) - (i : Int)) ≤ 120 := Int.ediv_mul_le _ (by omega)
        have m2 : 0 ≤ 120 / ((j : Int) - (i : Int)) * ((j : Int) - (i : Int)) := Int.mul_nonneg (Int.ediv_nonneg (by decide) (by omega)) (by omega)
        refine ⟨_, rfl, _, rfl, _, rfl, _, _, rfl, rfl, _, _, rfl, rfl, ⟨hd1, hd2⟩, _, rfl, _, rfl, _, _, rfl, rfl, _, _, rfl, rfl, .inr ⟨by omega, by omega⟩, _, _, rfl, rfl, ?_⟩
        obtain ⟨n, en⟩ := nat_of (show 0 ≤ (j : Int) + 120 / ((j : Int) - (i : Int)) * ((j : Int) - (i : Int)) by omega)
        obtain ⟨δ, hlaw⟩ := lawR hok hg hij hP
        have good := orb_good hg (fun x y gx h => rgood_step hok gx h)
        have hfull : ∀ k, k ≤ n → orb (rstep ps) c k ≠ none := fun k _ => orb_all (fun t => by obtain ⟨x, y, h1, h2, _⟩ := hlaw t; exact ⟨y, h2⟩) k
        refine ⟨_, rfl, _, rfl, _, rfl, _, rfl, .inr ⟨(k0, ps), l, b, n, c, ?_, by omega, (let ⟨ai, w1, w2⟩ := hl; ⟨ai, e2.lst w1, w2.mono fun _ _ h => e2.tup h⟩), e2.rcf hc, hg, hok, hk, fun q as2 cs H3 e3 hq hcs hrun => ?_⟩⟩
        · rw [← en]; rfl
        have hlen := hrun.full hfull
        have x3 := x2.trans e3
        refine ⟨_, rfl, q, _, rfl, .inl (SqL.of hq), _, rfl, _, _, rfl, rfl, rfl, _, rfl, ?_⟩
        rw [List.length_map, hcs.len, hlen, dec_ne_int, decide_eq_false (fun z => z (by omega))]
        refine iteF ?_
        refine ⟨Nat.zero_le _, fun g hg0 => ?_⟩
        have e4 : ∀ o, Ex H3 (upd H3 g o) := fun o => Ex.new hg0
        -- a turn's two configurations
        have bnd : ∀ t : Nat, j + t ≤ n → ∃ x y ax ay, cs[i + t]? = some x ∧ cs[j + t]? = some y ∧ as2[i + t]? = some ax ∧ as2[j + t]? = some ay ∧ RCf H3 ax x ∧ RCf H3 ay y ∧ x.1 = y.1 ∧ (kd = "repeat" → x = y) ∧ (kd = "growth" → ∀ r, y.2.getD r 0 = x.2.getD r 0 + δ r) := fun t ht => by
          obtain ⟨x, y, h1, h2, h3⟩ := hlaw t
          have c1 : cs[i + t]? = some x := by rw [hrun.at_ _ (by omega), h1]
          have c2 : cs[j + t]? = some y := by rw [hrun.at_ _ (by omega), h2]
          obtain ⟨ax, a1, b1⟩ := hcs.get c1
          obtain ⟨ay, a2, b2⟩ := hcs.get c2
          exact ⟨x, y, ax, ay, c1, c2, a1, a2, b1, b2, h3⟩
        rcases (show kd = "repeat" ∨ kd = "growth" from hP.imp And.left And.left) with rfl | rfl
        · skip
          refine ⟨_, rfl, rfl, _, rfl, iteF ?_⟩
          have y5 := e4 (.lst [])
          generalize upd H3 g (.lst []) = H5 at y5 ⊢
          have x5 := x3.trans y5
          have hq5 := y5.lst hq
          refine ⟨_, rfl, _, rfl, _, _, rfl, rfl, _, _, rfl, ⟨by omega, by omega, by omega, by omega⟩, ?_⟩
          refine for_range (lo := (j : Int)) (n := ((j : Int) + 120 / ((j : Int) - (i : Int)) * ((j : Int) - (i : Int)) + 1 - (j : Int)).toNat) (fun t σ H' => ∃ (v12 v13 v14 v15 : Option V), σ = [some (.ref a), some (.int 1), some (.ref m), some (.ref l), some (.ref b), some (.ref tp), some (.str "repeat"), some (.int i), some (.int j), some (.int ((j : Int) + 120 / ((j : Int) - (i : Int)) * ((j : Int) - (i : Int)))), some (.ref q), some (.ref g), v12, v13, v14, v15] ∧ Ex H5 H')
            ⟨_, _, _, _, rfl, Ex.refl H5⟩ ?_ ?_
          · rintro t σ H6 ht ⟨v12, v13, v14, v15, rfl, x6⟩
            have htn : j + t ≤ n := by omega
            obtain ⟨x, y, ax, ay, c1, c2, a1, a2, b1, b2, hxy, hrep, hgr⟩ := bnd t htn
            obtain ⟨vx, hx1, hx2⟩ := (x6.rcf (y5.rcf b1)).ex
            obtain ⟨vy, hy1, hy2⟩ := (x6.rcf (y5.rcf b2)).ex
            refine ⟨_, rfl, _, rfl, _, rfl, _, rfl, _, _, rfl, rfl, _, _, rfl, rfl, q, _, _, _, rfl, rfl, SqL.of (x6.lst hq5), (by rw [show (j : Int) + (t : Int) - ((j : Int) - (i : Int)) = ((i + t : Nat) : Int) by omega]; exact atI_nat (refs_at a1)), ?_⟩
            refine ⟨_, rfl, ax, _, _, _, rfl, rfl, SqT.of hx1, atI_nat (j := 0) rfl, _, rfl, _, rfl, q, _, _, _, rfl, rfl, SqL.of (x6.lst hq5), (by rw [show (j : Int) + (t : Int) = ((j + t : Nat) : Int) by omega]; exact atI_nat (refs_at a2)), ay, _, _, _, rfl, rfl, SqT.of hy1, atI_nat (j := 0) rfl, rfl, _, rfl, ?_⟩
            rw [dec_ne_int, decide_eq_false (fun z => z hxy)]
            refine iteF ?_
            refine ⟨_, rfl, rfl, _, rfl, iteT ?_⟩
            refine ⟨_, rfl, _, rfl, _, rfl, q, _, _, _, rfl, rfl, SqL.of (x6.lst hq5), (by rw [show (j : Int) + (t : Int) = ((j + t : Nat) : Int) by omega]; exact atI_nat (refs_at a2)), _, _, dp_rcf (x6.rcf (y5.rcf b1)), dp_rcf (x6.rcf (y5.rcf b2)), shaped_rD _, shaped_rD _, _, rfl, ?_⟩
            rw [(eqv_rD x y).mpr (hrep rfl)]
            refine iteF ?_
            refine ⟨_, rfl, rfl, _, rfl, iteF (iteF ?_)⟩
            refine ⟨_, rfl, rfl, _, rfl, iteF (iteF ?_)⟩
            exact ⟨_, _, _, _, rfl, x6⟩
          · rintro σ H6 ⟨v12, v13, v14, v15, rfl, x6⟩
            exact ⟨_, _, _, _, _, _, _, _, _, _, _, _, _, _, _, rfl, x5.trans x6⟩
        · skip
          refine ⟨_, rfl, rfl, _, rfl, iteF ?_⟩
          have y5 := e4 (.lst [])
          generalize upd H3 g (.lst []) = H5 at y5 ⊢
          have x5 := x3.trans y5
          have hq5 := y5.lst hq
          refine ⟨_, rfl, _, rfl, _, _, rfl, rfl, _, _, rfl, ⟨by omega, by omega, by omega, by omega⟩, ?_⟩
          refine for_range (lo := (j : Int)) (n := ((j : Int) + 120 / ((j : Int) - (i : Int)) * ((j : Int) - (i : Int)) + 1 - (j : Int)).toNat) (fun t σ H' => ∃ (v12 v13 v14 v15 : Option V), σ = [some (.ref a), some (.int 1), some (.ref m), some (.ref l), some (.ref b), some (.ref tp), some (.str "growth"), some (.int i), some (.int j), some (.int ((j : Int) + 120 / ((j : Int) - (i : Int)) * ((j : Int) - (i : Int)))), some (.ref q), some (.ref g), v12, v13, v14, v15] ∧ Ex H5 H')
            ⟨_, _, _, _, rfl, Ex.refl H5⟩ ?_ ?_
          · rintro t σ H6 ht ⟨v12, v13, v14, v15, rfl, x6⟩
            have htn : j + t ≤ n := by omega
            obtain ⟨x, y, ax, ay, c1, c2, a1, a2, b1, b2, hxy, hrep, hgr⟩ := bnd t htn
            obtain ⟨vx, hx1, hx2⟩ := (x6.rcf (y5.rcf b1)).ex
            obtain ⟨vy, hy1, hy2⟩ := (x6.rcf (y5.rcf b2)).ex
            refine ⟨_, rfl, _, rfl, _, rfl, _, rfl, _, _, rfl, rfl, _, _, rfl, rfl, q, _, _, _, rfl, rfl, SqL.of (x6.lst hq5), (by rw [show (j : Int) + (t : Int) - ((j : Int) - (i : Int)) = ((i + t : Nat) : Int) by omega]; exact atI_nat (refs_at a1)), ?_⟩
            refine ⟨_, rfl, ax, _, _, _, rfl, rfl, SqT.of hx1, atI_nat (j := 0) rfl, _, rfl, _, rfl, q, _, _, _, rfl, rfl, SqL.of (x6.lst hq5), (by rw [show (j : Int) + (t : Int) = ((j + t : Nat) : Int) by omega]; exact atI_nat (refs_at a2)), ay, _, _, _, rfl, rfl, SqT.of hy1, atI_nat (j := 0) rfl, rfl, _, rfl, ?_⟩
            rw [dec_ne_int, decide_eq_false (fun z => z hxy)]
            refine iteF ?_
            refine ⟨_, rfl, rfl, _, rfl, iteF (iteF ?_)⟩
            refine ⟨_, rfl, rfl, _, rfl, iteF (iteF ?_)⟩
            refine ⟨_, rfl, rfl, _, rfl, iteT ?_⟩
            have hji : (0 : Int) < (j : Int) - (i : Int) := by omega
            refine ⟨_, rfl, _, rfl, _, rfl, _, _, rfl, rfl, _, _, rfl, rfl, hji, _, rfl, _, rfl, _, rfl, _, _, rfl, rfl, _, _, rfl, rfl, hji, rfl, _, rfl, ?_⟩
            refine ite2 (fun _ => ?_) (fun _ => ?_)
            · -- the rows
              obtain ⟨x0, y0, ax0, ay0, d1, d2, e1, e2, f1', f2', hxy0, hrep0, hgr0⟩ := bnd 0 (by omega)
              rw [Nat.add_zero] at d1 d2 e1 e2
              obtain ⟨vx0, hx01, hx02⟩ := (x6.rcf (y5.rcf f1')).ex
              obtain ⟨vy0, hy01, hy02⟩ := (x6.rcf (y5.rcf f2')).ex
              have lx : x.2.length = k0 := (good _ _ (hrun.get c1)).len
              have ly : y.2.length = k0 := (good _ _ (hrun.get c2)).len
              have lx0 : x0.2.length = k0 := (good _ _ (hrun.get d1)).len
              have ly0 : y0.2.length = k0 := (good _ _ (hrun.get d2)).len
              refine ⟨_, rfl, ax, _, _, _, rfl, rfl, SqT.of hx1, atI_nat (j := 1) rfl, vx, _, rfl, .inr (SqT.of hx2), _, rfl, ?_, ?_, ?_⟩
              · rw [List.length_map]; omega
              · rw [List.length_map]; omega
              rw [List.length_map, lx]
              intro D hD
              have z0 : ∀ o, Ex H6 (upd H6 D o) := fun o => Ex.new hD
              refine lc_range (lo := 0) (n := ((k0 : Nat) : Int).toNat) (fun r H' => Ex H6 H' ∧ H' D = some (.lst (((List.range r).map fun r => y.2.getD r 0 - x.2.getD r 0).map V.int))) ⟨z0 _, upd_same⟩ ?_ ?_
              · rintro r H7 hr7 ⟨x7, h7⟩
                refine ⟨rfl, tyes ?_⟩
                rw [Int.toNat_natCast] at hr7
                have x67 := x6.trans x7
                refine ⟨_, rfl, _, rfl, q, _, _, _, rfl, rfl, SqL.of (x67.lst hq5), (by rw [show (j : Int) + (t : Int) = ((j + t : Nat) : Int) by omega]; exact atI_nat (refs_at a2)), ay, _, _, _, rfl, rfl, SqT.of (x7.tup hy1), atI_nat (j := 1) rfl, _, rfl, vy, _, _, _, rfl, rfl, SqT.of (x7.tup hy2), (by rw [show (0 : Int) + (r : Int) = ((r : Nat) : Int) by omega]; exact atI_nat (ints_at (getD_at (by omega)))), _, rfl, ax, _, _, _, rfl, rfl, SqT.of (x7.tup hx1), atI_nat (j := 1) rfl, _, rfl, vx, _, _, _, rfl, rfl, SqT.of (x7.tup hx2), (by rw [show (0 : Int) + (r : Int) = ((r : Nat) : Int) by omega]; exact atI_nat (ints_at (getD_at (by omega)))), _, _, rfl, rfl, ?_⟩
                refine ⟨_, h7, (by rw [List.length_map, List.length_map, List.length_range]; exact small1000 (by omega)), x7.put hD, ?_⟩
                rw [upd_same, List.range_succ, List.map_append, List.map_append]; rfl
              rintro H7 ⟨x7, h7⟩
              rw [Int.toNat_natCast] at h7
              refine ⟨_, rfl, _, rfl, ax, _, _, _, rfl, rfl, SqT.of (x7.tup hx1), atI_nat (j := 1) rfl, vx, _, rfl, .inr (SqT.of (x7.tup hx2)), _, rfl, ?_, ?_, ?_⟩
              · rw [List.length_map]; omega
              · rw [List.length_map]; omega
              rw [List.length_map, lx]
              intro D2 hD2
              have z1 : ∀ o, Ex H7 (upd H7 D2 o) := fun o => Ex.new hD2
              refine lc_range (lo := 0) (n := ((k0 : Nat) : Int).toNat) (fun r H' => Ex H7 H' ∧ H' D2 = some (.lst (((List.range r).map fun r => y0.2.getD r 0 - x0.2.getD r 0).map V.int))) ⟨z1 _, upd_same⟩ ?_ ?_
              · rintro r H8 hr8 ⟨x8, h8⟩
                refine ⟨rfl, tyes ?_⟩
                rw [Int.toNat_natCast] at hr8
                have x67 := x6.trans (x7.trans x8)
                have x78 := x7.trans x8
                refine ⟨_, rfl, _, rfl, q, _, _, _, rfl, rfl, SqL.of (x67.lst hq5), atI_nat (refs_at e2), ay0, _, _, _, rfl, rfl, SqT.of (x78.tup hy01), atI_nat (j := 1) rfl, _, rfl, vy0, _, _, _, rfl, rfl, SqT.of (x78.tup hy02), (by rw [show (0 : Int) + (r : Int) = ((r : Nat) : Int) by omega]; exact atI_nat (ints_at (getD_at (by omega)))), _, rfl, _, rfl, q, _, _, _, rfl, rfl, SqL.of (x67.lst hq5), atI_nat (refs_at e1), ax0, _, _, _, rfl, rfl, SqT.of (x78.tup hx01), atI_nat (j := 1) rfl, _, rfl, vx0, _, _, _, rfl, rfl, SqT.of (x78.tup hx02), (by rw [show (0 : Int) + (r : Int) = ((r : Nat) : Int) by omega]; exact atI_nat (ints_at (getD_at (by omega)))), _, _, rfl, rfl, ?_⟩
                refine ⟨_, h8, (by rw [List.length_map, List.length_map, List.length_range]; exact small1000 (by omega)), x8.put hD2, ?_⟩
                rw [upd_same, List.range_succ, List.map_append, List.map_append]; rfl
              rintro H8 ⟨x8, h8⟩
              rw [Int.toNat_natCast] at h8
              refine ⟨_, _, dp_il (x8.lst h7), dp_il h8, shaped_il _, shaped_il _, _, rfl, ?_⟩
              have el : ((List.range k0).map fun r => y.2.getD r 0 - x.2.getD r 0) = ((List.range k0).map fun r => y0.2.getD r 0 - x0.2.getD r 0) := by
                refine List.map_congr_left fun r _ => ?_
                have q1 := hgr rfl r
                have q2 := hgr0 rfl r
                omega
              rw [eqv_lst, eqvAll_ints, decide_eq_true el]
              exact iteF ⟨_, _, _, _, rfl, x6.trans (x7.trans x8)⟩
            · exact ⟨_, _, _, _, rfl, x6⟩
          · rintro σ H6 ⟨v12, v13, v14, v15, rfl, x6⟩
            exact ⟨_, _, _, _, _, _, _, _, _, _, _, _, _, _, _, rfl, x5.trans x6⟩
      | s0 + 2, hs0 => exact absurd hs0 (by show ¬ s0 + 2 < 2; omega)
    · rintro σ H0 ⟨v1, v2, v3, v4, v5, v6, v7, v8, v9, v10, v11, v12, v13, v14, v15, rfl, x0⟩
      exact kont H0 x0

end
end K75

set_option maxHeartbeats 8000000
/-! the end: the head's facts, the promises by names -/
namespace K75
open PySem PySem.Spec PyProof.Rows L2
theorem code_of {K : PySem.W.Frag} {x qual : Str} {st : Stmt} {p : Str × Option Str} {fd : FuncData} (F : FD K x qual st (He.fAd K p) fd) : fd.code = .ref (He.codeOf K p) := by
  obtain ⟨oc, od, dV, kV, doc, pm, an, cdv, ct, osl, e, lk, hcd, _, _⟩ := F.ex
  obtain ⟨c, ec⟩ := He.codeIn_ref hcd
  have e2 : fd.code = .ref c := by rw [e]; exact ec
  rw [He.codeOf_eq lk e2, e2]
section
variable {P : Program} {w w' : World} {K : PySem.W.Frag} {mg : Str → Option Value} {base h : Heap}
theorem txt_of (X : K.In h) (G : h.Ns mainGlobals mg) (c : He.SaysX hfa hfn [] htf hex w' h K) : Txt K mg (He.ga K "Registers") (He.ga K "Turing") (He.ga K "Track") := by
  have gi : ∀ {x : Str} {i : Int}, (He.Fa.int x i).ok K = true → Gv mg x (.int i) := fun q => let ⟨t, e⟩ := He.int_ok X G q; ⟨_, e, t, rfl⟩
  have gs : ∀ {x z : Str}, (He.Fa.str x z).ok K = true → Gv mg x (.str z) := fun q => let ⟨t, e⟩ := He.str_ok X G q; ⟨_, e, t, rfl⟩
  have m := c.more
  unfold hex at m
  obtain ⟨m1, m2⟩ := He.ba m
  obtain ⟨m11, m12⟩ := He.ba m1
  obtain ⟨m3, m4⟩ := He.ba m2
  obtain ⟨mR, mT⟩ := He.ba m3
  unfold insB at mR mT
  obtain ⟨mR1, mR2⟩ := He.ba mR
  obtain ⟨mT1, mT2⟩ := He.ba mT
  obtain ⟨m5, m6⟩ := He.ba m4
  obtain ⟨k1, k2⟩ := He.ba m5
  obtain ⟨k3, k4⟩ := He.ba m6
  refine {
    len := He.free_ok X G (c.t.d.fact 55 (f := .free "len") rfl),
    rng := He.free_ok X G (c.t.d.fact 56 (f := .free "range") rfl),
    tup := He.free_ok X G (c.t.d.fact 57 (f := .free "tuple") rfl),
    lst := He.free_ok X G (c.t.d.fact 58 (f := .free "list") rfl),
    srt := He.free_ok X G (c.t.d.fact 59 (f := .free "sorted") rfl),
    isi := He.free_ok X G (c.t.d.fact 60 (f := .free "isinstance") rfl),
    any := He.free_ok X G (c.t.d.fact 61 (f := .free "any") rfl),
    all := He.free_ok X G (c.t.d.fact 62 (f := .free "all") rfl),
    zip := He.free_ok X G (c.t.d.fact 63 (f := .free "zip") rfl),
    max := He.free_ok X G (c.t.d.fact 64 (f := .free "max") rfl),
    min := He.free_ok X G (c.t.d.fact 65 (f := .free "min") rfl),
    abs := He.free_ok X G (c.t.d.fact 66 (f := .free "abs") rfl),
    int := He.free_ok X G (c.t.d.fact 67 (f := .free "int") rfl),
    mReg := gi (c.t.d.fact 46 (f := .int "MOST_REGISTERS" 2000) rfl),
    mIns := gi (c.t.d.fact 47 (f := .int "MOST_INSTRUCTIONS" 100000) rfl),
    blank := gi (c.t.d.fact 48 (f := .int "BLANK" 0) rfl),
    mSta := gi (c.t.d.fact 49 (f := .int "MOST_STATES" 20000) rfl),
    mSym := gi (c.t.d.fact 50 (f := .int "MOST_SYMBOLS" 400) rfl),
    mSou := gi (c.t.d.fact 51 (f := .int "MOST_SOUGHT" 300) rfl),
    rep := gs (c.t.d.fact 52 (f := .str "REPEAT" "repeat") rfl),
    gro := gs (c.t.d.fact 53 (f := .str "GROWTH" "growth") rfl),
    shi := gs (c.t.d.fact 54 (f := .str "SHIFT" "shift") rfl),
    gR := (He.glo_ok X G (c.t.d.fact 22 (f := .glo "Registers") rfl)),
    cR := He.cls_ok (c.t.d.fact 23 (f := .cls "Registers") rfl),
    gT := (He.glo_ok X G (c.t.d.fact 25 (f := .glo "Turing") rfl)),
    cT := He.cls_ok (c.t.d.fact 26 (f := .cls "Turing") rfl),
    gK := (He.glo_ok X G (c.t.d.fact 28 (f := .glo "Track") rfl)),
    cK := He.cls_ok (c.t.d.fact 29 (f := .cls "Track") rfl),
    rCount := He.noat_ok (c.t.d.fact 31 (f := .noat "Registers" "count") rfl),
    rIns := He.noat_ok (c.t.d.fact 32 (f := .noat "Registers" "instructions") rfl),
    tStates := He.noat_ok (c.t.d.fact 33 (f := .noat "Turing" "states") rfl),
    tSymbols := He.noat_ok (c.t.d.fact 34 (f := .noat "Turing" "symbols") rfl),
    tTable := He.noat_ok (c.t.d.fact 35 (f := .noat "Turing" "table") rfl),
    tRules := He.noat_ok (c.t.d.fact 36 (f := .noat "Turing" "rules") rfl),
    kMachine := He.noat_ok (c.t.d.fact 37 (f := .noat "Track" "machine") rfl),
    kRun := He.noat_ok (c.t.d.fact 38 (f := .noat "Track" "run") rfl),
    kHeads := He.noat_ok (c.t.d.fact 39 (f := .noat "Track" "heads") rfl),
    insR := ⟨He.eqO_ok mR1, of_decide_eq_true mR2⟩,
    insT := ⟨He.eqO_ok mT1, of_decide_eq_true mT2⟩,
    insG := ⟨He.eqO_ok m11, of_decide_eq_true m12⟩,
    kRR := of_decide_eq_true k1,
    kTR := of_decide_eq_true k2,
    kRT := of_decide_eq_true k3,
    kTT := of_decide_eq_true k4 }
theorem law_all (X : K.In h) (G : h.Ns mainGlobals mg) (c : He.SaysX hfa hfn [] htf hex w' h K) : ∃ fd : FuncData, (∀ (s : Shared) (v : Value), BindsTo s fd ⟨[v], []⟩ [("_law_script", v)]) ∧
    ∀ base : Heap, (∀ p ∈ htf.map (He.cT K), LamX.TabB base mg p.1 p.2) → FnOk P w K mg base CX0 7 (He.ga K "law") fd ["_law_script"] (spLaw K (He.cT K ("Registers", some "__init__")).2 (He.cT K ("Track", some "grows")).2) := by
  have T := txt_of X G c
  obtain ⟨fd_CheckCount, F_CheckCount⟩ : ∃ fd, FD K "check_count" "check_count" sCheckCount (He.fAd K ("check_count", none)) fd := c.t.d.def_ 0 (d := d_CheckCount) rfl
  have b_CheckCount : Binds K fd_CheckCount ["count"] [] := F_CheckCount.bindsN fun _ _ _ _ _ _ us hl => match us, hl with | [_], _ => rfl
  have g_CheckCount : mg "check_count" = some (.ref (He.fAd K ("check_count", none))) := (He.glo_ok X G (c.t.d.fact 0 (f := .glo "check_count") rfl))
  obtain ⟨fd_History, F_History⟩ : ∃ fd, FD K "history" "history" sHistory (He.fAd K ("history", none)) fd := c.t.d.def_ 1 (d := d_History) rfl
  have b_History : Binds K fd_History ["machine", "configuration", "count"] [] := F_History.bindsN fun _ _ _ _ _ _ us hl => match us, hl with | [_, _, _], _ => rfl
  have g_History : mg "history" = some (.ref (He.fAd K ("history", none))) := (He.glo_ok X G (c.t.d.fact 1 (f := .glo "history") rfl))
  obtain ⟨fd_RInit, F_RInit⟩ : ∃ fd, FD K "__init__" "Registers.__init__" sRInit (He.fAd K ("Registers", some "__init__")) fd := c.t.d.def_ 2 (d := d_RInit) rfl
  have b_RInit : Binds K fd_RInit ["self", "count", "instructions"] [] := F_RInit.bindsN fun _ _ _ _ _ _ us hl => match us, hl with | [_, _, _], _ => rfl
  have m_RInit : Mk K (He.ga K "Registers") (He.fAd K ("Registers", some "__init__")) := He.mkr_ok (c.t.d.fact 24 (f := .mkr "Registers") rfl)
  obtain ⟨fd_RStep, F_RStep⟩ : ∃ fd, FD K "step" "Registers.step" sRStep (He.fAd K ("Registers", some "step")) fd := c.t.d.def_ 3 (d := d_RStep) rfl
  have b_RStep : Binds K fd_RStep ["self", "configuration"] [] := F_RStep.bindsN fun _ _ _ _ _ _ us hl => match us, hl with | [_, _], _ => rfl
  have m_RStep : Meth K (He.ga K "Registers") "step" (He.fAd K ("Registers", some "step")) := He.meth_ok (c.t.d.fact 40 (f := .meth "Registers" "step") rfl)
  obtain ⟨fd_TInit, F_TInit⟩ : ∃ fd, FD K "__init__" "Turing.__init__" sTInit (He.fAd K ("Turing", some "__init__")) fd := c.t.d.def_ 4 (d := d_TInit) rfl
  have b_TInit : Binds K fd_TInit ["self", "states", "symbols", "rules"] [] := F_TInit.bindsN fun _ _ _ _ _ _ us hl => match us, hl with | [_, _, _, _], _ => rfl
  have m_TInit : Mk K (He.ga K "Turing") (He.fAd K ("Turing", some "__init__")) := He.mkr_ok (c.t.d.fact 27 (f := .mkr "Turing") rfl)
  obtain ⟨fd_TRule, F_TRule⟩ : ∃ fd, FD K "rule" "Turing.rule" sTRule (He.fAd K ("Turing", some "rule")) fd := c.t.d.def_ 5 (d := d_TRule) rfl
  have b_TRule : Binds K fd_TRule ["self", "state", "symbol"] [] := F_TRule.bindsN fun _ _ _ _ _ _ us hl => match us, hl with | [_, _, _], _ => rfl
  have m_TRule : Meth K (He.ga K "Turing") "rule" (He.fAd K ("Turing", some "rule")) := He.meth_ok (c.t.d.fact 41 (f := .meth "Turing" "rule") rfl)
  obtain ⟨fd_TStep, F_TStep⟩ : ∃ fd, FD K "step" "Turing.step" sTStep (He.fAd K ("Turing", some "step")) fd := c.t.d.def_ 6 (d := d_TStep) rfl
  have b_TStep : Binds K fd_TStep ["self", "configuration"] [] := F_TStep.bindsN fun _ _ _ _ _ _ us hl => match us, hl with | [_, _], _ => rfl
  have m_TStep : Meth K (He.ga K "Turing") "step" (He.fAd K ("Turing", some "step")) := He.meth_ok (c.t.d.fact 42 (f := .meth "Turing" "step") rfl)
  obtain ⟨fd_Moved, F_Moved⟩ : ∃ fd, FD K "moved" "moved" sMoved (He.fAd K ("moved", none)) fd := c.t.d.def_ 7 (d := d_Moved) rfl
  have b_Moved : Binds K fd_Moved ["behind", "written", "ahead"] [] := F_Moved.bindsN fun _ _ _ _ _ _ us hl => match us, hl with | [_, _, _], _ => rfl
  have g_Moved : mg "moved" = some (.ref (He.fAd K ("moved", none))) := (He.glo_ok X G (c.t.d.fact 2 (f := .glo "moved") rfl))
  obtain ⟨fd_Kinds, F_Kinds⟩ : ∃ fd, FD K "kinds_of" "kinds_of" sKinds (He.fAd K ("kinds_of", none)) fd := c.t.d.def_ 8 (d := d_Kinds) rfl
  have b_Kinds : Binds K fd_Kinds ["machine"] [] := F_Kinds.bindsN fun _ _ _ _ _ _ us hl => match us, hl with | [_], _ => rfl
  have g_Kinds : mg "kinds_of" = some (.ref (He.fAd K ("kinds_of", none))) := (He.glo_ok X G (c.t.d.fact 3 (f := .glo "kinds_of") rfl))
  obtain ⟨fd_KInit, F_KInit⟩ : ∃ fd, FD K "__init__" "Track.__init__" sKInit (He.fAd K ("Track", some "__init__")) fd := c.t.d.def_ 9 (d := d_KInit) rfl
  have b_KInit : Binds K fd_KInit ["self", "machine", "configuration", "count"] [] := F_KInit.bindsN fun _ _ _ _ _ _ us hl => match us, hl with | [_, _, _, _], _ => rfl
  have m_KInit : Mk K (He.ga K "Track") (He.fAd K ("Track", some "__init__")) := He.mkr_ok (c.t.d.fact 30 (f := .mkr "Track") rfl)
  obtain ⟨fd_KRight, F_KRight⟩ : ∃ fd, FD K "is_right" "Track.is_right" sKRight (He.fAd K ("Track", some "is_right")) fd := c.t.d.def_ 10 (d := d_KRight) rfl
  have b_KRight : Binds K fd_KRight ["self", "kind", "first", "second"] [] := F_KRight.bindsN fun _ _ _ _ _ _ us hl => match us, hl with | [_, _, _, _], _ => rfl
  have m_KRight : Meth K (He.ga K "Track") "is_right" (He.fAd K ("Track", some "is_right")) := He.meth_ok (c.t.d.fact 43 (f := .meth "Track" "is_right") rfl)
  obtain ⟨fd_KGrows, F_KGrows⟩ : ∃ fd, FD K "grows" "Track.grows" sKGrows (He.fAd K ("Track", some "grows")) fd := c.t.d.def_ 11 (d := d_KGrows) rfl
  have b_KGrows : Binds K fd_KGrows ["self", "first", "second"] [] := F_KGrows.bindsN fun _ _ _ _ _ _ us hl => match us, hl with | [_, _, _], _ => rfl
  have m_KGrows : Meth K (He.ga K "Track") "grows" (He.fAd K ("Track", some "grows")) := He.meth_ok (c.t.d.fact 44 (f := .meth "Track" "grows") rfl)
  obtain ⟨fd_KShifts, F_KShifts⟩ : ∃ fd, FD K "shifts" "Track.shifts" sKShifts (He.fAd K ("Track", some "shifts")) fd := c.t.d.def_ 12 (d := d_KShifts) rfl
  have b_KShifts : Binds K fd_KShifts ["self", "first", "second"] [] := F_KShifts.bindsN fun _ _ _ _ _ _ us hl => match us, hl with | [_, _, _], _ => rfl
  have m_KShifts : Meth K (He.ga K "Track") "shifts" (He.fAd K ("Track", some "shifts")) := He.meth_ok (c.t.d.fact 45 (f := .meth "Track" "shifts") rfl)
  obtain ⟨fd_Agree, F_Agree⟩ : ∃ fd, FD K "agree" "agree" sAgree (He.fAd K ("agree", none)) fd := c.t.d.def_ 13 (d := d_Agree) rfl
  have b_Agree : Binds K fd_Agree ["first", "second", "count"] [] := F_Agree.bindsN fun _ _ _ _ _ _ us hl => match us, hl with | [_, _, _], _ => rfl
  have g_Agree : mg "agree" = some (.ref (He.fAd K ("agree", none))) := (He.glo_ok X G (c.t.d.fact 4 (f := .glo "agree") rfl))
  obtain ⟨fd_Padded, F_Padded⟩ : ∃ fd, FD K "padded" "padded" sPadded (He.fAd K ("padded", none)) fd := c.t.d.def_ 14 (d := d_Padded) rfl
  have b_Padded : Binds K fd_Padded ["side", "count"] [] := F_Padded.bindsN fun _ _ _ _ _ _ us hl => match us, hl with | [_, _], _ => rfl
  have g_Padded : mg "padded" = some (.ref (He.fAd K ("padded", none))) := (He.glo_ok X G (c.t.d.fact 5 (f := .glo "padded") rfl))
  obtain ⟨fd_Sought, F_Sought⟩ : ∃ fd, FD K "check_sought" "check_sought" sSought (He.fAd K ("check_sought", none)) fd := c.t.d.def_ 15 (d := d_Sought) rfl
  have b_Sought : Binds K fd_Sought ["limit"] [] := F_Sought.bindsN fun _ _ _ _ _ _ us hl => match us, hl with | [_], _ => rfl
  have g_Sought : mg "check_sought" = some (.ref (He.fAd K ("check_sought", none))) := (He.glo_ok X G (c.t.d.fact 6 (f := .glo "check_sought") rfl))
  obtain ⟨fd_First, F_First⟩ : ∃ fd, FD K "first_paper" "first_paper" sFirst (He.fAd K ("first_paper", none)) fd := c.t.d.def_ 16 (d := d_First) rfl
  have b_First : Binds K fd_First ["track"] [] := F_First.bindsN fun _ _ _ _ _ _ us hl => match us, hl with | [_], _ => rfl
  have g_First : mg "first_paper" = some (.ref (He.fAd K ("first_paper", none))) := (He.glo_ok X G (c.t.d.fact 7 (f := .glo "first_paper") rfl))
  obtain ⟨fd_Find, F_Find⟩ : ∃ fd, FD K "find_paper" "find_paper" sFind (He.fAd K ("find_paper", none)) fd := c.t.d.def_ 17 (d := d_Find) rfl
  have b_Find : Binds K fd_Find ["machine", "configuration", "limit"] [] := F_Find.bindsN fun _ _ _ _ _ _ us hl => match us, hl with | [_, _, _], _ => rfl
  have g_Find : mg "find_paper" = some (.ref (He.fAd K ("find_paper", none))) := (He.glo_ok X G (c.t.d.fact 8 (f := .glo "find_paper") rfl))
  obtain ⟨fd_Cell, F_Cell⟩ : ∃ fd, FD K "_law_cell" "_law_cell" sCell (He.fAd K ("_law_cell", none)) fd := c.t.d.def_ 18 (d := d_Cell) rfl
  have b_Cell : Binds K fd_Cell ["_law_script", "_law_k"] [] := F_Cell.bindsN fun _ _ _ _ _ _ us hl => match us, hl with | [_, _], _ => rfl
  have g_Cell : mg "_law_cell" = some (.ref (He.fAd K ("_law_cell", none))) := (He.glo_ok X G (c.t.d.fact 9 (f := .glo "_law_cell") rfl))
  obtain ⟨fd_Draws, F_Draws⟩ : ∃ fd, FD K "_law_draws" "_law_draws" sDraws (He.fAd K ("_law_draws", none)) fd := c.t.d.def_ 19 (d := d_Draws) rfl
  have b_Draws : Binds K fd_Draws ["_law_cell_here", "_law_count"] [] := F_Draws.bindsN fun _ _ _ _ _ _ us hl => match us, hl with | [_, _], _ => rfl
  have g_Draws : mg "_law_draws" = some (.ref (He.fAd K ("_law_draws", none))) := (He.glo_ok X G (c.t.d.fact 10 (f := .glo "_law_draws") rfl))
  obtain ⟨fd_Strip, F_Strip⟩ : ∃ fd, FD K "_law_strip" "_law_strip" sStrip (He.fAd K ("_law_strip", none)) fd := c.t.d.def_ 20 (d := d_Strip) rfl
  have b_Strip : Binds K fd_Strip ["_law_symbols"] [] := F_Strip.bindsN fun _ _ _ _ _ _ us hl => match us, hl with | [_], _ => rfl
  have g_Strip : mg "_law_strip" = some (.ref (He.fAd K ("_law_strip", none))) := (He.glo_ok X G (c.t.d.fact 11 (f := .glo "_law_strip") rfl))
  obtain ⟨fd_Rules, F_Rules⟩ : ∃ fd, FD K "_law_rules" "_law_rules" sRules (He.fAd K ("_law_rules", none)) fd := c.t.d.def_ 21 (d := d_Rules) rfl
  have b_Rules : Binds K fd_Rules ["_law_draws_here", "_law_states", "_law_symbols"] [] := F_Rules.bindsN fun _ _ _ _ _ _ us hl => match us, hl with | [_, _, _], _ => rfl
  have g_Rules : mg "_law_rules" = some (.ref (He.fAd K ("_law_rules", none))) := (He.glo_ok X G (c.t.d.fact 12 (f := .glo "_law_rules") rfl))
  obtain ⟨fd_Tape, F_Tape⟩ : ∃ fd, FD K "_law_tape" "_law_tape" sTape (He.fAd K ("_law_tape", none)) fd := c.t.d.def_ 22 (d := d_Tape) rfl
  have b_Tape : Binds K fd_Tape ["_law_draws_here", "_law_states", "_law_symbols", "_law_most"] [] := F_Tape.bindsN fun _ _ _ _ _ _ us hl => match us, hl with | [_, _, _, _], _ => rfl
  have g_Tape : mg "_law_tape" = some (.ref (He.fAd K ("_law_tape", none))) := (He.glo_ok X G (c.t.d.fact 13 (f := .glo "_law_tape") rfl))
  obtain ⟨fd_LStep, F_LStep⟩ : ∃ fd, FD K "_law_turing_step" "_law_turing_step" sLStep (He.fAd K ("_law_turing_step", none)) fd := c.t.d.def_ 23 (d := d_LStep) rfl
  have b_LStep : Binds K fd_LStep ["_law_table_here", "_law_here"] [] := F_LStep.bindsN fun _ _ _ _ _ _ us hl => match us, hl with | [_, _], _ => rfl
  have g_LStep : mg "_law_turing_step" = some (.ref (He.fAd K ("_law_turing_step", none))) := (He.glo_ok X G (c.t.d.fact 14 (f := .glo "_law_turing_step") rfl))
  obtain ⟨fd_Table, F_Table⟩ : ∃ fd, FD K "_law_table" "_law_table" sTable (He.fAd K ("_law_table", none)) fd := c.t.d.def_ 24 (d := d_Table) rfl
  have b_Table : Binds K fd_Table ["_law_rules_here"] [] := F_Table.bindsN fun _ _ _ _ _ _ us hl => match us, hl with | [_], _ => rfl
  have g_Table : mg "_law_table" = some (.ref (He.fAd K ("_law_table", none))) := (He.glo_ok X G (c.t.d.fact 15 (f := .glo "_law_table") rfl))
  obtain ⟨fd_Instr, F_Instr⟩ : ∃ fd, FD K "_law_instructions" "_law_instructions" sInstr (He.fAd K ("_law_instructions", none)) fd := c.t.d.def_ 25 (d := d_Instr) rfl
  have b_Instr : Binds K fd_Instr ["_law_draws_here", "_law_cells", "_law_count"] [] := F_Instr.bindsN fun _ _ _ _ _ _ us hl => match us, hl with | [_, _, _], _ => rfl
  have g_Instr : mg "_law_instructions" = some (.ref (He.fAd K ("_law_instructions", none))) := (He.glo_ok X G (c.t.d.fact 16 (f := .glo "_law_instructions") rfl))
  obtain ⟨fd_LRStep, F_LRStep⟩ : ∃ fd, FD K "_law_registers_step" "_law_registers_step" sLRStep (He.fAd K ("_law_registers_step", none)) fd := c.t.d.def_ 26 (d := d_LRStep) rfl
  have b_LRStep : Binds K fd_LRStep ["_law_instructions_here", "_law_here"] [] := F_LRStep.bindsN fun _ _ _ _ _ _ us hl => match us, hl with | [_, _], _ => rfl
  have g_LRStep : mg "_law_registers_step" = some (.ref (He.fAd K ("_law_registers_step", none))) := (He.glo_ok X G (c.t.d.fact 17 (f := .glo "_law_registers_step") rfl))
  obtain ⟨fd_Drawn, F_Drawn⟩ : ∃ fd, FD K "_law_drawn_machine" "_law_drawn_machine" sDrawn (He.fAd K ("_law_drawn_machine", none)) fd := c.t.d.def_ 27 (d := d_Drawn) rfl
  have b_Drawn : Binds K fd_Drawn ["_law_cell_here", "_law_sort"] [] := F_Drawn.bindsN fun _ _ _ _ _ _ us hl => match us, hl with | [_, _], _ => rfl
  have g_Drawn : mg "_law_drawn_machine" = some (.ref (He.fAd K ("_law_drawn_machine", none))) := (He.glo_ok X G (c.t.d.fact 18 (f := .glo "_law_drawn_machine") rfl))
  obtain ⟨fd_Own, F_Own⟩ : ∃ fd, FD K "_law_own_run" "_law_own_run" sOwn (He.fAd K ("_law_own_run", none)) fd := c.t.d.def_ 28 (d := d_Own) rfl
  have b_Own : Binds K fd_Own ["_law_sort", "_law_made", "_law_begin", "_law_most"] [] := F_Own.bindsN fun _ _ _ _ _ _ us hl => match us, hl with | [_, _, _, _], _ => rfl
  have g_Own : mg "_law_own_run" = some (.ref (He.fAd K ("_law_own_run", none))) := (He.glo_ok X G (c.t.d.fact 19 (f := .glo "_law_own_run") rfl))
  obtain ⟨fd_Places, F_Places⟩ : ∃ fd, FD K "_law_places" "_law_places" sPlaces (He.fAd K ("_law_places", none)) fd := c.t.d.def_ 29 (d := d_Places) rfl
  have b_Places : Binds K fd_Places ["_law_made", "_law_run"] [] := F_Places.bindsN fun _ _ _ _ _ _ us hl => match us, hl with | [_, _], _ => rfl
  have g_Places : mg "_law_places" = some (.ref (He.fAd K ("_law_places", none))) := (He.glo_ok X G (c.t.d.fact 20 (f := .glo "_law_places") rfl))
  obtain ⟨fd_Law, F_Law⟩ : ∃ fd, FD K "law" "law" sLaw (He.fAd K ("law", none)) fd := c.t.d.def_ 30 (d := d_Law) rfl
  have b_Law : Binds K fd_Law ["_law_script"] [] := F_Law.bindsN fun _ _ _ _ _ _ us hl => match us, hl with | [_], _ => rfl
  have g_Law : mg "law" = some (.ref (He.fAd K ("law", none))) := (He.glo_ok X G (c.t.d.fact 21 (f := .glo "law") rfl))
  refine ⟨fd_Law, fun s v => FunD.bindsA (ps := ["_law_script"]) F_Law (fun _ _ _ _ _ _ us hl => match us, hl with | [_], _ => rfl) s [v] rfl, fun base hTB => ?_⟩
  have tb1 := hTB (He.cT K ("Registers", some "__init__")) (List.mem_map_of_mem (by simp [htf]))
  have tb2 := hTB (He.cT K ("Track", some "grows")) (List.mem_map_of_mem (by simp [htf]))
  have TB1 : GxR.TabB base mg (He.cT K ("Registers", some "__init__")).1 (He.cT K ("Registers", some "__init__")).2 := ⟨tb1.code, tb1.bm, tb1.gP⟩
  have TB2 : GxR.TabB base mg (He.cT K ("Track", some "grows")).1 (He.cT K ("Track", some "grows")).2 := ⟨tb2.code, tb2.bm, tb2.gP⟩
  have hc1 : fd_RInit.code = .ref (He.cT K ("Registers", some "__init__")).1 := code_of F_RInit
  have hc2 : fd_KGrows.code = .ref (He.cT K ("Track", some "grows")).1 := code_of F_KGrows
  have z_CheckCount : Cal P w K mg base "check_count" 1 ["count"] spCount := ⟨_, fd_CheckCount, g_CheckCount, F_CheckCount.kp, b_CheckCount, ok_count F_CheckCount⟩
  have z_Moved : Cal P w K mg base "moved" 1 ["behind", "written", "ahead"] spMoved := ⟨_, fd_Moved, g_Moved, F_Moved.kp, b_Moved, ok_moved F_Moved T⟩
  have z_Kinds : Cal P w K mg base "kinds_of" 1 ["machine"] (spKinds (He.ga K "Registers") (He.ga K "Turing")) := ⟨_, fd_Kinds, g_Kinds, F_Kinds.kp, b_Kinds, ok_kinds F_Kinds T⟩
  have z_Padded : Cal P w K mg base "padded" 1 ["side", "count"] spPadded := ⟨_, fd_Padded, g_Padded, F_Padded.kp, b_Padded, ok_padded F_Padded T⟩
  have z_Agree : Cal P w K mg base "agree" 2 ["first", "second", "count"] spAgree := ⟨_, fd_Agree, g_Agree, F_Agree.kp, b_Agree, ok_agree F_Agree T z_Padded⟩
  have z_Sought : Cal P w K mg base "check_sought" 1 ["limit"] spSought := ⟨_, fd_Sought, g_Sought, F_Sought.kp, b_Sought, ok_sought F_Sought T⟩
  have z_Cell : Cal P w K mg base "_law_cell" 1 ["_law_script", "_law_k"] (spCell K) := ⟨_, fd_Cell, g_Cell, F_Cell.kp, b_Cell, ok_cell F_Cell T⟩
  have z_Draws : Cal P w K mg base "_law_draws" 1 ["_law_cell_here", "_law_count"] spDraws := ⟨_, fd_Draws, g_Draws, F_Draws.kp, b_Draws, ok_draws F_Draws T⟩
  have z_StripL : Cal P w K mg base "_law_strip" 1 ["_law_symbols"] spStripL := ⟨_, fd_Strip, g_Strip, F_Strip.kp, b_Strip, ok_stripL F_Strip T⟩
  have z_StripT : Cal P w K mg base "_law_strip" 1 ["_law_symbols"] spStripT := ⟨_, fd_Strip, g_Strip, F_Strip.kp, b_Strip, ok_stripT F_Strip T⟩
  have z_Rules : Cal P w K mg base "_law_rules" 1 ["_law_draws_here", "_law_states", "_law_symbols"] spRules := ⟨_, fd_Rules, g_Rules, F_Rules.kp, b_Rules, ok_rules F_Rules T⟩
  have z_Tape : Cal P w K mg base "_law_tape" 2 ["_law_draws_here", "_law_states", "_law_symbols", "_law_most"] spTape := ⟨_, fd_Tape, g_Tape, F_Tape.kp, b_Tape, ok_tape F_Tape T z_StripL⟩
  have z_Table : Cal P w K mg base "_law_table" 1 ["_law_rules_here"] spTable := ⟨_, fd_Table, g_Table, F_Table.kp, b_Table, ok_table F_Table T⟩
  have z_Instr : Cal P w K mg base "_law_instructions" 1 ["_law_draws_here", "_law_cells", "_law_count"] spInstr := ⟨_, fd_Instr, g_Instr, F_Instr.kp, b_Instr, ok_instr F_Instr T⟩
  have z_TRule : CalM P w K mg base (He.ga K "Turing") "rule" 1 ["self", "state", "symbol"] (spRule (He.ga K "Turing")) := ⟨_, fd_TRule, m_TRule, b_TRule, ok_rule F_TRule T⟩
  have G_TInit := ok_tinit (P := P) (w := w) (base := base) F_TInit T
  have G_RInit := ok_rinit (P := P) (w := w) F_RInit T TB1 hc1
  have z_Drawn : Cal P w K mg base "_law_drawn_machine" 3 ["_law_cell_here", "_law_sort"] (spDrawn (He.ga K "Registers") (He.ga K "Turing") (He.cT K ("Registers", some "__init__")).2) := ⟨_, fd_Drawn, g_Drawn, F_Drawn.kp, b_Drawn, ok_drawn F_Drawn T z_Draws z_Rules z_Tape z_Instr m_TInit b_TInit G_TInit m_RInit b_RInit G_RInit⟩
  have z_Places : Cal P w K mg base "_law_places" 2 ["_law_made", "_law_run"] spPlaces := ⟨_, fd_Places, g_Places, F_Places.kp, b_Places, ok_places F_Places T z_Table⟩
  have ownT : ∀ rs : List Rl, FnOk P w K mg base CX0 3 _ fd_Own ["_law_sort", "_law_made", "_law_begin", "_law_most"] (spOwnT rs) := fun rs => by
    have z_LStep : Cal P w K mg base "_law_turing_step" 2 ["_law_table_here", "_law_here"] (spStep (LTab (tabOf rs)) TCf LPre (lstep (tabOf rs))) := ⟨_, fd_LStep, g_LStep, F_LStep.kp, b_LStep, ok_lstep F_LStep T z_StripT⟩
    have z_LRStep : Cal P w K mg base "_law_registers_step" 2 ["_law_instructions_here", "_law_here"] (fun _ _ _ _ => False) := ⟨_, fd_LRStep, g_LRStep, F_LRStep.kp, b_LRStep, fnOk_never⟩
    exact ok_ownT (sp3 := fun _ _ _ _ => False) F_Own T z_Table z_LStep z_LRStep
  have ownR : ∀ q : Nat × List Ins, FnOk P w K mg base CX0 3 _ fd_Own ["_law_sort", "_law_made", "_law_begin", "_law_most"] (spOwnR q.1 q.2) := fun q => by
    have z_LStep : Cal P w K mg base "_law_turing_step" 2 ["_law_table_here", "_law_here"] (fun _ _ _ _ => False) := ⟨_, fd_LStep, g_LStep, F_LStep.kp, b_LStep, fnOk_never⟩
    have z_LRStep : Cal P w K mg base "_law_registers_step" 2 ["_law_instructions_here", "_law_here"] (spStep (LIns q.2) RCf (RPre q.1 q.2) (rstep q.2)) := ⟨_, fd_LRStep, g_LRStep, F_LRStep.kp, b_LRStep, ok_lrstep F_LRStep T⟩
    exact ok_ownR (sp1 := spTable) (sp2 := fun _ _ _ _ => False) F_Own T z_Table z_LStep z_LRStep
  have z_Own : Cal P w K mg base "_law_own_run" 3 ["_law_sort", "_law_made", "_law_begin", "_law_most"] spOwnA := ⟨_, fd_Own, g_Own, F_Own.kp, b_Own, fnOk_or (fnOk_ex ownT) (fnOk_ex ownR)⟩
  have findT : ∀ tab : Tab, FnOk P w K mg base CX0 6 _ fd_Find ["machine", "configuration", "limit"] (spFindT (He.ga K "Turing") tab) := fun tab => by
    have z_TStep : CalM P w K mg base (He.ga K "Turing") "step" 2 ["self", "configuration"] (spStep (fun H m => TMach (He.ga K "Turing") H m tab) TCf (TPre tab) (tstep tab)) := ⟨_, fd_TStep, m_TStep, b_TStep, ok_tstep F_TStep T z_Moved⟩
    have kd : Kd P w K mg base (He.ga K "Turing") (fun H m => TMach (He.ga K "Turing") H m tab) TCf (TPre tab) (tstep tab) := ⟨T.cT, z_TStep, fun H m hm => (let ⟨dx, fs, d, kvs, h1, _, _, h4, _⟩ := hm.ex; ⟨dx, fs, h1, h4⟩), fun _ _ _ e hm => hm.mono e, fun _ _ _ _ e hc => e.tcf hc⟩
    have z_History : Cal P w K mg base "history" 3 ["machine", "configuration", "count"] (spHist (fun H m => TMach (He.ga K "Turing") H m tab) TCf (TPre tab) (tstep tab)) := ⟨_, fd_History, g_History, F_History.kp, b_History, ok_history F_History T z_CheckCount kd⟩
    have z_KShifts : CalM P w K mg base (He.ga K "Track") "shifts" 3 ["self", "first", "second"] (spShifts (He.ga K "Track") tab) := ⟨_, fd_KShifts, m_KShifts, b_KShifts, ok_shifts F_KShifts T z_Agree⟩
    have z_KGrows : CalM P w K mg base (He.ga K "Track") "grows" 1 ["self", "first", "second"] (fun _ _ _ _ => False) := ⟨_, fd_KGrows, m_KGrows, b_KGrows, fnOk_never⟩
    have z_KRight : CalM P w K mg base (He.ga K "Track") "is_right" 4 ["self", "kind", "first", "second"] (spRight (He.ga K "Track") TCf (fun _ _ _ _ => False) (spShifts (He.ga K "Track") tab)) := ⟨_, fd_KRight, m_KRight, b_KRight, ok_right F_KRight T datT z_KGrows z_KShifts⟩
    have z_First : Cal P w K mg base "first_paper" 5 ["track"] (spFirst (He.ga K "Registers") (He.ga K "Turing") (He.ga K "Track") (spRight (He.ga K "Track") TCf (fun _ _ _ _ => False) (spShifts (He.ga K "Track") tab))) := ⟨_, fd_First, g_First, F_First.kp, b_First, ok_first F_First T z_Kinds z_KRight⟩
    have G_KI := ok_kinitT F_KInit T z_History z_TRule
    exact (ok_find F_Find T z_Sought m_KInit b_KInit G_KI z_First).imp fun vs H Q E q => imp_T T q
  have findR : ∀ q : Nat × List Ins, FnOk P w K mg base CX0 6 _ fd_Find ["machine", "configuration", "limit"] (spFindR (He.ga K "Registers") (He.cT K ("Track", some "grows")).2 q.1 q.2) := fun q => by
    have z_RStep : CalM P w K mg base (He.ga K "Registers") "step" 2 ["self", "configuration"] (spStep (fun H m => RMach (He.ga K "Registers") H m q.2) RCf (RPre q.1 q.2) (rstep q.2)) := ⟨_, fd_RStep, m_RStep, b_RStep, ok_rstep F_RStep T⟩
    have kd : Kd P w K mg base (He.ga K "Registers") (fun H m => RMach (He.ga K "Registers") H m q.2) RCf (RPre q.1 q.2) (rstep q.2) := ⟨T.cR, z_RStep, fun H m hm => (let ⟨dx, fs, t, as, h1, _, h3, _⟩ := hm.ex; ⟨dx, fs, h1, h3⟩), fun _ _ _ e hm => hm.mono e, fun _ _ _ _ e hc => e.rcf hc⟩
    have z_History : Cal P w K mg base "history" 3 ["machine", "configuration", "count"] (spHist (fun H m => RMach (He.ga K "Registers") H m q.2) RCf (RPre q.1 q.2) (rstep q.2)) := ⟨_, fd_History, g_History, F_History.kp, b_History, ok_history F_History T z_CheckCount kd⟩
    have z_KShifts : CalM P w K mg base (He.ga K "Track") "shifts" 3 ["self", "first", "second"] (fun _ _ _ _ => False) := ⟨_, fd_KShifts, m_KShifts, b_KShifts, fnOk_never⟩
    have z_KGrows : CalM P w K mg base (He.ga K "Track") "grows" 1 ["self", "first", "second"] (spGrows (He.ga K "Registers") (He.ga K "Track") (He.cT K ("Track", some "grows")).2 q.1 q.2) := ⟨_, fd_KGrows, m_KGrows, b_KGrows, ok_grows F_KGrows T TB2 hc2⟩
    have z_KRight : CalM P w K mg base (He.ga K "Track") "is_right" 4 ["self", "kind", "first", "second"] (spRight (He.ga K "Track") RCf (spGrows (He.ga K "Registers") (He.ga K "Track") (He.cT K ("Track", some "grows")).2 q.1 q.2) (fun _ _ _ _ => False)) := ⟨_, fd_KRight, m_KRight, b_KRight, ok_right F_KRight T datR z_KGrows z_KShifts⟩
    have z_First : Cal P w K mg base "first_paper" 5 ["track"] (spFirst (He.ga K "Registers") (He.ga K "Turing") (He.ga K "Track") (spRight (He.ga K "Track") RCf (spGrows (He.ga K "Registers") (He.ga K "Track") (He.cT K ("Track", some "grows")).2 q.1 q.2) (fun _ _ _ _ => False))) := ⟨_, fd_First, g_First, F_First.kp, b_First, ok_first F_First T z_Kinds z_KRight⟩
    have G_KI := ok_kinitR F_KInit T z_History
    exact (ok_find F_Find T z_Sought m_KInit b_KInit G_KI z_First).imp fun vs H Q E q => imp_R T q
  have z_Find : Cal P w K mg base "find_paper" 6 ["machine", "configuration", "limit"] (spFindA (He.ga K "Registers") (He.ga K "Turing") (He.cT K ("Track", some "grows")).2) := ⟨_, fd_Find, g_Find, F_Find.kp, b_Find, fnOk_or (fnOk_ex findT) (fnOk_ex findR)⟩
  exact ok_law F_Law T z_Cell z_Drawn z_Find z_Own z_Places
end
end K75

set_option maxHeartbeats 0
open PySem PySem.W PySem.Calls PyProof.Rows in
theorem PySem.Challenge.cw_translatory_k75_whole_runs_go_on_after_p_holds : PySem.Challenge.rw_translatory_k75_whole_runs_go_on_after_p.Holds := by
  w_on; o_law
  refine HandSHeadRun.head_any (r := K75.hR) (q := view K75.hR.prog [43]) (H := K75.hk) (ob := K75.hob) (M := 3000) (loose := K75.hloose) (d := HandSHeadRun.topDef K75.hR.prog 43) (kwd := []) K75.hob_eq
    (by kernel_rfl) (fun s => by kernel_rfl) K75.hrun (by kernel_rfl) (by kernel_rfl) (by kernel_rfl) (by rfl) (by first | assumption | decide +kernel) (by decide +kernel) ⟨rfl, rfl, rfl, rfl, rfl, by decide +kernel⟩ ?hw ?hc
  case hw => w_witness2
  case hc =>
    refine LamX.walk_ofTsE (l := PySem.Challenge.rw_translatory_k75_whole_runs_go_on_after_p) (n := 63) (k := 7) (x := "_law_script") (CX := fun _ => L2.CX0) rfl (by decide) (by kernel_rfl) ⟨rfl, by decide, by decide⟩ ?F (fun _ _ _ _ _ z => z)
    intro w mg fa h Y G hmg0
    obtain ⟨K, KX, c⟩ := Y
    have hmg : mg ("law" : PySem.Str) = some (.ref fa) := by
      have e : (HandSHeadRun.topDef K75.hR.prog 43).name = ("law" : PySem.Str) := by kernel_rfl
      rw [← e]
      exact hmg0
    obtain ⟨fd, hb, hF⟩ := K75.law_all (P := (PySem.Challenge.rw_translatory_k75_whole_runs_go_on_after_p).prog) (w := w) KX G c
    have e1 := hmg.symm.trans (He.glo_ok KX G (c.t.d.fact 21 (f := .glo "law") rfl))
    cases e1
    refine ⟨K, KX, fd, K75.htf.map (He.cT K), _, fun p hp => ?_, fun p hp => ?_, fun p hp => ?_, hb, fun H a ns hl _ hH hS => ⟨a, ns, rfl, hS, by omega, ⟨#[], hH _ (List.mem_map_of_mem (by simp [K75.htf])), ?_⟩, ⟨#[], hH _ (List.mem_map_of_mem (by simp [K75.htf])), ?_⟩, fun _ _ => rfl⟩, fun base _ _ hT => hF base hT⟩
    · obtain ⟨q, hq, rfl⟩ := List.mem_map.mp hp
      exact c.empty q hq
    · obtain ⟨q, hq, rfl⟩ := List.mem_map.mp hp
      exact c.out q hq
    · obtain ⟨q, hq, rfl⟩ := List.mem_map.mp hp
      exact PySem.W.codeHd_of_K KX (c.hd q hq)
    · exact trivial
    · exact trivial
