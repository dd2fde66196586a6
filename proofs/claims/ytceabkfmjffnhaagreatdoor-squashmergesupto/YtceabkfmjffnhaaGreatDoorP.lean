/- SquashMerges answers true for every input of bulk at most 1048576, and its input reads as it did; the listed variables start as the program's text lays them (plain laws) -/
import Derived.Test.YtceabkfmjffnhaaGreatDoorE
import Derived.Lib.Bytealg
import Derived.Lib.IndexAny
import Derived.Deep.Slices
import Derived.WideKeyElems2
import Derived.LaidMore
import Derived.LaidHandle
import Derived.ChangeArms
import Derived.Below
import Derived.Carry
/- Plain facts on texts as lists of bytes: splitting at slashes, joining, names and paths. No program in sight. -/
namespace Go.Eng
abbrev Bytes := List UInt8

def begins (s w : Bytes) : Bool := decide (w.length ≤ s.length) && decide (s.take w.length = w)

/-- The parts between slashes; of the empty text one empty part. -/
def splitGo (cur : Bytes) : Bytes → List Bytes
  | [] => [cur]
  | c :: r => if c = 47 then cur :: splitGo [] r else splitGo (cur ++ [c]) r
def split (p : Bytes) : List Bytes := if p = [] then [] else splitGo [] p

def name (s : Bytes) : Bool := s.all (fun c => decide (c ≠ 0) && decide (c ≠ 47)) && decide (1 ≤ s.length) && decide (s.length ≤ 255) && decide (s ≠ [46]) && decide (s ≠ [46, 46])
def white : Bytes := [46, 119, 104, 46]
def opq : Bytes := [46, 119, 104, 46, 46, 119, 104, 46, 46, 111, 112, 113]
def tocName : Bytes := [46, 119, 104, 46, 46, 119, 104, 46, 116, 111, 99]
def mayName (s : Bytes) : Bool := name s && decide (s.length ≤ 251) && !begins s white
def mayPath (p : Bytes) : Bool := (split p).all mayName && decide ((split p).length ≤ 254) && decide (p.length ≤ 4080)

def joinStep (out x : Bytes) : Bytes := if x = [] then out else if out = [] then x else out ++ [47] ++ x
def joinGo (out : Bytes) (l : List Bytes) : Bytes := l.foldl joinStep out
def join (l : List Bytes) : Bytes := joinGo [] l

/-- The place of the last slash, as an int: -1 without one. -/
def cutGo (at_ : Int) (i : Nat) : Bytes → Int
  | [] => at_
  | c :: r => cutGo (if c = 47 then i else at_) (i + 1) r
def cut (p : Bytes) : Int := cutGo (-1) 0 p
def parent (p : Bytes) : Bytes := p.take (cut p).toNat
def base (p : Bytes) : Bytes := p.drop (cut p + 1).toNat
def under (dir p : Bytes) : Bool := decide (p ≠ []) && (decide (dir = []) || begins p (dir ++ [47]))

/-- What a last name tells: the class and the target. -/
def classOf (p dir b : Bytes) : Nat × Bytes :=
  if mayName b then (1, p) else if b = opq then (3, dir) else if begins b white && mayName (b.drop 4) then (2, join [dir, b.drop 4]) else (0, [])
def classRef (p : Bytes) : Nat × Bytes :=
  if p = tocName then (4, []) else
  match (split p)[(split p).length - 1]? with
  | none => (0, [])
  | some b =>
    if ((split p).take ((split p).length - 1)).all mayName then
      if (classOf p (join ((split p).take ((split p).length - 1))) b).1 = 0 || !mayPath (classOf p (join ((split p).take ((split p).length - 1))) b).2 then (0, []) else classOf p (join ((split p).take ((split p).length - 1))) b
    else (0, [])
def whiteout (p : Bytes) : Bytes := if p = [] || !mayPath p then [] else join [parent p, white ++ base p]

/-! ### by steps -/
theorem all_take_succ {α : Type} (f : α → Bool) (l : List α) (k : Nat) (x : α) (h : l[k]? = some x) : (l.take (k + 1)).all f = ((l.take k).all f && f x) := by
  rw [List.take_add_one, h]; simp
theorem getD_some {l : Bytes} {k : Nat} (h : k < l.length) : l[k]? = some (l.getD k 0) := by
  rw [List.getD_eq_getElem?_getD, List.getElem?_eq_getElem h]; rfl
theorem cutGo_take (l : Bytes) : ∀ (k : Nat) (a : Int) (i : Nat), k < l.length → cutGo a i (l.take (k + 1)) = if l.getD k 0 = 47 then ((i + k : Nat) : Int) else cutGo a i (l.take k) := by
  induction l with
  | nil => intro k a i h; simp at h
  | cons c r ih =>
    intro k a i h
    cases k with
    | zero => simp [cutGo]
    | succ k =>
      simp only [List.take_succ_cons, cutGo]
      rw [ih k _ (i + 1) (by simpa using h)]
      simp only [List.getD_cons_succ]
      congr 2
      omega
theorem cutGo_range (l : Bytes) : ∀ (a : Int) (i : Nat), -1 ≤ a → a < i → -1 ≤ cutGo a i l ∧ cutGo a i l < ((i + l.length : Nat) : Int) := by
  induction l with
  | nil => intro a i h1 h2; simp only [cutGo, List.length_nil, Nat.add_zero]; omega
  | cons c r ih =>
    intro a i h1 h2
    simp only [cutGo]
    have := ih (if c = 47 then (i : Int) else a) (i + 1) (by split <;> omega) (by split <;> omega)
    simp only [List.length_cons]
    omega
theorem cut_range (p : Bytes) : -1 ≤ cut p ∧ cut p < p.length := by
  have := cutGo_range p (-1) 0 (by omega) (by omega)
  simpa [cut] using this

theorem splitGo_ne : ∀ (l cur : Bytes), splitGo cur l ≠ []
  | [], cur => by simp [splitGo]
  | c :: r, cur => by
    simp only [splitGo]
    split
    · simp
    · exact splitGo_ne r _

/-- The parts that are whole ahead of byte k, and where the next one begins. -/
def splitTo (p : Bytes) : Nat → List Bytes × Nat
  | 0 => ([], 0)
  | k + 1 => let (o, f) := splitTo p k; if p.getD k 0 = 47 then (o ++ [(p.drop f).take (k - f)], k + 1) else (o, f)
theorem splitTo_le (p : Bytes) : ∀ k, (splitTo p k).2 ≤ k ∧ (splitTo p k).1.length ≤ k
  | 0 => by simp [splitTo]
  | k + 1 => by
    have := splitTo_le p k
    simp only [splitTo]
    split
    · simp; omega
    · simp; omega
theorem splitTo_go (p : Bytes) : ∀ d k, k + d = p.length → (splitTo p k).1 ++ splitGo ((p.drop (splitTo p k).2).take (k - (splitTo p k).2)) (p.drop k) = splitGo [] p := by
  intro d
  have key : ∀ k, k ≤ p.length → (splitTo p k).1 ++ splitGo ((p.drop (splitTo p k).2).take (k - (splitTo p k).2)) (p.drop k) = splitGo [] p := by
    intro k
    induction k with
    | zero => intro _; simp [splitTo]
    | succ k ih =>
      intro hk
      have hk' : k < p.length := by omega
      have h0 := ih (by omega)
      have hle := splitTo_le p k
      rw [List.drop_eq_getElem_cons hk'] at h0
      have hg : p.getD k 0 = p[k] := by rw [List.getD_eq_getElem?_getD, List.getElem?_eq_getElem hk']; rfl
      simp only [splitTo, hg]
      simp only [splitGo] at h0
      by_cases hc : p[k] = 47
      · rw [if_pos hc] at h0
        rw [if_pos hc]
        simp only [Nat.sub_self, List.take_zero]
        rw [← h0]
        simp
      · rw [if_neg hc] at h0
        rw [if_neg hc]
        rw [← h0]
        congr 2
        have e1 : k + 1 - (splitTo p k).2 = (k - (splitTo p k).2) + 1 := by omega
        rw [e1, List.take_add_one]
        congr 1
        rw [List.getElem?_drop]
        have e2 : (splitTo p k).2 + (k - (splitTo p k).2) = k := by omega
        rw [e2, List.getElem?_eq_getElem hk']
        rfl
  intro k hk
  exact key k (by omega)
theorem split_last (p : Bytes) (hp : p ≠ []) : split p = (splitTo p p.length).1 ++ [(p.drop (splitTo p p.length).2).take (p.length - (splitTo p p.length).2)] := by
  have := splitTo_go p 0 p.length (by omega)
  rw [List.drop_length] at this
  simp only [splitGo] at this
  rw [split, if_neg hp, ← this]

theorem splitGo_length (l : Bytes) : ∀ cur, (splitGo cur l).length ≤ l.length + 1 := by
  induction l with
  | nil => intro cur; simp [splitGo]
  | cons c r ih =>
    intro cur
    simp only [splitGo]
    split
    · have := ih []; simp; omega
    · have := ih (cur ++ [c]); simp; omega
theorem split_length (p : Bytes) : (split p).length ≤ p.length + 1 := by
  unfold split
  split
  · simp
  · exact splitGo_length p []
/-- Every part is no longer than the text. -/
theorem splitGo_part (l : Bytes) : ∀ cur, ∀ x ∈ splitGo cur l, x.length ≤ cur.length + l.length := by
  induction l with
  | nil => intro cur x hx; simp [splitGo] at hx; subst hx; simp
  | cons c r ih =>
    intro cur x hx
    simp only [splitGo] at hx
    split at hx
    · rcases List.mem_cons.1 hx with rfl | hx
      · simp
      · have := ih [] x hx; simp at this ⊢; omega
    · have := ih _ x hx; simp at this ⊢; omega
theorem split_part (p : Bytes) : ∀ x ∈ split p, x.length ≤ p.length := by
  intro x hx
  unfold split at hx
  split at hx
  · simp at hx
  · simpa using splitGo_part p [] x hx
/-- How long all parts are together. -/
def total (l : List Bytes) : Nat := (l.map List.length).sum
theorem splitGo_total (l : Bytes) : ∀ cur, total (splitGo cur l) ≤ cur.length + l.length := by
  induction l with
  | nil => intro cur; simp [splitGo, total]
  | cons c r ih =>
    intro cur
    simp only [splitGo]
    split
    · have := ih []; simp [total] at this ⊢; omega
    · have := ih (cur ++ [c]); simp [total] at this ⊢; omega
theorem split_total (p : Bytes) : total (split p) ≤ p.length := by
  unfold split
  split
  · simp [total]
  · simpa using splitGo_total p []
theorem joinStep_length (out x : Bytes) : (joinStep out x).length ≤ out.length + x.length + 1 := by
  unfold joinStep
  split
  · omega
  · split
    · omega
    · simp; omega
theorem joinGo_length : ∀ (l : List Bytes) (out : Bytes), (joinGo out l).length ≤ out.length + total l + l.length
  | [], out => by simp [joinGo, total]
  | x :: l, out => by
    have h1 := joinGo_length l (joinStep out x)
    have h2 := joinStep_length out x
    simp only [joinGo, List.foldl_cons, total, List.map_cons, List.sum_cons, List.length_cons] at *
    omega
theorem total_append (a b : List Bytes) : total (a ++ b) = total a + total b := by simp [total]
theorem total_take (l : List Bytes) (k : Nat) : total (l.take k) ≤ total l := by
  have : total l = total (l.take k) + total (l.drop k) := by rw [← total_append, List.take_append_drop]
  omega
theorem joinGo_take_succ (out : Bytes) (l : List Bytes) (k : Nat) (x : Bytes) (h : l[k]? = some x) : joinGo out (l.take (k + 1)) = joinStep (joinGo out (l.take k)) x := by
  unfold joinGo
  rw [List.take_add_one, h]; simp

/-- What stands ahead of each slash, of the first k bytes. -/
def aboveTo (l : Bytes) : Nat → List Bytes
  | 0 => []
  | k+1 => aboveTo l k ++ (if l.getD k 0 = 47 then [l.take k] else [])
def above (l : Bytes) : List Bytes := aboveTo l l.length
theorem aboveTo_len (l : Bytes) : ∀ k, (aboveTo l k).length ≤ k
  | 0 => by simp [aboveTo]
  | k+1 => by have := aboveTo_len l k; simp only [aboveTo, List.length_append]; split <;> simp <;> omega
end Go.Eng
set_option linter.unusedVariables false
set_option linter.unusedSimpArgs false
/- Plain facts on UTF-8: what the model's decode yields at an ASCII byte and at another one; the last byte of an encoded rune. -/
namespace Go.Eng

theorem get!_bs (l : Bytes) (k : Nat) : (bs l).get! k = l.getD k 0 := by
  simp only [ByteArray.get!, bs, List.getD_eq_getElem?_getD]
  simp [Array.getElem!_eq_getD, Array.getD_eq_getD_getElem?]
  rfl

theorem decode_lo (l : Bytes) (p : Nat) (h : (l.getD p 0).toNat < 128) : Utf8.decode (bs l) p = ((l.getD p 0).toNat, 1) := by
  unfold Utf8.decode
  simp only [get!_bs, Nat.add_zero]
  rw [if_pos h]

theorem decode_hi (l : Bytes) (p : Nat) (hp : p < l.length) (h : 128 ≤ (l.getD p 0).toNat) :
    ∃ c w, Utf8.decode (bs l) p = (c, w) ∧ 128 ≤ c ∧ c < 2147483648 ∧ 1 ≤ w ∧ p + w ≤ l.length ∧ ∀ j, p ≤ j → j < p + w → 128 ≤ (l.getD j 0).toNat := by
  have hb : ∀ j, (l.getD j 0).toNat < 256 := fun j => (l.getD j 0).toBitVec.isLt
  have hd : ∀ j, (l.getD j 0).toNat / 64 = 2 → 128 ≤ (l.getD j 0).toNat := fun j hj => by omega
  unfold Utf8.decode
  simp only [get!_bs, bs_size, Nat.add_zero]
  rw [if_neg (by omega)]
  have one : ∀ j, p ≤ j → j < p + 1 → 128 ≤ (l.getD j 0).toNat := fun j h1 h2 => by
    obtain rfl : j = p := by omega
    exact h
  have bad : ∃ c w, (Utf8.runeError, 1) = (c, w) ∧ 128 ≤ c ∧ c < 2147483648 ∧ 1 ≤ w ∧ p + w ≤ l.length ∧ ∀ j, p ≤ j → j < p + w → 128 ≤ (l.getD j 0).toNat := ⟨_, _, rfl, by decide, by decide, by decide, by omega, one⟩
  split
  · rename_i h2
    simp only [Bool.and_eq_true, decide_eq_true_eq, beq_iff_eq] at h2
    obtain ⟨_, hl1, hc1⟩ := h2
    split
    · rename_i hc
      refine ⟨_, _, rfl, hc, ?_, by decide, by omega, ?_⟩
      · have := hb p; have := hb (p + 1); omega
      · intro j h1 h2
        rcases (by omega : j = p ∨ j = p + 1) with rfl | rfl
        · exact h
        · exact hd _ hc1
    · exact bad
  · split
    · rename_i _ h3
      simp only [Bool.and_eq_true, decide_eq_true_eq, beq_iff_eq] at h3
      obtain ⟨⟨_, hl1, hc1⟩, hl2, hc2⟩ := h3
      split
      · rename_i hc
        simp only [Bool.and_eq_true, decide_eq_true_eq] at hc
        refine ⟨_, _, rfl, by omega, ?_, by decide, by omega, ?_⟩
        · have := hb p; have := hb (p + 1); have := hb (p + 2); omega
        · intro j h1 h2
          rcases (by omega : j = p ∨ j = p + 1 ∨ j = p + 2) with rfl | rfl | rfl
          · exact h
          · exact hd _ hc1
          · exact hd _ hc2
      · exact bad
    · split
      · rename_i _ _ h4
        simp only [Bool.and_eq_true, decide_eq_true_eq, beq_iff_eq] at h4
        obtain ⟨⟨⟨_, hl1, hc1⟩, hl2, hc2⟩, hl3, hc3⟩ := h4
        split
        · rename_i hc
          simp only [Bool.and_eq_true, decide_eq_true_eq] at hc
          refine ⟨_, _, rfl, by omega, ?_, by decide, by omega, ?_⟩
          · have := hb p; have := hb (p + 1); have := hb (p + 2); have := hb (p + 3); omega
          · intro j h1 h2
            rcases (by omega : j = p ∨ j = p + 1 ∨ j = p + 2 ∨ j = p + 3) with rfl | rfl | rfl | rfl
            · exact h
            · exact hd _ hc1
            · exact hd _ hc2
            · exact hd _ hc3
        · exact bad
      · exact bad

theorem ofNat_hi (n : Nat) (h : 128 ≤ n) (h2 : n < 256) : 128 ≤ (UInt8.ofNat n).toNat := by
  rw [UInt8.toNat_ofNat']; omega
/-- A rune that is no ASCII byte: two bytes or more, the last one no ASCII byte. -/
theorem encode_hi (r : Int) (h : 128 ≤ r) : ∃ l : Bytes, Utf8.encode r = bs l ∧ 2 ≤ l.length ∧ l.length ≤ 4 ∧ 128 ≤ (l.getD (l.length - 1) 0).toNat := by
  have hv : ∀ n : Nat, 128 ≤ n → n < 1114112 → ∃ l : Bytes, (if n < 0x80 then (⟨#[UInt8.ofNat n]⟩ : ByteArray)
      else if n < 0x800 then ⟨#[UInt8.ofNat (0xC0 + n / 64), UInt8.ofNat (0x80 + n % 64)]⟩
      else if n < 0x10000 then ⟨#[UInt8.ofNat (0xE0 + n / 4096), UInt8.ofNat (0x80 + n / 64 % 64), UInt8.ofNat (0x80 + n % 64)]⟩
      else ⟨#[UInt8.ofNat (0xF0 + n / 262144), UInt8.ofNat (0x80 + n / 4096 % 64), UInt8.ofNat (0x80 + n / 64 % 64), UInt8.ofNat (0x80 + n % 64)]⟩) = bs l ∧ 2 ≤ l.length ∧ l.length ≤ 4 ∧ 128 ≤ (l.getD (l.length - 1) 0).toNat := by
    intro n h1 h2
    rw [if_neg (by omega)]
    have hlast : 128 ≤ (UInt8.ofNat (0x80 + n % 64)).toNat := ofNat_hi _ (by omega) (by omega)
    split
    · exact ⟨[UInt8.ofNat (0xC0 + n / 64), UInt8.ofNat (0x80 + n % 64)], rfl, by simp, by simp, by simpa using hlast⟩
    · split
      · exact ⟨[UInt8.ofNat (0xE0 + n / 4096), UInt8.ofNat (0x80 + n / 64 % 64), UInt8.ofNat (0x80 + n % 64)], rfl, by simp, by simp, by simpa using hlast⟩
      · exact ⟨[UInt8.ofNat (0xF0 + n / 262144), UInt8.ofNat (0x80 + n / 4096 % 64), UInt8.ofNat (0x80 + n / 64 % 64), UInt8.ofNat (0x80 + n % 64)], rfl, by simp, by simp, by simpa using hlast⟩
  unfold Utf8.encode
  by_cases hval : Utf8.valid r = true
  · simp only [hval, if_true]
    refine hv r.toNat (by omega) ?_
    simp only [Utf8.valid, Bool.or_eq_true, Bool.and_eq_true, decide_eq_true_eq] at hval
    omega
  · simp only [hval]
    exact hv Utf8.runeError (by decide) (by decide)

/-! ### which bytes a text has -/
def hasAny (s chars : Bytes) : Bool := s.any fun c => chars.contains c
theorem indexByte_iff (l : Bytes) (c : UInt8) : (0 ≤ Lib.indexByte l c) ↔ l.contains c = true := by
  induction l with
  | nil => simp [Lib.indexByte]
  | cons b l ih =>
    have hge := Lib.indexByte_ge l c
    simp only [Lib.indexByte, List.contains_cons, Bool.or_eq_true]
    by_cases hb : (b == c) = true
    · have : c = b := (beq_iff_eq.1 hb).symm
      subst this
      simp
    · have hne : ¬ (c == b) = true := fun e => hb (by rw [beq_iff_eq] at e ⊢; exact e.symm)
      rw [if_neg hb]
      by_cases hm : (Lib.indexByte l c == -1) = true
      · rw [if_pos hm]
        have := beq_iff_eq.1 hm
        rw [← ih]
        constructor
        · intro h; omega
        · rintro (h | h)
          · exact absurd h hne
          · omega
      · rw [if_neg hm, ← ih]
        have : Lib.indexByte l c ≠ -1 := fun e => hm (beq_iff_eq.2 e)
        constructor
        · intro h; exact .inr (by omega)
        · rintro (h | h)
          · exact absurd h hne
          · omega
theorem indexByte_none {l : Bytes} {c : UInt8} (h : l.contains c = false) : Lib.indexByte l c = -1 := by
  have h1 := indexByte_iff l c
  have h2 := Lib.indexByte_ge l c
  rw [h] at h1
  have : ¬ (0 ≤ Lib.indexByte l c) := fun e => by have := h1.1 e; cases this
  omega
theorem indexAny_iff (l chars : Bytes) : (0 ≤ Lib.indexAny l chars) ↔ hasAny l chars = true := by
  induction l with
  | nil => simp [Lib.indexAny, hasAny]
  | cons b l ih =>
    have hge := Lib.indexAny_ge chars l
    have e : hasAny (b :: l) chars = (chars.contains b || hasAny l chars) := by simp [hasAny]
    rw [e]
    simp only [Lib.indexAny, Bool.or_eq_true]
    by_cases hb : chars.contains b = true
    · rw [if_pos hb]
      exact ⟨fun _ => .inl hb, fun _ => by decide⟩
    · rw [if_neg hb]
      by_cases hm : (Lib.indexAny l chars == -1) = true
      · rw [if_pos hm]
        have := beq_iff_eq.1 hm
        rw [← ih]
        constructor
        · intro h; omega
        · rintro (h | h)
          · exact absurd h hb
          · omega
      · rw [if_neg hm, ← ih]
        have : Lib.indexAny l chars ≠ -1 := fun e => hm (beq_iff_eq.2 e)
        constructor
        · intro h; exact .inr (by omega)
        · rintro (h | h)
          · exact absurd h hb
          · omega
end Go.Eng

/-! ### splitting, a slash at a time -/
namespace Go.Eng
theorem splitGo_none (s : Bytes) : ∀ cur, s.count 47 = 0 → splitGo cur s = [cur ++ s] := by
  induction s with
  | nil => intro cur _; simp [splitGo]
  | cons c r ih =>
    intro cur h
    by_cases hc : c = 47
    · subst hc; simp at h
    · have h' : r.count 47 = 0 := by rw [List.count_cons_of_ne hc] at h; exact h
      simp only [splitGo, if_neg hc]
      rw [ih _ h']
      simp
theorem splitGo_at (s : Bytes) : ∀ cur, 0 ≤ Lib.indexByte s 47 →
    splitGo cur s = (cur ++ s.take (Lib.indexByte s 47).toNat) :: splitGo [] (s.drop ((Lib.indexByte s 47).toNat + 1)) ∧ s.count 47 = 1 + (s.drop ((Lib.indexByte s 47).toNat + 1)).count 47 ∧ (Lib.indexByte s 47).toNat < s.length := by
  induction s with
  | nil => intro cur h; simp [Lib.indexByte] at h
  | cons c r ih =>
    intro cur h
    have hge := Lib.indexByte_ge r 47
    by_cases hc : c = 47
    · subst hc
      simp [Lib.indexByte, splitGo, Nat.add_comm]
    · have hcb : (c == 47) = false := by simpa using hc
      simp only [Lib.indexByte, hcb] at h ⊢
      by_cases hm : Lib.indexByte r 47 = -1
      · simp [hm] at h
      · have hmb : (Lib.indexByte r 47 == -1) = false := by simpa using hm
        simp only [hmb, Bool.false_eq_true, ↓reduceIte] at h ⊢
        obtain ⟨h1, h2, h3⟩ := ih (cur ++ [c]) (by omega)
        have e : (Lib.indexByte r 47 + 1).toNat = (Lib.indexByte r 47).toNat + 1 := by omega
        rw [e]
        simp only [splitGo, if_neg hc, List.take_succ_cons, List.drop_succ_cons, List.count_cons_of_ne hc, List.length_cons]
        refine ⟨by rw [h1]; simp, h2, by omega⟩
theorem count_of_none {s : Bytes} (h : Lib.indexByte s 47 < 0) : s.count 47 = 0 := by
  rw [List.count_eq_zero]
  intro hm
  have := (indexByte_iff s 47).2 (List.contains_iff_mem.2 hm)
  omega
end Go.Eng
set_option linter.unusedVariables false
set_option linter.unusedSimpArgs false
/- Plain facts on paths: the class of a path, told off its last name, is the class told off its parts. -/
namespace Go.Eng

def tailIs (s w : Bytes) : Bool := decide (w.length ≤ s.length) && decide (s.drop (s.length - w.length) = w)
def cutOff (s w : Bytes) : Bytes := if tailIs s w then s.take (s.length - w.length) else s
def lastOf (b : Bytes) : Nat := if b = opq then 3 else if begins b white then 2 else 1
def targetOf (c : Nat) (dir b : Bytes) : Bytes := if c = 1 then dir ++ b else if c = 2 then dir ++ b.drop 4 else cutOff dir [47]
def refused (c : Nat) (dir b t : Bytes) : Bool := !mayPath t || (decide (c ≠ 3) && decide (t = [])) || (decide (c = 2) && !mayName (b.drop 4)) || decide (dir = [47])
def classP (p : Bytes) : Nat × Bytes :=
  if p = tocName then (4, []) else
  if refused (lastOf (base p)) (cutOff p (base p)) (base p) (targetOf (lastOf (base p)) (cutOff p (base p)) (base p)) then (0, []) else (lastOf (base p), targetOf (lastOf (base p)) (cutOff p (base p)) (base p))

theorem splitGo_app (x y : Bytes) : ∀ cur, splitGo cur (x ++ 47 :: y) = splitGo cur x ++ splitGo [] y := by
  induction x with
  | nil => intro cur; simp [splitGo]
  | cons c r ih =>
    intro cur
    simp only [List.cons_append, splitGo]
    split
    · rw [ih]; rfl
    · exact ih _
theorem cutGo_spec (l : Bytes) : ∀ (a : Int) (i : Nat), (l.count 47 = 0 ∧ cutGo a i l = a) ∨ ∃ x y, l = x ++ 47 :: y ∧ y.count 47 = 0 ∧ cutGo a i l = ((i + x.length : Nat) : Int) := by
  induction l with
  | nil => intro a i; exact .inl ⟨rfl, rfl⟩
  | cons c r ih =>
    intro a i
    simp only [cutGo]
    rcases ih (if c = 47 then (i : Int) else a) (i + 1) with ⟨h1, h2⟩ | ⟨x, y, h1, h2, h3⟩
    · by_cases hc : c = 47
      · subst hc
        exact .inr ⟨[], r, rfl, h1, by rw [h2]; simp⟩
      · refine .inl ⟨by rw [List.count_cons_of_ne hc]; exact h1, by rw [h2, if_neg hc]⟩
    · exact .inr ⟨c :: x, y, by rw [h1]; rfl, h2, by rw [h3]; simp; omega⟩
theorem cut_spec (p : Bytes) : (p.count 47 = 0 ∧ cut p = -1) ∨ ∃ x y, p = x ++ 47 :: y ∧ y.count 47 = 0 ∧ cut p = (x.length : Int) := by
  have := cutGo_spec p (-1) 0
  simpa [cut] using this
theorem mayName_ne {x : Bytes} (h : mayName x = true) : x ≠ [] := by
  rintro rfl
  revert h; decide
theorem joinGo_split (l : Bytes) : ∀ out cur, (∀ x ∈ splitGo cur l, x ≠ []) → joinGo out (splitGo cur l) = if out = [] then cur ++ l else out ++ 47 :: (cur ++ l) := by
  induction l with
  | nil =>
    intro out cur h
    have hc : cur ≠ [] := h cur (by simp [splitGo])
    simp [splitGo, joinGo, joinStep, hc]
  | cons c r ih =>
    intro out cur h
    simp only [splitGo] at h ⊢
    by_cases hc : c = 47
    · subst hc
      simp only [if_true] at h ⊢
      have hcur : cur ≠ [] := h cur (by simp)
      have h' := ih (joinStep out cur) [] (fun x hx => h x (by simp [hx]))
      have hj : joinStep out cur ≠ [] := by
        unfold joinStep
        rw [if_neg hcur]
        split
        · exact hcur
        · simp
      have e : joinGo out (cur :: splitGo [] r) = joinGo (joinStep out cur) (splitGo [] r) := rfl
      rw [e, h', if_neg hj]
      unfold joinStep
      rw [if_neg hcur]
      split <;> simp
    · simp only [if_neg hc] at h ⊢
      rw [ih out (cur ++ [c]) h]
      simp
theorem join_split (l : Bytes) (h : (splitGo [] l).all mayName = true) : join (splitGo [] l) = l := by
  have := joinGo_split l [] [] (fun x hx => mayName_ne (List.all_eq_true.1 h x hx))
  simpa [join] using this
theorem opq_white : begins opq white = true := by decide
theorem mayName_white {b : Bytes} (h : begins b white = true) : mayName b = false := by simp [mayName, h]
theorem begins_len {s w : Bytes} (h : begins s w = true) : w.length ≤ s.length := by
  simp only [begins, Bool.and_eq_true, decide_eq_true_eq] at h; exact h.1
theorem mayPath_split {p : Bytes} (h : mayPath p = true) : (split p).all mayName = true := by
  simp only [mayPath, Bool.and_eq_true] at h; exact h.1.1
theorem tailIs_app (x y : Bytes) : tailIs (x ++ y) y = true := by
  have e : (x ++ y).length - y.length = x.length := by simp
  simp only [tailIs, e]
  simp
theorem cutOff_app (x y : Bytes) : cutOff (x ++ y) y = x := by
  have e : (x ++ y).length - y.length = x.length := by simp
  rw [cutOff, if_pos (tailIs_app x y), e, List.take_left' rfl]

theorem classP_eq (p : Bytes) : classP p = classRef p := by
  unfold classP classRef
  by_cases ht : p = tocName
  · rw [if_pos ht, if_pos ht]
  rw [if_neg ht, if_neg ht]
  by_cases hp : p = []
  · subst hp; decide
  have hsp : split p = splitGo [] p := by rw [split, if_neg hp]
  rcases cut_spec p with ⟨h1, h2⟩ | ⟨x, y, h1, h2, h3⟩
  · -- one name
    have hb : base p = p := by unfold base; rw [h2]; rfl
    have hs : split p = [p] := by rw [hsp, splitGo_none p [] h1]; rfl
    have hd : cutOff p p = [] := by have := cutOff_app [] p; simpa using this
    rw [hb, hd, hs]
    simp only [List.length_singleton, Nat.sub_self, List.getElem?_cons_zero, List.take_zero, List.all_nil, if_true]
    have hj : join [] = [] := rfl
    rw [hj]
    unfold lastOf
    by_cases ho : p = opq
    · subst ho; decide
    · rw [if_neg ho]
      by_cases hw : begins p white = true
      · rw [if_pos hw]
        have hm := mayName_white hw
        have ht2 : targetOf 2 [] p = p.drop 4 := by simp [targetOf]
        rw [ht2]
        have hco : classOf p [] p = if mayName (p.drop 4) then (2, p.drop 4) else (0, []) := by
          unfold classOf
          rw [if_neg (by simp [hm]), if_neg ho, hw, Bool.true_and]
          split
          · rename_i hn
            have := mayName_ne hn
            simp [join, joinGo, joinStep, this]
          · rfl
        rw [hco]
        by_cases hn : mayName (p.drop 4) = true
        · have := mayName_ne hn
          simp only [hn, if_true]
          simp [refused, this, hn]
        · simp [refused, hn]
      · rw [if_neg hw]
        have ht1 : targetOf 1 [] p = p := by simp [targetOf]
        rw [ht1]
        have hco : classOf p [] p = if mayName p then (1, p) else (0, []) := by
          unfold classOf
          by_cases hm : mayName p = true
          · rw [if_pos hm, if_pos hm]
          · rw [if_neg hm, if_neg ho, if_neg (by simp [hw]), if_neg hm]
        rw [hco]
        by_cases hm : mayName p = true
        · simp only [hm, if_true]
          simp [refused, hp]
        · have : mayPath p = false := by
            cases hh : mayPath p with
            | false => rfl
            | true =>
              have := mayPath_split hh
              rw [hs] at this
              simp [hm] at this
          simp [refused, hm, this]
  · -- names behind slashes
    have hb : base p = y := by
      unfold base; rw [h3, h1, show ((x.length : Int) + 1).toNat = x.length + 1 by omega]
      simp
    have hpd : p = (x ++ [47]) ++ y := by rw [h1]; simp
    have hs : split p = splitGo [] x ++ [y] := by
      rw [hsp, h1, splitGo_app, splitGo_none y [] h2]; rfl
    have hd : cutOff p y = x ++ [47] := by rw [hpd, cutOff_app]
    have hlen : (split p).length - 1 = (splitGo [] x).length := by rw [hs]; simp
    rw [hb, hd, hlen]
    have hg : (split p)[(splitGo [] x).length]? = some y := by rw [hs]; simp
    have htk : (split p).take (splitGo [] x).length = splitGo [] x := by rw [hs, List.take_left' rfl]
    rw [hg, htk]
    dsimp only
    have hnil : ∀ z : Bytes, x ++ [47] ++ z ≠ [] := by intro z; simp
    have hms : ∀ z : Bytes, z.count 47 = 0 → split (x ++ [47] ++ z) = splitGo [] x ++ [z] := by
      intro z hz
      rw [split, if_neg (hnil z), List.append_assoc]
      show splitGo [] (x ++ 47 :: z) = _
      rw [splitGo_app, splitGo_none z [] hz]; rfl
    have hdrop : (y.drop 4).count 47 = 0 := by
      have := List.Sublist.count_le 47 (List.drop_sublist 4 y)
      omega
    have ht3 : targetOf 3 (x ++ [47]) y = x := by
      unfold targetOf; rw [if_neg (by decide), if_neg (by decide), cutOff_app]
    have ht1 : targetOf 1 (x ++ [47]) y = p := by unfold targetOf; rw [if_pos rfl, hpd]
    have ht2 : targetOf 2 (x ++ [47]) y = x ++ [47] ++ y.drop 4 := by unfold targetOf; rw [if_neg (by decide), if_pos rfl]
    by_cases hA : (splitGo [] x).all mayName = true
    · have hx : x ≠ [] := by rintro rfl; revert hA; decide
      have hdir : ¬ x ++ [47] = [47] := by simpa using hx
      simp only [hA, if_true]
      rw [join_split x hA]
      unfold lastOf
      by_cases ho : y = opq
      · rw [if_pos ho, ht3]
        have hco : classOf p x y = (3, x) := by
          unfold classOf; rw [if_neg (by rw [ho, mayName_white opq_white]; simp), if_pos ho]
        rw [hco]
        simp [refused, hx]
      · rw [if_neg ho]
        by_cases hw : begins y white = true
        · rw [if_pos hw, ht2]
          have hm := mayName_white hw
          by_cases hn : mayName (y.drop 4) = true
          · have hne := mayName_ne hn
            have hco : classOf p x y = (2, x ++ [47] ++ y.drop 4) := by
              unfold classOf
              rw [if_neg (by simp [hm]), if_neg ho, if_pos (by simp [hw, hn])]
              simp [join, joinGo, joinStep, hx, hne]
            rw [hco]
            simp [refused, hn, hx]
          · have hco : classOf p x y = (0, []) := by
              unfold classOf
              rw [if_neg (by simp [hm]), if_neg ho, if_neg (by simp [hw, hn])]
            rw [hco]
            simp [refused, hn]
        · rw [if_neg hw, ht1]
          by_cases hm : mayName y = true
          · have hco : classOf p x y = (1, p) := by unfold classOf; rw [if_pos hm]
            rw [hco]
            simp [refused, hp, hx]
          · have hco : classOf p x y = (0, []) := by
              unfold classOf; rw [if_neg hm, if_neg ho, if_neg (by simp [hw])]
            have : mayPath p = false := by
              cases hh : mayPath p with
              | false => rfl
              | true =>
                have := mayPath_split hh
                rw [hs] at this
                simp [hm] at this
            rw [hco]
            simp [refused, this]
    · have hA' : (splitGo [] x).all mayName = false := by simpa using hA
      rw [if_neg hA]
      have hbad : refused (lastOf y) (x ++ [47]) y (targetOf (lastOf y) (x ++ [47]) y) = true := by
        have key : ∀ t, (split t).all mayName = false → mayPath t = false := by
          intro t h
          simp [mayPath, h]
        unfold lastOf
        by_cases ho : y = opq
        · rw [if_pos ho, ht3]
          by_cases hx : x = []
          · subst hx; simp [refused]
          · have : mayPath x = false := key _ (by rw [split, if_neg hx]; exact hA')
            simp [refused, this]
        · rw [if_neg ho]
          by_cases hw : begins y white = true
          · rw [if_pos hw, ht2]
            have : mayPath (x ++ [47] ++ y.drop 4) = false := key _ (by rw [hms _ hdrop, List.all_append, hA']; rfl)
            simp only [refused, this]; rfl
          · rw [if_neg hw, ht1]
            have : mayPath p = false := key _ (by rw [hs, List.all_append, hA']; rfl)
            simp [refused, this]
      rw [if_pos hbad]
end Go.Eng
set_option linter.unusedVariables false
set_option linter.unusedSimpArgs false
/- Members of a set, as plain data; what they take in memory; and what may be. -/
namespace Go.Eng
abbrev str (l : Bytes) : Value := .string (bs l)

/-! ### rows of elements of one width -/
theorem flat_len {α : Type} (f : α → List Value) (w : Nat) (hw : ∀ x, (f x).length = w) : ∀ l : List α, (l.flatMap f).length = l.length * w
  | [] => by simp
  | x :: l => by simp [List.flatMap_cons, hw, flat_len f w hw l, Nat.add_mul]; omega
theorem flat_at {α : Type} (f : α → List Value) (w : Nat) (hw : ∀ x, (f x).length = w) : ∀ (l : List α) (k : Nat) (x : α), l[k]? = some x → ∀ j, j < w → (l.flatMap f)[k * w + j]? = (f x)[j]?
  | [], k, x, h, j, hj => by simp at h
  | y :: l, 0, x, h, j, hj => by
    simp at h; subst h
    rw [List.flatMap_cons, Nat.zero_mul, Nat.zero_add, List.getElem?_append_left (by rw [hw]; exact hj)]
  | y :: l, k + 1, x, h, j, hj => by
    simp at h
    have := flat_at f w hw l k x h j hj
    rw [List.flatMap_cons, List.getElem?_append_right (by rw [hw, Nat.add_mul]; omega), hw, ← this]
    congr 1
    rw [Nat.add_mul]; omega
theorem Mem.cells.flat {α : Type} {M : Mem} {g o : Nat} {f : α → List Value} {l : List α} (h : M.cells g o (l.flatMap f)) (w : Nat) (hw : ∀ x, (f x).length = w) {k : Nat} {x : α} (hk : l[k]? = some x) : M.cells g (o + k * w) (f x) := by
  intro j v hj
  have hlt : j < w := by rw [← hw x]; exact (List.getElem?_eq_some_iff.1 hj).1
  have := h (k * w + j) v (by rw [flat_at f w hw l k x hk j hlt]; exact hj)
  rwa [← Nat.add_assoc] at this
theorem Mem.cells.tail {M : Mem} {g o : Nat} {xs : List Value} (h : M.cells g o xs) (k : Nat) : M.cells g (o + k) (xs.drop k) := by
  intro j v hj
  rw [List.getElem?_drop] at hj
  have := h _ v hj
  rwa [← Nat.add_assoc] at this
theorem Mem.cells.head {M : Mem} {g o : Nat} {xs : List Value} (h : M.cells g o xs) (k : Nat) : M.cells g o (xs.take k) := by
  intro j v hj
  rw [List.getElem?_take] at hj
  split at hj
  · exact h _ v hj
  · cases hj

/-! ### Members -/
structure Mb where
  path : Bytes
  kind : Int
  mode : Int
  uid : Int
  gid : Int
  time : Int
  attrs : Value
  av : List (Bytes × Bytes)
  data : Value
  dv : Bytes
  link : Bytes
def Mb.node (m : Mb) : List Value := [.int .i64 m.kind, .int .u32 m.mode, .int .u32 m.uid, .int .u32 m.gid, .int .i64 m.time, m.attrs, m.data, str m.link]
def Mb.cells (m : Mb) : List Value := [str m.path, .int .i64 m.kind, .int .u32 m.mode, .int .u32 m.uid, .int .u32 m.gid, .int .i64 m.time, m.attrs, m.data, str m.link]
def avCells (av : List (Bytes × Bytes)) : List Value := av.flatMap fun p => [str p.1, str p.2]
def byteCells (l : Bytes) : List Value := l.map fun c => .int .u8 c.toNat
theorem avCells_len (av : List (Bytes × Bytes)) : (avCells av).length = av.length * 2 := flat_len _ 2 (fun _ => rfl) av
def big : Nat := 268435456
structure Mb.ok (M : Mem) (m : Mb) : Prop where
  attrs : ISl M m.attrs 2 m.av.length (avCells m.av)
  data : ISl M m.data 1 m.dv.length (byteCells m.dv)
  path : m.path.length ≤ big
  link : m.link.length ≤ big
  names : ∀ p ∈ m.av, p.1.length ≤ big ∧ p.2.length ≤ big
  attrsLen : m.av.length ≤ big
  dataLen : m.dv.length ≤ big
theorem Mb.ok.mono {M M' : Mem} {m : Mb} (h : m.ok M) (hm : M.le M') : m.ok M' := ⟨h.attrs.mono hm, h.data.mono hm, h.path, h.link, h.names, h.attrsLen, h.dataLen⟩
abbrev SlM (M : Mem) (v : Value) (ms : List Mb) : Prop := ISl M v 9 ms.length (ms.flatMap Mb.cells)
theorem mbCells_len (ms : List Mb) : (ms.flatMap Mb.cells).length = ms.length * 9 := flat_len _ 9 (fun _ => rfl) ms

/-- What a Member says, whatever its rows' addresses. -/
structure Core where
  path : Bytes
  kind : Int
  mode : Int
  uid : Int
  gid : Int
  time : Int
  av : List (Bytes × Bytes)
  dv : Bytes
  link : Bytes
  deriving DecidableEq
def Mb.core (m : Mb) : Core := ⟨m.path, m.kind, m.mode, m.uid, m.gid, m.time, m.av, m.dv, m.link⟩

/-! ### what may be -/
def attrName (x : Bytes) : Bool := decide (x ≠ []) && decide (x.length ≤ 242) && !hasAny x [0, 61, 10]
def nm (av : List (Bytes × Bytes)) (i : Nat) : Bytes := ((av[i]?).map (·.1)).getD []
def attrAt (av : List (Bytes × Bytes)) (i : Nat) : Bool := attrName (nm av i) && (decide (i = 0) || Op.bytesLess (nm av (i - 1)) (nm av i))
def attrsTo (av : List (Bytes × Bytes)) (k : Nat) : Bool := (List.range k).all (attrAt av)
def mayAttrs (av : List (Bytes × Bytes)) : Bool := attrsTo av av.length && decide (av.length ≤ 16)
theorem attrsTo_succ (av : List (Bytes × Bytes)) (k : Nat) : attrsTo av (k + 1) = (attrsTo av k && attrAt av k) := by
  simp [attrsTo, List.range_succ]
theorem attrsTo_bad {av : List (Bytes × Bytes)} {k n : Nat} (hk : k < n) (h : attrAt av k = false) : attrsTo av n = false := by
  rw [attrsTo, List.all_eq_false]
  exact ⟨k, List.mem_range.2 hk, by simp [h]⟩
def mayLink (l : Bytes) (is : Bool) : Bool := if is then decide (l ≠ []) && decide (l.length ≤ 4096) && !l.contains 0 else decide (l = [])
def mayData (m : Core) : Bool := decide (m.dv.length ≤ 16777216) && (decide (m.kind = 2) || decide (m.dv.length = 0))
def mayNode (m : Core) : Bool := decide (1 ≤ m.kind) && decide (m.kind ≤ 4) && decide (m.mode ≤ 4095) && mayAttrs m.av && mayLink m.link (decide (m.kind = 3)) && mayData m
def mayMb (m : Core) : Bool := decide ((classRef m.path).1 ≠ 0) && mayNode m
end Go.Eng
set_option linter.unusedVariables false
set_option linter.unusedSimpArgs false
/- Plain facts on changesets: when Members are one, and which error is told first. -/
namespace Go.Eng

theorem kvGet_put (k : List UInt8) (v : Value) (x : List UInt8) : ∀ kvs, kvGet x (kvPut k v kvs) = if x = k then some v else kvGet x kvs
  | [] => by simp [kvPut, kvGet]
  | (k', v') :: r => by
    simp only [kvPut]
    split
    · rename_i h
      subst h
      simp only [kvGet]
      split <;> rfl
    · rename_i h
      simp only [kvGet]
      rw [kvGet_put k v x r]
      split
      · rename_i h2
        subst h2
        rw [if_neg (fun e => h e.symm)]
      · rfl

def bare (m : Core) : Bool := decide (m.kind = 2) && decide (m.mode = 0) && decide (m.uid = 0) && decide (m.gid = 0) && decide (m.time = 0) && decide (m.av.length = 0) && decide (m.dv.length = 0) && decide (m.link = [])
def aloneOk (m : Core) : Bool := mayMb { m with path := [97] }
def cp (l : List Core) (i : Nat) : Bytes := ((l[i]?).map (·.path)).getD []
def isDir (l : List Core) (x : Bytes) : Bool := l.any fun m => decide (m.path = x) && decide (m.kind = 1)
/-- The error that the Member at a place makes, those ahead of it being in order. -/
def errAt (l : List Core) (i : Nat) (m : Core) : Nat :=
  if !aloneOk m || (decide (0 < i) && !Op.bytesLess (cp l (i - 1)) m.path) then 1
  else if decide ((classRef m.path).1 < 1) || decide (3 < (classRef m.path).1) then 32
  else if decide ((classRef m.path).1 ≠ 1) && !bare m then 31
  else if (above m.path).any (fun x => !isDir (l.take i) x) then 33
  else 0
def firstErr (l : List Core) : Nat → Nat
  | 0 => 0
  | k + 1 => if firstErr l k ≠ 0 then firstErr l k else match l[k]? with
    | some m => errAt l k m
    | none => 0
def maySet (l : List Core) : Nat := if firstErr l l.length ≠ 0 then firstErr l l.length else if 4096 < l.length then 42 else 0
theorem firstErr_stay {l : List Core} {k : Nat} (h : firstErr l k ≠ 0) : ∀ d, firstErr l (k + d) = firstErr l k
  | 0 => rfl
  | d + 1 => by
    have ih := firstErr_stay h d
    show (if firstErr l (k + d) ≠ 0 then firstErr l (k + d) else _) = _
    rw [if_pos (by rw [ih]; exact h), ih]
theorem firstErr_succ {l : List Core} {k : Nat} {m : Core} (h0 : firstErr l k = 0) (hm : l[k]? = some m) : firstErr l (k + 1) = errAt l k m := by
  simp [firstErr, h0, hm]
theorem maySet_err {l : List Core} {k : Nat} {m : Core} (h0 : firstErr l k = 0) (hm : l[k]? = some m) (he : errAt l k m ≠ 0) : maySet l = errAt l k m := by
  have h1 := firstErr_succ h0 hm
  have hk : k < l.length := (List.getElem?_eq_some_iff.1 hm).1
  have h2 := firstErr_stay (l := l) (k := k + 1) (by rw [h1]; exact he) (l.length - (k + 1))
  rw [show k + 1 + (l.length - (k + 1)) = l.length by omega, h1] at h2
  rw [maySet, h2, if_pos he]
theorem isDir_succ {l : List Core} {k : Nat} {m : Core} (hm : l[k]? = some m) (x : Bytes) : isDir (l.take (k + 1)) x = (isDir (l.take k) x || (decide (m.path = x) && decide (m.kind = 1))) := by
  simp [isDir, List.take_add_one, hm]
theorem cp_some {l : List Core} {k : Nat} {m : Core} (h : l[k]? = some m) : cp l k = m.path := by simp [cp, h]
theorem classRef_lt (p : Bytes) : (classRef p).1 ≤ 4 := by
  have h : ∀ dir b, (classOf p dir b).1 ≤ 4 := by
    intro dir b
    unfold classOf
    split
    · simp
    · split
      · simp
      · split <;> simp
  unfold classRef
  split
  · simp
  · split
    · simp
    · split
      · split
        · simp
        · exact h _ _
      · simp
end Go.Eng

/-! ### the order of texts -/
namespace Go.Eng
theorem bl_irrefl : ∀ a : Bytes, Op.bytesLess a a = false
  | [] => rfl
  | a :: x => by simp [Op.bytesLess, bl_irrefl x]
theorem bl_leq : ∀ a b : Bytes, (Op.bytesLess a b || decide (a = b)) = !Op.bytesLess b a
  | [], [] => rfl
  | [], b :: y => by simp [Op.bytesLess]
  | a :: x, [] => by simp [Op.bytesLess]
  | a :: x, b :: y => by
    have ih := bl_leq x y
    simp only [Op.bytesLess]
    rcases Nat.lt_trichotomy a.toNat b.toNat with h | h | h
    · have h1 : a < b := by rw [UInt8.lt_iff_toNat_lt]; exact h
      have h2 : ¬ b < a := by rw [UInt8.lt_iff_toNat_lt]; omega
      have h3 : ¬ b = a := by rintro rfl; omega
      simp [h1, h2, h3]
    · have h0 : a = b := UInt8.toNat_inj.1 h
      subst h0
      have h2 : ¬ a < a := by rw [UInt8.lt_iff_toNat_lt]; omega
      simp only [h2, decide_false, beq_self_eq_true, Bool.true_and, Bool.false_or, List.cons.injEq, true_and]
      exact ih
    · have h1 : b < a := by rw [UInt8.lt_iff_toNat_lt]; exact h
      have h2 : ¬ a < b := by rw [UInt8.lt_iff_toNat_lt]; omega
      have h3 : ¬ a = b := by rintro rfl; omega
      simp [h1, h2, h3]
theorem bl_trans : ∀ {a b c : Bytes}, Op.bytesLess a b = true → Op.bytesLess b c = true → Op.bytesLess a c = true
  | _, _, [], _, h => by cases ‹Bytes› <;> simp [Op.bytesLess] at h
  | [], _, _ :: _, _, _ => rfl
  | a :: x, [], _ :: _, h, _ => by simp [Op.bytesLess] at h
  | a :: x, b :: y, c :: z, h1, h2 => by
    simp only [Op.bytesLess, Bool.or_eq_true, decide_eq_true_eq, Bool.and_eq_true, beq_iff_eq] at h1 h2 ⊢
    rcases h1 with h1 | ⟨rfl, h1⟩
    · rcases h2 with h2 | ⟨rfl, h2⟩
      · exact .inl (UInt8.lt_trans h1 h2)
      · exact .inl h1
    · rcases h2 with h2 | ⟨rfl, h2⟩
      · exact .inl h2
      · exact .inr ⟨rfl, bl_trans h1 h2⟩
end Go.Eng
set_option linter.unusedVariables false
set_option linter.unusedSimpArgs false
/- Plain facts on what stays of a tree below a changeset: told by maps of targets, and told Member by Member. -/
namespace Go.Eng

theorem mem_aboveTo (l : Bytes) (t : Bytes) : ∀ k, k ≤ l.length → (t ∈ aboveTo l k ↔ ∃ j, j < k ∧ l.getD j 0 = 47 ∧ t = l.take j)
  | 0, _ => by simp [aboveTo]
  | k + 1, hk => by
    have ih := mem_aboveTo l t k (by omega)
    simp only [aboveTo, List.mem_append, ih]
    constructor
    · rintro (⟨j, h1, h2, h3⟩ | h)
      · exact ⟨j, by omega, h2, h3⟩
      · split at h
        · rename_i hc
          exact ⟨k, by omega, hc, by simpa using h⟩
        · simp at h
    · rintro ⟨j, h1, h2, h3⟩
      rcases (by omega : j < k ∨ j = k) with hj | rfl
      · exact .inl ⟨j, hj, h2, h3⟩
      · right
        rw [if_pos h2]
        simpa using h3
theorem mem_above (p t : Bytes) : t ∈ above p ↔ begins p (t ++ [47]) = true := by
  unfold above
  rw [mem_aboveTo p t p.length (Nat.le_refl _)]
  simp only [begins, Bool.and_eq_true, decide_eq_true_eq, List.length_append, List.length_singleton]
  constructor
  · rintro ⟨j, h1, h2, rfl⟩
    have hl : (p.take j).length = j := by simp; omega
    refine ⟨by rw [hl]; omega, ?_⟩
    rw [hl, List.take_add_one, getD_some h1, h2]
    simp
  · rintro ⟨h1, h2⟩
    refine ⟨t.length, by omega, ?_, ?_⟩
    · have h3 := congrArg (fun l => l[t.length]?) h2
      simp only [List.getElem?_take, List.getElem?_append_right (Nat.le_refl _), Nat.sub_self] at h3
      rw [if_pos (by omega)] at h3
      rw [List.getD_eq_getElem?_getD, h3]; rfl
    · have h3 := congrArg (List.take t.length) h2
      rw [List.take_take, Nat.min_eq_left (by omega), List.take_left' rfl] at h3
      exact h3.symm
theorem under_above (t p : Bytes) (hp : p ≠ []) : under t p = (decide (t = []) || decide (t ∈ above p)) := by
  unfold under
  rw [decide_eq_true hp, Bool.true_and]
  congr 1
  have := mem_above p t
  cases h : begins p (t ++ [47]) with
  | true => rw [h] at this; exact (decide_eq_true (this.2 rfl)).symm
  | false =>
    rw [h] at this
    exact (decide_eq_false (fun e => by have := this.1 e; cases this)).symm

/-- Does a Member of a changeset let a path stay? -/
def letsStay (m : Core) (p : Bytes) : Bool :=
  !((decide ((classRef m.path).1 = 2) && (decide (p = (classRef m.path).2) || under (classRef m.path).2 p)) || (decide ((classRef m.path).1 = 3) && under (classRef m.path).2 p) || (decide ((classRef m.path).1 = 1) && decide (p = (classRef m.path).2))) &&
  !(decide ((classRef m.path).1 = 1) && under (classRef m.path).2 p && decide (m.kind ≠ 1))
def staysP (l : List Core) (p : Bytes) : Bool := decide (p ≠ []) && l.all fun m => letsStay m p

def tgt (m : Core) : Bytes := (classRef m.path).2
def cl (m : Core) : Nat := (classRef m.path).1
def goneP (l : List Core) (t : Bytes) : Bool := l.any fun m => decide (cl m = 2) && decide (tgt m = t)
def markedP (l : List Core) (t : Bytes) : Bool := l.any fun m => decide (cl m = 3) && decide (tgt m = t)
def overP (l : List Core) (t : Bytes) : Int := if (l.any fun m => decide (cl m = 1) && decide (m.kind ≠ 1) && decide (tgt m = t)) then 2 else if (l.any fun m => decide (cl m = 1) && decide (tgt m = t)) then 1 else 0
def hidesP (l : List Core) (t : Bytes) : Bool := goneP l t || decide (overP l t = 2)
def staysM (l : List Core) (p : Bytes) : Bool := decide (p ≠ []) && decide (overP l p = 0) && !markedP l [] && !hidesP l p && !(above p).any (hidesP l) && !(above p).any (markedP l)

theorem tgt_ne (m : Core) (h : cl m = 1 ∨ cl m = 2) : tgt m ≠ [] := by
  unfold cl at h
  unfold tgt
  intro e
  unfold classRef at h e
  split at h
  · rcases h with h | h <;> simp at h
  · rename_i hn
    rw [if_neg hn] at e
    split at h
    · rcases h with h | h <;> simp at h
    · rename_i b hb
      rw [hb] at e
      dsimp only at e
      split at h
      · rename_i hA
        rw [if_pos hA] at e
        split at h
        · rcases h with h | h <;> simp at h
        · rename_i hr
          rw [if_neg hr] at e
          generalize join (List.take ((split m.path).length - 1) (split m.path)) = dir at h e
          unfold classOf at h e
          split at h
          · rename_i hm
            rw [if_pos hm] at e
            dsimp only at e
            rw [e] at hb
            simp [split] at hb
          · rename_i hm
            rw [if_neg hm] at e
            split at h
            · rcases h with h | h <;> simp at h
            · rename_i ho
              rw [if_neg ho] at e
              split at h
              · rename_i hw
                rw [if_pos hw] at e
                dsimp only at e
                simp only [Bool.and_eq_true] at hw
                have hne := mayName_ne hw.2
                revert e
                by_cases hd : dir = []
                · simp [join, joinGo, joinStep, hd, hne]
                · simp [join, joinGo, joinStep, hd, hne]
              · rcases h with h | h <;> simp at h
      · rcases h with h | h <;> simp at h

theorem overP_zero (l : List Core) (t : Bytes) : overP l t = 0 ↔ ∀ m ∈ l, ¬ (cl m = 1 ∧ tgt m = t) := by
  unfold overP
  split
  · rename_i h
    obtain ⟨m, hm, h1⟩ := List.any_eq_true.1 h
    simp only [Bool.and_eq_true, decide_eq_true_eq] at h1
    exact ⟨(fun e => by cases e), fun e => absurd ⟨h1.1.1, h1.2⟩ (e m hm)⟩
  · split
    · rename_i h
      obtain ⟨m, hm, h1⟩ := List.any_eq_true.1 h
      simp only [Bool.and_eq_true, decide_eq_true_eq] at h1
      exact ⟨(fun e => by cases e), fun e => absurd h1 (e m hm)⟩
    · rename_i h
      refine ⟨fun _ m hm h1 => h (List.any_eq_true.2 ⟨m, hm, by simp [h1]⟩), fun _ => rfl⟩
theorem overP_two (l : List Core) (t : Bytes) : overP l t = 2 ↔ ∃ m ∈ l, cl m = 1 ∧ m.kind ≠ 1 ∧ tgt m = t := by
  unfold overP
  split
  · rename_i h
    obtain ⟨m, hm, h1⟩ := List.any_eq_true.1 h
    simp only [Bool.and_eq_true, decide_eq_true_eq] at h1
    exact ⟨fun _ => ⟨m, hm, h1.1.1, h1.1.2, h1.2⟩, fun _ => rfl⟩
  · rename_i h
    have hno : ¬ ∃ m ∈ l, cl m = 1 ∧ m.kind ≠ 1 ∧ tgt m = t := by
      rintro ⟨m, hm, h1, h2, h3⟩
      exact h (List.any_eq_true.2 ⟨m, hm, by simp [h1, h2, h3]⟩)
    split
    · exact ⟨(fun e => by cases e), fun e => absurd e hno⟩
    · exact ⟨(fun e => by cases e), fun e => absurd e hno⟩
theorem hidesP_iff (l : List Core) (t : Bytes) : hidesP l t = true ↔ ∃ m ∈ l, tgt m = t ∧ (cl m = 2 ∨ (cl m = 1 ∧ m.kind ≠ 1)) := by
  unfold hidesP
  rw [Bool.or_eq_true, decide_eq_true_eq, overP_two, goneP, List.any_eq_true]
  constructor
  · rintro (⟨m, hm, h⟩ | ⟨m, hm, h1, h2, h3⟩)
    · simp only [Bool.and_eq_true, decide_eq_true_eq] at h
      exact ⟨m, hm, h.2, .inl h.1⟩
    · exact ⟨m, hm, h3, .inr ⟨h1, h2⟩⟩
  · rintro ⟨m, hm, h1, h2 | ⟨h2, h3⟩⟩
    · exact .inl ⟨m, hm, by simp [h1, h2]⟩
    · exact .inr ⟨m, hm, h2, h3, h1⟩
theorem markedP_iff (l : List Core) (t : Bytes) : markedP l t = true ↔ ∃ m ∈ l, tgt m = t ∧ cl m = 3 := by
  unfold markedP
  rw [List.any_eq_true]
  constructor
  · rintro ⟨m, hm, h⟩
    simp only [Bool.and_eq_true, decide_eq_true_eq] at h
    exact ⟨m, hm, h.2, h.1⟩
  · rintro ⟨m, hm, h1, h2⟩
    exact ⟨m, hm, by simp [h1, h2]⟩
theorem letsStay_iff (m : Core) (p : Bytes) (hp : p ≠ []) : letsStay m p = true ↔ ¬ (cl m = 2 ∧ (p = tgt m ∨ tgt m = [] ∨ tgt m ∈ above p)) ∧ ¬ (cl m = 3 ∧ (tgt m = [] ∨ tgt m ∈ above p)) ∧ ¬ (cl m = 1 ∧ p = tgt m) ∧ ¬ (cl m = 1 ∧ (tgt m = [] ∨ tgt m ∈ above p) ∧ m.kind ≠ 1) := by
  unfold letsStay
  rw [under_above _ _ hp]
  show (!((decide (cl m = 2) && (decide (p = tgt m) || (decide (tgt m = []) || decide (tgt m ∈ above p)))) || (decide (cl m = 3) && (decide (tgt m = []) || decide (tgt m ∈ above p))) || (decide (cl m = 1) && decide (p = tgt m))) && !(decide (cl m = 1) && (decide (tgt m = []) || decide (tgt m ∈ above p)) && decide (m.kind ≠ 1))) = true ↔ _
  simp only [Bool.and_eq_true, Bool.not_eq_true', ← Bool.not_eq_true, Bool.or_eq_true, decide_eq_true_eq, not_or, and_assoc]
theorem staysM_eq (l : List Core) (p : Bytes) : staysM l p = staysP l p := by
  by_cases hp : p = []
  · simp [staysM, staysP, hp]
  rw [Bool.eq_iff_iff]
  unfold staysM staysP
  simp only [Bool.and_eq_true, decide_eq_true_eq, Bool.not_eq_true', ← Bool.not_eq_true, List.all_eq_true, List.any_eq_true, not_exists, not_and]
  constructor
  · rintro ⟨⟨⟨⟨⟨_, h1⟩, h2⟩, h3⟩, h4⟩, h5⟩
    refine ⟨hp, fun m hm => (letsStay_iff m p hp).2 ⟨?_, ?_, ?_, ?_⟩⟩
    · rintro ⟨hc, h | h | h⟩
      · exact h3 ((hidesP_iff l p).2 ⟨m, hm, h.symm, .inl hc⟩)
      · exact tgt_ne m (.inr hc) h
      · exact h4 _ h ((hidesP_iff l _).2 ⟨m, hm, rfl, .inl hc⟩)
    · rintro ⟨hc, h | h⟩
      · exact h2 ((markedP_iff l []).2 ⟨m, hm, h, hc⟩)
      · exact h5 _ h ((markedP_iff l _).2 ⟨m, hm, rfl, hc⟩)
    · rintro ⟨hc, h⟩
      exact (overP_zero l p).1 h1 m hm ⟨hc, h.symm⟩
    · rintro ⟨hc, h | h, hk⟩
      · exact tgt_ne m (.inl hc) h
      · exact h4 _ h ((hidesP_iff l _).2 ⟨m, hm, rfl, .inr ⟨hc, hk⟩⟩)
  · rintro ⟨_, h⟩
    have hh : ∀ m ∈ l, _ := fun m hm => (letsStay_iff m p hp).1 (h m hm)
    refine ⟨⟨⟨⟨⟨hp, ?_⟩, ?_⟩, ?_⟩, ?_⟩, ?_⟩
    · exact (overP_zero l p).2 fun m hm h1 => (hh m hm).2.2.1 ⟨h1.1, h1.2.symm⟩
    · intro e
      obtain ⟨m, hm, h1, h2⟩ := (markedP_iff l []).1 e
      exact (hh m hm).2.1 ⟨h2, .inl h1⟩
    · intro e
      obtain ⟨m, hm, h1, h2 | ⟨h2, h3⟩⟩ := (hidesP_iff l p).1 e
      · exact (hh m hm).1 ⟨h2, .inl h1.symm⟩
      · exact (hh m hm).2.2.1 ⟨h2, h1.symm⟩
    · intro t ht e
      obtain ⟨m, hm, h1, h2 | ⟨h2, h3⟩⟩ := (hidesP_iff l t).1 e
      · exact (hh m hm).1 ⟨h2, .inr (.inr (by rw [h1]; exact ht))⟩
      · exact (hh m hm).2.2.2 ⟨h2, .inr (by rw [h1]; exact ht), h3⟩
    · intro t ht e
      obtain ⟨m, hm, h1, h2⟩ := (markedP_iff l t).1 e
      exact (hh m hm).2.1 ⟨h2, .inr (by rw [h1]; exact ht)⟩
end Go.Eng
set_option linter.unusedVariables false
set_option linter.unusedSimpArgs false
/- Rows of one width, read and written; a stable order of Members, each with its first place. -/
namespace Go.Eng
theorem fl_at {α : Type} (f : α → List Value) (w : Nat) (hw : ∀ x, (f x).length = w) (l : List α) (k : Nat) (x : α) (h : l[k]? = some x) (j : Nat) (hj : j < w) : (l.flatMap f)[0 + k * w + j]? = (f x)[j]? := by
  rw [Nat.zero_add]; exact flat_at f w hw l k x h j hj
theorem fl_elem {α : Type} (f : α → List Value) (w : Nat) (hw : ∀ x, (f x).length = w) (l : List α) (k : Nat) (x : α) (h : l[k]? = some x) : ((l.flatMap f).drop (0 + k * w)).take (f x).length = f x := by
  apply List.ext_getElem?
  intro j
  rw [List.getElem?_take]
  split
  · rename_i hj
    rw [List.getElem?_drop, fl_at f w hw l k x h j (by rw [← hw x]; exact hj)]
  · rename_i hj
    rw [List.getElem?_eq_none (by omega)]
theorem fl_splice {α : Type} (f : α → List Value) (w : Nat) (hw : ∀ x, (f x).length = w) (l : List α) (k : Nat) (x : α) (hk : k < l.length) : splice (l.flatMap f) (0 + k * w) (Value.agg (f x).toArray).cells.toList = (l.set k x).flatMap f := by
  have e : (Value.agg (f x).toArray).cells.toList = f x := rfl
  rw [e, Nat.zero_add]
  have h1 : ∀ (l : List α) (k : Nat), k ≤ l.length → (l.flatMap f).take (k * w) = (l.take k).flatMap f ∧ (l.flatMap f).drop (k * w) = (l.drop k).flatMap f := by
    intro l k hk
    have e1 : l.flatMap f = (l.take k).flatMap f ++ (l.drop k).flatMap f := by rw [← List.flatMap_append, List.take_append_drop]
    have e2 : ((l.take k).flatMap f).length = k * w := by rw [flat_len f w hw, List.length_take, Nat.min_eq_left hk]
    rw [e1]
    exact ⟨by rw [List.take_left' e2], by rw [List.drop_left' e2]⟩
  unfold splice
  rw [hw x, show k * w + w = (k + 1) * w by rw [Nat.add_mul, Nat.one_mul], (h1 l k (by omega)).1, (h1 l (k + 1) (by omega)).2, List.set_eq_take_append_cons_drop, if_pos hk]
  simp [List.flatMap_append]

abbrev Xb := Mb × Nat
def xc (x : Xb) : List Value := x.1.cells
theorem xc_len (x : Xb) : (xc x).length = 9 := rfl
theorem xcs_len (l : List Xb) : (l.flatMap xc).length = l.length * 9 := flat_len xc 9 xc_len l
theorem xc_map (l : List Xb) : l.flatMap xc = (l.map (·.1)).flatMap Mb.cells := by rw [List.flatMap_map]; rfl

/-- Ahead of: by the path, by the place where the paths are the same. -/
def plt (x y : Xb) : Prop := Op.bytesLess x.1.path y.1.path = true ∨ (x.1.path = y.1.path ∧ x.2 < y.2)
def stab (x y : Xb) : Prop := x.1.path = y.1.path → x.2 < y.2
theorem bl_ne {a b : Bytes} (h : Op.bytesLess a b = true) : a ≠ b := by
  rintro rfl; rw [bl_irrefl] at h; cases h
theorem plt_stab {x y : Xb} (h : plt x y) : stab x y := by
  intro e
  rcases h with h | h
  · exact absurd e (bl_ne h)
  · exact h.2
theorem plt_trans {x y z : Xb} (h : plt x y) (k : plt y z) : plt x z := by
  rcases h with h | ⟨h1, h2⟩ <;> rcases k with k | ⟨k1, k2⟩
  · exact .inl (bl_trans h k)
  · exact .inl (by rw [← k1]; exact h)
  · exact .inl (by rw [h1]; exact k)
  · exact .inr ⟨h1.trans k1, by omega⟩
theorem plt_of {x y : Xb} (hs : stab x y) (h : Op.bytesLess y.1.path x.1.path = false) : plt x y := by
  have := bl_leq x.1.path y.1.path
  rw [h] at this
  simp only [Bool.not_false, Bool.or_eq_true, decide_eq_true_eq] at this
  rcases this with h | h
  · exact .inl h
  · exact .inr ⟨h, hs h⟩
theorem plt_asymm {x y : Xb} (h : plt x y) (k : plt y x) : False := by
  have := plt_trans h k
  rcases this with h | h
  · rw [bl_irrefl] at h; cases h
  · omega

theorem cmp_lt : ∀ a b : Bytes, decide (Lib.compareBytes a b < 0) = Op.bytesLess a b
  | [], [] => rfl
  | [], _ :: _ => rfl
  | _ :: _, [] => rfl
  | a :: x, b :: y => by
    have ih := cmp_lt x y
    simp only [Lib.compareBytes, Op.bytesLess]
    by_cases h : a < b
    · simp [h]
    · by_cases h2 : b < a
      · have h3 : ¬ a = b := by rintro rfl; exact h h2
        simp [h, h2, h3]
      · have h3 : a = b := UInt8.le_antisymm (UInt8.not_lt.1 h2) (UInt8.not_lt.1 h)
        subst h3
        simp [h]
        rw [← ih]
theorem cmp_lt_true {a b : Bytes} (h : Lib.compareBytes a b < 0) : Op.bytesLess a b = true := by rw [← cmp_lt]; exact decide_eq_true h
theorem cmp_lt_false {a b : Bytes} (h : ¬ Lib.compareBytes a b < 0) : Op.bytesLess a b = false := by rw [← cmp_lt]; exact decide_eq_false h

theorem swap1 {α : Type} (A C : List α) (s m : α) : ((A ++ s :: m :: C).set (A.length + 1) s).set A.length m = A ++ m :: s :: C := by simp [List.set_append]
theorem swap2 {α : Type} (A C : List α) (s m : α) : ((A ++ s :: m :: C).set A.length m).set (A.length + 1) s = A ++ m :: s :: C := by simp [List.set_append]
theorem swap3 {α : Type} (A B C : List α) (s m : α) : ((A ++ s :: (B ++ m :: C)).set A.length m).set (A.length + 1 + B.length) s = A ++ m :: (B ++ s :: C) := by
  have h1 : ¬ (A.length + 1 + B.length < A.length) := by omega
  have h2 : A.length + 1 + B.length - A.length = B.length + 1 := by omega
  simp [List.set_append, h1, h2]
theorem at0 {α : Type} (A C : List α) (m : α) : (A ++ m :: C)[A.length]? = some m := by simp
theorem at1 {α : Type} (A C : List α) (s m : α) : (A ++ s :: m :: C)[A.length + 1]? = some m := by
  rw [List.getElem?_append_right (by omega), show A.length + 1 - A.length = 1 by omega]; rfl
theorem snoc_of {α : Type} {l : List α} (h : 0 < l.length) : ∃ U s, l = U ++ [s] := ⟨l.dropLast, l.getLast (List.ne_nil_of_length_pos h), (List.dropLast_concat_getLast _).symm⟩
theorem pw_mid {S1 S2 : List Xb} {m : Xb} (h : (S1 ++ S2).Pairwise plt) (h1 : ∀ s ∈ S2, plt m s) (h2 : ∀ s ∈ S1, plt s m) : (S1 ++ m :: S2).Pairwise plt := by
  rw [List.pairwise_append] at h ⊢
  obtain ⟨ha, hb, hc⟩ := h
  refine ⟨ha, List.pairwise_cons.2 ⟨h1, hb⟩, ?_⟩
  intro a ha' b hb'
  rcases List.mem_cons.1 hb' with rfl | hb'
  · exact h2 a ha'
  · exact hc a ha' b hb'
theorem stab_at {S : List Xb} (h : S.Pairwise stab) {k : Nat} {m : Xb} (hm : S[k]? = some m) : ∀ t ∈ S.take k, stab t m := by
  intro t ht
  obtain ⟨i, hi, rfl⟩ := List.mem_iff_getElem.1 ht
  have hik : i < k := by simp at hi; omega
  have hkl := (List.getElem?_eq_some_iff.1 hm).1
  have hmk := (List.getElem?_eq_some_iff.1 hm).2
  have := List.pairwise_iff_getElem.1 h i k (by omega) hkl hik
  rw [hmk] at this
  simpa using this
theorem pw_take {V : List Xb} (hV : V.Pairwise plt) {k : Nat} {v : Xb} (hv : V[k]? = some v) : ∀ w ∈ V.take k, plt w v := by
  intro t ht
  obtain ⟨i, hi, rfl⟩ := List.mem_iff_getElem.1 ht
  have hik : i < k := by simp at hi; omega
  have hkl := (List.getElem?_eq_some_iff.1 hv).1
  have hmk := (List.getElem?_eq_some_iff.1 hv).2
  have := List.pairwise_iff_getElem.1 hV i k (by omega) hkl hik
  rw [hmk] at this
  simpa using this
theorem pw_drop {V : List Xb} (hV : V.Pairwise plt) {k : Nat} {v : Xb} (hv : V[k]? = some v) : ∀ w ∈ V.drop (k + 1), plt v w := by
  intro t ht
  obtain ⟨i, hi, rfl⟩ := List.mem_iff_getElem.1 ht
  have hkl := (List.getElem?_eq_some_iff.1 hv).1
  have hmk := (List.getElem?_eq_some_iff.1 hv).2
  have hil : k + 1 + i < V.length := by simp at hi; omega
  have := List.pairwise_iff_getElem.1 hV k (k + 1 + i) hkl hil (by omega)
  rw [hmk] at this
  simpa using this
theorem take_plt {V : List Xb} (hV : V.Pairwise plt) {k : Nat} {v u : Xb} (hv : V[k]? = some v) (h : plt v u) : ∀ w ∈ V.take (k + 1), plt w u := by
  intro w hw
  rw [List.take_add_one, hv] at hw
  rcases List.mem_append.1 hw with hw | hw
  · exact plt_trans (pw_take hV hv w hw) h
  · simp at hw; rw [hw]; exact h
theorem drop_plt {V : List Xb} (hV : V.Pairwise plt) {k : Nat} {v u : Xb} (hv : V[k]? = some v) (h : plt u v) : ∀ w ∈ V.drop k, plt u w := by
  intro w hw
  have hkl := (List.getElem?_eq_some_iff.1 hv).1
  have hmk := (List.getElem?_eq_some_iff.1 hv).2
  rw [List.drop_eq_getElem_cons hkl, hmk] at hw
  rcases List.mem_cons.1 hw with rfl | hw
  · exact h
  · exact plt_trans h (pw_drop hV hv w hw)
/-- Where two sorted rows are parted so that what stands ahead is ahead of what stands behind. -/
theorem part_cross {U V : List Xb} {h s : Nat} (hU : U.Pairwise plt) (hV : V.Pairwise plt) (hsh : s ≤ h)
    (h1 : s = h - V.length ∨ ∃ u v, 0 < s ∧ U[s - 1]? = some u ∧ V[h - s]? = some v ∧ plt u v)
    (h2 : s = min h U.length ∨ ∃ u v, s < h ∧ U[s]? = some u ∧ V[h - 1 - s]? = some v ∧ plt v u) :
    (∀ x ∈ U.take s, ∀ y ∈ V.drop (h - s), plt x y) ∧ (∀ x ∈ V.take (h - s), ∀ y ∈ U.drop s, plt x y) := by
  constructor
  · intro x hx y hy
    rcases h1 with h1 | ⟨u, v, h0, hu, hv, huv⟩
    · have hsl : 0 < s := by
        rcases Nat.eq_zero_or_pos s with h' | h'
        · subst h'; simp at hx
        · exact h'
      rw [List.drop_of_length_le (by omega)] at hy
      cases hy
    · have e : s - 1 + 1 = s := by omega
      have hxu := take_plt hU hu huv x (by rw [e]; exact hx)
      exact drop_plt (u := x) hV hv hxu y hy
  · intro x hx y hy
    rcases h2 with h2 | ⟨u, v, h0, hu, hv, huv⟩
    · rcases Nat.le_total h U.length with h' | h'
      · rw [Nat.min_eq_left h'] at h2
        subst h2
        simp at hx
      · rw [Nat.min_eq_right h'] at h2
        rw [List.drop_of_length_le (by omega)] at hy
        cases hy
    · have e : h - 1 - s + 1 = h - s := by omega
      have hxu := take_plt hV hv huv x (by rw [e]; exact hx)
      exact drop_plt (u := x) hU hu hxu y hy
/-- Every block of so many is in order. -/
def BlkS (s : Nat) (d : List Xb) : Prop := ∀ k, ((d.drop (k * s)).take s).Pairwise plt
/-- A row of blocks of which the first some are in order. -/
def HeadS (s j : Nat) (d : List Xb) : Prop := ∀ k, k < j → ((d.drop (k * s)).take s).Pairwise plt
theorem drop_take_left {α : Type} {X Z : List α} {c n : Nat} (h : c + n ≤ X.length) : ((X ++ Z).drop c).take n = (X.drop c).take n := by
  rw [List.drop_append_of_le_length (by omega), List.take_append_of_le_length (by rw [List.length_drop]; omega)]
theorem HeadS.left {s j : Nat} {X Z Z' : List Xb} (h : HeadS s j (X ++ Z)) (hl : X.length = j * s) : HeadS s j (X ++ Z') := by
  intro k hk
  have e : k * s + s ≤ X.length := by
    rw [hl, ← Nat.succ_mul]; exact Nat.mul_le_mul_right _ hk
  rw [drop_take_left e]
  have := h k hk
  rwa [drop_take_left e] at this
theorem HeadS.snoc {s j : Nat} {X W Z : List Xb} (h : HeadS s j (X ++ (W ++ Z))) (hl : X.length = j * s) (hw : W.length = s ∨ Z = [] ∧ W.length ≤ s) (hW : W.Pairwise plt) : HeadS s (j + 1) (X ++ (W ++ Z)) := by
  intro k hk
  rcases Nat.lt_or_ge k j with hk' | hk'
  · exact h k hk'
  · obtain rfl : k = j := by omega
    rw [← hl, List.drop_left]
    rcases hw with hw | ⟨rfl, hw⟩
    · rw [← hw, List.take_left]; exact hW
    · rw [List.append_nil, List.take_of_length_le hw]; exact hW
theorem HeadS.all {s j : Nat} {d : List Xb} (h : HeadS s j d) (hl : d.length ≤ j * s) : BlkS s d := by
  intro k
  rcases Nat.lt_or_ge k j with hk | hk
  · exact h k hk
  · have : j * s ≤ k * s := Nat.mul_le_mul_right _ hk
    rw [List.drop_of_length_le (by omega)]
    simp
theorem BlkS.one {s : Nat} {d : List Xb} (h : BlkS s d) (hl : d.length ≤ s) : d.Pairwise plt := by
  have := h 0
  rwa [Nat.zero_mul, List.drop_zero, List.take_of_length_le hl] at this
/-- What stands behind some whole blocks. -/
theorem BlkS.behind {s : Nat} {X Z : List Xb} (h : BlkS s (X ++ Z)) {j : Nat} (hl : X.length = j * s) : BlkS s Z := by
  intro k
  have := h (j + k)
  have e : (j + k) * s = X.length + k * s := by rw [Nat.add_mul, hl]
  rwa [e, ← List.drop_drop, List.drop_left] at this
theorem stab_mid {X S S' Y : List Xb} (h : (X ++ S ++ Y).Pairwise stab) (hp : S'.Perm S) (hs : S'.Pairwise plt) : (X ++ S' ++ Y).Pairwise stab := by
  rw [List.pairwise_append, List.pairwise_append] at h ⊢
  obtain ⟨⟨h1, h2, h3⟩, h4, h5⟩ := h
  refine ⟨⟨h1, hs.imp plt_stab, fun a ha b hb => h3 a ha b (hp.mem_iff.1 hb)⟩, h4, ?_⟩
  intro a ha b hb
  refine h5 a ?_ b hb
  rcases List.mem_append.1 ha with k | k
  · exact List.mem_append_left _ k
  · exact List.mem_append_right _ (hp.mem_iff.1 k)
theorem perm_mid {α : Type} {X S S' Y o : List α} (h : (X ++ S ++ Y).Perm o) (hp : S'.Perm S) : (X ++ S' ++ Y).Perm o :=
  ((hp.append_left X).append_right Y).trans h
theorem drop_at {α : Type} {S : List α} {k : Nat} {m : α} (hm : S[k]? = some m) : S.drop k = m :: S.drop (k + 1) := by
  have hkl := (List.getElem?_eq_some_iff.1 hm).1
  have hmk := (List.getElem?_eq_some_iff.1 hm).2
  rw [List.drop_eq_getElem_cons hkl, hmk]
end Go.Eng
set_option linter.unusedVariables false
set_option linter.unusedSimpArgs false
/- From a row's reading of its arguments and its listed variables to fixed memory; from a contract to the row's step. -/
namespace Go.Eng

/-! ### all of a heap, fixed -/
def Mem.all (H : Hp) : Mem := fun b o => H[b]? = some o
theorem Sep.all (H : Hp) : Sep H [] (Mem.all H) := ⟨⟨[], rfl, List.nodup_nil, (fun b hb => by cases hb), fun b o _ hb => by cases hb⟩, fun b o h => h⟩
theorem Ev.run {P : Program} {f : FuncId} {vs : Array Value} {v : Value} {W : World} (h : Ev P f vs [] (Mem.all W.heap) (Pu (Mem.all W.heap) v)) : Calls P f vs W fun e W' => e = .returned v ∧ RowKit.Below W.heap.size W W' := by
  refine (h [] W (Sep.all W.heap)).mono ?_
  rintro e W' ⟨v', L', M', h1, h2, h3, h4, rfl, rfl, rfl⟩
  have hb : ∀ k, k < W.heap.size → W'.heap[k]? = W.heap[k]? := by
    intro k hk
    have h5 : Mem.all W.heap k W.heap[k] := by
      show W.heap[k]? = some W.heap[k]
      exact Array.getElem?_eq_getElem hk
    rw [h3.mem k _ h5, Array.getElem?_eq_getElem hk]
  refine ⟨h1, ⟨h2.os, h2.tape, h2.output, ?_, hb⟩⟩
  rcases Nat.eq_zero_or_pos W.heap.size with h0 | h0
  · omega
  · have := hb (W.heap.size - 1) (by omega)
    rw [Array.getElem?_eq_getElem (show W.heap.size - 1 < W.heap.size by omega)] at this
    have := (Array.getElem?_eq_some_iff.1 this).1
    omega

theorem all_cell {w : World} {g o : Nat} {v : Value} (h : w.cell? ⟨g, o, none⟩ = some v) : (Mem.all w.heap).cell g o v := by
  unfold World.cell? at h
  split at h
  · rename_i c t fr hb
    simp at h
    exact ⟨c, t, fr, hb, h⟩
  · cases h
theorem spot_none {w : World} {a : Addr} {v : Value} (h : w.cell? a = some v) : a = ⟨a.block, a.off, none⟩ := by
  unfold World.cell? at h
  split at h
  · split at h
    · cases h
    · rename_i hs
      obtain ⟨b, o, s⟩ := a
      cases s with
      | none => rfl
      | some s => simp at hs
  · cases h

/-! ### readings -/
section
variable {H : Type} {enc : TypeId × Value → H} {P : Program} {w : World} {sp : Nat → Bool} {hd : Bool}
abbrev Rd (enc : TypeId × Value → H) (P : Program) (w : World) (sp : Nat → Bool) (hd : Bool) (n : Nat) (t : TypeId) (cs : List Value) (d : DataW H) : Prop := ∃ p, DataW.trod enc P w 0 sp hd n t cs = some (d, p)

/-- What a count of a reading's values and letters promises. -/
structure BulkOk (bulk : DataW H → Nat) : Prop where
  str : ∀ l : List UInt8, l.length ≤ bulk (.lit (.string l))
  sl : ∀ (es rs : List (DataW H)), es.length ≤ bulk (.slice es rs) ∧ ∀ d ∈ es, bulk d ≤ bulk (.slice es rs)
  agg : ∀ (ps : List (DataW H)), ∀ d ∈ ps, bulk d ≤ bulk (.agg ps)
variable {bulk : DataW H → Nat} (hB : BulkOk bulk)

theorem Rd.str {n t : Nat} {cs : List Value} {d : DataW H} (ht : P.underlying t = some .string) (h : Rd enc P w sp hd n t cs d) {N : Nat} (hB : BulkOk bulk) (hN : bulk d ≤ N) : ∃ l : List UInt8, cs = [.string (bs l)] ∧ l.length ≤ N := by
  obtain ⟨p, h⟩ := h
  obtain ⟨s, rfl, hx, hs⟩ := DataW.trod_string ht h
  simp only [Prod.mk.injEq] at hx
  have h1 := hB.str s.data.toList
  rw [← hx.1] at h1
  exact ⟨s.data.toList, by rw [show bs s.data.toList = s from bs_self s], by omega⟩
theorem Rd.int {n t : Nat} {k : IntKind} {cs : List Value} {d : DataW H} (ht : P.underlying t = some (.int k)) (h : Rd enc P w sp hd n t cs d) : ∃ z, cs = [.int k z] ∧ (Lit.int k z).wf = true := by
  obtain ⟨p, h⟩ := h
  obtain ⟨z, rfl, hx, hw⟩ := DataW.trod_int ht h
  exact ⟨z, rfl, hw⟩
theorem Rd.bool {n t : Nat} {cs : List Value} {d : DataW H} (ht : P.underlying t = some .bool) (h : Rd enc P w sp hd n t cs d) : ∃ b, cs = [.bool b] := by
  obtain ⟨p, h⟩ := h
  obtain ⟨b, rfl, _⟩ := DataW.trod_bool ht h
  exact ⟨b, rfl⟩

/-- A slice of anything: each element's reading tells what it is. -/
theorem Rd.sl {α : Type} [Inhabited α] {n t e sz : Nat} {cs : List Value} {d : DataW H} (ht : P.underlying t = some (.slice e)) (hc : P.cellsOf e = sz) (f : α → List Value) (hf : ∀ x, (f x).length = sz) (hz : 0 < sz) (Q : α → Prop) (hB : BulkOk bulk) {N : Nat} (hN : bulk d ≤ N)
    (hel : ∀ n cs d, Rd enc P w sp hd n e cs d → bulk d ≤ N → ∃ x, cs = f x ∧ Q x) (h : Rd enc P w sp hd n t cs d) :
    ∃ (v : Value) (l : List α), cs = [v] ∧ ISl (Mem.all w.heap) v sz l.length (l.flatMap f) ∧ l.length ≤ N ∧ ∀ x ∈ l, Q x := by
  obtain ⟨p, h⟩ := h
  rcases Deep.open_slice ht h with ⟨rfl, _⟩ | ⟨a, len, cap, m, k, D, Pl, rfl, _, hl, hm, hmm, hx, hi⟩
  · exact ⟨.slice none 0 0, [], rfl, ⟨none, 0, rfl, by simp, Nat.le_refl _, Nat.zero_le _, .inl rfl⟩, Nat.zero_le _, (fun x hx => by cases hx)⟩
  · simp only [Prod.mk.injEq] at hx
    obtain ⟨rfl, _⟩ := hx
    have hle := hB.sl ((List.range len).map D) ((List.range (m - len)).map fun j => D (len + j))
    have hlm : len ≤ m := by rw [hmm]; split <;> omega
    rw [hc] at hi
    have hex : ∀ i, i < len → ∃ x, w.cells? 0 (a.add (i * sz)) sz = some (f x) ∧ Q x := by
      intro i hil
      obtain ⟨cs', h1, h2⟩ := hi i (by omega)
      obtain ⟨x, rfl, hq⟩ := hel k cs' (D i) ⟨_, h2⟩ (by
        have := hle.2 (D i) (List.mem_map.2 ⟨i, List.mem_range.2 hil, rfl⟩)
        omega)
      exact ⟨x, h1, hq⟩
    obtain ⟨g, hg⟩ := Deep.choose_lt hex
    refine ⟨.slice (some a) len cap, (List.range len).map g, rfl, ⟨some a, cap, by simp, ?_, by simpa using hl, hm, ?_⟩, ?_, ?_⟩
    · rw [flat_len f sz hf]
    · skip
      · rcases Nat.eq_zero_or_pos len with h0 | h0
        · exact .inl (by simp [h0])
        · have ha : a = ⟨a.block, a.off, none⟩ := by
            obtain ⟨_, hlen, hcell⟩ := World.cells?_some (hg 0 h0).1
            have h1 := hcell 0 hz
            rw [Nat.zero_mul] at h1
            have e0 : (a.add 0).add 0 = a := rfl
            rw [e0, List.getElem?_eq_getElem (by omega)] at h1
            exact spot_none h1
          refine .inr ⟨a.block, a.off, by rw [← ha], ?_⟩
          intro j v hj
          have hjl := (List.getElem?_eq_some_iff.1 hj).1
          rw [flat_len f sz hf] at hjl
          simp only [List.length_map, List.length_range] at hjl
          have hq : j / sz < len := Nat.div_lt_of_lt_mul (by rwa [Nat.mul_comm])
          have hr : j % sz < sz := Nat.mod_lt _ hz
          have hje : j = j / sz * sz + j % sz := by rw [Nat.mul_comm]; exact (Nat.div_add_mod j sz).symm
          have hgx : ((List.range len).map g)[j / sz]? = some (g (j / sz)) := by simp [hq]
          have hfa := flat_at f sz hf _ _ _ hgx (j % sz) hr
          rw [← hje, hj] at hfa
          obtain ⟨_, hlen, hcell⟩ := World.cells?_some (hg (j / sz) hq).1
          have h1 := hcell (j % sz) hr
          rw [← hfa] at h1
          rw [ha, WideShapes.add_plain, WideShapes.add_plain] at h1
          have h2 := all_cell h1
          rw [Nat.add_assoc, ← hje] at h2
          exact h2
    · have := hle.1
      simp at this ⊢
      omega
    · intro x hx
      obtain ⟨i, hi', rfl⟩ := List.mem_map.1 hx
      exact (hg i (List.mem_range.1 hi')).2
/-- The fields of a struct. -/
theorem Rd.struct {n t : Nat} {fs : Array Field} {cs : List Value} {d : DataW H} (ht : P.underlying t = some (.struct fs)) (hB : BulkOk bulk) {N : Nat} (hN : bulk d ≤ N) (h : Rd enc P w sp hd n t cs d) :
    cs.length = P.cellsOf t ∧ ∃ k, ∀ (i : Nat) (f : Field), fs[i]? = some f → ∃ d', Rd enc P w sp hd k f.type ((cs.drop f.offset).take (P.cellsOf f.type)) d' ∧ bulk d' ≤ N := by
  obtain ⟨p, h⟩ := h
  obtain ⟨xs, k, _, hx, hl, hxl, hf⟩ := DataW.trod_struct ht h
  refine ⟨hl, k, fun i f hi => ?_⟩
  have h1 := hf i f hi
  have hil : i < xs.length := by rw [hxl]; exact (Array.getElem?_eq_some_iff.1 hi).1
  rw [List.getElem?_eq_getElem hil] at h1
  simp only [Prod.mk.injEq] at hx
  refine ⟨xs[i].1, ⟨xs[i].2, h1⟩, ?_⟩
  have := hB.agg (xs.map (·.1)) xs[i].1 (List.mem_map.2 ⟨xs[i], List.getElem_mem hil, rfl⟩)
  rw [← hx.1] at this
  omega

/-! ### a map with numbers as keys; functions by name -/
theorem keyOf_int {key : TypeId} {ik : IntKind} (hk : P.underlying key = some (.int ik)) {v : Value} {l : Lit} (h : keyOf P key v = some l) : ∃ m, v = .int ik m ∧ l = .int ik m := by
  unfold keyOf mapKey at h
  simp only [hk] at h
  cases v <;> simp at h
  rename_i q m
  obtain ⟨⟨rfl, _⟩, rfl⟩ := h
  exact ⟨m, rfl, rfl⟩
theorem findNow_int (ik : IntKind) (z : Int) : ∀ (l : List MapEntry) (i : Nat), (∀ x ∈ l, ∃ m, x.key = .int ik m) →
    (∃ j x, x ∈ l ∧ x.key = .int ik z ∧ Instr.findNow (.int ik) (.int ik z) l i = some (some (j, x.val))) ∨ (Instr.findNow (.int ik) (.int ik z) l i = some none ∧ ∀ x ∈ l, x.key ≠ .int ik z)
  | [], i, _ => .inr ⟨rfl, fun x hx => by cases hx⟩
  | y :: l, i, h => by
    obtain ⟨m, hm⟩ := h y (by simp)
    have hs : Instr.sameNow (.int ik) (.int ik z) y.key = some (z == m) := by rw [hm]; simp [Instr.sameNow]
    by_cases hz : z = m
    · subst hz
      refine .inl ⟨i, y, by simp, hm, ?_⟩
      simp [Instr.findNow, hs]
    · have hb : (z == m) = false := by simpa using hz
      rw [hb] at hs
      rcases findNow_int ik z l (i + 1) (fun x hx => h x (by simp [hx])) with ⟨j, x, hx, hk, hf⟩ | ⟨hf, hno⟩
      · refine .inl ⟨j, x, by simp [hx], hk, ?_⟩
        simp only [Instr.findNow, hs]; exact hf
      · refine .inr ⟨by simp only [Instr.findNow, hs]; exact hf, ?_⟩
        intro x hx
        rcases List.mem_cons.1 hx with rfl | hx
        · rw [hm]; intro e; cases e; exact hz rfl
        · exact hno x hx
theorem Rd.mapInt {n t key elem : Nat} {ik : IntKind} {cs : List Value} {L : List (Lit × DataW H)} (ht : P.underlying t = some (.map key elem)) (hk : P.underlying key = some (.int ik)) (h : Rd enc P w sp hd n t cs (.map L)) :
    ∃ b es clock k, cs = [.map (some b)] ∧ w.heap[b]? = some (.map es clock) ∧ ∀ z : Int,
      (∃ i v d, Instr.findNow (.int ik) (.int ik z) es.toList 0 = some (some (i, v)) ∧ (Lit.int ik z, d) ∈ L ∧ v.formed P elem = true ∧ Rd enc P w sp hd k elem v.cells.toList d) ∨
      (Instr.findNow (.int ik) (.int ik z) es.toList 0 = some none ∧ ∀ d, (Lit.int ik z, d) ∉ L) := by
  obtain ⟨p, h⟩ := h
  rcases WideElems.open_map ht h with ⟨_, hx⟩ | ⟨b, es, clock, k, rfl, hcs, hb, _, F, hx⟩
  · simp at hx
  simp only [Prod.mk.injEq, DataW.map.injEq] at hx
  refine ⟨b, es, clock, k, hcs, hb, fun z => ?_⟩
  have hperm := WideShapes.sorted_perm (es.toList.map (WideElems.rg P key (WideElems.elemAt enc P w 0 sp hd k elem)))
  rw [← hx.1] at hperm
  have hkeys : ∀ x ∈ es.toList, ∃ m, x.key = .int ik m := fun x hx' => by
    obtain ⟨y, hy⟩ := F.reads x hx'
    obtain ⟨m, hm, _⟩ := keyOf_int hk (WideElems.rd_key hy)
    exact ⟨m, hm⟩
  rcases findNow_int ik z es.toList 0 hkeys with ⟨j, x, hx', hkx, hf⟩ | ⟨hf, hno⟩
  · obtain ⟨y, hy⟩ := F.reads x hx'
    obtain ⟨m, hm, hl⟩ := keyOf_int hk (WideElems.rd_key hy)
    obtain ⟨zz, hz1, hz2⟩ := WideElems.rd_val hy
    have hmz : m = z := by rw [hkx] at hm; cases hm; rfl
    subst hmz
    have hmem : (Lit.int ik m, y.2) ∈ L := by
      refine hperm.mem_iff.2 (List.mem_map.2 ⟨x, hx', ?_⟩)
      rw [WideElems.rg_of hy, ← hl]
    unfold WideElems.elemAt at hz1
    split at hz1
    · rename_i hfm
      exact .inl ⟨j, x.val, y.2, hf, hmem, hfm, zz.2, by rw [hz2]; exact hz1⟩
    · cases hz1
  · refine .inr ⟨hf, fun d hd' => ?_⟩
    obtain ⟨x, hx', he⟩ := List.mem_map.1 (hperm.mem_iff.1 hd')
    obtain ⟨y, hy⟩ := F.reads x hx'
    obtain ⟨m, hm, hl⟩ := keyOf_int hk (WideElems.rd_key hy)
    rw [WideElems.rg_of hy] at he
    have : y.1 = Lit.int ik z := congrArg Prod.fst he
    rw [hl] at this
    cases this
    exact hno x hx' hm
/-- A value of one cell, by its cells. -/
theorem formed_one {v u : Value} {t : TypeId} (h : v.formed P t = true) (hc : v.cells.toList = [u]) (hnr : ∀ d, P.underlying t = some d → d.isRow = false) : v = u := by
  cases v with
  | agg cs =>
    cases hu : P.underlying t with
    | none => simp [Value.formed, hu] at h
    | some d =>
      have := hnr d hu
      cases d <;> simp [Value.formed, hu, TypeDesc.isRow] at h this
  | tuple cs => simp [Value.formed] at h
  | _ => simpa [Value.cells] using hc
end
end Go.Eng
