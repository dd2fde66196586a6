/- SquashMerges answers true for every input of bulk at most 1048576, and its input reads as it did; the listed variables start as the program's text lays them (the engine of contracts) -/
import Derived.WalkKit
import Derived.Deep.Quiet
import Derived.Deep.LoopGhost
import Derived.Deep.MidRow
import Derived.Lib.ConvBytes
import Derived.Laws.MakeOwn
import Derived.Maps.RangeRun
import Derived.Below
import Derived.OrdersHeld
import Derived.Deep.RegionHeld3
import Derived.Laws.BitsLemmas
import Derived.RowKit
import Derived.Lib.SliceRun
import Derived.Laws.StructEq
import Derived.Laws.Entries
set_option linter.unusedVariables false
namespace Go.Eng

abbrev Hp := Array Obj
abbrev Env := List (Nat × Value)
abbrev Mem := Nat → Obj → Prop

def Env.get : Env → Nat → Option Value
  | [], _ => none
  | (k, v) :: r, t => match Nat.beq k t with
    | true => some v
    | false => Env.get r t

def evalE (σ : Env) : Operand → Option Value
  | .tmp t => σ.get t
  | .const v => some v
  | .global g => some (.pointer (some ⟨g, 0, none⟩))
  | .func f => some (.func (.func f) #[] #[])

/-- The frame holds what the list says. -/
structure Ag (n : Nat) (σ : Env) (a : Act) : Prop where
  size : a.tmps.size = n
  defers : a.defers = []
  at_ : ∀ t v, σ.get t = some v → a.tmps[t]? = some v

theorem Ag.eval {n : Nat} {σ : Env} {a : Act} (h : Ag n σ a) {x : Operand} {v : Value} (hx : evalE σ x = some v) : a.eval x = v := by
  cases x with
  | tmp t =>
    have := h.at_ t v hx
    simp [Act.eval, Array.getD_eq_getD_getElem?, this]
  | const u => simpa [evalE, Act.eval] using hx
  | global g => simpa [evalE, Act.eval] using hx
  | func f => simpa [evalE, Act.eval] using hx

theorem Env.get_cons {k : Nat} {v : Value} {r : Env} {t : Nat} : Env.get ((k, v) :: r) t = if k = t then some v else r.get t := by
  simp only [Env.get]
  by_cases h : k = t
  · subst h; simp
  · have : Nat.beq k t = false := by
      cases hb : Nat.beq k t with
      | true => exact absurd (Nat.eq_of_beq_eq_true hb) h
      | false => rfl
    simp [this, h]

theorem Ag.put {n : Nat} {σ : Env} {a : Act} (h : Ag n σ a) {d : Nat} (hd : Nat.blt d n = true) (v : Value) : Ag n ((d, v) :: σ) (a.put (some d) v) := by
  have hd' : d < n := by simpa [Nat.blt, Nat.succ_le_iff] using hd
  refine ⟨by simp [Act.put, h.size], h.defers, ?_⟩
  intro t u hu
  rw [Env.get_cons] at hu
  by_cases ht : d = t
  · subst ht
    simp at hu
    simp [Act.put, h.size, hd', hu]
  · rw [if_neg ht] at hu
    have := h.at_ t u hu
    simp [Act.put, ht, this]

/-- The list's entries are so. -/
def Env.sub (σ : Env) : Env → Prop
  | [] => True
  | p :: r => σ.get p.1 = some p.2 ∧ Env.sub σ r
theorem Env.sub.sub_mem {σ : Env} : ∀ {τ : Env}, σ.sub τ → ∀ p ∈ τ, σ.get p.1 = some p.2
  | q :: r, h, p, hp => by
    rcases List.mem_cons.1 hp with rfl | hp
    · exact h.1
    · exact Env.sub.sub_mem h.2 p hp

theorem Ag.weaken {n : Nat} {σ τ : Env} {a : Act} (h : Ag n σ a) (hs : ∀ p ∈ τ, σ.get p.1 = some p.2) : Ag n τ a := by
  refine ⟨h.size, h.defers, fun t v hv => ?_⟩
  refine h.at_ t v ?_
  induction τ with
  | nil => simp [Env.get] at hv
  | cons p r ih =>
    obtain ⟨k, u⟩ := p
    rw [Env.get_cons] at hv
    by_cases hk : k = t
    · subst hk
      simp at hv
      subst hv
      exact hs (k, u) (by simp)
    · rw [if_neg hk] at hv
      exact ih (fun p hp => hs p (by simp [hp])) hv

/-- The outside of the heap is as it was. -/
structure St (w w' : World) : Prop where
  os : w'.os = w.os
  tape : w'.tape = w.tape
  output : w'.output = w.output
theorem St.refl (w : World) : St w w := ⟨rfl, rfl, rfl⟩
theorem St.trans {a b c : World} (h : St a b) (k : St b c) : St a c := ⟨k.os.trans h.os, k.tape.trans h.tape, k.output.trans h.output⟩

/-! ### What is owned, and what is fixed -/

inductive Res where
  | blk (b : Nat) (t : TypeId) (cs : List Value)
  | obj (b : Nat) (o : Obj)
  | row (v : Value) (e : TypeId) (size : Nat) (xs : List Value)
  deriving Inhabited

/-- No cell of a row is frozen. -/
def Thaw (n : Nat) (fr : Nat × Nat) : Prop := ∀ i, i < n → ¬ (fr.1 ≤ i ∧ i < fr.2)
theorem Thaw.zero (n : Nat) : Thaw n (0, 0) := fun _ _ h => by simp at h
theorem Thaw.mono {n m : Nat} {fr : Nat × Nat} (h : Thaw n fr) (hm : m ≤ n) : Thaw m fr := fun i hi => h i (by omega)

/-- A resource holds in a heap, over these blocks. -/
def Res.sat (H : Hp) : Res → List Nat → Prop
  | .blk b t cs, fp => fp = [b] ∧ ∃ fr, Thaw cs.length fr ∧ H[b]? = some (.cells cs.toArray t fr)
  | .obj b o, fp => fp = [b] ∧ H[b]? = some o
  | .row v e size xs, fp => ∃ n, xs.length = n * size ∧
      ((v = .slice none 0 0 ∧ n = 0 ∧ fp = []) ∨
       ∃ g cap cur fr, v = .slice (some ⟨g, 0, none⟩) n cap ∧ fp = [g] ∧ Thaw cur.size fr ∧ H[g]? = some (.cells cur e fr) ∧ n ≤ cap ∧ cap ≤ maxLen ∧ cur.size = cap * size ∧ cur.toList.take (n * size) = xs)

def Sats (H : Hp) : List Res → List Nat → Prop
  | [], fp => fp = []
  | r :: rs, fp => ∃ f1 f2, fp = f1 ++ f2 ∧ r.sat H f1 ∧ Sats H rs f2

structure Sep (H : Hp) (L : List Res) (M : Mem) : Prop where
  own : ∃ fp, Sats H L fp ∧ fp.Nodup ∧ (∀ b ∈ fp, b < H.size) ∧ ∀ b o, M b o → b ∉ fp
  mem : ∀ b o, M b o → H[b]? = some o

def Mem.le (M M' : Mem) : Prop := ∀ b o, M b o → M' b o
theorem Mem.le_refl (M : Mem) : M.le M := fun _ _ h => h
theorem Mem.le_trans {A B C : Mem} (h : A.le B) (k : B.le C) : A.le C := fun b o x => k b o (h b o x)

theorem Res.sat_lt {H : Hp} {r : Res} {fp : List Nat} (h : r.sat H fp) : ∀ b ∈ fp, b < H.size := by
  cases r with
  | blk b t cs =>
    obtain ⟨rfl, fr, _, h2⟩ := h
    intro c hc
    simp at hc; subst hc
    exact (Array.getElem?_eq_some_iff.1 h2).1
  | obj b o =>
    obtain ⟨rfl, h2⟩ := h
    intro c hc
    simp at hc; subst hc
    exact (Array.getElem?_eq_some_iff.1 h2).1
  | row v e size xs =>
    obtain ⟨n, _, ⟨_, _, rfl⟩ | ⟨g, cap, cur, fr, _, rfl, _, hg, _⟩⟩ := h
    · intro c hc; cases hc
    · intro c hc
      simp at hc; subst hc
      exact (Array.getElem?_eq_some_iff.1 hg).1

theorem Sats.lt {H : Hp} : ∀ {L : List Res} {fp : List Nat}, Sats H L fp → ∀ b ∈ fp, b < H.size
  | [], fp, h => by simp [Sats] at h; subst h; simp
  | r :: rs, fp, h => by
    obtain ⟨f1, f2, rfl, h1, h2⟩ := h
    intro b hb
    rcases List.mem_append.1 hb with hb | hb
    · exact Res.sat_lt h1 b hb
    · exact Sats.lt h2 b hb

/-- What a resource says hangs on its own blocks alone. -/
theorem Res.sat_keep {H H' : Hp} {r : Res} {fp : List Nat} (h : r.sat H fp) (hk : ∀ b ∈ fp, H'[b]? = H[b]?) : r.sat H' fp := by
  cases r with
  | blk b t cs =>
    obtain ⟨rfl, fr, h1, h2⟩ := h
    exact ⟨rfl, fr, h1, by rw [hk b (by simp)]; exact h2⟩
  | obj b o =>
    obtain ⟨rfl, h2⟩ := h
    exact ⟨rfl, by rw [hk b (by simp)]; exact h2⟩
  | row v e size xs =>
    obtain ⟨n, hn, h0 | ⟨g, cap, cur, fr, hv, rfl, hf, hg, r⟩⟩ := h
    · exact ⟨n, hn, .inl h0⟩
    · exact ⟨n, hn, .inr ⟨g, cap, cur, fr, hv, rfl, hf, by rw [hk g (by simp)]; exact hg, r⟩⟩

theorem Sats.keep {H H' : Hp} : ∀ {L : List Res} {fp : List Nat}, Sats H L fp → (∀ b ∈ fp, H'[b]? = H[b]?) → Sats H' L fp
  | [], fp, h, _ => h
  | r :: rs, fp, h, hk => by
    obtain ⟨f1, f2, rfl, h1, h2⟩ := h
    exact ⟨f1, f2, rfl, Res.sat_keep h1 fun b hb => hk b (by simp [hb]), Sats.keep h2 fun b hb => hk b (by simp [hb])⟩

theorem Sats.append {H : Hp} : ∀ {L1 L2 : List Res} {fp : List Nat}, Sats H (L1 ++ L2) fp ↔ ∃ f1 f2, fp = f1 ++ f2 ∧ Sats H L1 f1 ∧ Sats H L2 f2
  | [], L2, fp => ⟨fun h => ⟨[], fp, rfl, rfl, h⟩, fun ⟨f1, f2, e, h1, h2⟩ => by subst e; cases h1; exact h2⟩
  | r :: rs, L2, fp => by
    constructor
    · rintro ⟨f1, f2, rfl, h1, h2⟩
      obtain ⟨g1, g2, rfl, k1, k2⟩ := Sats.append.1 h2
      exact ⟨f1 ++ g1, g2, by simp, ⟨f1, g1, rfl, h1, k1⟩, k2⟩
    · rintro ⟨f1, f2, rfl, ⟨g1, g2, rfl, h1, h2⟩, h3⟩
      exact ⟨g1, g2 ++ f2, by simp, h1, Sats.append.2 ⟨g2, f2, rfl, h2, h3⟩⟩

theorem Sats.perm {H : Hp} {L1 L2 : List Res} (hp : L1.Perm L2) : ∀ {fp : List Nat}, Sats H L1 fp → ∃ fp', Sats H L2 fp' ∧ fp.Perm fp' := by
  induction hp with
  | nil => intro fp h; exact ⟨fp, h, List.Perm.refl _⟩
  | cons r _ ih =>
    rintro fp ⟨f1, f2, rfl, h1, h2⟩
    obtain ⟨f2', h2', hp⟩ := ih h2
    exact ⟨f1 ++ f2', ⟨f1, f2', rfl, h1, h2'⟩, hp.append_left _⟩
  | swap r s l =>
    rintro fp ⟨f1, f2, rfl, h1, g1, g2, rfl, h2, h3⟩
    exact ⟨g1 ++ (f1 ++ g2), ⟨g1, f1 ++ g2, rfl, h2, f1, g2, rfl, h1, h3⟩, by
      rw [← List.append_assoc, ← List.append_assoc]; exact (List.perm_append_comm).append_right _⟩
  | trans _ _ ih1 ih2 =>
    intro fp h
    obtain ⟨f', h', p'⟩ := ih1 h
    obtain ⟨f'', h'', p''⟩ := ih2 h'
    exact ⟨f'', h'', p'.trans p''⟩

theorem Sep.perm {H : Hp} {L L' : List Res} {M : Mem} (h : Sep H L M) (hp : L.Perm L') : Sep H L' M := by
  obtain ⟨fp, hs, hn, hl, hm⟩ := h.own
  obtain ⟨fp', hs', pp⟩ := Sats.perm hp hs
  exact ⟨⟨fp', hs', pp.nodup_iff.1 hn, fun b hb => hl b (pp.mem_iff.2 hb), fun b o hb hbf => hm b o hb (pp.mem_iff.2 hbf)⟩, h.mem⟩

/-- What is owned may be let go. -/
theorem Sep.drop {H : Hp} {r : Res} {L : List Res} {M : Mem} (h : Sep H (r :: L) M) : Sep H L M := by
  obtain ⟨fp, ⟨f1, f2, rfl, h1, h2⟩, hn, hl, hm⟩ := h.own
  exact ⟨⟨f2, h2, (List.nodup_append.1 hn).2.1, fun b hb => hl b (by simp [hb]), fun b o hb hbf => hm b o hb (by simp [hbf])⟩, h.mem⟩

theorem Sep.dropLeft {H : Hp} {L1 L2 : List Res} {M : Mem} (h : Sep H (L1 ++ L2) M) : Sep H L2 M := by
  induction L1 with
  | nil => exact h
  | cons r rs ih => exact ih h.drop

theorem Sep.less {H : Hp} {L : List Res} {M M' : Mem} (h : Sep H L M') (hm : M.le M') : Sep H L M := by
  obtain ⟨fp, hs, hn, hl, hd⟩ := h.own
  exact ⟨⟨fp, hs, hn, hl, fun b o hb => hd b o (hm b o hb)⟩, fun b o hb => h.mem b o (hm b o hb)⟩

def Mem.ins (M : Mem) (b : Nat) (o : Obj) : Mem := fun c p => M c p ∨ (c = b ∧ p = o)
theorem Mem.le_ins (M : Mem) (b : Nat) (o : Obj) : M.le (M.ins b o) := fun _ _ h => .inl h
theorem Mem.ins_self (M : Mem) (b : Nat) (o : Obj) : M.ins b o b o := .inr ⟨rfl, rfl⟩

/-- What is owned may be fixed. -/
theorem Sep.fix {H : Hp} {b : Nat} {t : TypeId} {cs : List Value} {L : List Res} {M : Mem} (h : Sep H (.blk b t cs :: L) M) : ∃ fr, Sep H L (M.ins b (.cells cs.toArray t fr)) := by
  obtain ⟨fp, ⟨f1, f2, rfl, ⟨rfl, fr, _, h1⟩, h2⟩, hn, hl, hm⟩ := h.own
  refine ⟨fr, ⟨f2, h2, (List.nodup_append.1 hn).2.1, fun b hb => hl b (by simp [hb]), ?_⟩, ?_⟩
  · rintro c p (hb | ⟨rfl, rfl⟩) hbf
    · exact hm c p hb (by simp [hbf])
    · simp at hn; exact hn.1 hbf
  · rintro c p (hb | ⟨rfl, rfl⟩)
    · exact h.mem c p hb
    · exact h1
theorem Sep.fixObj {H : Hp} {b : Nat} {o : Obj} {L : List Res} {M : Mem} (h : Sep H (.obj b o :: L) M) : Sep H L (M.ins b o) := by
  obtain ⟨fp, ⟨f1, f2, rfl, ⟨rfl, h1⟩, h2⟩, hn, hl, hm⟩ := h.own
  refine ⟨⟨f2, h2, (List.nodup_append.1 hn).2.1, fun b hb => hl b (by simp [hb]), ?_⟩, ?_⟩
  · rintro c p (hb | ⟨rfl, rfl⟩) hbf
    · exact hm c p hb (by simp [hbf])
    · simp at hn; exact hn.1 hbf
  · rintro c p (hb | ⟨rfl, rfl⟩)
    · exact h.mem c p hb
    · exact h1

/-- A new block. -/
theorem Sep.new {H : Hp} {L : List Res} {M : Mem} (h : Sep H L M) {o : Obj} {r : Res} (hr : ∀ H' : Hp, H'[H.size]? = some o → r.sat H' [H.size]) : Sep (H.push o) (r :: L) M := by
  obtain ⟨fp, hs, hn, hl, hm⟩ := h.own
  have hk : ∀ b, b < H.size → (H.push o)[b]? = H[b]? := fun b hb => by rw [Array.getElem?_push, if_neg (by omega)]
  refine ⟨⟨H.size :: fp, ⟨[H.size], fp, rfl, hr _ (by simp), hs.keep fun b hb => hk b (hl b hb)⟩, ?_, ?_, ?_⟩, ?_⟩
  · exact List.nodup_cons.2 ⟨fun hc => absurd (hl _ hc) (by omega), hn⟩
  · intro b hb
    rcases List.mem_cons.1 hb with rfl | hb
    · simp
    · have := hl b hb; simp; omega
  · intro b p hb hbf
    rcases List.mem_cons.1 hbf with rfl | hbf
    · have := (Array.getElem?_eq_some_iff.1 (h.mem _ _ hb)).1; omega
    · exact hm b p hb hbf
  · intro b p hb
    have := h.mem b p hb
    rw [hk b (Array.getElem?_eq_some_iff.1 this).1]
    exact this

theorem Sep.newBlk {H : Hp} {L : List Res} {M : Mem} (h : Sep H L M) (t : TypeId) (cs : List Value) : Sep (H.push (.cells cs.toArray t)) (.blk H.size t cs :: L) M :=
  h.new fun _ hH => ⟨rfl, (0, 0), Thaw.zero _, hH⟩
theorem Sep.newObj {H : Hp} {L : List Res} {M : Mem} (h : Sep H L M) (o : Obj) : Sep (H.push o) (.obj H.size o :: L) M :=
  h.new fun _ hH => ⟨rfl, hH⟩

/-- A block of one's own is written. -/
theorem Sep.write {H H' : Hp} {b : Nat} {r r' : Res} {L : List Res} {M : Mem} (h : Sep H (r :: L) M) (hr : ∀ fp, r.sat H fp → fp = [b]) (hs : H'.size = H.size) (hr' : r'.sat H' [b]) (hk : ∀ c, c ≠ b → H'[c]? = H[c]?) : Sep H' (r' :: L) M := by
  obtain ⟨fp, ⟨f1, f2, rfl, h1, h2⟩, hn, hl, hm⟩ := h.own
  obtain rfl := hr _ h1
  refine ⟨⟨[b] ++ f2, ⟨[b], f2, rfl, hr', h2.keep fun c hc => hk c ?_⟩, hn, fun c hc => by rw [hs]; exact hl c hc, hm⟩, ?_⟩
  · rintro rfl; simp at hn; exact hn.1 hc
  · intro c p hc
    rw [hk c ?_]
    · exact h.mem c p hc
    · rintro rfl; exact hm c p hc (by simp)

theorem perm_at {α : Type} : ∀ {L : List α} {i : Nat} {r : α}, L[i]? = some r → L.Perm (r :: L.eraseIdx i)
  | [], i, r, h => by simp at h
  | x :: l, 0, r, h => by simp at h; subst h; exact List.Perm.refl _
  | x :: l, i + 1, r, h => by
    simp at h
    have := perm_at h
    exact (this.cons x).trans (List.Perm.swap ..)
theorem perm_set {α : Type} : ∀ {L : List α} {i : Nat} {r : α} (r' : α), L[i]? = some r → (r' :: L.eraseIdx i).Perm (L.set i r')
  | [], i, r, r', h => by simp at h
  | x :: l, 0, r, r', h => by simp
  | x :: l, i + 1, r, r', h => by
    simp at h
    have := perm_set r' h
    exact (List.Perm.swap ..).trans (this.cons x)
theorem getElem?_app {α : Type} {L F : List α} {i : Nat} {r : α} (h : L[i]? = some r) : (L ++ F)[i]? = some r := by
  rw [List.getElem?_append_left (List.getElem?_eq_some_iff.1 h).1]; exact h
theorem eraseIdx_app {α : Type} {L F : List α} {i : Nat} {r : α} (h : L[i]? = some r) : (L ++ F).eraseIdx i = L.eraseIdx i ++ F := by
  rw [List.eraseIdx_append_of_lt_length (List.getElem?_eq_some_iff.1 h).1]
theorem set_app {α : Type} {L F : List α} {i : Nat} {r : α} (h : L[i]? = some r) (r' : α) : (L ++ F).set i r' = L.set i r' ++ F := by
  rw [List.set_append_left _ _ (List.getElem?_eq_some_iff.1 h).1]

/-! ### The judgements -/
abbrev Post := Exit → Env → List Res → Mem → Prop

def lf (n : Nat) (w0 : World) (F : List Res) (M0 : Mem) (Q : Post) : Exit → Act → World → Prop :=
  fun e a w => ∃ σ L M, Ag n σ a ∧ St w0 w ∧ Sep w.heap (L ++ F) M ∧ M0.le M ∧ Q e σ L M

def SC (P : Program) (n : Nat) (c : Code) (σ : Env) (L : List Res) (M : Mem) (Q : Post) : Prop :=
  ∀ F w0 M0 a w, Ag n σ a → Sep w.heap (L ++ F) M → St w0 w → M0.le M → c.wp P (lf n w0 F M0 Q) a w

def SL (P : Program) (n : Nat) (ops : Array Oper) (l : List Oper) (σ : Env) (L : List Res) (M : Mem) (Q : Post) : Prop :=
  ∀ F w0 M0 a w, Ag n σ a → Sep w.heap (L ++ F) M → St w0 w → M0.le M → wpList P ops (lf n w0 F M0 Q) l a w

/-- A call: it returns; what it says of its value, of what is owned then, and of what is fixed then. -/
def Ev (P : Program) (f : FuncId) (args : Array Value) (L : List Res) (M : Mem) (R : Value → List Res → Mem → Prop) : Prop :=
  ∀ F w, Sep w.heap (L ++ F) M → Calls P f args w fun e w' => ∃ v L' M', e = .returned v ∧ St w w' ∧ Sep w'.heap (L' ++ F) M' ∧ M.le M' ∧ R v L' M'

theorem Ev.mono {P : Program} {f : FuncId} {args : Array Value} {L : List Res} {M : Mem} {R R' : Value → List Res → Mem → Prop} (h : Ev P f args L M R) (hr : ∀ v L' M', M.le M' → R v L' M' → R' v L' M') : Ev P f args L M R' :=
  fun F w hs => (h F w hs).mono fun _ _ ⟨v, L', M', h1, h2, h3, h4, h5⟩ => ⟨v, L', M', h1, h2, h3, h4, hr _ _ _ h4 h5⟩

section
variable {P : Program} {n : Nat} {σ : Env} {L : List Res} {M : Mem} {Q : Post}

def seqQ (P : Program) (n : Nat) (y : Code) (Q : Post) : Post
  | .normal, σ, L, M => SC P n y σ L M Q
  | e, σ, L, M => Q e σ L M

theorem SC.seq {x y : Code} (h : SC P n x σ L M (seqQ P n y Q)) : SC P n (.seq x y) σ L M Q := by
  intro F w0 M0 a w ha hs hw hm
  refine wp_seq (wp_mono (h F w0 M0 a w ha hs hw hm) ?_)
  rintro e a w ⟨σ', L', M', h1, h2, h3, h4, h5⟩
  cases e with
  | normal => exact h5 F w0 M0 a w h1 h3 h2 h4
  | _ => exact ⟨σ', L', M', h1, h2, h3, h4, h5⟩

def blockQ (id : Nat) (Q : Post) : Post
  | .exit id', σ, L, M => if id' = id then Q .normal σ L M else Q (.exit id') σ L M
  | e, σ, L, M => Q e σ L M

theorem SC.block {id : Nat} {c : Code} (h : SC P n c σ L M (blockQ id Q)) : SC P n (.block id c) σ L M Q := by
  intro F w0 M0 a w ha hs hw hm
  refine wp_block (wp_mono (h F w0 M0 a w ha hs hw hm) ?_)
  rintro e a w ⟨σ', L', M', h1, h2, h3, h4, h5⟩
  cases e with
  | exit id' =>
    simp only [blockQ] at h5
    simp only [Exit.inBlock]
    split
    · rename_i he; rw [if_pos he] at h5; exact ⟨σ', L', M', h1, h2, h3, h4, h5⟩
    · rename_i he; rw [if_neg he] at h5; exact ⟨σ', L', M', h1, h2, h3, h4, h5⟩
  | _ => exact ⟨σ', L', M', h1, h2, h3, h4, h5⟩

theorem SC.skip (h : Q .normal σ L M) : SC P n .skip σ L M Q :=
  fun _ _ _ _ _ ha hs hw hm => wp_skip ⟨σ, L, M, ha, hw, hs, hm, h⟩
theorem SC.label {l : Nat} (h : Q .normal σ L M) : SC P n (.label l) σ L M Q :=
  fun _ _ _ _ _ ha hs hw hm => wp_label ⟨σ, L, M, ha, hw, hs, hm, h⟩
theorem SC.exit {id : Nat} (h : Q (.exit id) σ L M) : SC P n (.exit id) σ L M Q :=
  fun _ _ _ _ _ ha hs hw hm => wp_exit ⟨σ, L, M, ha, hw, hs, hm, h⟩
theorem SC.ret (h : Q .ret σ L M) : SC P n .ret σ L M Q :=
  fun _ _ _ _ _ ha hs hw hm => wp_ret ⟨σ, L, M, ha, hw, hs, hm, h⟩

theorem SC.ite {c : Operand} {b : Bool} {x y : Code} (hc : evalE σ c = some (.bool b)) (ht : b = true → SC P n x σ L M Q) (hf : b = false → SC P n y σ L M Q) : SC P n (.cond c x y) σ L M Q :=
  fun F w0 M0 a w ha hs hw hm => wp_cond_split (ha.eval hc) (fun h => ht h F w0 M0 a w ha hs hw hm) (fun h => hf h F w0 M0 a w ha hs hw hm)
theorem SC.ifp {c : Operand} {p : Prop} [Decidable p] {x y : Code} (hc : evalE σ c = some (.bool (decide p))) (ht : p → SC P n x σ L M Q) (hf : ¬ p → SC P n y σ L M Q) : SC P n (.cond c x y) σ L M Q :=
  SC.ite hc (fun h => ht (of_decide_eq_true h)) (fun h => hf (of_decide_eq_false h))
theorem SC.ifT {c : Operand} {b : Bool} {x y : Code} (hc : evalE σ c = some (.bool b)) (hb : b = true) (ht : SC P n x σ L M Q) : SC P n (.cond c x y) σ L M Q :=
  SC.ite hc (fun _ => ht) (fun h => by rw [hb] at h; cases h)
theorem SC.ifF {c : Operand} {b : Bool} {x y : Code} (hc : evalE σ c = some (.bool b)) (hb : b = false) (hf : SC P n y σ L M Q) : SC P n (.cond c x y) σ L M Q :=
  SC.ite hc (fun h => by rw [hb] at h; cases h) (fun _ => hf)

theorem SC.region {id : Nat} {l : List Oper} (h : SL P n l.toArray l σ L M Q) : SC P n (.region id l.toArray false) σ L M Q :=
  fun F w0 M0 a w ha hs hw hm => wp_region_lit (h F w0 M0 a w ha hs hw hm)

theorem SL.nil {ops : Array Oper} (h : Q .normal σ L M) : SL P n ops [] σ L M Q :=
  fun _ _ _ _ _ ha hs hw hm => wpList_nil ⟨σ, L, M, ha, hw, hs, hm, h⟩

theorem SC.mono {c : Code} {Q' : Post} (h : SC P n c σ L M Q) (hq : ∀ e σ' L' M', M.le M' → Q e σ' L' M' → Q' e σ' L' M') : SC P n c σ L M Q' := by
  intro F w0 M0 a w ha hs hw hm
  refine wp_mono (h F w0 M a w ha hs hw (Mem.le_refl _)) ?_
  rintro e a w ⟨σ', L', M', h1, h2, h3, h4, h5⟩
  exact ⟨σ', L', M', h1, h2, h3, Mem.le_trans hm h4, hq _ _ _ _ h4 h5⟩

/-- What is known may be forgotten, what is owned be let go or put in another order. -/
theorem SC.weak {c : Code} {τ : Env} {L1 L2 : List Res} (h : SC P n c τ L1 M Q) (ht : σ.sub τ) (hl : L.Perm (L2 ++ L1)) : SC P n c σ L M Q := by
  intro F w0 M0 a w ha hs hw hm
  refine h F w0 M0 a w (ha.weaken ht.sub_mem) (Sep.dropLeft (L1 := L2) (hs.perm ?_)) hw hm
  rw [← List.append_assoc]
  exact hl.append_right _

def loopQ {ι : Type} (I : ι → Mem → Prop) (E : ι → Env) (Lf : ι → List Res) (μ : ι → Nat) (x : ι) (Q : Post) : Post
  | .normal, σ, L, M => ∃ x' G, μ x' < μ x ∧ σ.sub (E x') ∧ L.Perm (G ++ Lf x') ∧ I x' M
  | e, σ, L, M => Q e σ L M

theorem SC.loop {ι : Type} {c : Code} (I : ι → Mem → Prop) (E : ι → Env) (Lf : ι → List Res) (μ : ι → Nat) (x0 : ι) {G : List Res} (hE : σ.sub (E x0)) (hL : L.Perm (G ++ Lf x0)) (hI : I x0 M)
    (round : ∀ x M', M.le M' → I x M' → SC P n c (E x) (Lf x) M' (loopQ I E Lf μ x Q)) : SC P n (.loop c) σ L M Q := by
  intro F w0 M0 a w ha hs hw hm
  refine wp_loop_ghost (fun k a w => ∃ x M', μ x = k ∧ Ag n (E x) a ∧ Sep w.heap (Lf x ++ F) M' ∧ St w0 w ∧ M.le M' ∧ I x M') (μ x0)
    ⟨x0, M, rfl, ha.weaken hE.sub_mem, Sep.dropLeft (L1 := G) (hs.perm (by rw [← List.append_assoc]; exact hL.append_right _)), hw, Mem.le_refl _, hI⟩ ?_
  rintro k a w ⟨x, M', rfl, h1, h2, h3, h4, h5⟩
  refine wp_mono (round x M' h4 h5 F w0 M' a w h1 h2 h3 (Mem.le_refl _)) ?_
  rintro e a w ⟨σ', L', M'', k1, k2, k3, k4, k5⟩
  cases e with
  | normal =>
    obtain ⟨x', G', q1, q2, q3, q4⟩ := k5
    exact ⟨μ x', q1, x', M'', rfl, k1.weaken q2.sub_mem, Sep.dropLeft (L1 := G') (k3.perm (by rw [← List.append_assoc]; exact q3.append_right _)), k2, Mem.le_trans h4 k4, q4⟩
  | _ => exact ⟨σ', L', M'', k1, k2, k3, Mem.le_trans hm (Mem.le_trans h4 k4), k5⟩

def retQ (P : Program) (fn : Func) (R : Value → List Res → Mem → Prop) : Post
  | .normal, σ, L, M | .ret, σ, L, M => ∃ v, (∀ n F a w, Ag n σ a → Sep w.heap (L ++ F) M → (results fn a.tmps).run P w = .ok v w) ∧ R v L M
  | _, _, _, _ => False

end
end Go.Eng
set_option linter.unusedVariables false
namespace Go.Eng

section
variable {P : Program} {n : Nat} {σ : Env} {L : List Res} {M : Mem} {Q : Post}

/-! ### Reading -/
def hcell (H : Hp) (b o : Nat) : Option Value := match H[b]? with
  | some (.cells c _ _) => c[o]?
  | _ => none
theorem cell_hcell (w : World) (b o : Nat) : w.cell? ⟨b, o, none⟩ = hcell w.heap b o := by
  simp only [World.cell?, hcell]
  split <;> simp_all

/-- A cell holds this, by what is owned or by what is fixed. -/
def Kn (L : List Res) (M : Mem) (b o : Nat) (v : Value) : Prop := ∀ H F, Sep H (L ++ F) M → hcell H b o = some v
def Mem.cell (M : Mem) (b o : Nat) (v : Value) : Prop := ∃ c e fr, M b (.cells c e fr) ∧ c[o]? = some v
theorem Mem.cell.mono {M M' : Mem} {b o : Nat} {v : Value} (h : M.cell b o v) (hm : M.le M') : M'.cell b o v := by
  obtain ⟨c, e, fr, h1, h2⟩ := h
  exact ⟨c, e, fr, hm _ _ h1, h2⟩
theorem Kn.mem {b o : Nat} {v : Value} (h : M.cell b o v) : Kn L M b o v := by
  intro H F hs
  obtain ⟨c, e, fr, h1, h2⟩ := h
  simp [hcell, hs.mem _ _ h1, h2]
theorem Sep.at_ {H : Hp} {F : List Res} (h : Sep H (L ++ F) M) {i : Nat} {r : Res} (hi : L[i]? = some r) : ∃ fp, r.sat H fp := by
  obtain ⟨fp, ⟨f1, f2, _, h1, _⟩, _⟩ := (h.perm (perm_at (getElem?_app (F := F) hi))).own
  exact ⟨f1, h1⟩
theorem Kn.blk (i : Nat) {b o : Nat} {t : TypeId} {cs : List Value} {v : Value} (hi : L[i]? = some (.blk b t cs)) (hv : cs[o]? = some v) : Kn L M b o v := by
  intro H F hs
  obtain ⟨fp, _, fr, _, h2⟩ := hs.at_ hi
  simp [hcell, h2, hv]
theorem Kn.row (i : Nat) {g m cap o : Nat} {t : TypeId} {sz : Nat} {xs : List Value} {v : Value} (hi : L[i]? = some (.row (.slice (some ⟨g, 0, none⟩) m cap) t sz xs)) (hv : xs[o]? = some v) : Kn L M g o v := by
  intro H F hs
  obtain ⟨fp, k, hk, ⟨h0, _⟩ | ⟨g', cap', cur, fr, h0, _, _, h2, _, _, _, h3⟩⟩ := hs.at_ hi
  · cases h0
  · simp at h0
    obtain ⟨rfl, rfl, rfl⟩ := h0
    have : cur[o]? = some v := by
      rw [← h3, List.getElem?_take] at hv
      split at hv
      · simpa using hv
      · cases hv
    simp [hcell, h2, this]

/-- A run of cells. -/
def Kns (L : List Res) (M : Mem) (b o : Nat) (cs : List Value) : Prop := ∀ j v, cs[j]? = some v → Kn L M b (o + j) v
def Mem.cells (M : Mem) (b o : Nat) (cs : List Value) : Prop := ∀ j v, cs[j]? = some v → M.cell b (o + j) v
theorem Mem.cells.mono {M M' : Mem} {b o : Nat} {cs : List Value} (h : M.cells b o cs) (hm : M.le M') : M'.cells b o cs := fun j v hv => (h j v hv).mono hm
theorem Kns.mem {b o : Nat} {cs : List Value} (h : M.cells b o cs) : Kns L M b o cs := fun j v hv => .mem (h j v hv)
theorem Kns.blk (i : Nat) {b o : Nat} {t : TypeId} {cs vs : List Value} (hi : L[i]? = some (.blk b t cs)) (hv : (cs.drop o).take vs.length = vs) : Kns L M b o vs := by
  intro j v hj
  refine Kn.blk i hi ?_
  rw [← hv, List.getElem?_take] at hj
  split at hj
  · simpa using hj
  · cases hj
theorem Kns.row (i : Nat) {g m cap o : Nat} {t : TypeId} {sz : Nat} {xs vs : List Value} (hi : L[i]? = some (.row (.slice (some ⟨g, 0, none⟩) m cap) t sz xs)) (hv : (xs.drop o).take vs.length = vs) : Kns L M g o vs := by
  intro j v hj
  refine Kn.row i hi ?_
  rw [← hv, List.getElem?_take] at hj
  split at hj
  · simpa using hj
  · cases hj

/-! ### Operations that yield a value and leave the heap alone -/
def OpV (P : Program) (op : Op) (σ : Env) (L : List Res) (M : Mem) (v : Value) : Prop :=
  ∀ n F a w (dst : Option Tmp) type pos after guard, Ag n σ a → Sep w.heap (L ++ F) M → (execOp a.eval { dst, op, type, pos, after, guard }).run P w = .ok (.value v) w

theorem OpV.move {x : Operand} {v : Value} (h : evalE σ x = some v) : OpV P (.move x) σ L M v := by
  intro n F a w dst type pos after guard ha hs
  simp [execOp, ha.eval h]
theorem OpV.assign {x : Operand} {v : Value} (h : evalE σ x = some v) : OpV P (.assign x) σ L M v := by
  intro n F a w dst type pos after guard ha hs
  simp [execOp, ha.eval h]
theorem OpV.pickT {c x y : Operand} {v : Value} (hc : evalE σ c = some (.bool true)) (h : evalE σ x = some v) : OpV P (.pick c x y) σ L M v := by
  intro n F a w dst type pos after guard ha hs
  simp [execOp, ha.eval h, ha.eval hc, asBool]
theorem OpV.pickF {c x y : Operand} {v : Value} (hc : evalE σ c = some (.bool false)) (h : evalE σ y = some v) : OpV P (.pick c x y) σ L M v := by
  intro n F a w dst type pos after guard ha hs
  simp [execOp, ha.eval h, ha.eval hc, asBool]
theorem OpV.not {t : TypeId} {x : Operand} {b : Bool} (h : evalE σ x = some (.bool b)) : OpV P (.unOp .not t x) σ L M (.bool (!b)) := by
  intro n F a w dst type pos after guard ha hs
  simp [execOp, ha.eval h, Op.unary]

section
variable {t ty : TypeId} {x y : Operand} {k : IntKind} {a b : Int} (hx : evalE σ x = some (.int k a)) (hy : evalE σ y = some (.int k b))
include hx hy
theorem OpV.add (hr : k.wrap (a + b) = a + b) : OpV P (.binOp .add t x y ty) σ L M (.int k (a + b)) := by
  intro n F ac w dst type pos after guard ha hs
  simp [execOp, ha.eval hx, ha.eval hy, binOp, eqGuard, Op.intArith, hr]
theorem OpV.sub (hr : k.wrap (a - b) = a - b) : OpV P (.binOp .sub t x y ty) σ L M (.int k (a - b)) := by
  intro n F ac w dst type pos after guard ha hs
  simp [execOp, ha.eval hx, ha.eval hy, binOp, eqGuard, Op.intArith, hr]
theorem OpV.mul (hr : k.wrap (a * b) = a * b) : OpV P (.binOp .mul t x y ty) σ L M (.int k (a * b)) := by
  intro n F ac w dst type pos after guard ha hs
  simp [execOp, ha.eval hx, ha.eval hy, binOp, eqGuard, Op.intArith, hr]
theorem OpV.addW : OpV P (.binOp .add t x y ty) σ L M (.int k (k.wrap (a + b))) := by
  intro n F ac w dst type pos after guard ha hs
  simp [execOp, ha.eval hx, ha.eval hy, binOp, eqGuard, Op.intArith]
theorem OpV.subW : OpV P (.binOp .sub t x y ty) σ L M (.int k (k.wrap (a - b))) := by
  intro n F ac w dst type pos after guard ha hs
  simp [execOp, ha.eval hx, ha.eval hy, binOp, eqGuard, Op.intArith]
theorem OpV.mulW : OpV P (.binOp .mul t x y ty) σ L M (.int k (k.wrap (a * b))) := by
  intro n F ac w dst type pos after guard ha hs
  simp [execOp, ha.eval hx, ha.eval hy, binOp, eqGuard, Op.intArith]
theorem OpV.lss : OpV P (.binOp .lss t x y ty) σ L M (.bool (decide (a < b))) := by
  intro n F ac w dst type pos after guard ha hs
  simp [execOp, ha.eval hx, ha.eval hy, binOp, eqGuard, Op.intCmp]
theorem OpV.leq : OpV P (.binOp .leq t x y ty) σ L M (.bool (decide (a ≤ b))) := by
  intro n F ac w dst type pos after guard ha hs
  simp [execOp, ha.eval hx, ha.eval hy, binOp, eqGuard, Op.intCmp]
theorem OpV.gtr : OpV P (.binOp .gtr t x y ty) σ L M (.bool (decide (b < a))) := by
  intro n F ac w dst type pos after guard ha hs
  simp [execOp, ha.eval hx, ha.eval hy, binOp, eqGuard, Op.intCmp]
theorem OpV.geq : OpV P (.binOp .geq t x y ty) σ L M (.bool (decide (b ≤ a))) := by
  intro n F ac w dst type pos after guard ha hs
  simp [execOp, ha.eval hx, ha.eval hy, binOp, eqGuard, Op.intCmp]
theorem OpV.eql : OpV P (.binOp .eql t x y ty) σ L M (.bool (decide (a = b))) := by
  intro n F ac w dst type pos after guard ha hs
  simp [execOp, ha.eval hx, ha.eval hy, binOp, eqGuard, Op.intCmp]
  rfl
theorem OpV.neq : OpV P (.binOp .neq t x y ty) σ L M (.bool (decide (a ≠ b))) := by
  intro n F ac w dst type pos after guard ha hs
  simp [execOp, ha.eval hx, ha.eval hy, binOp, eqGuard, Op.intCmp]
  rfl
theorem OpV.rem (hb : b ≠ 0) : OpV P (.binOp .rem t x y ty) σ L M (.int k (a.tmod b)) := by
  intro n F ac w dst type pos after guard ha hs
  simp [execOp, ha.eval hx, ha.eval hy, binOp, eqGuard, Op.intDiv, hb]
theorem OpV.quo (hb : b ≠ 0) : OpV P (.binOp .quo t x y ty) σ L M (.int k (k.wrap (a.tdiv b))) := by
  intro n F ac w dst type pos after guard ha hs
  simp [execOp, ha.eval hx, ha.eval hy, binOp, eqGuard, Op.intDiv, hb]
/-- The remainder and the quotient of what is not negative. -/
theorem OpV.mod (h0 : 0 ≤ a) (hb : 0 < b) : OpV P (.binOp .rem t x y ty) σ L M (.int k (a % b)) := by
  have := OpV.rem (P := P) (t := t) (ty := ty) (L := L) (M := M) hx hy (by omega)
  rwa [Int.tmod_eq_emod_of_nonneg h0] at this
theorem OpV.div (h0 : 0 ≤ a) (hb : 0 < b) (hr : k.wrap (a / b) = a / b) : OpV P (.binOp .quo t x y ty) σ L M (.int k (a / b)) := by
  have := OpV.quo (P := P) (t := t) (ty := ty) (L := L) (M := M) hx hy (by omega)
  rwa [Int.tdiv_eq_ediv_of_nonneg h0, hr] at this
end

/-! ### Strings, as lists of bytes -/
abbrev bs (l : List UInt8) : ByteArray := ⟨l.toArray⟩
theorem bs_toList (l : List UInt8) : (bs l).toList = l := ByteArray.toList_mk l
theorem bs_size (l : List UInt8) : (bs l).size = l.length := by simp [ByteArray.size]
theorem beq_dec {α : Type} [BEq α] [LawfulBEq α] [DecidableEq α] (a b : α) : (a == b) = decide (a = b) := by
  by_cases h : a = b <;> simp [h]
theorem bs_ext {s t : ByteArray} (h : s.data.toList = t.data.toList) : s = t := by
  cases s; cases t; congr 1; exact Array.toList_inj.1 h
theorem bs_self (s : ByteArray) : bs s.data.toList = s := bs_ext (by simp)

section
variable {t ty : TypeId} {x y : Operand} {l m : List UInt8} (hx : evalE σ x = some (.string (bs l))) (hy : evalE σ y = some (.string (bs m)))
include hx hy
theorem OpV.sadd (hr : l.length + m.length ≤ 9223372036854775807) : OpV P (.binOp .add t x y ty) σ L M (.string (bs (l ++ m))) := by
  intro n F ac w dst type pos after guard ha hs
  have hr' : ((bs l).size : Int) + ((bs m).size : Int) ≤ 9223372036854775807 := by
    rw [bs_size, bs_size]
    omega
  have he : bs l ++ bs m = bs (l ++ m) := bs_ext (by simp [bs])
  simp only [execOp, ha.eval hx, ha.eval hy, binOp, eqGuard, Op.stringOp]
  simp [hr', he]
theorem OpV.seql : OpV P (.binOp .eql t x y ty) σ L M (.bool (decide (l = m))) := by
  intro n F ac w dst type pos after guard ha hs
  simp [execOp, ha.eval hx, ha.eval hy, binOp, eqGuard, Op.stringOp, beq_dec]
theorem OpV.sneq : OpV P (.binOp .neq t x y ty) σ L M (.bool (decide (l ≠ m))) := by
  intro n F ac w dst type pos after guard ha hs
  simp [execOp, ha.eval hx, ha.eval hy, binOp, eqGuard, Op.stringOp, beq_dec]
theorem OpV.slss : OpV P (.binOp .lss t x y ty) σ L M (.bool (Op.bytesLess l m)) := by
  intro n F ac w dst type pos after guard ha hs
  simp [execOp, ha.eval hx, ha.eval hy, binOp, eqGuard, Op.stringOp]
theorem OpV.sleq : OpV P (.binOp .leq t x y ty) σ L M (.bool (Op.bytesLess l m || decide (l = m))) := by
  intro n F ac w dst type pos after guard ha hs
  simp [execOp, ha.eval hx, ha.eval hy, binOp, eqGuard, Op.stringOp, beq_dec]
theorem OpV.sgtr : OpV P (.binOp .gtr t x y ty) σ L M (.bool (!(Op.bytesLess l m || decide (l = m)))) := by
  intro n F ac w dst type pos after guard ha hs
  simp [execOp, ha.eval hx, ha.eval hy, binOp, eqGuard, Op.stringOp, beq_dec]
theorem OpV.sgeq : OpV P (.binOp .geq t x y ty) σ L M (.bool (!Op.bytesLess l m)) := by
  intro n F ac w dst type pos after guard ha hs
  simp [execOp, ha.eval hx, ha.eval hy, binOp, eqGuard, Op.stringOp]
end

section
variable {t ty : TypeId} {x i lo hi : Operand} {l : List UInt8} (ht : P.underlying t = some .string) (hx : evalE σ x = some (.string (bs l)))
include ht hx
theorem OpV.slen : OpV P (.call { callee := .builtin .len, args := #[x], argTypes := #[t] }) σ L M (.int .i64 l.length) := by
  intro n F ac w dst type pos after guard ha hs
  simp [execOp, resolve, invoke, ha.eval hx, builtin, Builtin.len_, underlying, ht, goInt, bs_size]
/-- A byte of a string. -/
theorem OpV.sindex {k : IntKind} {j : Int} {c : UInt8} (hi : evalE σ i = some (.int k j)) (h0 : 0 ≤ j) (hc : l[j.toNat]? = some c) : OpV P (.index t x i) σ L M (.int .u8 c.toNat) := by
  intro n F ac w dst type pos after guard ha hs
  have : (bs l)[j.toNat]? = some c := by
    have hlt := (List.getElem?_eq_some_iff.1 hc).1
    rw [ByteArray.getElem?_lt' _ _ (by rw [bs_size]; exact hlt)]
    have h2 := (List.getElem?_eq_some_iff.1 hc).2
    simp [bs, ByteArray.getElem_eq_getElem_data, h2]
  simp [execOp, ha.eval hx, ha.eval hi, Instr.index, asIntOf, underlying, ht, h0, this]
theorem OpV.sslice {k k' : IntKind} {a b : Int} (hlo : evalE σ lo = some (.int k a)) (hhi : evalE σ hi = some (.int k' b)) (h0 : 0 ≤ a) (h1 : a ≤ b) (h2 : b ≤ l.length) :
    OpV P (.slice t x (some lo) (some hi) none) σ L M (.string (bs ((l.drop a.toNat).take (b.toNat - a.toNat)))) := by
  intro n F ac w dst type pos after guard ha hs
  have hb : 0 ≤ b := by omega
  have h3 : ¬ (max b 0 < a) := by omega
  simp [execOp, ha.eval hx, ha.eval hlo, ha.eval hhi, Instr.sliceAt, underlying, ht, Instr.slice, Instr.sliceBounds, Instr.sliceBound, asIntOf, bs_size, h0, hb, h2, ByteArray.extract_mk]
  intro h4; exact absurd h4 h3
theorem OpV.ssliceL {k : IntKind} {a : Int} (hlo : evalE σ lo = some (.int k a)) (h0 : 0 ≤ a) (h2 : a ≤ l.length) :
    OpV P (.slice t x (some lo) none none) σ L M (.string (bs (l.drop a.toNat))) := by
  intro n F ac w dst type pos after guard ha hs
  simp [execOp, ha.eval hx, ha.eval hlo, Instr.sliceAt, underlying, ht, Instr.slice, Instr.sliceBounds, Instr.sliceBound, asIntOf, bs_size, h0, h2, ByteArray.extract_mk]
  rw [List.take_of_length_le (by simp)]
theorem OpV.ssliceH {k : IntKind} {b : Int} (hhi : evalE σ hi = some (.int k b)) (h0 : 0 ≤ b) (h2 : b ≤ l.length) :
    OpV P (.slice t x none (some hi) none) σ L M (.string (bs (l.take b.toNat))) := by
  intro n F ac w dst type pos after guard ha hs
  simp [execOp, ha.eval hx, ha.eval hhi, Instr.sliceAt, underlying, ht, Instr.slice, Instr.sliceBounds, Instr.sliceBound, asIntOf, bs_size, h0, h2, ByteArray.extract_mk]
end

/-! ### Slices, addresses, loads -/
theorem OpV.llen {t e : TypeId} {x : Operand} {p : Option Addr} {m c : Nat} (ht : P.underlying t = some (.slice e)) (hx : evalE σ x = some (.slice p m c)) :
    OpV P (.call { callee := .builtin .len, args := #[x], argTypes := #[t] }) σ L M (.int .i64 m) := by
  intro n F ac w dst type pos after guard ha hs
  simp [execOp, resolve, invoke, ha.eval hx, builtin, Builtin.len_, underlying, ht, goInt]
theorem OpV.bmin {cs : Array TypeId} {x y : Operand} {k : IntKind} {a b : Int} (hx : evalE σ x = some (.int k a)) (hy : evalE σ y = some (.int k b)) :
    OpV P (.call { callee := .builtin .min, args := #[x, y], argTypes := cs }) σ L M (.int k (min a b)) := by
  intro n F ac w dst type pos after guard ha hs
  have : (if b < a then b else a) = min a b := by simp only [Int.min_def]; split <;> split <;> omega
  simp [execOp, resolve, invoke, ha.eval hx, ha.eval hy, builtin, Builtin.min_, Builtin.min2, this]
theorem OpV.bmax {cs : Array TypeId} {x y : Operand} {k : IntKind} {a b : Int} (hx : evalE σ x = some (.int k a)) (hy : evalE σ y = some (.int k b)) :
    OpV P (.call { callee := .builtin .max, args := #[x, y], argTypes := cs }) σ L M (.int k (max a b)) := by
  intro n F ac w dst type pos after guard ha hs
  have : (if b > a then b else a) = max a b := by simp only [Int.max_def]; split <;> split <;> omega
  simp [execOp, resolve, invoke, ha.eval hx, ha.eval hy, builtin, Builtin.max_, Builtin.max2, this]

theorem OpV.indexAddr {t e : TypeId} {x i : Operand} {b o m c sz : Nat} {k : IntKind} {j : Int} (ht : P.underlying t = some (.slice e)) (hsz : (P.info? e).map (·.size) = some sz)
    (hx : evalE σ x = some (.slice (some ⟨b, o, none⟩) m c)) (hi : evalE σ i = some (.int k j)) (h0 : 0 ≤ j) (h1 : j < m) :
    OpV P (.indexAddr t x i) σ L M (.pointer (some ⟨b, o + j.toNat * sz, none⟩)) := by
  intro n F ac w dst type pos after guard ha hs
  cases hq : P.info? e with
  | none => simp [hq] at hsz
  | some ie =>
    have hse : ie.size = sz := by simpa [hq] using hsz
    simp [execOp, ha.eval hx, ha.eval hi, Instr.indexAt, asIntOf, underlying, ht, h0, h1, sizeOf, typeInfo, hq, hse, Addr.add_mid]

/-- The address of a field, the struct at an address. 'f' : what the table says of the field. -/
theorem OpV.fieldAddr {s : TypeId} {x : Operand} {b o off : Nat} {fi : Nat} {fs : Array Field} {f : Field} (hs : P.underlying s = some (.struct fs)) (hf : fs[fi]? = some f) (ho : f.offset = off)
    (hz : ((P.info? f.type).map (·.size)).any (· != 0) = true) (hx : evalE σ x = some (.pointer (some ⟨b, o, none⟩))) :
    OpV P (.fieldAddr s x fi) σ L M (.pointer (some ⟨b, o + off, none⟩)) := by
  intro n F ac w dst type pos after guard ha hsp
  cases hq : P.info? f.type with
  | none => simp [hq] at hz
  | some ie =>
    have hne : ¬ ie.size = 0 := by simpa [hq] using hz
    simp [execOp, ha.eval hx, Instr.fieldAt, underlying, hs, hf, Instr.sureAddr, fieldPlace, sizeOf, typeInfo, hq, hne, Addr.add_mid, ho]

/-- A variable of one cell. -/
theorem OpV.load {t : TypeId} {x : Operand} {b o : Nat} {v : Value} (d : TypeDesc) (ht : P.underlying t = some d) (hd : d.isRow = false) (hx : evalE σ x = some (.pointer (some ⟨b, o, none⟩))) (hk : Kn L M b o v) :
    OpV P (.load t x) σ L M v := by
  intro n F ac w dst type pos after guard ha hs
  have hc : w.cell? ⟨b, o, none⟩ = some v := by rw [cell_hcell]; exact hk _ _ hs
  have hagg : (isAgg t).run P w = .ok false w := by
    unfold isAgg underlying
    cases d <;> simp_all
  simp [execOp, ha.eval hx, Instr.loadAt, Instr.sureAddr, loadVar, hagg, hc]
/-- A struct or an array. -/
theorem OpV.loads {t : TypeId} {x : Operand} {b o : Nat} {cs : List Value} (d : TypeDesc) (ht : P.underlying t = some d) (hd : d.isRow = true) (hx : evalE σ x = some (.pointer (some ⟨b, o, none⟩)))
    (hi : (P.info? t).map (·.size) = some cs.length) (hk : Kns L M b o cs) : OpV P (.load t x) σ L M (.agg cs.toArray) := by
  intro n F ac w dst type pos after guard ha hs
  have := run_loadAt_mid (P := P) w b o t cs d (fun j v hv => by rw [cell_hcell]; exact hk j v hv _ _ hs) ht hd hi
  simp [execOp, ha.eval hx, this]
/-- A package-level variable of one cell. -/
theorem OpV.extract {x : Operand} {vs : Array Value} {i : Nat} {v : Value} (hx : evalE σ x = some (.tuple vs)) (hi : vs[i]? = some v) : OpV P (.extract x i) σ L M v := by
  intro n F ac w dst type pos after guard ha hs
  simp [execOp, ha.eval hx, Instr.extract, hi]
theorem OpV.convInt {s t : TypeId} {x : Operand} {k k' : IntKind} {a : Int} {d : TypeDesc} (hs : P.underlying s = some d) (ht : P.underlying t = some (.int k')) (hx : evalE σ x = some (.int k a)) : OpV P (.convert s t x) σ L M (.int k' (k'.wrap a)) := by
  intro n F ac w dst type pos after guard ha hsp
  simp [execOp, ha.eval hx, convert, underlying, hs, ht, Conv.intToInt]
theorem OpV.convI {s t : TypeId} {x : Operand} {k k' : IntKind} {a : Int} {d : TypeDesc} (hs : P.underlying s = some d) (ht : P.underlying t = some (.int k')) (hx : evalE σ x = some (.int k a)) (hr : k'.wrap a = a) : OpV P (.convert s t x) σ L M (.int k' a) := by
  have := OpV.convInt (L := L) (M := M) hs ht hx
  rwa [hr] at this
theorem OpV.nilCheck {x : Operand} {a : Addr} (hx : evalE σ x = some (.pointer (some a))) : OpV P (.nilCheck x) σ L M (.pointer (some a)) := by
  intro n F ac w dst type pos after guard ha hsp
  simp [execOp, ha.eval hx]
theorem OpV.makeFunc {fn : Fn} {first captured : Array Operand} {vs us : List Value} (h1 : first.toList.map (evalE σ) = vs.map some) (h2 : captured.toList.map (evalE σ) = us.map some) : OpV P (.makeFunc fn first captured) σ L M (.func fn vs.toArray us.toArray) := by
  intro n F ac w dst type pos after guard ha hsp
  have key : ∀ (xs : Array Operand) (vs : List Value), xs.toList.map (evalE σ) = vs.map some → xs.map ac.eval = vs.toArray := by
    intro xs vs h
    apply Array.toList_inj.1
    simp only [Array.toList_map]
    have : ∀ (l : List Operand) (vs : List Value), l.map (evalE σ) = vs.map some → l.map ac.eval = vs := by
      intro l
      induction l with
      | nil => intro vs h; cases vs <;> simp_all
      | cons o l ih =>
        intro vs h
        cases vs with
        | nil => simp at h
        | cons v vs =>
          simp at h
          simp [ha.eval h.1, ih vs h.2]
    exact this _ _ h
  simp [execOp, Instr.makeFunc, key _ _ h1, key _ _ h2]
end

end Go.Eng
set_option linter.unusedVariables false
namespace Go.Eng

section
variable {P : Program} {n : Nat} {ops : Array Oper} {rest : List Oper} {σ : Env} {L : List Res} {M : Mem} {Q : Post}

/-- Is an operation with a guard carried out? -/
def wantE (ops : Array Oper) (σ : Env) (j : Nat) (b : Bool) : Option Bool :=
  match (ops[j]?).bind (·.dst) with
  | none => none
  | some d => match σ.get d with
    | some (.bool c) => some (c == b)
    | some _ => some false
    | none => none

theorem wantE_spec {a : Act} (ha : Ag n σ a) {j : Nat} {b r : Bool} (h : wantE ops σ j b = some r) (o : Oper) (hg : o.guard = some (j, b)) : Region.wanted o (yielded ops a.tmps) = r := by
  unfold wantE at h
  simp only [Region.wanted, hg, yielded]
  cases hd : (ops[j]?).bind (·.dst) with
  | none => simp [hd] at h
  | some d =>
    simp only [hd] at h
    cases hv : σ.get d with
    | none => simp [hv] at h
    | some v =>
      have := ha.at_ d v hv
      simp only [Option.bind_some, this]
      cases v <;> simp [hv] at h <;> try (subst h; rfl)

theorem SL.val {op : Op} {d type : Nat} {pos : String} {after : Array Edge} {v : Value} (h : OpV P op σ L M v) (hd : Nat.blt d n = true) (k : SL P n ops rest ((d, v) :: σ) L M Q) :
    SL P n ops ({ dst := some d, op, type, pos, after, guard := none } :: rest) σ L M Q := by
  intro F w0 M0 a w ha hs hw hm
  refine wpList_plain rfl fun K hK => ?_
  simp only [Oper.wp, h n F a w (some d) type pos after none ha hs, Oper.upon]
  exact hK _ _ (k F w0 M0 _ w (ha.put hd v) hs hw hm)

theorem SL.gval {op : Op} {d type : Nat} {pos : String} {after : Array Edge} {v : Value} {j : Nat} {b : Bool} (hw : wantE ops σ j b = some true) (h : OpV P op σ L M v) (hd : Nat.blt d n = true) (k : SL P n ops rest ((d, v) :: σ) L M Q) :
    SL P n ops ({ dst := some d, op, type, pos, after, guard := some (j, b) } :: rest) σ L M Q := by
  intro F w0 M0 a w ha hs hst hm
  refine wpList_step fun K hK => ?_
  rw [if_pos (wantE_spec ha hw _ rfl)]
  simp only [Oper.wp, h n F a w (some d) type pos after (some (j, b)) ha hs, Oper.upon]
  exact hK _ _ (k F w0 M0 _ w (ha.put hd v) hs hst hm)

theorem SL.skip {op : Op} {d type : Nat} {pos : String} {after : Array Edge} {j : Nat} {b : Bool} (hw : wantE ops σ j b = some false) (hd : Nat.blt d n = true) (k : SL P n ops rest ((d, undef) :: σ) L M Q) :
    SL P n ops ({ dst := some d, op, type, pos, after, guard := some (j, b) } :: rest) σ L M Q := by
  intro F w0 M0 a w ha hs hst hm
  refine wpList_step fun K hK => ?_
  rw [if_neg (by rw [wantE_spec ha hw _ rfl]; simp)]
  exact hK _ _ (k F w0 M0 _ w (ha.put hd undef) hs hst hm)

/-- An operation that turns the heap. -/
def OpH (P : Program) (op : Op) (σ : Env) (L : List Res) (M : Mem) (R : Value → List Res → Mem → Prop) : Prop :=
  ∀ n F a w (dst : Option Tmp) type pos after guard, Ag n σ a → Sep w.heap (L ++ F) M →
    ∃ v w' L' M', (execOp a.eval { dst, op, type, pos, after, guard }).run P w = .ok (.value v) w' ∧ St w w' ∧ Sep w'.heap (L' ++ F) M' ∧ M.le M' ∧ R v L' M'

theorem SL.act {op : Op} {d type : Nat} {pos : String} {after : Array Edge} {R : Value → List Res → Mem → Prop} (h : OpH P op σ L M R) (hd : Nat.blt d n = true) (k : ∀ v L' M', M.le M' → R v L' M' → SL P n ops rest ((d, v) :: σ) L' M' Q) :
    SL P n ops ({ dst := some d, op, type, pos, after, guard := none } :: rest) σ L M Q := by
  intro F w0 M0 a w ha hs hw hm
  refine wpList_plain rfl fun K hK => ?_
  obtain ⟨v, w', L', M', h1, h2, h3, h4, h5⟩ := h n F a w (some d) type pos after none ha hs
  simp only [Oper.wp, h1, Oper.upon]
  exact hK _ _ (k v L' M' h4 h5 F w0 M0 _ w' (ha.put hd v) h3 (hw.trans h2) (Mem.le_trans hm h4))
theorem SL.gact {op : Op} {d type : Nat} {pos : String} {after : Array Edge} {j : Nat} {b : Bool} {R : Value → List Res → Mem → Prop} (hw : wantE ops σ j b = some true) (h : OpH P op σ L M R) (hd : Nat.blt d n = true) (k : ∀ v L' M', M.le M' → R v L' M' → SL P n ops rest ((d, v) :: σ) L' M' Q) :
    SL P n ops ({ dst := some d, op, type, pos, after, guard := some (j, b) } :: rest) σ L M Q := by
  intro F w0 M0 a w ha hs hst hm
  refine wpList_step fun K hK => ?_
  rw [if_pos (wantE_spec ha hw _ rfl)]
  obtain ⟨v, w', L', M', h1, h2, h3, h4, h5⟩ := h n F a w (some d) type pos after (some (j, b)) ha hs
  simp only [Oper.wp, h1, Oper.upon]
  exact hK _ _ (k v L' M' h4 h5 F w0 M0 _ w' (ha.put hd v) h3 (hst.trans h2) (Mem.le_trans hm h4))

/-- An operation that turns the heap and yields nothing. -/
def OpU (P : Program) (op : Op) (σ : Env) (L : List Res) (M : Mem) (L' : List Res) : Prop :=
  ∀ n F a w (dst : Option Tmp) type pos after guard, Ag n σ a → Sep w.heap (L ++ F) M →
    ∃ w', (execOp a.eval { dst, op, type, pos, after, guard }).run P w = .ok .skip w' ∧ St w w' ∧ Sep w'.heap (L' ++ F) M

theorem SL.unit {op : Op} {type : Nat} {pos : String} {after : Array Edge} {L' : List Res} (h : OpU P op σ L M L') (k : SL P n ops rest σ L' M Q) :
    SL P n ops ({ dst := none, op, type, pos, after, guard := none } :: rest) σ L M Q := by
  intro F w0 M0 a w ha hs hw hm
  refine wpList_plain rfl fun K hK => ?_
  obtain ⟨w', h1, h2, h3⟩ := h n F a w none type pos after none ha hs
  simp only [Oper.wp, h1, Oper.upon]
  exact hK _ _ (k F w0 M0 _ w' ha h3 (hw.trans h2) hm)

/-! ### Calls -/
def Fn.ok (P : Program) (f : FuncId) : Prop := ∀ args w, (callFunc f args).run P w = .ok (.enter f args) w
theorem Fn.ok_of {f : FuncId} {fn : Func} (hf : P.funcs[f]? = some fn) (hn : (fn.name == "runtime.NumGoroutine") = false) (hb : fn.body.isNone = false) : Fn.ok P f := by
  intro args w
  have hn' : ¬ fn.name = "runtime.NumGoroutine" := by simpa using hn
  have hb' : ¬ fn.body = none := by intro h0; rw [h0] at hb; cases hb
  simp [callFunc, hf, hn', hb']

theorem SL.callAt {c : Call} {f : FuncId} {vs : Array Value} {d type : Nat} {pos : String} {after : Array Edge} {g : Option (Nat × Bool)} {L1 G : List Res} {R : Value → List Res → Mem → Prop}
    (hg : g = none ∨ ∃ j b, g = some (j, b) ∧ wantE ops σ j b = some true)
    (hres : ∀ n a w, Ag n σ a → ((do let x ← resolve a.eval c type; invoke x.target x.args) : Sem Next).run P w = .ok (.enter f vs) w)
    (hL : L.Perm (L1 ++ G)) (hc : Ev P f vs L1 M R) (hd : Nat.blt d n = true)
    (k : ∀ v L' M', M.le M' → R v L' M' → SL P n ops rest ((d, v) :: σ) (L' ++ G) M' Q) :
    SL P n ops ({ dst := some d, op := .call c, type, pos, after, guard := g } :: rest) σ L M Q := by
  intro F w0 M0 a w ha hs hw hm
  refine wpList_step fun K hK => ?_
  have hgo : Region.wanted ({ dst := some d, op := .call c, type, pos, after, guard := g } : Oper) (yielded ops a.tmps) = true := by
    rcases hg with rfl | ⟨j, b, rfl, hg⟩
    · rfl
    · exact wantE_spec ha hg _ rfl
  rw [if_pos hgo]
  have hrun : (execOp a.eval { dst := some d, op := .call c, type, pos, after, guard := g }).run P w = .ok (.enter f vs) w := hres n a w ha
  simp only [Oper.wp, hrun, Oper.upon]
  refine (hc (G ++ F) w (hs.perm (by rw [← List.append_assoc]; exact hL.append_right _))).mono ?_
  rintro e w' ⟨v, L', M', rfl, h2, h3, h4, h5⟩
  exact hK _ _ (k v L' M' h4 h5 F w0 M0 _ w' (ha.put hd v) (by rw [List.append_assoc]; exact h3) (hw.trans h2) (Mem.le_trans hm h4))

theorem evals {a : Act} (ha : Ag n σ a) {xs : Array Operand} {vs : List Value} (h : xs.toList.map (evalE σ) = vs.map some) : xs.map a.eval = vs.toArray := by
  apply Array.toList_inj.1
  simp only [Array.toList_map]
  have : ∀ (l : List Operand) (vs : List Value), l.map (evalE σ) = vs.map some → l.map a.eval = vs := by
    intro l
    induction l with
    | nil => intro vs h; cases vs <;> simp_all
    | cons o l ih =>
      intro vs h
      cases vs with
      | nil => simp at h
      | cons v vs =>
        simp at h
        simp [ha.eval h.1, ih vs h.2]
  exact this _ _ h

/-- A call of a function by its name. -/
theorem SL.call {f : FuncId} {xs : Array Operand} {ats : Array TypeId} {vs : List Value} {d type : Nat} {pos : String} {after : Array Edge} {L1 G : List Res} {R : Value → List Res → Mem → Prop}
    (hf : Fn.ok P f) (hx : xs.toList.map (evalE σ) = vs.map some)
    (hL : L.Perm (L1 ++ G)) (hc : Ev P f vs.toArray L1 M R) (hd : Nat.blt d n = true)
    (k : ∀ v L' M', M.le M' → R v L' M' → SL P n ops rest ((d, v) :: σ) (L' ++ G) M' Q) :
    SL P n ops ({ dst := some d, op := .call { callee := .value (.func f), args := xs, argTypes := ats }, type, pos, after, guard := none } :: rest) σ L M Q :=
  SL.callAt (.inl rfl) (fun n a w ha => by
    have := hf (vs.toArray) w
    simp only [resolve, evals ha hx, Act.eval, Deferred.ofValue]
    simpa [invoke] using this) hL hc hd k
theorem SL.gcall {f : FuncId} {xs : Array Operand} {ats : Array TypeId} {vs : List Value} {d type : Nat} {pos : String} {after : Array Edge} {j : Nat} {b : Bool} {L1 G : List Res} {R : Value → List Res → Mem → Prop}
    (hw : wantE ops σ j b = some true) (hf : Fn.ok P f) (hx : xs.toList.map (evalE σ) = vs.map some)
    (hL : L.Perm (L1 ++ G)) (hc : Ev P f vs.toArray L1 M R) (hd : Nat.blt d n = true)
    (k : ∀ v L' M', M.le M' → R v L' M' → SL P n ops rest ((d, v) :: σ) (L' ++ G) M' Q) :
    SL P n ops ({ dst := some d, op := .call { callee := .value (.func f), args := xs, argTypes := ats }, type, pos, after, guard := some (j, b) } :: rest) σ L M Q :=
  SL.callAt (.inr ⟨j, b, rfl, hw⟩) (fun n a w ha => by
    have := hf (vs.toArray) w
    simp only [resolve, evals ha hx, Act.eval, Deferred.ofValue]
    simpa [invoke] using this) hL hc hd k
/-- A call of a function value that is known: what it captured comes behind its arguments. -/
theorem SL.callv {f : FuncId} {t : Nat} {cap : Array Value} {xs : Array Operand} {ats : Array TypeId} {vs : List Value} {d type : Nat} {pos : String} {after : Array Edge} {g : Option (Nat × Bool)} {L1 G : List Res} {R : Value → List Res → Mem → Prop}
    (hg : g = none ∨ ∃ j b, g = some (j, b) ∧ wantE ops σ j b = some true)
    (hf : Fn.ok P f) (ht : σ.get t = some (.func (.func f) #[] cap)) (hx : xs.toList.map (evalE σ) = vs.map some)
    (hL : L.Perm (L1 ++ G)) (hc : Ev P f (vs ++ cap.toList).toArray L1 M R) (hd : Nat.blt d n = true)
    (k : ∀ v L' M', M.le M' → R v L' M' → SL P n ops rest ((d, v) :: σ) (L' ++ G) M' Q) :
    SL P n ops ({ dst := some d, op := .call { callee := .value (.tmp t), args := xs, argTypes := ats }, type, pos, after, guard := g } :: rest) σ L M Q :=
  SL.callAt hg (fun n a w ha => by
    have := hf ((vs ++ cap.toList).toArray) w
    have he : a.eval (.tmp t) = .func (.func f) #[] cap := ha.eval ht
    have e2 : vs.toArray ++ cap = (vs ++ cap.toList).toArray := Array.toList_inj.1 (by simp)
    simp only [resolve, evals ha hx, he, Deferred.ofValue]
    simpa [invoke, e2] using this) hL hc hd k

/-! ### New blocks -/
theorem OpH.box {e : TypeId} {x : Operand} {v : Value} (hx : evalE σ x = some v) : OpH P (.box e x) σ L M fun p L' M' => ∃ b, p = .pointer (some ⟨b, 0, none⟩) ∧ L' = .blk b e v.cells.toList :: L ∧ M = M' := by
  intro n F a w dst type pos after guard ha hs
  refine ⟨.pointer (some ⟨w.heap.size, 0, none⟩), { w with heap := w.heap.push (.cells v.cells e) }, .blk w.heap.size e v.cells.toList :: L, M, ?_, ⟨rfl, rfl, rfl⟩, ?_, Mem.le_refl _, _, rfl, rfl, rfl⟩
  · simp [execOp, ha.eval hx, Instr.box, newVar, newRow]
  · have := hs.newBlk e v.cells.toList
    simpa using this
theorem OpH.alloc {e : TypeId} {z : Value} (hz : (P.info? e).bind (·.zero) = some z) : OpH P (.alloc e) σ L M fun p L' M' => ∃ b, p = .pointer (some ⟨b, 0, none⟩) ∧ L' = .blk b e z.cells.toList :: L ∧ M = M' := by
  intro n F a w dst type pos after guard ha hs
  refine ⟨.pointer (some ⟨w.heap.size, 0, none⟩), { w with heap := w.heap.push (.cells z.cells e) }, .blk w.heap.size e z.cells.toList :: L, M, ?_, ⟨rfl, rfl, rfl⟩, ?_, Mem.le_refl _, _, rfl, rfl, rfl⟩
  · cases hq : P.info? e with
    | none => simp [hq] at hz
    | some ie =>
      have hz' : ie.zero = some z := by simpa [hq] using hz
      simp [execOp, Instr.alloc, zeroValue, typeInfo, hq, hz', newVar, newRow]
  · have := hs.newBlk e z.cells.toList
    simpa using this

/-! ### Stores -/
theorem hs_of {w : World} {b o : Nat} {t : TypeId} {cs : Array Value} {fr : Nat × Nat} (h : w.heap[b]? = some (.cells cs t fr)) (hf : Thaw cs.size fr) (ho : o < cs.size) (v : Value) (hv : v.oneCell' = true) (m : Mode) :
    ∃ w', (store ⟨b, o, none⟩ v m).run P w = .ok () w' ∧ St w w' ∧ w'.heap.size = w.heap.size ∧ w'.heap[b]? = some (.cells (cs.setIfInBounds o v) t fr) ∧ ∀ c, c ≠ b → w'.heap[c]? = w.heap[c]? := by
  refine ⟨w.setCell ⟨b, o, none⟩ v, ?_, ⟨rfl, rfl, rfl⟩, by simp, ?_, ?_⟩
  · rw [run_store P w _ v m hv]
    have h1 : w.cell? ⟨b, o, none⟩ = some cs[o] := by simp [World.cell?, h, ho]
    have h2 : w.frozen? ⟨b, o, none⟩ = false := by
      have := hf o ho
      simp only [World.frozen?, h]
      simpa using this
    simp [h1, h2]
  · simp [World.setCell, Array.getElem?_modify, h]
  · intro c hc
    simp only [World.setCell, Array.getElem?_modify]
    rw [if_neg (by simpa using Ne.symm hc)]

theorem run_storeCells' {b o : Nat} {t : TypeId} {fr : Nat × Nat} : ∀ (vs : List Value) (i : Nat) (cs : Array Value) (w : World), w.heap[b]? = some (.cells cs t fr) → Thaw cs.size fr → o + i + vs.length ≤ cs.size → (∀ v ∈ vs, v.oneCell' = true) →
    ∃ w', (storeCells ⟨b, o, none⟩ vs i).run P w = .ok () w' ∧ St w w' ∧ w'.heap.size = w.heap.size ∧ w'.heap[b]? = some (.cells (cs.toList.take (o + i) ++ vs ++ cs.toList.drop (o + i + vs.length)).toArray t fr) ∧ ∀ c, c ≠ b → w'.heap[c]? = w.heap[c]?
  | [], i, cs, w, h, _, _, _ => ⟨w, rfl, St.refl _, rfl, by simp [h], fun _ _ => rfl⟩
  | v :: vs, i, cs, w, h, hf, hl, h1 => by
    simp at hl
    obtain ⟨w1, r1, s1, z1, c1, k1⟩ := hs_of (P := P) h hf (o := o + i) (by omega) v (h1 v (by simp)) .plain
    obtain ⟨w2, r2, s2, z2, c2, k2⟩ := run_storeCells' (b := b) (o := o) vs (i + 1) (cs.setIfInBounds (o + i) v) w1 c1 (by simpa using hf) (by simp; omega) (fun x hx => h1 x (by simp [hx]))
    refine ⟨w2, ?_, s1.trans s2, z2.trans z1, ?_, fun c hc => (k2 c hc).trans (k1 c hc)⟩
    · simp only [storeCells, Sem.run_bind, Addr.add_mid, r1, Result.andThen_ok, r2]
    · rw [c2]
      have e := list_seg_step cs.toList (o + i) v vs (by simp; omega)
      congr 3
      simpa [Array.toList_setIfInBounds, Nat.add_assoc] using e

def splice (cs : List Value) (o : Nat) (vs : List Value) : List Value := cs.take o ++ vs ++ cs.drop (o + vs.length)

theorem OpU.store {t : TypeId} {x y : Operand} {b o : Nat} {e : TypeId} {cs : List Value} {v : Value} (i : Nat) (hL : L[i]? = some (.blk b e cs)) (hx : evalE σ x = some (.pointer (some ⟨b, o, none⟩))) (hy : evalE σ y = some v)
    (hz : (P.info? t).map (·.size) = some v.cells.size) (ho : o + v.cells.size ≤ cs.length) (h1 : v.cells.all (·.oneCell') = true) : OpU P (.store t x y) σ L M (L.set i (.blk b e (splice cs o v.cells.toList))) := by
  intro n F a w dst type pos after guard ha hs
  have hs' := hs.perm (perm_at (getElem?_app (F := F) hL))
  obtain ⟨fp, ⟨f1, f2, rfl, ⟨rfl, fr, hf, hb⟩, _⟩, _⟩ := hs'.own
  obtain ⟨w', r, s, z, c, k⟩ := run_storeCells' (P := P) (o := o) v.cells.toList 0 cs.toArray w hb (by simpa using hf) (by simpa using ho) (fun u hu => by
    have := Array.all_eq_true.1 h1
    obtain ⟨j, hj, rfl⟩ := List.mem_iff_getElem.1 hu
    simpa using this j (by simpa using hj))
  refine ⟨w', ?_, s, ?_⟩
  · cases hq : P.info? t with
    | none => simp [hq] at hz
    | some ie =>
      have hz' : ie.size = v.cells.size := by simpa [hq] using hz
      simp [execOp, ha.eval hx, ha.eval hy, Instr.storeAt, Instr.sureAddr, storeVar, sizeOf, typeInfo, hq, hz', r]
  · have hw := hs'.write (r' := .blk b e (splice cs o v.cells.toList)) (fun _ h => h.1) z ⟨rfl, fr, ?_, by simpa [splice] using c⟩ k
    · have := hw.perm ((perm_set (.blk b e (splice cs o v.cells.toList)) (getElem?_app (F := F) hL)))
      rwa [set_app hL] at this
    · have : (splice cs o v.cells.toList).length = cs.length := by simp [splice]; omega
      rw [this]; exact hf
/-- A store of one cell. -/
theorem OpU.store1 {t : TypeId} {x y : Operand} {b o : Nat} {e : TypeId} {cs : List Value} {v : Value} (i : Nat) (hL : L[i]? = some (.blk b e cs)) (hx : evalE σ x = some (.pointer (some ⟨b, o, none⟩))) (hy : evalE σ y = some v)
    (hz : (P.info? t).map (·.size) = some 1) (ho : o < cs.length) (h1 : v.oneCell' = true) : OpU P (.store t x y) σ L M (L.set i (.blk b e (cs.set o v))) := by
  have hc : v.cells = #[v] := by cases v <;> simp_all [Value.cells, Value.oneCell']
  have := OpU.store (M := M) i hL hx hy (by rw [hc]; exact hz) (by rw [hc]; simp; omega) (by rw [hc]; simp [h1])
  have he : splice cs o v.cells.toList = cs.set o v := by
    rw [hc]
    simp only [splice]
    rw [List.set_eq_take_append_cons_drop, if_pos ho]
    simp
  rwa [he] at this

end
end Go.Eng
set_option linter.unusedVariables false
set_option linter.unusedSimpArgs false
namespace Go.Eng

section
variable {P : Program} {n : Nat} {ops : Array Oper} {rest : List Oper} {σ : Env} {L : List Res} {M : Mem} {Q : Post}

/-! ### Entry, return -/
def argEnv : Nat → List Value → Env
  | _, [] => []
  | k, v :: vs => (k, v) :: argEnv (k + 1) vs
theorem argEnv_get : ∀ (vs : List Value) (k t : Nat) (v : Value), (argEnv k vs).get t = some v → k ≤ t ∧ vs[t - k]? = some v
  | [], k, t, v, h => by simp [argEnv, Env.get] at h
  | u :: vs, k, t, v, h => by
    simp only [argEnv, Env.get_cons] at h
    split at h
    · rename_i hk; subst hk; simp at h; subst h; simp
    · rename_i hk
      obtain ⟨h1, h2⟩ := argEnv_get vs (k + 1) t v h
      refine ⟨by omega, ?_⟩
      rw [show t - k = (t - (k + 1)) + 1 by omega]
      simpa using h2

theorem Ev.enter {f : FuncId} {fn : Func} {c : Code} {vs : List Value} {R : Value → List Res → Mem → Prop} (hf : P.funcs[f]? = some fn) (hb : fn.body = some c) (hn : fn.ntmps = n) (hv : Nat.ble vs.length n = true)
    (h : SC P n c (argEnv 0 vs) L M (retQ P fn R)) : Ev P f vs.toArray L M R := by
  intro F w hs
  have hv' : vs.length ≤ n := by simpa using hv
  refine calls_of_wp hf hb (wp_mono (h F w M { tmps := vs.toArray ++ Array.replicate (fn.ntmps - vs.toArray.size) undef, defers := [] } w ⟨?_, rfl, ?_⟩ hs (St.refl _) (Mem.le_refl _)) ?_)
  · simp [hn]; omega
  · intro t v ht
    obtain ⟨_, h2⟩ := argEnv_get vs 0 t v ht
    have hlt : t < vs.length := by
      rcases Nat.lt_or_ge t vs.length with h' | h'
      · exact h'
      · simp [List.getElem?_eq_none h'] at h2
    rw [Array.getElem?_append_left (by simpa using hlt)]
    simpa using h2
  · rintro e a w' ⟨σ', L', M', h1, h2, h3, h4, h5⟩
    cases e with
    | normal =>
      obtain ⟨v, hr, hR⟩ := h5
      exact ⟨h1.defers, v, hr n F a w' h1 h3, v, L', M', rfl, h2, h3, h4, hR⟩
    | ret =>
      obtain ⟨v, hr, hR⟩ := h5
      exact ⟨h1.defers, v, hr n F a w' h1 h3, v, L', M', rfl, h2, h3, h4, hR⟩
    | exit id => exact h5.elim
    | goto l => exact h5.elim
    | panic c => exact h5.elim
    | outgrown => exact h5.elim

/-- What a result variable holds. -/
inductive ResV (P : Program) (σ : Env) (L : List Res) (M : Mem) : ResultVar → Value → Prop
  | tmp {t : Tmp} {v : Value} (h : σ.get t = some v) : ResV P σ L M (.tmp t) v
  | cells {t : Tmp} {ty : TypeId} {b o : Nat} {cs : List Value} (d : TypeDesc) (ht : P.underlying ty = some d) (hd : d.isRow = true) (h : σ.get t = some (.pointer (some ⟨b, o, none⟩)))
      (hi : (P.info? ty).map (·.size) = some cs.length) (hk : Kns L M b o cs) : ResV P σ L M (.cell t ty) (.agg cs.toArray)
  | cell {t : Tmp} {ty : TypeId} {b o : Nat} {v : Value} (d : TypeDesc) (ht : P.underlying ty = some d) (hd : d.isRow = false) (h : σ.get t = some (.pointer (some ⟨b, o, none⟩))) (hk : Kn L M b o v) : ResV P σ L M (.cell t ty) v

def resOf (tmps : Array Value) : ResultVar → Sem Value
  | .tmp t => pure (tmps.getD t undef)
  | .cell p t => do loadVar t (← asAddr (tmps.getD p undef))

theorem ResV.run {r : ResultVar} {v : Value} (h : ResV P σ L M r v) {F : List Res} {a : Act} {w : World} (ha : Ag n σ a) (hs : Sep w.heap (L ++ F) M) :
    (resOf a.tmps r).run P w = .ok v w := by
  cases h with
  | tmp h =>
    have := ha.at_ _ _ h
    simp [resOf, Array.getD_eq_getD_getElem?, this]
  | @cells t ty b o cs d ht hd h hi hk =>
    have h1 := ha.at_ _ _ h
    have := run_loadVar_mid (P := P) w b o ty cs d (fun j v hv => by rw [cell_hcell]; exact hk j v hv _ _ hs) ht hd hi
    simp [resOf, Array.getD_eq_getD_getElem?, h1, asAddr, this]
  | @cell t ty b o v d ht hd h hk =>
    have h1 := ha.at_ _ _ h
    have hc : w.cell? ⟨b, o, none⟩ = some v := by rw [cell_hcell]; exact hk _ _ hs
    have hagg : (isAgg ty).run P w = .ok false w := by
      unfold isAgg underlying
      cases d <;> simp_all
    simp [resOf, Array.getD_eq_getD_getElem?, h1, asAddr, loadVar, hagg, hc]

inductive ResVs (P : Program) (σ : Env) (L : List Res) (M : Mem) : List ResultVar → List Value → Prop
  | nil : ResVs P σ L M [] []
  | cons {r : ResultVar} {v : Value} {rs : List ResultVar} {vs : List Value} (h : ResV P σ L M r v) (hs : ResVs P σ L M rs vs) : ResVs P σ L M (r :: rs) (v :: vs)

theorem ResVs.run {F : List Res} {a : Act} {w : World} (ha : Ag n σ a) (hs : Sep w.heap (L ++ F) M) : ∀ {rs : List ResultVar} {vs : List Value}, ResVs P σ L M rs vs →
    (rs.mapM (m := Sem) (resOf a.tmps)).run P w = .ok vs w
  | [], [], _ => rfl
  | r :: rs, v :: vs, .cons h k => by
    have h1 := h.run ha hs
    have h2 := ResVs.run ha hs k
    rw [List.mapM_cons, Sem.run_bind, h1, Result.andThen_ok, Sem.run_bind, h2]
    rfl

def tupled : List Value → Value
  | [v] => v
  | vs => .tuple vs.toArray

theorem retQ.mk {fn : Func} {R : Value → List Res → Mem → Prop} {rs : List ResultVar} {vs : List Value} (hr : fn.results = rs.toArray) (h : ResVs P σ L M rs vs) (hR : R (tupled vs) L M) : ∀ e, (e = .normal ∨ e = .ret) → retQ P fn R e σ L M := by
  have key : ∀ n F a w, Ag n σ a → Sep w.heap (L ++ F) M → (results fn a.tmps).run P w = .ok (tupled vs) w := by
    intro n F a w ha hs
    have h2 := ResVs.run ha hs h
    have hd : results fn a.tmps = (do
        let vs ← fn.results.mapM (resOf a.tmps)
        pure (if h : vs.size = 1 then vs[0] else .tuple vs)) := rfl
    rw [hd, hr, List.mapM_toArray]
    rw [Sem.run_bind, Sem.run_map, h2]
    simp only [Result.andThen_ok]
    match vs with
    | [] => rfl
    | [v] => rfl
    | v :: u :: vs => rfl
  rintro e (rfl | rfl) <;> exact ⟨_, key, hR⟩

theorem retQ.none {fn : Func} {R : Value → List Res → Mem → Prop} (hr : fn.results = #[]) (hR : R (.tuple #[]) L M) : ∀ e, (e = .normal ∨ e = .ret) → retQ P fn R e σ L M :=
  retQ.mk (rs := []) (vs := []) hr .nil hR
theorem retQ.one {fn : Func} {R : Value → List Res → Mem → Prop} {r : ResultVar} {v : Value} (hr : fn.results = #[r]) (h : ResV P σ L M r v) (hR : R v L M) : ∀ e, (e = .normal ∨ e = .ret) → retQ P fn R e σ L M :=
  retQ.mk (rs := [r]) (vs := [v]) hr (.cons h .nil) hR
theorem retQ.two {fn : Func} {R : Value → List Res → Mem → Prop} {r s : ResultVar} {v u : Value} (hr : fn.results = #[r, s]) (h : ResV P σ L M r v) (k : ResV P σ L M s u) (hR : R (.tuple #[v, u]) L M) : ∀ e, (e = .normal ∨ e = .ret) → retQ P fn R e σ L M :=
  retQ.mk (rs := [r, s]) (vs := [v, u]) hr (.cons h (.cons k .nil)) hR
theorem retQ.three {fn : Func} {R : Value → List Res → Mem → Prop} {r s t : ResultVar} {v u x : Value} (hr : fn.results = #[r, s, t]) (h : ResV P σ L M r v) (k : ResV P σ L M s u) (l : ResV P σ L M t x) (hR : R (.tuple #[v, u, x]) L M) : ∀ e, (e = .normal ∨ e = .ret) → retQ P fn R e σ L M :=
  retQ.mk (rs := [r, s, t]) (vs := [v, u, x]) hr (.cons h (.cons k (.cons l .nil))) hR
theorem retQ.four {fn : Func} {R : Value → List Res → Mem → Prop} {r s t q : ResultVar} {v u x y : Value} (hr : fn.results = #[r, s, t, q]) (h : ResV P σ L M r v) (k : ResV P σ L M s u) (l : ResV P σ L M t x) (m : ResV P σ L M q y) (hR : R (.tuple #[v, u, x, y]) L M) : ∀ e, (e = .normal ∨ e = .ret) → retQ P fn R e σ L M :=
  retQ.mk (rs := [r, s, t, q]) (vs := [v, u, x, y]) hr (.cons h (.cons k (.cons l (.cons m .nil)))) hR

theorem LetsOut.mono {Q Q' : Exit → Act → World → Prop} (h : LetsOut Q) (hq : ∀ e a w, Q e a w → Q' e a w) : LetsOut Q' := let ⟨a, w, k⟩ := h; ⟨a, w, hq _ _ _ k⟩
theorem wpList_mono {Q Q' : Exit → Act → World → Prop} (hq : ∀ e a w, Q e a w → Q' e a w) : ∀ (l : List Oper) (a : Act) (w : World), wpList P ops Q l a w → wpList P ops Q' l a w
  | [], a, w, h => hq _ _ _ h
  | o :: l, a, w, h => by
    unfold wpList at h ⊢
    split
    · rename_i hw
      rw [if_pos hw] at h
      rcases h with h | ⟨h1, h2⟩
      · refine .inl ?_
        unfold Oper.wp at h ⊢
        generalize (execOp a.eval o).run P w = r at h ⊢
        cases r with
        | ok x w' =>
          cases x <;> simp only [Oper.upon] at h ⊢ <;> try exact wpList_mono hq l _ _ h
          · exact h.mono fun e w'' he => by
              cases e with
              | returned v => exact wpList_mono hq l _ _ he
              | panicked c => exact hq _ _ _ he
              | outgrown => exact LetsOut.mono he hq
          · exact h.mono fun v w'' he => wpList_mono hq l _ _ he
        | halt x w' => cases x <;> first | exact h | exact hq _ _ _ h
      · exact .inr ⟨h1, LetsOut.mono h2 hq⟩
    · rename_i hw
      rw [if_neg hw] at h
      exact wpList_mono hq l _ _ h

/-! ### A cut: some operations come to one value, told apart by a bool -/
theorem wpList_append {Q : Exit → Act → World → Prop} : ∀ (l1 l2 : List Oper) (a : Act) (w : World), wpList P ops (fun e a w => match e with | .normal => wpList P ops Q l2 a w | e => Q e a w) l1 a w → wpList P ops Q (l1 ++ l2) a w
  | [], l2, a, w, h => h
  | o :: l1, l2, a, w, h => by
    simp only [List.cons_append]
    unfold wpList at h ⊢
    split
    · rename_i hw
      rw [if_pos hw] at h
      rcases h with h | ⟨h1, a0, w0, h2⟩
      · refine .inl ?_
        unfold Oper.wp at h ⊢
        generalize (execOp a.eval o).run P w = r at h ⊢
        cases r with
        | ok x w' =>
          cases x <;> simp only [Oper.upon] at h ⊢ <;> try exact wpList_append l1 l2 _ _ h
          · exact h.mono fun e w'' he => by
              cases e with
              | returned v => exact wpList_append l1 l2 _ _ he
              | panicked c => exact he
              | outgrown => obtain ⟨a1, w1, h1⟩ := he; exact ⟨a1, w1, h1⟩
          · exact h.mono fun v w'' he => wpList_append l1 l2 _ _ he
        | halt x w' => cases x <;> exact h
      · exact .inr ⟨h1, a0, w0, h2⟩
    · rename_i hw
      rw [if_neg hw] at h
      exact wpList_append l1 l2 _ _ h

/-- The first k operations come to these values; what else they hold is forgotten, what is owned is as it was. -/
theorem SL.cut (k : Nat) {l : List Oper} {τ : Env} (h : SL P n ops (l.take k) σ L M fun e σ' L' M' => e = .normal ∧ (∀ p ∈ τ, σ'.get p.1 = some p.2) ∧ ∃ G, L'.Perm (G ++ L)) (h2 : SL P n ops (l.drop k) τ L M Q) : SL P n ops l σ L M Q := by
  intro F w0 M0 a w ha hs hw hm
  rw [← List.take_append_drop k l]
  refine wpList_append _ _ _ _ ?_
  have := h F w0 M a w ha hs hw (Mem.le_refl _)
  refine wpList_mono ?_ _ _ _ this
  rintro e a' w' ⟨σ', L', M', h1, h3, h4, h5, rfl, h7, G, h8⟩
  exact h2 F w0 M0 a' w' (h1.weaken h7) ((Sep.dropLeft (L1 := G) (h4.perm (by rw [← List.append_assoc]; exact h8.append_right _))).less h5) h3 hm
end
end Go.Eng
set_option linter.unusedVariables false
set_option linter.unusedSimpArgs false
namespace Go.Eng

section
variable {P : Program} {n : Nat} {ops : Array Oper} {rest : List Oper} {σ : Env} {L : List Res} {M : Mem} {Q : Post}

/-! ### Groups of guarded operations: '||', '&&' -/
def Env.le (τ σ : Env) : Prop := ∀ t v, τ.get t = some v → σ.get t = some v
theorem Env.le_refl (σ : Env) : σ.le σ := fun _ _ h => h
theorem Env.le_new {τ σ : Env} {x : Nat} {v : Value} (hx : τ.get x = none) (h : τ.le σ) : τ.le ((x, v) :: σ) := by
  intro t u ht
  rw [Env.get_cons]
  split
  · rename_i e; subst e; rw [hx] at ht; cases ht
  · exact h t u ht

def cutQ (d : Nat) (v : Value) (τ : Env) (L : List Res) : Post := fun e σ' L' _ => e = .normal ∧ σ'.get d = some v ∧ τ.le σ' ∧ ∃ G, L'.Perm (G ++ L)

theorem Ag.le {a : Act} {τ : Env} (h : Ag n σ a) (hl : τ.le σ) : Ag n τ a := ⟨h.size, h.defers, fun t v hv => h.at_ t v (hl t v hv)⟩

theorem SL.vcut (k : Nat) {l : List Oper} {d : Nat} {v : Value} (h : SL P n ops (l.take k) σ L M (cutQ d v σ L)) (h2 : SL P n ops (l.drop k) ((d, v) :: σ) L M Q) : SL P n ops l σ L M Q := by
  intro F w0 M0 a w ha hs hw hm
  rw [← List.take_append_drop k l]
  refine wpList_append _ _ _ _ ?_
  refine wpList_mono ?_ _ _ _ (h F w0 M a w ha hs hw (Mem.le_refl _))
  rintro e a' w' ⟨σ', L', M', h1, h3, h4, h5, rfl, h6, h7, G, h8⟩
  refine h2 F w0 M0 a' w' (h1.le ?_) ((Sep.dropLeft (L1 := G) (h4.perm (by rw [← List.append_assoc]; exact h8.append_right _))).less h5) h3 hm
  intro t u ht
  rw [Env.get_cons] at ht
  split at ht
  · rename_i e; subst e; simp at ht; subst ht; exact h6
  · exact h7 t u ht

theorem SL.bcase {l : List Oper} {c : Nat} {b : Bool} (hc : σ.get c = some (.bool b)) (hT : b = true → SL P n ops l ((c, .bool true) :: σ) L M Q) (hF : b = false → SL P n ops l ((c, .bool false) :: σ) L M Q) : SL P n ops l σ L M Q := by
  intro F w0 M0 a w ha hs hw hm
  have key : ∀ b', b = b' → Ag n ((c, .bool b') :: σ) a := by
    rintro b' rfl
    refine ha.le ?_
    intro t u ht
    rw [Env.get_cons] at ht
    split at ht
    · rename_i e; subst e; simp at ht; subst ht; exact hc
    · exact ht
  cases b with
  | true => exact hT rfl F w0 M0 a w (key _ rfl) hs hw hm
  | false => exact hF rfl F w0 M0 a w (key _ rfl) hs hw hm

theorem cutQ.weak {e : Exit} {σ' : Env} {L' : List Res} {M' : Mem} {d c : Nat} {v v' : Value} {b b' : Bool} (hc : σ.get c = some (.bool b)) (hb : b = b') (hv : v = v') (h : cutQ d v ((c, .bool b') :: σ) L e σ' L' M') : cutQ d v' σ L e σ' L' M' := by
  obtain ⟨h1, h2, h3, h4⟩ := h
  refine ⟨h1, hv ▸ h2, fun t u ht => h3 t u ?_, h4⟩
  rw [Env.get_cons]
  split
  · rename_i e; subst e; rw [hc] at ht; cases ht; rw [hb]
  · exact ht

theorem SL.mono {l : List Oper} {Q' : Post} (h : SL P n ops l σ L M Q) (hq : ∀ e σ' L' M', M.le M' → Q e σ' L' M' → Q' e σ' L' M') : SL P n ops l σ L M Q' := by
  intro F w0 M0 a w ha hs hw hm
  refine wpList_mono ?_ _ _ _ (h F w0 M a w ha hs hw (Mem.le_refl _))
  rintro e a' w' ⟨σ', L', M', h1, h3, h4, h5, h6⟩
  exact ⟨σ', L', M', h1, h3, h4, Mem.le_trans hm h5, hq _ _ _ _ h5 h6⟩

theorem SL.orcut (k : Nat) {l : List Oper} {c d : Nat} {b : Bool} (hc : σ.get c = some (.bool b))
    (hT : b = true → SL P n ops (l.take k) ((c, .bool true) :: σ) L M (cutQ d (.bool true) ((c, .bool true) :: σ) L))
    (h : ∃ B, (b = false → SL P n ops (l.take k) ((c, .bool false) :: σ) L M (cutQ d (.bool B) ((c, .bool false) :: σ) L)) ∧ SL P n ops (l.drop k) ((d, .bool (b || B)) :: σ) L M Q) : SL P n ops l σ L M Q := by
  obtain ⟨B, hF, h2⟩ := h
  exact SL.vcut k (SL.bcase hc (fun h => (hT h).mono fun _ _ _ _ _ q => cutQ.weak hc h (by rw [h]; rfl) q) (fun h => (hF h).mono fun _ _ _ _ _ q => cutQ.weak hc h (by rw [h]; rfl) q)) h2
theorem SL.andcut (k : Nat) {l : List Oper} {c d : Nat} {b : Bool} (hc : σ.get c = some (.bool b))
    (hF : b = false → SL P n ops (l.take k) ((c, .bool false) :: σ) L M (cutQ d (.bool false) ((c, .bool false) :: σ) L))
    (h : ∃ B, (b = true → SL P n ops (l.take k) ((c, .bool true) :: σ) L M (cutQ d (.bool B) ((c, .bool true) :: σ) L)) ∧ SL P n ops (l.drop k) ((d, .bool (b && B)) :: σ) L M Q) : SL P n ops l σ L M Q := by
  obtain ⟨B, hT, h2⟩ := h
  exact SL.vcut k (SL.bcase hc (fun h => (hT h).mono fun _ _ _ _ _ q => cutQ.weak hc h (by rw [h]; rfl) q) (fun h => (hF h).mono fun _ _ _ _ _ q => cutQ.weak hc h (by rw [h]; rfl) q)) h2

/-! ### What is owned: in another order, let go, fixed -/
theorem SL.perm {l : List Oper} {L1 L2 : List Res} (hl : L.Perm (L2 ++ L1)) (h : SL P n ops l σ L1 M Q) : SL P n ops l σ L M Q :=
  fun F w0 M0 a w ha hs hw hm => h F w0 M0 a w ha (Sep.dropLeft (L1 := L2) (hs.perm (by rw [← List.append_assoc]; exact hl.append_right _))) hw hm
theorem SC.perm {c : Code} {L1 L2 : List Res} (hl : L.Perm (L2 ++ L1)) (h : SC P n c σ L1 M Q) : SC P n c σ L M Q :=
  fun F w0 M0 a w ha hs hw hm => h F w0 M0 a w ha (Sep.dropLeft (L1 := L2) (hs.perm (by rw [← List.append_assoc]; exact hl.append_right _))) hw hm
theorem perm_erase {i : Nat} {r : Res} (h : L[i]? = some r) : L.Perm ([r] ++ L.eraseIdx i) := perm_at h
theorem SL.drop {l : List Oper} (i : Nat) {r : Res} (hi : L[i]? = some r) (h : SL P n ops l σ (L.eraseIdx i) M Q) : SL P n ops l σ L M Q := SL.perm (perm_erase hi) h
theorem SC.drop {c : Code} (i : Nat) {r : Res} (hi : L[i]? = some r) (h : SC P n c σ (L.eraseIdx i) M Q) : SC P n c σ L M Q := SC.perm (perm_erase hi) h

/-- A slice of m elements of sz cells each, in fixed memory. -/
def ISl (M : Mem) (v : Value) (sz m : Nat) (xs : List Value) : Prop :=
  ∃ ad cap, v = .slice ad m cap ∧ xs.length = m * sz ∧ m ≤ cap ∧ cap ≤ maxLen ∧ (m = 0 ∨ ∃ g o, ad = some ⟨g, o, none⟩ ∧ M.cells g o xs)
theorem ISl.mono {M M' : Mem} {v : Value} {sz m : Nat} {xs : List Value} (h : ISl M v sz m xs) (hm : M.le M') : ISl M' v sz m xs := by
  obtain ⟨ad, cap, h1, h2, h3, h4, h5⟩ := h
  exact ⟨ad, cap, h1, h2, h3, h4, h5.imp id fun ⟨g, o, k1, k2⟩ => ⟨g, o, k1, k2.mono hm⟩⟩

theorem Sep.fixRow {H : Hp} {v : Value} {e : TypeId} {sz m : Nat} {xs : List Value} {L : List Res} {M : Mem} (h : Sep H (.row v e sz xs :: L) M) (hm : xs.length = m * sz) (hz : 0 < sz) : ∃ M', M.le M' ∧ Sep H L M' ∧ ISl M' v sz m xs := by
  obtain ⟨fp, ⟨f1, f2, rfl, h1, h2⟩, hn, hl, hd⟩ := h.own
  obtain ⟨k, hk, ⟨rfl, rfl, rfl⟩ | ⟨g, cap, cur, fr, rfl, rfl, ht, hg, h3, h4, h5, h6⟩⟩ := h1
  · have hm0 : m = 0 := by
      rw [hk] at hm
      exact (Nat.eq_of_mul_eq_mul_right hz hm).symm
    subst hm0
    exact ⟨M, Mem.le_refl _, h.drop, none, 0, rfl, hm, Nat.le_refl _, Nat.zero_le _, .inl rfl⟩
  · obtain rfl : k = m := by rw [hk] at hm; exact Nat.eq_of_mul_eq_mul_right hz hm
    refine ⟨M.ins g (.cells cur e fr), Mem.le_ins _ _ _, ⟨⟨f2, h2, (List.nodup_append.1 hn).2.1, fun b hb => hl b (by simp [hb]), ?_⟩, ?_⟩, some ⟨g, 0, none⟩, cap, rfl, hk, h3, h4, .inr ⟨g, 0, rfl, ?_⟩⟩
    · rintro c p (hb | ⟨rfl, rfl⟩) hbf
      · exact hd c p hb (by simp [hbf])
      · simp at hn; exact hn.1 hbf
    · rintro c p (hb | ⟨rfl, rfl⟩)
      · exact h.mem c p hb
      · exact hg
    · intro j u hu
      refine ⟨cur, e, fr, .inr ⟨rfl, rfl⟩, ?_⟩
      rw [← h6, List.getElem?_take] at hu
      split at hu
      · simpa using hu
      · cases hu

theorem SL.fixRow {l : List Oper} (i : Nat) {v : Value} {e : TypeId} {sz m : Nat} {xs : List Value} (hi : L[i]? = some (.row v e sz xs)) (hm : xs.length = m * sz) (hz : 0 < sz)
    (h : ∀ M', M.le M' → ISl M' v sz m xs → SL P n ops l σ (L.eraseIdx i) M' Q) : SL P n ops l σ L M Q := by
  intro F w0 M0 a w ha hs hw hmm
  obtain ⟨M', k1, k2, k3⟩ := Sep.fixRow (hs.perm (perm_at (getElem?_app (F := F) hi))) hm hz
  rw [eraseIdx_app hi] at k2
  exact h M' k1 k3 F w0 M0 a w ha k2 hw (Mem.le_trans hmm k1)
theorem SC.fixRow {c : Code} (i : Nat) {v : Value} {e : TypeId} {sz m : Nat} {xs : List Value} (hi : L[i]? = some (.row v e sz xs)) (hm : xs.length = m * sz) (hz : 0 < sz)
    (h : ∀ M', M.le M' → ISl M' v sz m xs → SC P n c σ (L.eraseIdx i) M' Q) : SC P n c σ L M Q := by
  intro F w0 M0 a w ha hs hw hmm
  obtain ⟨M', k1, k2, k3⟩ := Sep.fixRow (hs.perm (perm_at (getElem?_app (F := F) hi))) hm hz
  rw [eraseIdx_app hi] at k2
  exact h M' k1 k3 F w0 M0 a w ha k2 hw (Mem.le_trans hmm k1)
theorem SL.fixBlk {l : List Oper} (i : Nat) {b : Nat} {t : TypeId} {cs : List Value} (hi : L[i]? = some (.blk b t cs))
    (h : ∀ M', M.le M' → M'.cells b 0 cs → SL P n ops l σ (L.eraseIdx i) M' Q) : SL P n ops l σ L M Q := by
  intro F w0 M0 a w ha hs hw hmm
  obtain ⟨fr, k2⟩ := Sep.fix (hs.perm (perm_at (getElem?_app (F := F) hi)))
  rw [eraseIdx_app hi] at k2
  exact h _ (Mem.le_ins _ _ _) (fun j u hu => ⟨_, _, _, Mem.ins_self _ _ _, by simpa using hu⟩) F w0 M0 a w ha k2 hw (Mem.le_trans hmm (Mem.le_ins _ _ _))
theorem SC.fixBlk {c : Code} (i : Nat) {b : Nat} {t : TypeId} {cs : List Value} (hi : L[i]? = some (.blk b t cs))
    (h : ∀ M', M.le M' → M'.cells b 0 cs → SC P n c σ (L.eraseIdx i) M' Q) : SC P n c σ L M Q := by
  intro F w0 M0 a w ha hs hw hmm
  obtain ⟨fr, k2⟩ := Sep.fix (hs.perm (perm_at (getElem?_app (F := F) hi)))
  rw [eraseIdx_app hi] at k2
  exact h _ (Mem.le_ins _ _ _) (fun j u hu => ⟨_, _, _, Mem.ins_self _ _ _, by simpa using hu⟩) F w0 M0 a w ha k2 hw (Mem.le_trans hmm (Mem.le_ins _ _ _))

/-! ### A new row, an append -/
theorem SL.nilrow {l : List Oper} (e : TypeId) (sz : Nat) (h : SL P n ops l σ (.row (.slice none 0 0) e sz [] :: L) M Q) : SL P n ops l σ L M Q := by
  intro F w0 M0 a w ha hs hw hm
  refine h F w0 M0 a w ha ?_ hw hm
  obtain ⟨fp, h1, h2, h3, h4⟩ := hs.own
  exact ⟨⟨fp, ⟨[], fp, rfl, ⟨0, by simp, .inl ⟨rfl, rfl, rfl⟩⟩, h1⟩, h2, h3, h4⟩, hs.mem⟩
theorem SC.nilrow {c : Code} (e : TypeId) (sz : Nat) (h : SC P n c σ (.row (.slice none 0 0) e sz [] :: L) M Q) : SC P n c σ L M Q := by
  intro F w0 M0 a w ha hs hw hm
  refine h F w0 M0 a w ha ?_ hw hm
  obtain ⟨fp, h1, h2, h3, h4⟩ := hs.own
  exact ⟨⟨fp, ⟨[], fp, rfl, ⟨0, by simp, .inl ⟨rfl, rfl, rfl⟩⟩, h1⟩, h2, h3, h4⟩, hs.mem⟩

def evalPs (σ : Env) : List (Nat × Operand) → Option (List (Nat × Value))
  | [] => some []
  | (i, x) :: r => match evalE σ x, evalPs σ r with
    | some v, some vs => some ((i, v) :: vs)
    | _, _ => none
theorem evalPs_spec {a : Act} (ha : Ag n σ a) : ∀ {ps : List (Nat × Operand)} {vs : List (Nat × Value)}, evalPs σ ps = some vs → ps.map (fun p => (p.1, a.eval p.2)) = vs
  | [], vs, h => by simp [evalPs] at h; subst h; rfl
  | (i, x) :: r, vs, h => by
    simp only [evalPs] at h
    cases h1 : evalE σ x with
    | none => simp [h1] at h
    | some v =>
      cases h2 : evalPs σ r with
      | none => simp [h1, h2] at h
      | some us =>
        simp [h1, h2] at h
        subst h
        simp [ha.eval h1, evalPs_spec ha h2]

theorem setFold (off : Nat) : ∀ (vs : List Value) (j : Nat) (cs : Array Value), off + j + vs.length ≤ cs.size →
    ((vs.zipIdx j).foldl (fun cs p => cs.setIfInBounds (off + p.2) p.1) cs).toList = cs.toList.take (off + j) ++ vs ++ cs.toList.drop (off + j + vs.length)
  | [], j, cs, _ => by simp
  | v :: vs, j, cs, h => by
    simp only [List.zipIdx_cons, List.foldl_cons]
    rw [setFold off vs (j + 1) _ (by simp at h ⊢; omega)]
    have e := list_seg_step cs.toList (off + j) v vs (by simp at h ⊢; omega)
    simpa [Array.toList_setIfInBounds, Nat.add_assoc] using e

/-- Parts that stand one behind the other. -/
def inRow (sz : Nat) : Nat → List (Nat × Value) → Option (List Value)
  | _, [] => some []
  | k, (i, v) :: r => match Nat.beq i k, Nat.beq v.cells.size sz, inRow sz (k + 1) r with
    | true, true, some cs => some (v.cells.toList ++ cs)
    | _, _, _ => none
theorem fill_inRow (sz : Nat) : ∀ (vs : List (Nat × Value)) (k : Nat) (cs : List Value) (A : Array Value), inRow sz k vs = some cs → (k + vs.length) * sz ≤ A.size →
    ∃ B, Instr.fill (fun i => some (i * sz, sz)) A vs = some B ∧ B.toList = A.toList.take (k * sz) ++ cs ++ A.toList.drop (k * sz + cs.length) ∧ cs.length = vs.length * sz
  | [], k, cs, A, h, _ => by simp [inRow] at h; subst h; exact ⟨A, rfl, by simp, by simp⟩
  | (i, v) :: r, k, cs, A, h, hA => by
    simp only [inRow] at h
    cases h1 : Nat.beq i k with
    | false => simp [h1] at h
    | true =>
      obtain rfl := Nat.eq_of_beq_eq_true h1
      cases h2 : Nat.beq v.cells.size sz with
      | false => simp [h1, h2] at h
      | true =>
        have h2' := Nat.eq_of_beq_eq_true h2
        cases h3 : inRow sz (i + 1) r with
        | none => simp [h1, h2, h3] at h
        | some cs' =>
          simp [h1, h2, h3] at h
          subst h
          simp at hA
          have e1 : (i + (r.length + 1)) * sz = i * sz + sz + r.length * sz := by rw [Nat.add_mul, Nat.add_mul]; omega
          have hf := setFold (i * sz) v.cells.toList 0 A (by simp [h2']; omega)
          generalize hX : (v.cells.toList.zipIdx 0).foldl (fun cs p => cs.setIfInBounds (i * sz + p.2) p.1) A = X at hf
          have hXs : X.size = A.size := by
            have := congrArg List.length hf
            simp [h2'] at this
            omega
          obtain ⟨B, hB, hl, hc⟩ := fill_inRow sz r (i + 1) cs' X h3 (by
        have h5 : i + 1 + r.length = i + (r.length + 1) := by omega
        rw [hXs, h5, e1]; omega)
          refine ⟨B, ?_, ?_, by simp [h2', hc, Nat.add_mul, Nat.add_comm]⟩
          · have hne : ¬ (v.cells.size ≠ sz) := by omega
            have hle : ¬ (i * sz + v.cells.size > A.size) := by omega
            have hcond : (v.cells.size ≠ sz || i * sz + v.cells.size > A.size) = false := by simp [h2']; omega
            have hX' : v.cells.zipIdx.foldl (fun cs (c, j) => cs.setIfInBounds (i * sz + j) c) A = X := by
              rw [← hX, ← Array.foldl_toList, Array.toList_zipIdx]
            simp only [Instr.fill]
            rw [if_neg (by rw [hcond]; simp)]
            rw [hX']
            exact hB
          · rw [hl, hf]
            have e2 : (i + 1) * sz = i * sz + sz := by rw [Nat.add_mul]; omega
            rw [e2]
            simp only [Nat.add_zero, Array.length_toList, h2']
            have e3 : (List.take (i * sz) A.toList ++ v.cells.toList ++ List.drop (i * sz + sz) A.toList).take (i * sz + sz) = List.take (i * sz) A.toList ++ v.cells.toList := by
              rw [List.take_left']; simp [h2']; omega
            have e4 : (List.take (i * sz) A.toList ++ v.cells.toList ++ List.drop (i * sz + sz) A.toList).drop (i * sz + sz + cs'.length) = A.toList.drop (i * sz + sz + cs'.length) := by
              rw [← List.drop_drop, List.drop_left' (by simp [h2']; omega), List.drop_drop]
            rw [e3, e4]
            simp [h2', Nat.add_assoc]

theorem OpH.buildSlice {t e : TypeId} {len sz : Nat} {ps : Array (Nat × Operand)} {z : Value} {vs : List (Nat × Value)} {cs : List Value} (ht : P.underlying t = some (.slice e)) (hi : (P.info? e).map (fun i => (i.zero, i.size)) = some (some z, sz))
    (hz : len * sz ≤ 16777216) (hp : evalPs σ ps.toList = some vs) (hlen : Nat.beq vs.length len = true) (hf : inRow sz 0 vs = some cs) :
    OpH P (.buildSlice t len ps) σ L M fun v L' M' => ∃ b, v = .slice (some ⟨b, 0, none⟩) len len ∧ L' = .blk b e cs :: L ∧ M = M' := by
  intro n F a w dst type pos after guard ha hs
  obtain rfl := Nat.eq_of_beq_eq_true hlen
  refine ⟨.slice (some ⟨w.heap.size, 0, none⟩) vs.length vs.length, { w with heap := w.heap.push (.cells cs.toArray e) }, .blk w.heap.size e cs :: L, M, ?_, ⟨rfl, rfl, rfl⟩, ?_, Mem.le_refl _, _, rfl, rfl, rfl⟩
  · cases hq : P.info? e with
    | none => simp [hq] at hi
    | some ie =>
      simp [hq] at hi
      have hps : ps.toList.map (fun p => (p.1, a.eval p.2)) = vs := evalPs_spec ha hp
      have h3 : ¬ (16777216 < vs.length * sz) := by omega
      have key : ∀ A : Array Value, A.size = vs.length * sz → Instr.fill (fun i => some (i * sz, sz)) A vs = some cs.toArray := by
        intro A hA
        obtain ⟨B, hB, hl, hc⟩ := fill_inRow sz vs 0 cs A hf (by rw [hA, Nat.zero_add]; exact Nat.le_refl _)
        rw [hB]
        congr 1
        apply Array.toList_inj.1
        rw [hl]
        simp [hc, ← hA]
      by_cases h0 : vs.length * sz = 0
      · have hk := key ((Array.range 0).map fun x => default) (by simp [h0])
        simp only [execOp, Instr.buildSlice, underlying, ht, sizeOf, typeInfo, hq, hi.2]
        simp only [Sem.run_bind, run_program, Result.andThen_ok, hq, ht, Sem.run_pure, Sem.run_ite, h3, h0, ↓reduceIte, hi.2, Array.toList_map, hps]
        simp [h0, hk, newRow, hps]
      · have hk := key ((Array.range (vs.length * sz)).map fun x => z.cells[x % z.cells.size]!) (by simp)
        simp [execOp, Instr.buildSlice, underlying, ht, sizeOf, typeInfo, hq, hi.2, h3, hps, h0, zeroValue, hi.1, newRow]
        simp [hk]
  · have := hs.newBlk e cs
    simpa using this

theorem OpH.one {t e : TypeId} {x : Operand} {z v : Value} (ht : P.underlying t = some (.slice e)) (hi : (P.info? e).map (fun i => (i.zero, i.size)) = some (some z, 1)) (hx : evalE σ x = some v) (h1 : v.oneCell' = true) :
    OpH P (.buildSlice t 1 #[(0, x)]) σ L M fun p L' M' => ∃ b, p = .slice (some ⟨b, 0, none⟩) 1 1 ∧ L' = .blk b e [v] :: L ∧ M = M' := by
  have hc : v.cells = #[v] := by cases v <;> simp_all [Value.cells, Value.oneCell']
  exact OpH.buildSlice (vs := [(0, v)]) (cs := [v]) ht hi (by decide) (by simp [evalPs, hx]) rfl (by simp [inRow, hc])
theorem OpH.oneAgg {t e : TypeId} {x : Operand} {z : Value} {cs : List Value} {sz : Nat} (ht : P.underlying t = some (.slice e)) (hi : (P.info? e).map (fun i => (i.zero, i.size)) = some (some z, sz)) (hx : evalE σ x = some (.agg cs.toArray)) (hl : Nat.beq cs.length sz = true) (hz : Nat.ble sz 16777216 = true) :
    OpH P (.buildSlice t 1 #[(0, x)]) σ L M fun p L' M' => ∃ b, p = .slice (some ⟨b, 0, none⟩) 1 1 ∧ L' = .blk b e cs :: L ∧ M = M' := by
  have hz' : sz ≤ 16777216 := Nat.le_of_ble_eq_true hz
  obtain rfl := Nat.eq_of_beq_eq_true hl
  exact OpH.buildSlice (vs := [(0, .agg cs.toArray)]) (cs := cs) ht hi (by omega) (by simp [evalPs, hx]) rfl (by simp [inRow, Value.cells])

/-- What is appended: the cells of a slice, or the bytes of a string. -/
def Src (L : List Res) (M : Mem) (sz : Nat) (v : Value) (m : Nat) (news : List Value) : Prop :=
  (∃ ad c, v = .slice ad m c ∧ news.length = m * sz ∧ (m = 0 ∨ ∃ b o, ad = some ⟨b, o, none⟩ ∧ Kns L M b o news)) ∨
  (∃ l : List UInt8, v = .string (bs l) ∧ sz = 1 ∧ m = l.length ∧ news = l.map fun c => .int .u8 c.toNat)

theorem Src.blk (i : Nat) {b e m c sz : Nat} {cs : List Value} (hi : L[i]? = some (.blk b e cs)) (hm : cs.length = m * sz) : Src L M sz (.slice (some ⟨b, 0, none⟩) m c) m cs :=
  .inl ⟨_, _, rfl, hm, .inr ⟨b, 0, rfl, Kns.blk i hi (by simp)⟩⟩
theorem Src.isl {v : Value} {sz m : Nat} {xs : List Value} (h : ISl M v sz m xs) : Src L M sz v m xs := by
  obtain ⟨ad, cap, rfl, h2, h3, h4, h5⟩ := h
  refine .inl ⟨ad, cap, rfl, h2, ?_⟩
  rcases h5 with h5 | ⟨g, o, rfl, hc⟩
  · exact .inl h5
  · exact .inr ⟨g, o, rfl, Kns.mem hc⟩
end
end Go.Eng
set_option linter.unusedVariables false
set_option linter.unusedSimpArgs false
namespace Go.Eng

def TypeDesc.isSrc : TypeDesc → Bool
  | .slice _ | .string => true
  | _ => false

section
variable {P : Program} {n : Nat} {ops : Array Oper} {rest : List Oper} {σ : Env} {L : List Res} {M : Mem} {Q : Post}

theorem Src.lenOf {sz m : Nat} {Y : Value} {news : List Value} (h : Src L M sz Y m news) (w : World) : (Builtin.lenOf Y).run P w = .ok m w := by
  rcases h with ⟨ad, c, rfl, _⟩ | ⟨l, rfl, _, rfl, _⟩
  · simp [Builtin.lenOf]
  · simp [Builtin.lenOf, bs_size]
theorem Src.length {sz m : Nat} {Y : Value} {news : List Value} (h : Src L M sz Y m news) : news.length = m * sz := by
  rcases h with ⟨ad, c, _, h, _⟩ | ⟨l, _, rfl, rfl, rfl⟩
  · exact h
  · simp
theorem Src.first {sz m : Nat} {Y : Value} {news : List Value} (h : Src L M sz Y m news) {F : List Res} {w : World} (hs : Sep w.heap (L ++ F) M) : (Builtin.firstCells sz m Y).run P w = .ok news.toArray w := by
  rcases h with ⟨ad, c, rfl, hl, h⟩ | ⟨l, rfl, rfl, rfl, rfl⟩
  · rcases h with rfl | ⟨b, o, rfl, hk⟩
    · have hn : news = [] := List.eq_nil_of_length_eq_zero (by simpa using hl)
      subst hn
      cases ad with
      | none => simp [Builtin.firstCells]
      | some a => simp [Builtin.firstCells, loadCells, loadCellsFrom]
    · have := run_loadCells_list (P := P) w ⟨b, o, none⟩ news (fun j v hv => by rw [Addr.add_mid, cell_hcell]; exact hk j v hv _ _ hs)
      rw [hl] at this
      simpa [Builtin.firstCells] using this
  · have he : (ByteArray.extract (bs l) 0 l.length) = bs l := by
      rw [ByteArray.extract_mk]; simp
    simp only [Builtin.firstCells, he]
    simp

set_option maxHeartbeats 2000000 in
theorem OpH.append (i : Nat) {x y : Operand} {t t' e : TypeId} {d' : TypeDesc} {sz bytes : Nat} {z v Y : Value} {xs news : List Value} {m : Nat}
    (hL : L[i]? = some (.row v e sz xs)) (ht : P.underlying t = some (.slice e)) (ht' : P.underlying t' = some d') (hd' : TypeDesc.isSrc d' = true)
    (hi : (P.info? e).map (fun i => (i.zero, i.size, i.bytes)) = some (some z, sz, bytes)) (hzs : z.cells.size = sz) (hsz : 0 < sz) (hb0 : 0 < bytes)
    (hx : evalE σ x = some v) (hy : evalE σ y = some Y) (hsrc : Src L M sz Y m news) (h1 : ∀ u ∈ news, u.oneCell' = true) (hb : (xs.length + news.length) * bytes ≤ 140737488355328) :
    OpH P (.call { callee := .builtin .append, args := #[x, y], argTypes := #[t, t'] }) σ L M fun v' L' M' => L' = L.set i (.row v' e sz (xs ++ news)) ∧ M = M' ∧ (v' = .slice none 0 0 ↔ v = .slice none 0 0 ∧ m = 0) := by
  intro n F a w dst type pos after guard ha hs
  have hs' := hs.perm (perm_at (getElem?_app (F := F) hL))
  obtain ⟨fp, ⟨f1, f2, rfl, ⟨k, hk, hrow⟩, _⟩, _⟩ := id hs'.own
  have hnl := hsrc.length
  cases hq : P.info? e with
  | none => simp [hq] at hi
  | some ie =>
    simp [hq] at hi
    obtain ⟨i1, i2, i3⟩ := hi
    have hd2 : (∃ e', d' = .slice e') ∨ d' = .string := by
      cases d' <;> simp [TypeDesc.isSrc] at hd' ⊢
    have hkm : k + m ≤ 140737488355328 := by
      have e1 : k * sz + m * sz = (k + m) * sz := (Nat.add_mul ..).symm
      have e2 : (k + m) * 1 ≤ (k + m) * sz := Nat.mul_le_mul_left _ hsz
      have e3 : (xs.length + news.length) * 1 ≤ (xs.length + news.length) * bytes := Nat.mul_le_mul_left _ hb0
      omega
    have hkb : (k + m) * bytes ≤ 140737488355328 := by
      have e2 : (k + m) * 1 ≤ (k + m) * sz := Nat.mul_le_mul_left _ hsz
      have e1 : (k + m) * sz = xs.length + news.length := by rw [hk, hnl, Nat.add_mul]
      have e4 : (k + m) * bytes ≤ (xs.length + news.length) * bytes := Nat.mul_le_mul_right _ (by omega)
      omega
    have back : ∀ {w' : World} {v' : Value}, Sep w'.heap (.row v' e sz (xs ++ news) :: (L ++ F).eraseIdx i) M → Sep w'.heap (L.set i (.row v' e sz (xs ++ news)) ++ F) M := by
      intro w' v' h
      have := h.perm (perm_set (.row v' e sz (xs ++ news)) (getElem?_app (F := F) hL))
      rwa [set_app hL] at this
    have hlen : (xs ++ news).length = (k + m) * sz := by rw [List.length_append, hk, hnl, Nat.add_mul]
    -- it grows
    have grow : ∀ cap p, cap < k + m → v = .slice p k cap → (Builtin.firstCells sz k v).run P w.drew = .ok xs.toArray w.drew →
        ∃ v' w' L' M', (execOp a.eval { dst, op := .call { callee := .builtin .append, args := #[x, y], argTypes := #[t, t'] }, type, pos, after, guard }).run P w = .ok (.value v') w' ∧ St w w' ∧ Sep w'.heap (L' ++ F) M' ∧ M.le M' ∧
          L' = L.set i (.row v' e sz (xs ++ news)) ∧ M = M' ∧ (v' = .slice none 0 0 ↔ v = .slice none 0 0 ∧ m = 0) := by
      intro cap p hcap hv hfirst
      subst hv
      have n1 : ¬ (k + m ≤ cap) := by omega
      have n2 : ¬ (9223372036854775807 < ((k : Int) + (m : Int))) := by omega
      have n3 : ¬ (281474976710656 < Builtin.nextslicecap (k + m) cap * bytes) := by have := growslice_fits (need := k + m) (old := cap) (by omega) hkb; omega
      have hge := grownCap_ge w (k + m) cap e
      have hcm : grownCap w (k + m) cap e ≤ maxLen := grownCap_le_maxLen w (k + m) cap e (by simp only [maxLen]; omega)
      have hnew := hsrc.first (P := P) (w := w.drew) (F := F) hs
      have hlo := hsrc.lenOf (P := P) w
      refine ⟨.slice (some ⟨w.heap.size, 0, none⟩) (k + m) (grownCap w (k + m) cap e), w.drew.alloc (.cells (xs.toArray ++ news.toArray ++ Builtin.zeroCells z.cells (grownCap w (k + m) cap e - (k + m))) e), _, M, ?_, ⟨rfl, rfl, rfl⟩, ?_, Mem.le_refl _, rfl, rfl, ?_⟩
      · rcases hd2 with ⟨e', rfl⟩ | rfl <;>
        simp [execOp, resolve, invoke, builtin, ha.eval hx, ha.eval hy, Builtin.append_, underlying, ht, ht', sizeOf, typeInfo, zeroValue, hq, i1, i2, i3, hlo, n1, n2, n3, Question.forced, hfirst, hnew, newRow, grownCap] <;> (congr 2; apply Array.ext'; simp [List.append_assoc])
      · refine back ?_
        have hdrop := hs'.drop
        refine Sep.new (H := w.heap) hdrop fun H' hH => ?_
        refine ⟨k + m, hlen, .inr ⟨w.heap.size, _, _, (0, 0), rfl, rfl, Thaw.zero _, hH, hge, hcm, ?_, ?_⟩⟩
        · simp only [Array.size_append, List.size_toArray, size_zeroCells, hzs, hk, hnl, ← Nat.add_mul]
          congr 1
          omega
        · simp only [Array.toList_append, List.append_assoc]
          rw [← List.append_assoc, ← hlen]
          exact List.take_left
      · constructor
        · intro h; cases h
        · rintro ⟨h, hm⟩
          simp at h
          omega
    rcases hrow with ⟨rfl, rfl, rfl⟩ | ⟨g, cap, cur, fr, rfl, rfl, hth, hg, hkc, hcm, hcs, htake⟩
    · have hxe : xs = [] := List.eq_nil_of_length_eq_zero (by simpa using hk)
      subst hxe
      by_cases hm : m = 0
      · subst hm
        have hne : news = [] := List.eq_nil_of_length_eq_zero (by simpa using hnl)
        subst hne
        have hlo := hsrc.lenOf (P := P) w
        have hnew := hsrc.first (P := P) (w := w) (F := F) hs
        refine ⟨.slice none 0 0, w, _, M, ?_, St.refl _, ?_, Mem.le_refl _, rfl, rfl, by simp⟩
        · rcases hd2 with ⟨e', rfl⟩ | rfl <;>
          simp [execOp, resolve, invoke, builtin, ha.eval hx, ha.eval hy, Builtin.append_, underlying, ht, ht', sizeOf, typeInfo, zeroValue, hq, i1, i2, i3, hlo, hnew]
        · exact back (by simpa using hs')
      · exact grow 0 none (by omega) rfl (by simp [Builtin.firstCells])
    · by_cases hroom : k + m ≤ cap
      · have hlo := hsrc.lenOf (P := P) w
        have hnew := hsrc.first (P := P) (w := w) (F := F) hs
        have hfit : k * sz + news.length ≤ cur.size := by rw [hnl, hcs, ← Nat.add_mul]; exact Nat.mul_le_mul_right _ hroom
        obtain ⟨w', r1, r2, r3, r4, r5⟩ := run_storeCells' (P := P) (o := k * sz) news 0 cur w hg hth (by simpa using hfit) h1
        refine ⟨.slice (some ⟨g, 0, none⟩) (k + m) cap, w', _, M, ?_, r2, ?_, Mem.le_refl _, rfl, rfl, by simp⟩
        · rcases hd2 with ⟨e', rfl⟩ | rfl <;>
          simp [execOp, resolve, invoke, builtin, ha.eval hx, ha.eval hy, Builtin.append_, underlying, ht, ht', sizeOf, typeInfo, zeroValue, hq, i1, i2, i3, hlo, hnew, hroom, Addr.add_mid, r1]
        · refine back (hs'.write (b := g) ?_ r3 ?_ r5)
          · rintro fp' ⟨k', hk', ⟨h0, _⟩ | ⟨g', cap', cur', fr', h0, rfl, _⟩⟩
            · cases h0
            · simp at h0; rw [h0.1]
          · refine ⟨k + m, hlen, .inr ⟨g, cap, _, fr, rfl, rfl, ?_, r4, hroom, hcm, ?_, ?_⟩⟩
            · have : (List.take (k * sz + 0) cur.toList ++ news ++ List.drop (k * sz + 0 + news.length) cur.toList).toArray.size = cur.size := by simp; omega
              rw [this]; exact hth
            · simp; omega
            · simp only [Nat.add_zero, htake]
              rw [← hlen]
              exact List.take_left
      · refine grow cap _ (by omega) rfl ?_
        have := run_loadCells_list (P := P) w.drew ⟨g, 0, none⟩ xs (fun j u hu => by
          rw [Addr.add_mid, cell_hcell]
          have : cur[j]? = some u := by
            rw [← htake, List.getElem?_take] at hu
            split at hu
            · simpa using hu
            · cases hu
          have hg2 : w.drew.heap[g]? = some (.cells cur e fr) := hg
          simp [hcell, hg2, this])
        rw [hk] at this
        simpa [Builtin.firstCells] using this
end
end Go.Eng
set_option linter.unusedVariables false
set_option linter.unusedSimpArgs false
namespace Go.Eng

def FieldAt (P : Program) (s fi off : Nat) : Prop := ∃ fs f, P.underlying s = some (.struct fs) ∧ fs[fi]? = some f ∧ f.offset = off ∧ ((P.info? f.type).map (·.size)).any (· != 0) = true

section
variable {P : Program} {n : Nat} {ops : Array Oper} {rest : List Oper} {σ : Env} {L : List Res} {M : Mem} {Q : Post}

theorem OpV.fld {s : TypeId} {x : Operand} {b o off fi : Nat} (h : FieldAt P s fi off) (hx : evalE σ x = some (.pointer (some ⟨b, o, none⟩))) : OpV P (.fieldAddr s x fi) σ L M (.pointer (some ⟨b, o + off, none⟩)) := by
  obtain ⟨fs, f, h1, h2, h3, h4⟩ := h
  exact OpV.fieldAddr h1 h2 h3 h4 hx
theorem OpV.sindexG {t : TypeId} {x i : Operand} {l : List UInt8} (ht : P.underlying t = some .string) (hx : evalE σ x = some (.string (bs l))) {k : IntKind} {j : Int} (hi : evalE σ i = some (.int k j)) (h0 : 0 ≤ j) (h1 : j < l.length) :
    OpV P (.index t x i) σ L M (.int .u8 (l.getD j.toNat 0).toNat) := by
  refine OpV.sindex ht hx hi h0 ?_
  have hlt : j.toNat < l.length := by omega
  rw [List.getElem?_eq_getElem hlt, List.getD_eq_getElem?_getD, List.getElem?_eq_getElem hlt]
  rfl

theorem OpV.indexAddr1 {t e : TypeId} {x i : Operand} {b o m c : Nat} {k : IntKind} {j : Int} (ht : P.underlying t = some (.slice e)) (hsz : (P.info? e).map (·.size) = some 1)
    (hx : evalE σ x = some (.slice (some ⟨b, o, none⟩) m c)) (hi : evalE σ i = some (.int k j)) (h0 : 0 ≤ j) (h1 : j < m) :
    OpV P (.indexAddr t x i) σ L M (.pointer (some ⟨b, o + j.toNat, none⟩)) := by
  have := OpV.indexAddr (L := L) (M := M) ht hsz hx hi h0 h1
  rwa [Nat.mul_one] at this

/-- A function without a body: the model's own. -/
def ExtF (P : Program) (f : FuncId) (e : Array Value → Sem Value) : Prop := ∀ args w, (callFunc f args).run P w = ((e args).run P w).andThen fun v w' => .ok (.value v) w'
theorem OpV.ext {f : FuncId} {e : Array Value → Sem Value} {xs : Array Operand} {ats : Array TypeId} {vs : List Value} {v : Value} (hf : ExtF P f e) (hx : xs.toList.map (evalE σ) = vs.map some) (hv : ∀ w, (e vs.toArray).run P w = .ok v w) :
    OpV P (.call { callee := .value (.func f), args := xs, argTypes := ats }) σ L M v := by
  intro n F a w dst type pos after guard ha hs
  have h1 := hf vs.toArray w
  rw [hv] at h1
  simp only [execOp, resolve, evals ha hx, Act.eval, Deferred.ofValue]
  simp only [Result.andThen_ok] at h1
  simpa [invoke] using h1

/-- The call comes to this value; what it laid is let go. -/
abbrev Pu (M : Mem) (v : Value) : Value → List Res → Mem → Prop := fun v' L' M' => v' = v ∧ L' = [] ∧ M = M'
/-- A contract of the library's: the world is as it was. -/
theorem Ev.of_same {f : FuncId} {vs : Array Value} {v : Value} (h : ∀ w, Calls P f vs w fun e w' => e = .returned v ∧ w' = w) : Ev P f vs L M fun v' L' M' => v' = v ∧ L' = L ∧ M = M' := by
  intro F w hs
  refine (h w).mono ?_
  rintro e w' ⟨rfl, rfl⟩
  exact ⟨v, L, M, rfl, St.refl _, hs, Mem.le_refl _, rfl, rfl, rfl⟩
theorem Ev.frame {f : FuncId} {vs : Array Value} {R : Value → List Res → Mem → Prop} (h : Ev P f vs [] M R) (L : List Res) : Ev P f vs L M fun v L' M' => ∃ G, L' = G ++ L ∧ R v G M' := by
  intro F w hs
  refine (h (L ++ F) w hs).mono ?_
  rintro e w' ⟨v, L', M', h1, h2, h3, h4, h5⟩
  exact ⟨v, L' ++ L, M', h1, h2, by rw [List.append_assoc]; exact h3, h4, L', rfl, h5⟩

theorem Ev.fixRow {f : FuncId} {vs : Array Value} {e : TypeId} {sz m : Nat} {xs : List Value} (h : Ev P f vs L M fun v L' M' => L' = [.row v e sz xs] ∧ M = M') (hm : xs.length = m * sz) (hz : 0 < sz) :
    Ev P f vs L M fun v L' M' => L' = [] ∧ ISl M' v sz m xs := by
  intro F w hs
  refine (h F w hs).mono ?_
  rintro e w' ⟨v, L', M', h1, h2, h3, h4, rfl, rfl⟩
  obtain ⟨M'', k1, k2, k3⟩ := Sep.fixRow (L := F) h3 hm hz
  exact ⟨v, [], M'', h1, h2, k2, k1, rfl, k3⟩
/-- What else the call fixed is forgotten. -/
theorem Ev.forget {f : FuncId} {vs : Array Value} {v : Value} (h : Ev P f vs [] M fun v' L' M' => v' = v ∧ L' = []) : Ev P f vs [] M (Pu M v) := by
  intro F w hs
  refine (h F w hs).mono ?_
  rintro e w' ⟨v', L', M', h1, h2, h3, h4, rfl, rfl⟩
  exact ⟨v', [], M, h1, h2, h3.less h4, Mem.le_refl _, rfl, rfl, rfl⟩
theorem ISl.take {ad : Option Addr} {cap sz m k : Nat} {xs : List Value} (h : ISl M (.slice ad m cap) sz m xs) (hk : k ≤ m) : ISl M (.slice ad k cap) sz k (xs.take (k * sz)) := by
  obtain ⟨ad', cap', h1, h2, h3, h4, h5⟩ := h
  cases h1
  refine ⟨ad, cap, rfl, ?_, by omega, h4, ?_⟩
  · have : k * sz ≤ m * sz := Nat.mul_le_mul_right _ hk
    rw [List.length_take]; omega
  · rcases h5 with h5 | ⟨g, o, rfl, hc⟩
    · exact .inl (by omega)
    · refine .inr ⟨g, o, rfl, fun j v hv => hc j v ?_⟩
      rw [List.getElem?_take] at hv
      split at hv
      · exact hv
      · cases hv
theorem ISl.ofCells {g o sz m : Nat} {xs : List Value} (h : M.cells g o xs) (hx : xs.length = m * sz) (hm : m ≤ maxLen) : ISl M (.slice (some ⟨g, o, none⟩) m m) sz m xs :=
  ⟨_, _, rfl, hx, Nat.le_refl _, hm, .inr ⟨g, o, rfl, h⟩⟩
theorem ISl.at_ {v : Value} {sz m : Nat} {xs : List Value} (h : ISl M v sz m xs) (hm : 0 < m) : ∃ g o cap, v = .slice (some ⟨g, o, none⟩) m cap ∧ M.cells g o xs ∧ xs.length = m * sz ∧ m ≤ cap ∧ cap ≤ maxLen := by
  obtain ⟨ad, cap, h1, h2, h3, h4, h5⟩ := h
  rcases h5 with h5 | ⟨g, o, rfl, h6⟩
  · omega
  · exact ⟨g, o, cap, h1, h6, h2, h3, h4⟩
theorem ISl.len {v : Value} {sz m : Nat} {xs : List Value} (h : ISl M v sz m xs) : ∃ ad cap, v = .slice ad m cap ∧ m ≤ cap ∧ cap ≤ maxLen := by
  obtain ⟨ad, cap, h1, h2, h3, h4, h5⟩ := h
  exact ⟨ad, cap, h1, h3, h4⟩
/-- A cell of the k-th element. -/
theorem Mem.cells.at_ {M : Mem} {g o : Nat} {xs : List Value} (h : M.cells g o xs) (j : Nat) {v : Value} (hj : xs[j]? = some v) : M.cell g (o + j) v := h j v hj

/-! ### passing on -/
theorem seqQ.nm {y : Code} (h : SC P n y σ L M Q) : seqQ P n y Q .normal σ L M := h
theorem seqQ.e {y : Code} {id : Nat} (h : Q (.exit id) σ L M) : seqQ P n y Q (.exit id) σ L M := h
theorem seqQ.r {y : Code} (h : Q .ret σ L M) : seqQ P n y Q .ret σ L M := h
theorem blockQ.nm {id : Nat} (h : Q .normal σ L M) : blockQ id Q .normal σ L M := h
theorem blockQ.e {id : Nat} (h : Q .normal σ L M) : blockQ id Q (.exit id) σ L M := by
  simp only [blockQ, ↓reduceIte]; exact h
theorem blockQ.o {id id' : Nat} (hne : Nat.beq id' id = false) (h : Q (.exit id') σ L M) : blockQ id Q (.exit id') σ L M := by
  have : id' ≠ id := fun e => by subst e; simp at hne
  simp only [blockQ, if_neg this]; exact h
theorem blockQ.r {id : Nat} (h : Q .ret σ L M) : blockQ id Q .ret σ L M := h
theorem loopQ.e {ι : Type} {I : ι → Mem → Prop} {E : ι → Env} {Lf : ι → List Res} {μ : ι → Nat} {x : ι} {id : Nat} (h : Q (.exit id) σ L M) : loopQ I E Lf μ x Q (.exit id) σ L M := h
theorem loopQ.r {ι : Type} {I : ι → Mem → Prop} {E : ι → Env} {Lf : ι → List Res} {μ : ι → Nat} {x : ι} (h : Q .ret σ L M) : loopQ I E Lf μ x Q .ret σ L M := h
theorem loopQ.nm {ι : Type} {I : ι → Mem → Prop} {E : ι → Env} {Lf : ι → List Res} {μ : ι → Nat} {x : ι} (x' : ι) (hμ : μ x' < μ x) (hE : Env.sub σ (E x')) (hL : L.Perm (Lf x')) (hI : I x' M) : loopQ I E Lf μ x Q .normal σ L M :=
  ⟨x', [], hμ, hE, hL, hI⟩

/-- Two ways meet again. -/
theorem SC.join {c y : Code} {ι : Type} (J : ι → Mem → Prop) (E : ι → Env) (Lf : ι → List Res)
    (h : SC P n c σ L M fun e σ' L' M' => match e with
      | .normal => ∃ x G, Env.sub σ' (E x) ∧ L'.Perm (G ++ Lf x) ∧ J x M'
      | e => Q e σ' L' M')
    (k : ∀ x M', M.le M' → J x M' → SC P n y (E x) (Lf x) M' Q) : SC P n (.seq c y) σ L M Q := by
  refine SC.seq ?_
  refine SC.mono h ?_
  intro e σ' L' M' hm hq
  cases e with
  | normal =>
    obtain ⟨x, G, h1, h2, h3⟩ := hq
    exact SC.weak (k x M' hm h3) h1 h2
  | _ => exact hq
def joinQ {ι : Type} (J : ι → Mem → Prop) (E : ι → Env) (Lf : ι → List Res) (Q : Post) : Post := fun e σ' L' M' => match e with
  | .normal => ∃ x G, Env.sub σ' (E x) ∧ L'.Perm (G ++ Lf x) ∧ J x M'
  | e => Q e σ' L' M'
theorem joinQ.nm {ι : Type} {J : ι → Mem → Prop} {E : ι → Env} {Lf : ι → List Res} (x : ι) (hE : Env.sub σ (E x)) (hL : L.Perm (Lf x)) (hJ : J x M) : joinQ J E Lf Q .normal σ L M := ⟨x, [], hE, hL, hJ⟩
theorem joinQ.e {ι : Type} {J : ι → Mem → Prop} {E : ι → Env} {Lf : ι → List Res} {id : Nat} (h : Q (.exit id) σ L M) : joinQ J E Lf Q (.exit id) σ L M := h
theorem joinQ.r {ι : Type} {J : ι → Mem → Prop} {E : ι → Env} {Lf : ι → List Res} (h : Q .ret σ L M) : joinQ J E Lf Q .ret σ L M := h
theorem SC.joins {c y : Code} {ι : Type} (J : ι → Mem → Prop) (E : ι → Env) (Lf : ι → List Res)
    (h : SC P n c σ L M (joinQ J E Lf Q)) (k : ∀ x M', M.le M' → J x M' → SC P n y (E x) (Lf x) M' Q) : SC P n (.seq c y) σ L M Q :=
  SC.join J E Lf h k

theorem SL.or_true {e : Exit} {σ' : Env} {L' : List Res} {M' : Mem} {d : Nat} {v : Value} (h1 : e = .normal) (h2 : σ'.get d = some v) (h3 : σ.le σ') (h4 : L'.Perm L) : cutQ d v σ L e σ' L' M' := ⟨h1, h2, h3, [], h4⟩

/-- A bool that is known. -/
theorem SL.bset {l : List Oper} {c : Nat} {b b' : Bool} (hc : σ.get c = some (.bool b)) (hb : b = b') (h : SL P n ops l ((c, .bool b') :: σ) L M Q) : SL P n ops l σ L M Q := by
  subst hb
  exact SL.bcase hc (fun h0 => by rw [h0] at h; exact h) (fun h0 => by rw [h0] at h; exact h)

/-! ### Slices of slices, conversions -/
theorem OpV.lslice {t e : TypeId} {x lo hi : Operand} {b o m c sz : Nat} {k k' : IntKind} {a d : Int} (ht : P.underlying t = some (.slice e)) (hsz : (P.info? e).map (·.size) = some sz)
    (hx : evalE σ x = some (.slice (some ⟨b, o, none⟩) m c)) (hlo : evalE σ lo = some (.int k a)) (hhi : evalE σ hi = some (.int k' d)) (h0 : 0 ≤ a) (h1 : a ≤ d) (h2 : d ≤ c) :
    OpV P (.slice t x (some lo) (some hi) none) σ L M (.slice (some (if c = a.toNat then ⟨b, o, none⟩ else ⟨b, o + a.toNat * sz, none⟩)) (d.toNat - a.toNat) (c - a.toNat)) := by
  intro n F ac w dst type pos after guard ha hs
  have hd : 0 ≤ d := by omega
  have h3 : ¬ (max d 0 < a) := by omega
  cases hq : P.info? e with
  | none => simp [hq] at hsz
  | some ie =>
    have hse : ie.size = sz := by simpa [hq] using hsz
    simp [execOp, ha.eval hx, ha.eval hlo, ha.eval hhi, Instr.sliceAt, underlying, ht, Instr.slice, Instr.sliceBounds, Instr.sliceBound, asIntOf, h0, hd, h2, sizeOf, typeInfo, hq, hse, Addr.add_mid]
    split
    · split <;> simp
    · rename_i h4; exact absurd (by omega) h4
theorem OpV.lsliceL {t e : TypeId} {x lo : Operand} {b o m c sz : Nat} {k : IntKind} {a : Int} (ht : P.underlying t = some (.slice e)) (hsz : (P.info? e).map (·.size) = some sz)
    (hx : evalE σ x = some (.slice (some ⟨b, o, none⟩) m c)) (hlo : evalE σ lo = some (.int k a)) (h0 : 0 ≤ a) (h1 : a ≤ m) :
    OpV P (.slice t x (some lo) none none) σ L M (.slice (some (if c = a.toNat then ⟨b, o, none⟩ else ⟨b, o + a.toNat * sz, none⟩)) (m - a.toNat) (c - a.toNat)) := by
  intro n F ac w dst type pos after guard ha hs
  cases hq : P.info? e with
  | none => simp [hq] at hsz
  | some ie =>
    have hse : ie.size = sz := by simpa [hq] using hsz
    simp [execOp, ha.eval hx, ha.eval hlo, Instr.sliceAt, underlying, ht, Instr.slice, Instr.sliceBounds, Instr.sliceBound, asIntOf, h0, h1, sizeOf, typeInfo, hq, hse, Addr.add_mid]
    split <;> simp
/-- A slice's head; nil too. -/
theorem OpV.lsliceH {t e : TypeId} {x hi : Operand} {p : Option Addr} {m c sz : Nat} {k : IntKind} {d : Int} (ht : P.underlying t = some (.slice e)) (hsz : (P.info? e).map (·.size) = some sz)
    (hx : evalE σ x = some (.slice p m c)) (hhi : evalE σ hi = some (.int k d)) (h0 : 0 ≤ d) (h2 : d ≤ c) :
    OpV P (.slice t x none (some hi) none) σ L M (.slice p d.toNat c) := by
  intro n F ac w dst type pos after guard ha hs
  cases hq : P.info? e with
  | none => simp [hq] at hsz
  | some ie =>
    have hse : ie.size = sz := by simpa [hq] using hsz
    have hadd : ∀ a : Addr, a.add 0 = a := fun a => rfl
    simp [execOp, ha.eval hx, ha.eval hhi, Instr.sliceAt, underlying, ht, Instr.slice, Instr.sliceBounds, Instr.sliceBound, asIntOf, h0, h2, sizeOf, typeInfo, hq, hse]
    cases p <;> simp [hadd]

/-- 'string(b)': the cells read as bytes. -/
theorem OpV.toStr {s t e : TypeId} {x : Operand} {Y : Value} {l : List UInt8} (hs : P.underlying s = some (.slice e)) (he : P.underlying e = some (.int .u8)) (ht : P.underlying t = some .string) (hx : evalE σ x = some Y)
    (hsrc : Src L M 1 Y l.length (l.map fun c => .int .u8 c.toNat)) (hY : ∃ p c, Y = .slice p l.length c) : OpV P (.convert s t x) σ L M (.string (bs l)) := by
  intro n F ac w dst type pos after guard ha hsp
  obtain ⟨p, c, rfl⟩ := hY
  have key : (convert s t (.slice p l.length c)).run P w = .ok (.string (bs l)) w := by
    rcases hsrc with ⟨ad, c', h0, hl, h⟩ | ⟨l', h0, _⟩
    · simp at h0
      obtain ⟨rfl, rfl⟩ := h0
      rcases h with hm | ⟨b, o, rfl, hk⟩
      · have hn : l = [] := List.eq_nil_of_length_eq_zero hm
        subst hn
        cases p with
        | none => exact run_convert_bytes_nil (P := P) w s e hs he 0 c t ht
        | some a =>
          rw [run_convert_bytes_string w s t e _ _ _ hs he ht]
          simp [Conv.bytesToString, loadCells, loadCellsFrom, ByteArray.empty, ByteArray.emptyWithCapacity]
          rfl
      · have := run_convert_bytes_arg (P := P) w s e hs he b o l.length c (l.map fun c => (c.toNat : Int)) (by simp) (fun i hi => by
          rw [cell_hcell, hk i (.int .u8 (l[i]).toNat) (by simp [hi]) _ _ hsp]
          simp [List.getD_eq_getElem?_getD, List.getElem?_eq_getElem hi]) t ht
        rw [this]
        congr 2
        refine bs_ext ?_
        simp [strOfNums_data]
        rw [List.map_congr_left (g := id) (fun c _ => by simp)]
        simp
    · cases h0
  simp [execOp, ha.eval hx, key]

/-- '[]byte(s)': a new row. -/
theorem OpH.toBytes {s t e : TypeId} {x : Operand} {l : List UInt8} {u : TypeDesc} (hs : P.underlying s = some u) (ht : P.underlying t = some (.slice e)) (he : P.underlying e = some (.int .u8)) (hx : evalE σ x = some (.string (bs l))) (hl : l.length ≤ maxLen) :
    OpH P (.convert s t x) σ L M fun v L' M' => L' = .row v e 1 (l.map fun c => .int .u8 c.toNat) :: L ∧ M = M' ∧ ∃ g c, v = .slice (some ⟨g, 0, none⟩) l.length c := by
  intro n F ac w dst type pos after guard ha hsp
  have h1 := Lib.run_convert_string_bytes (P := P) w s t e (bs l) hs ht he
  have hge := grownCap_ge w l.length 0 e
  have hcm := grownCap_le_maxLen w l.length 0 e hl
  rw [bs_size] at h1
  refine ⟨.slice (some ⟨w.heap.size, 0, none⟩) l.length (grownCap w l.length 0 e), Lib.bytesWorld w e (bs l), .row (.slice (some ⟨w.heap.size, 0, none⟩) l.length (grownCap w l.length 0 e)) e 1 (l.map fun c => .int .u8 c.toNat) :: L, M, by simp [execOp, ha.eval hx, h1], ⟨rfl, rfl, rfl⟩, ?_, Mem.le_refl _, ?_⟩
  · have hz : (Lib.bytesCells w e (bs l)).size = grownCap w l.length 0 e := by
      simp [Lib.bytesCells, bs_size]; omega
    obtain ⟨fp, k1, k2, k3, k4⟩ := hsp.own
    have hk : ∀ b, b < w.heap.size → (Lib.bytesWorld w e (bs l)).heap[b]? = w.heap[b]? := fun b hb => Lib.bytesWorld_at_old w e _ b hb
    refine ⟨⟨w.heap.size :: fp, ⟨[w.heap.size], fp, rfl, ⟨l.length, by simp, .inr ⟨w.heap.size, _, Lib.bytesCells w e (bs l), _, rfl, rfl, ?_, Lib.bytesWorld_at_new w e _, hge, hcm, by rw [hz]; simp, ?_⟩⟩, k1.keep fun b hb => hk b (k3 b hb)⟩, ?_, ?_, ?_⟩, ?_⟩
    · intro i hi; simp; omega
    · simp [Lib.bytesCells]
    · exact List.nodup_cons.2 ⟨fun hc => absurd (k3 _ hc) (by omega), k2⟩
    · intro b hb
      rw [Lib.bytesWorld_size]
      rcases List.mem_cons.1 hb with rfl | hb
      · omega
      · have := k3 b hb; omega
    · intro b p hb hbf
      rcases List.mem_cons.1 hbf with rfl | hbf
      · have := (Array.getElem?_eq_some_iff.1 (hsp.mem _ _ hb)).1; omega
      · exact k4 b p hb hbf
    · intro b p hb
      rw [hk b (Array.getElem?_eq_some_iff.1 (hsp.mem _ _ hb)).1]
      exact hsp.mem b p hb
  · exact ⟨rfl, rfl, w.heap.size, grownCap w l.length 0 e, rfl⟩
end
end Go.Eng
set_option linter.unusedVariables false
set_option linter.unusedSimpArgs false
namespace Go.Eng

section
variable {P : Program} {n : Nat} {ops : Array Oper} {rest : List Oper} {σ : Env} {L : List Res} {M : Mem} {Q : Post}

/-! ### Regions that draw their order, of operations that leave the heap alone -/
def QC (w0 : World) (F L : List Res) (M : Mem) : World → Prop := fun w => St w0 w ∧ Sep w.heap (L ++ F) M
def SQ (P : Program) (n : Nat) (ops : Array Oper) (l : List Oper) (σ : Env) (L : List Res) (M : Mem) (Q : Post) : Prop :=
  ∀ F w0 a, Ag n σ a → wpQuiet P ops (QC w0 F L M) (fun a' => ∃ σ', Ag n σ' a' ∧ Q .normal σ' L M) l a

theorem wpQuiet_mono {C : World → Prop} {Q Q' : Act → Prop} (hq : ∀ a, Q a → Q' a) : ∀ (l : List Oper) (a : Act), wpQuiet P ops C Q l a → wpQuiet P ops C Q' l a
  | [], a, h => hq _ h
  | o :: l, a, h => by
    unfold wpQuiet at h ⊢
    split
    · rename_i hw; rw [if_pos hw] at h; exact Oper.quiet_mono (fun a' => wpQuiet_mono hq l a') h
    · rename_i hw; rw [if_neg hw] at h; exact wpQuiet_mono hq l _ h
theorem wpQuiet_append {C : World → Prop} {Q : Act → Prop} : ∀ (l1 l2 : List Oper) (a : Act), wpQuiet P ops C (fun a => wpQuiet P ops C Q l2 a) l1 a → wpQuiet P ops C Q (l1 ++ l2) a
  | [], l2, a, h => h
  | o :: l1, l2, a, h => by
    simp only [List.cons_append]
    unfold wpQuiet at h ⊢
    split
    · rename_i hw; rw [if_pos hw] at h; exact Oper.quiet_mono (fun a' => wpQuiet_append l1 l2 a') h
    · rename_i hw; rw [if_neg hw] at h; exact wpQuiet_append l1 l2 _ h

theorem SC.quiet {id : Nat} {l : List Oper} (hm : P.follows .mixedOrders = true) (hB : Region.lexB .any l.toArray = true) (h : SQ P n l.toArray l σ L M Q) : SC P n (.region id l.toArray true) σ L M Q := by
  intro F w0 M0 a w ha hs hw hm0
  refine wp_region_quiet (C := QC w0 F L M) hm hB ⟨⟨hw.os, hw.tape, hw.output⟩, hs⟩ ?_
  refine wpQuiet_mono ?_ _ _ (h F w0 a ha)
  rintro a' ⟨σ', h1, h2⟩ w' ⟨h3, h4⟩
  exact ⟨σ', L, M, h1, h3, h4, hm0, h2⟩

theorem SQ.nil (h : Q .normal σ L M) : SQ P n ops [] σ L M Q := fun _ _ _ ha => ⟨σ, ha, h⟩
theorem SQ.val {op : Op} {d type : Nat} {pos : String} {after : Array Edge} {v : Value} (h : OpV P op σ L M v) (hd : Nat.blt d n = true) (k : SQ P n ops rest ((d, v) :: σ) L M Q) :
    SQ P n ops ({ dst := some d, op, type, pos, after, guard := none } :: rest) σ L M Q := by
  intro F w0 a ha
  refine wpQuiet_step fun K hK => ?_
  rw [if_pos (by rfl)]
  refine ⟨v, fun w hw => ?_, hK _ (k F w0 _ (ha.put hd v))⟩
  simp [Oper.quietAt, h n F a w (some d) type pos after none ha hw.2, Oper.quietUpon]
theorem SQ.gval {op : Op} {d type : Nat} {pos : String} {after : Array Edge} {v : Value} {j : Nat} {b : Bool} (hw : wantE ops σ j b = some true) (h : OpV P op σ L M v) (hd : Nat.blt d n = true) (k : SQ P n ops rest ((d, v) :: σ) L M Q) :
    SQ P n ops ({ dst := some d, op, type, pos, after, guard := some (j, b) } :: rest) σ L M Q := by
  intro F w0 a ha
  refine wpQuiet_step fun K hK => ?_
  rw [if_pos (wantE_spec ha hw _ rfl)]
  refine ⟨v, fun w hw => ?_, hK _ (k F w0 _ (ha.put hd v))⟩
  simp [Oper.quietAt, h n F a w (some d) type pos after (some (j, b)) ha hw.2, Oper.quietUpon]
theorem SQ.skip {op : Op} {d type : Nat} {pos : String} {after : Array Edge} {j : Nat} {b : Bool} (hw : wantE ops σ j b = some false) (hd : Nat.blt d n = true) (k : SQ P n ops rest ((d, undef) :: σ) L M Q) :
    SQ P n ops ({ dst := some d, op, type, pos, after, guard := some (j, b) } :: rest) σ L M Q := by
  intro F w0 a ha
  refine wpQuiet_step fun K hK => ?_
  rw [if_neg (by rw [wantE_spec ha hw _ rfl]; simp)]
  exact hK _ (k F w0 _ (ha.put hd undef))
theorem SQ.callAt {c : Call} {f : FuncId} {vs : Array Value} {d type : Nat} {pos : String} {after : Array Edge} {g : Option (Nat × Bool)} {v : Value}
    (hg : g = none ∨ ∃ j b, g = some (j, b) ∧ wantE ops σ j b = some true)
    (hres : ∀ n a w, Ag n σ a → ((do let x ← resolve a.eval c type; invoke x.target x.args) : Sem Next).run P w = .ok (.enter f vs) w)
    (hc : Ev P f vs [] M (Pu M v)) (hd : Nat.blt d n = true)
    (k : SQ P n ops rest ((d, v) :: σ) L M Q) :
    SQ P n ops ({ dst := some d, op := .call c, type, pos, after, guard := g } :: rest) σ L M Q := by
  intro F w0 a ha
  refine wpQuiet_step fun K hK => ?_
  have hgo : Region.wanted ({ dst := some d, op := .call c, type, pos, after, guard := g } : Oper) (yielded ops a.tmps) = true := by
    rcases hg with rfl | ⟨j, b, rfl, hg⟩
    · rfl
    · exact wantE_spec ha hg _ rfl
  rw [if_pos hgo]
  refine ⟨v, fun w hw => ?_, hK _ (k F w0 _ (ha.put hd v))⟩
  have hrun : (execOp a.eval { dst := some d, op := .call c, type, pos, after, guard := g }).run P w = .ok (.enter f vs) w := hres n a w ha
  simp only [Oper.quietAt, hrun, Oper.quietUpon]
  refine ⟨trivial, (hc (L ++ F) w hw.2).mono ?_⟩
  rintro e w' ⟨v', L', M', rfl, h2, h3, h4, rfl, rfl, rfl⟩
  exact ⟨rfl, hw.1.trans h2, h3⟩
theorem SQ.call {f : FuncId} {xs : Array Operand} {ats : Array TypeId} {vs : List Value} {d type : Nat} {pos : String} {after : Array Edge} {v : Value}
    (hf : Fn.ok P f) (hx : xs.toList.map (evalE σ) = vs.map some) (hc : Ev P f vs.toArray [] M (Pu M v)) (hd : Nat.blt d n = true)
    (k : SQ P n ops rest ((d, v) :: σ) L M Q) :
    SQ P n ops ({ dst := some d, op := .call { callee := .value (.func f), args := xs, argTypes := ats }, type, pos, after, guard := none } :: rest) σ L M Q :=
  SQ.callAt (.inl rfl) (fun n a w ha => by
    have := hf (vs.toArray) w
    simp only [resolve, evals ha hx, Act.eval, Deferred.ofValue]
    simpa [invoke] using this) hc hd k
theorem SQ.gcall {f : FuncId} {xs : Array Operand} {ats : Array TypeId} {vs : List Value} {d type : Nat} {pos : String} {after : Array Edge} {j : Nat} {b : Bool} {v : Value}
    (hw : wantE ops σ j b = some true) (hf : Fn.ok P f) (hx : xs.toList.map (evalE σ) = vs.map some) (hc : Ev P f vs.toArray [] M (Pu M v)) (hd : Nat.blt d n = true)
    (k : SQ P n ops rest ((d, v) :: σ) L M Q) :
    SQ P n ops ({ dst := some d, op := .call { callee := .value (.func f), args := xs, argTypes := ats }, type, pos, after, guard := some (j, b) } :: rest) σ L M Q :=
  SQ.callAt (.inr ⟨j, b, rfl, hw⟩) (fun n a w ha => by
    have := hf (vs.toArray) w
    simp only [resolve, evals ha hx, Act.eval, Deferred.ofValue]
    simpa [invoke] using this) hc hd k
/-- A call of a known function value that captured something. -/
theorem SQ.callv {f : FuncId} {t : Nat} {cap : Array Value} {xs : Array Operand} {ats : Array TypeId} {vs : List Value} {d type : Nat} {pos : String} {after : Array Edge} {g : Option (Nat × Bool)} {v : Value}
    (hg : g = none ∨ ∃ j b, g = some (j, b) ∧ wantE ops σ j b = some true)
    (hf : Fn.ok P f) (ht : σ.get t = some (.func (.func f) #[] cap)) (hx : xs.toList.map (evalE σ) = vs.map some)
    (hc : Ev P f (vs ++ cap.toList).toArray [] M (Pu M v)) (hd : Nat.blt d n = true)
    (k : SQ P n ops rest ((d, v) :: σ) L M Q) :
    SQ P n ops ({ dst := some d, op := .call { callee := .value (.tmp t), args := xs, argTypes := ats }, type, pos, after, guard := g } :: rest) σ L M Q :=
  SQ.callAt hg (fun n a w ha => by
    have := hf ((vs ++ cap.toList).toArray) w
    have he : a.eval (.tmp t) = .func (.func f) #[] cap := ha.eval ht
    have e2 : vs.toArray ++ cap = (vs ++ cap.toList).toArray := Array.toList_inj.1 (by simp)
    simp only [resolve, evals ha hx, he, Deferred.ofValue]
    simpa [invoke, e2] using this) hc hd k

theorem SQ.vcut (k : Nat) {l : List Oper} {d : Nat} {v : Value} (h : SQ P n ops (l.take k) σ L M (cutQ d v σ L)) (h2 : SQ P n ops (l.drop k) ((d, v) :: σ) L M Q) : SQ P n ops l σ L M Q := by
  intro F w0 a ha
  rw [← List.take_append_drop k l]
  refine wpQuiet_append _ _ _ (wpQuiet_mono ?_ _ _ (h F w0 a ha))
  rintro a' ⟨σ', h1, _, h6, h7, _⟩
  refine h2 F w0 a' (h1.le ?_)
  intro t u ht
  rw [Env.get_cons] at ht
  split at ht
  · rename_i e; subst e; simp at ht; subst ht; exact h6
  · exact h7 t u ht
theorem SQ.bcase {l : List Oper} {c : Nat} {b : Bool} (hc : σ.get c = some (.bool b)) (hT : b = true → SQ P n ops l ((c, .bool true) :: σ) L M Q) (hF : b = false → SQ P n ops l ((c, .bool false) :: σ) L M Q) : SQ P n ops l σ L M Q := by
  intro F w0 a ha
  have key : ∀ b', b = b' → Ag n ((c, .bool b') :: σ) a := by
    rintro b' rfl
    refine ha.le ?_
    intro t u ht
    rw [Env.get_cons] at ht
    split at ht
    · rename_i e; subst e; simp at ht; subst ht; exact hc
    · exact ht
  cases b with
  | true => exact hT rfl F w0 a (key _ rfl)
  | false => exact hF rfl F w0 a (key _ rfl)
theorem SQ.mono {l : List Oper} {Q' : Post} (h : SQ P n ops l σ L M Q) (hq : ∀ σ', Q .normal σ' L M → Q' .normal σ' L M) : SQ P n ops l σ L M Q' := by
  intro F w0 a ha
  refine wpQuiet_mono ?_ _ _ (h F w0 a ha)
  rintro a' ⟨σ', h1, h2⟩
  exact ⟨σ', h1, hq _ h2⟩
theorem SQ.orcut (k : Nat) {l : List Oper} {c d : Nat} {b : Bool} (hc : σ.get c = some (.bool b))
    (hT : b = true → SQ P n ops (l.take k) ((c, .bool true) :: σ) L M (cutQ d (.bool true) ((c, .bool true) :: σ) L))
    (h : ∃ B, (b = false → SQ P n ops (l.take k) ((c, .bool false) :: σ) L M (cutQ d (.bool B) ((c, .bool false) :: σ) L)) ∧ SQ P n ops (l.drop k) ((d, .bool (b || B)) :: σ) L M Q) : SQ P n ops l σ L M Q := by
  obtain ⟨B, hF, h2⟩ := h
  exact SQ.vcut k (SQ.bcase hc (fun h => (hT h).mono fun _ q => cutQ.weak hc h (by rw [h]; rfl) q) (fun h => (hF h).mono fun _ q => cutQ.weak hc h (by rw [h]; rfl) q)) h2
theorem SQ.andcut (k : Nat) {l : List Oper} {c d : Nat} {b : Bool} (hc : σ.get c = some (.bool b))
    (hF : b = false → SQ P n ops (l.take k) ((c, .bool false) :: σ) L M (cutQ d (.bool false) ((c, .bool false) :: σ) L))
    (h : ∃ B, (b = true → SQ P n ops (l.take k) ((c, .bool true) :: σ) L M (cutQ d (.bool B) ((c, .bool true) :: σ) L)) ∧ SQ P n ops (l.drop k) ((d, .bool (b && B)) :: σ) L M Q) : SQ P n ops l σ L M Q := by
  obtain ⟨B, hT, h2⟩ := h
  exact SQ.vcut k (SQ.bcase hc (fun h => (hT h).mono fun _ q => cutQ.weak hc h (by rw [h]; rfl) q) (fun h => (hF h).mono fun _ q => cutQ.weak hc h (by rw [h]; rfl) q)) h2
theorem SQ.bset {l : List Oper} {c : Nat} {b b' : Bool} (hc : σ.get c = some (.bool b)) (hb : b = b') (h : SQ P n ops l ((c, .bool b') :: σ) L M Q) : SQ P n ops l σ L M Q := by
  subst hb
  exact SQ.bcase hc (fun h0 => by rw [h0] at h; exact h) (fun h0 => by rw [h0] at h; exact h)

/-! ### A scope that is left without a goto -/
def scopeQ (Q : Post) : Post
  | .goto _, _, _, _ => False
  | e, σ, L, M => Q e σ L M
theorem SC.scope {c : Code} (h : SC P n c σ L M (scopeQ Q)) : SC P n (.scope c) σ L M Q := by
  intro F w0 M0 a w ha hs hw hm
  refine wp_scope_straight (wp_mono (h F w0 M0 a w ha hs hw hm) ?_)
  rintro e a' w' ⟨σ', L', M', h1, h2, h3, h4, h5⟩
  cases e with
  | goto l => exact h5.elim
  | _ => exact ⟨σ', L', M', h1, h2, h3, h4, h5⟩
theorem scopeQ.nm (h : Q .normal σ L M) : scopeQ Q .normal σ L M := h
theorem scopeQ.e {id : Nat} (h : Q (.exit id) σ L M) : scopeQ Q (.exit id) σ L M := h
theorem scopeQ.r (h : Q .ret σ L M) : scopeQ Q .ret σ L M := h

/-! ### Contracts of the library's -/
theorem Sep.keep {H H' : Hp} (h : Sep H L M) (hz : H.size ≤ H'.size) (hk : ∀ b, b < H.size → H'[b]? = H[b]?) : Sep H' L M := by
  obtain ⟨fp, h1, h2, h3, h4⟩ := h.own
  refine ⟨⟨fp, h1.keep fun b hb => hk b (h3 b hb), h2, fun b hb => Nat.lt_of_lt_of_le (h3 b hb) hz, h4⟩, fun b o hb => ?_⟩
  have := h.mem b o hb
  rw [hk b (Array.getElem?_eq_some_iff.1 this).1]
  exact this
/-- It may lay blocks, and turns none that was there. -/
theorem Ev.of_keep {f : FuncId} {vs : Array Value} {v : Value} (h : ∀ w, Calls P f vs w fun e w' => e = .returned v ∧ St w w' ∧ w.heap.size ≤ w'.heap.size ∧ ∀ b, b < w.heap.size → w'.heap[b]? = w.heap[b]?) : Ev P f vs [] M (Pu M v) := by
  intro F w hs
  refine (h w).mono ?_
  rintro e w' ⟨rfl, h1, h2, h3⟩
  exact ⟨v, [], M, rfl, h1, hs.keep h2 h3, Mem.le_refl _, rfl, rfl, rfl⟩

theorem OpV.runeStr {s t : TypeId} {x : Operand} {k : IntKind} {r : Int} (hs : P.underlying s = some (.int k)) (ht : P.underlying t = some .string) (hx : evalE σ x = some (.int k r)) : OpV P (.convert s t x) σ L M (.string (Utf8.encode r)) := by
  intro n F ac w dst type pos after guard ha hsp
  simp [execOp, ha.eval hx, convert, underlying, hs, ht, Conv.intToString]

/-! ### Ranging over a string -/
def nextV (l : List UInt8) (pos : Nat) : Array Value := if pos < l.length then #[.bool true, .int .i64 pos, .int .i32 (Utf8.decode (bs l) pos).1] else #[.bool false]
def nextPos (l : List UInt8) (pos : Nat) : Nat := if pos < l.length then pos + (Utf8.decode (bs l) pos).2 else pos
theorem nextV_0 (l : List UInt8) (pos : Nat) : (nextV l pos)[0]? = some (.bool (decide (pos < l.length))) := by
  unfold nextV; split <;> simp [*]
theorem nextV_1 {l : List UInt8} {pos : Nat} (h : pos < l.length) : (nextV l pos)[1]? = some (.int .i64 pos) := by
  unfold nextV; rw [if_pos h]; rfl
theorem nextV_2 {l : List UInt8} {pos : Nat} (h : pos < l.length) : (nextV l pos)[2]? = some (.int .i32 (Utf8.decode (bs l) pos).1) := by
  unfold nextV; rw [if_pos h]; rfl
theorem OpH.rangeS {t : TypeId} {x : Operand} {l : List UInt8} (ht : P.underlying t = some .string) (hx : evalE σ x = some (.string (bs l))) :
    OpH P (.range t x) σ L M fun v L' M' => ∃ b, v = .pointer (some ⟨b, 0, none⟩) ∧ L' = .obj b (.stringIter (bs l) 0) :: L ∧ M = M' := by
  intro n F a w dst type pos after guard ha hs
  refine ⟨.pointer (some ⟨w.heap.size, 0, none⟩), { w with heap := w.heap.push (.stringIter (bs l) 0) }, .obj w.heap.size (.stringIter (bs l) 0) :: L, M, ?_, ⟨rfl, rfl, rfl⟩, hs.newObj _, Mem.le_refl _, _, rfl, rfl, rfl⟩
  have h1 : (newObj (.stringIter (bs l) 0)).run P w = .ok w.heap.size { w with heap := w.heap.push (.stringIter (bs l) 0) } := rfl
  simp only [execOp, ha.eval hx, Instr.range, underlying, Sem.run_bind, run_program, Result.andThen_ok, ht, Sem.run_pure, h1]
theorem Sep.setObj {H H' : Hp} {i b : Nat} {o o' : Obj} {F : List Res} (h : Sep H (L ++ F) M) (hL : L[i]? = some (.obj b o)) (hs : H'.size = H.size) (hb : H'[b]? = some o') (hk : ∀ c, c ≠ b → H'[c]? = H[c]?) : Sep H' (L.set i (.obj b o') ++ F) M := by
  have hs' := h.perm (perm_at (getElem?_app (F := F) hL))
  have hw := hs'.write (r' := .obj b o') (fun _ h => h.1) hs ⟨rfl, hb⟩ hk
  have := hw.perm ((perm_set (.obj b o') (getElem?_app (F := F) hL)))
  rwa [set_app hL] at this
theorem Sep.objAt {H : Hp} {i b : Nat} {o : Obj} {F : List Res} (h : Sep H (L ++ F) M) (hL : L[i]? = some (.obj b o)) : H[b]? = some o := by
  obtain ⟨fp, _, h2⟩ := h.at_ hL
  exact h2
theorem set_self {α : Type} : ∀ {L : List α} {i : Nat} {r : α}, L[i]? = some r → L.set i r = L
  | [], i, r, h => by simp at h
  | x :: l, 0, r, h => by simp at h; simp [h]
  | x :: l, i + 1, r, h => by simp at h; simp [set_self h]
def Obj.notCells : Obj → Bool
  | .cells .. => false
  | _ => true
theorem run_setObj_w {w : World} {b : Nat} {o o' : Obj} (h : w.heap[b]? = some o) (hc : Obj.notCells o = true) : ∃ w', (Go.setObj b o').run P w = .ok () w' ∧ St w w' ∧ w'.heap.size = w.heap.size ∧ w'.heap[b]? = some o' ∧ ∀ c, c ≠ b → w'.heap[c]? = w.heap[c]? := by
  refine ⟨{ w with heap := w.heap.setIfInBounds b o' }, ?_, ⟨rfl, rfl, rfl⟩, by simp, ?_, ?_⟩
  · cases o <;> first | (cases hc; done) | simp [setObj, Sem.run, h]
  · have := (Array.getElem?_eq_some_iff.1 h).1
    simp [this]
  · intro c hc
    simp [Array.getElem?_setIfInBounds, Ne.symm hc]
theorem run_getObj_w {w : World} {b : Nat} {o : Obj} (h : w.heap[b]? = some o) (hc : Obj.notCells o = true) : (Go.getObj b).run P w = .ok o w := by
  cases o <;> first | (cases hc; done) | simp [getObj, Sem.run, h]
theorem OpH.nextS (i : Nat) {x : Operand} {b pos : Nat} {l : List UInt8} (hL : L[i]? = some (.obj b (.stringIter (bs l) pos))) (hx : evalE σ x = some (.pointer (some ⟨b, 0, none⟩))) :
    OpH P (.next x true) σ L M fun v L' M' => v = .tuple (nextV l pos) ∧ L' = L.set i (.obj b (.stringIter (bs l) (nextPos l pos))) ∧ M = M' := by
  intro n F a w dst type pos' after guard ha hs
  have hb := hs.objAt hL
  by_cases hlt : pos < l.length
  · obtain ⟨w', r, s, z, c, k⟩ := run_setObj_w (P := P) (o' := .stringIter (bs l) (pos + (Utf8.decode (bs l) pos).2)) hb rfl
    refine ⟨_, w', _, M, ?_, s, hs.setObj hL z c k, Mem.le_refl _, rfl, ?_, rfl⟩
    · simp [execOp, ha.eval hx, Instr.next, run_getObj_w hb rfl, bs_size, hlt, nextV, goInt, r]
    · simp [nextPos, hlt]
  · refine ⟨_, w, L, M, ?_, St.refl _, hs, Mem.le_refl _, rfl, ?_, rfl⟩
    · simp [execOp, ha.eval hx, Instr.next, run_getObj_w hb rfl, bs_size, hlt, nextV]
    · simp [nextPos, hlt, set_self hL]
end
end Go.Eng
set_option linter.unusedVariables false
set_option linter.unusedSimpArgs false
namespace Go.Eng

section
variable {P : Program} {n : Nat} {ops : Array Oper} {rest : List Oper} {σ : Env} {L : List Res} {M : Mem} {Q : Post}

/-! ### make([]T, n), stores into a row -/
theorem OpH.makeSlice1 {t e : TypeId} {x : Operand} {m : Nat} {k : IntKind} {z : Value} {bytes : Nat} (ht : P.underlying t = some (.slice e)) (hi : (P.info? e).map (fun i => (i.zero, i.size, i.bytes)) = some (some z, 1, bytes)) (hz : z.oneCell' = true)
    (hx : evalE σ x = some (.int k (m : Int))) (hm : m * bytes ≤ 140737488355328) (hm2 : m ≤ 140737488355328) :
    OpH P (.makeSlice t x x) σ L M fun v L' M' => ∃ b, v = .slice (some ⟨b, 0, none⟩) m m ∧ L' = .row v e 1 (List.replicate m z) :: L ∧ M = M' := by
  intro n F a w dst type pos after guard ha hs
  have hc : z.cells = #[z] := by cases z <;> simp_all [Value.cells, Value.oneCell']
  have harr : madeCells z.cells m = (List.replicate m z).toArray := by
    apply Array.toList_inj.1
    rw [hc]
    simp only [madeCells, Array.toList_map, Array.toList_range]
    rw [List.eq_replicate_iff]
    refine ⟨by simp, fun b hb => ?_⟩
    obtain ⟨i, _, rfl⟩ := List.mem_map.1 hb
    simp [Nat.mod_one]
  refine ⟨.slice (some ⟨w.heap.size, 0, none⟩) m m, { w with heap := w.heap.push (.cells (List.replicate m z).toArray e) }, _, M, ?_, ⟨rfl, rfl, rfl⟩, ?_, Mem.le_refl _, _, rfl, rfl, rfl⟩
  · cases hq : P.info? e with
    | none => simp [hq] at hi
    | some ie =>
      simp [hq] at hi
      obtain ⟨i1, i2, i3⟩ := hi
      have hb : (ie.bytes : Int) * (m : Int) ≤ 281474976710656 := by
        have : ((m * bytes : Nat) : Int) ≤ 140737488355328 := Int.ofNat_le.2 hm
        rw [Nat.mul_comm] at this
        rw [i3]
        push_cast at this
        omega
      have := run_make (P := P) w t e ie z ht hq i1 k k m m (by omega) (Int.le_refl _) hb (by omega)
      rw [Int.toNat_natCast, i2, Nat.mul_one, harr] at this
      simp only [execOp, ha.eval hx, Sem.run_bind, this, Result.andThen_ok, Sem.run_pure]
      rfl
  · refine hs.new fun H' hH => ⟨m, by simp, .inr ⟨w.heap.size, m, (List.replicate m z).toArray, (0, 0), rfl, rfl, Thaw.zero _, hH, Nat.le_refl _, by unfold maxLen; omega, by simp, by simp⟩⟩

theorem OpU.storeRow {t : TypeId} {x y : Operand} {g o m c : Nat} {e : TypeId} {sz : Nat} {xs : List Value} {v : Value} (i : Nat) (hL : L[i]? = some (.row (.slice (some ⟨g, 0, none⟩) m c) e sz xs)) (hx : evalE σ x = some (.pointer (some ⟨g, o, none⟩))) (hy : evalE σ y = some v)
    (hz : (P.info? t).map (·.size) = some v.cells.size) (ho : o + v.cells.size ≤ xs.length) (h1 : v.cells.all (·.oneCell') = true) :
    OpU P (.store t x y) σ L M (L.set i (.row (.slice (some ⟨g, 0, none⟩) m c) e sz (splice xs o v.cells.toList))) := by
  intro n F a w dst type pos after guard ha hs
  have hs' := hs.perm (perm_at (getElem?_app (F := F) hL))
  obtain ⟨fp, ⟨f1, f2, rfl, ⟨k, hk, hrow⟩, _⟩, _⟩ := id hs'.own
  rcases hrow with ⟨h0, _⟩ | ⟨g', cap, cur, fr, h0, rfl, hf, hb, h3, h4, h5, h6⟩
  · cases h0
  · simp at h0
    obtain ⟨rfl, rfl, rfl⟩ := h0
    have hle : m * sz ≤ c * sz := Nat.mul_le_mul_right _ h3
    have hxl : xs.length ≤ cur.size := by omega
    obtain ⟨w', r, s, z, cc, kk⟩ := run_storeCells' (P := P) (o := o) v.cells.toList 0 cur w hb hf (by simp; omega) (fun u hu => by
      have := Array.all_eq_true.1 h1
      obtain ⟨j, hj, rfl⟩ := List.mem_iff_getElem.1 hu
      simpa using this j (by simpa using hj))
    refine ⟨w', ?_, s, ?_⟩
    · cases hq : P.info? t with
      | none => simp [hq] at hz
      | some ie =>
        have hz' : ie.size = v.cells.size := by simpa [hq] using hz
        simp [execOp, ha.eval hx, ha.eval hy, Instr.storeAt, Instr.sureAddr, storeVar, sizeOf, typeInfo, hq, hz', r]
    · have hw := hs'.write (r' := .row (.slice (some ⟨g, 0, none⟩) m c) e sz (splice xs o v.cells.toList)) (b := g) (fun fp h => ?_) z ?_ kk
      · have := hw.perm ((perm_set (.row (.slice (some ⟨g, 0, none⟩) m c) e sz (splice xs o v.cells.toList)) (getElem?_app (F := F) hL)))
        rwa [set_app hL] at this
      · obtain ⟨_, _, ⟨h, _⟩ | ⟨_, _, _, _, h, h', _⟩⟩ := h
        · cases h
        · simp at h; rw [h', h.1]
      · have hsl : (splice xs o v.cells.toList).length = xs.length := by simp [splice]; omega
        have hvl : v.cells.toList.length = v.cells.size := by simp
        refine ⟨m, by rw [hsl]; exact hk, .inr ⟨g, c, _, fr, rfl, rfl, ?_, cc, h3, h4, ?_, ?_⟩⟩
        · intro i hi
          refine hf i ?_
          simp at hi
          omega
        · simp; omega
        · simp only [splice]
          rw [← h6]
          simp only [Nat.add_zero, hvl]
          have e1 : o ≤ m * sz := by omega
          have e2 : (List.take (m * sz) cur.toList).take o = cur.toList.take o := by rw [List.take_take]; congr 1; omega
          have e3 : (List.take (m * sz) cur.toList).drop (o + v.cells.size) = (cur.toList.drop (o + v.cells.size)).take (m * sz - (o + v.cells.size)) := by rw [List.drop_take]
          rw [e2, e3]
          rw [List.take_append, List.take_append]
          have e4 : (cur.toList.take o).length = o := by simp; omega
          rw [List.take_of_length_le (l := cur.toList.take o) (by rw [e4]; exact e1)]
          simp only [e4, List.length_append, hvl]
          rw [List.take_of_length_le (l := v.cells.toList) (by simp; omega)]
theorem OpU.storeRow1 {t : TypeId} {x y : Operand} {g o m c : Nat} {e : TypeId} {sz : Nat} {xs : List Value} {v : Value} (i : Nat) (hL : L[i]? = some (.row (.slice (some ⟨g, 0, none⟩) m c) e sz xs)) (hx : evalE σ x = some (.pointer (some ⟨g, o, none⟩))) (hy : evalE σ y = some v)
    (hz : (P.info? t).map (·.size) = some 1) (ho : o < xs.length) (h1 : v.oneCell' = true) :
    OpU P (.store t x y) σ L M (L.set i (.row (.slice (some ⟨g, 0, none⟩) m c) e sz (xs.set o v))) := by
  have hc : v.cells = #[v] := by cases v <;> simp_all [Value.cells, Value.oneCell']
  have := OpU.storeRow (M := M) i hL hx hy (by rw [hc]; exact hz) (by rw [hc]; simp; omega) (by rw [hc]; simp [h1])
  have he : splice xs o v.cells.toList = xs.set o v := by
    rw [hc]
    simp only [splice]
    rw [List.set_eq_take_append_cons_drop, if_pos ho]
    simp
  rwa [he] at this

/-! ### Values of structs -/
/-- The parts, laid over the zero value's cells. -/
def fillL (pl : List (Nat × Nat)) : List Value → List (Nat × Value) → Option (List Value)
  | cs, [] => some cs
  | cs, (i, v) :: r => match pl[i]? with
    | none => none
    | some (off, size) => match Nat.beq v.cells.size size, Nat.ble (off + size) cs.length with
      | true, true => fillL pl (cs.take off ++ v.cells.toList ++ cs.drop (off + size)) r
      | _, _ => none
theorem fill_fillL (pl : Array (Nat × Nat)) : ∀ (vs : List (Nat × Value)) (cs : Array Value) (out : List Value), fillL pl.toList cs.toList vs = some out → Instr.fill (pl[·]?) cs vs = some out.toArray
  | [], cs, out, h => by simp [fillL] at h; subst h; simp [Instr.fill]
  | (i, v) :: r, cs, out, h => by
    simp only [fillL] at h
    simp only [Instr.fill]
    cases hp : pl[i]? with
    | none =>
      have : pl.toList[i]? = none := by simpa using hp
      simp [this] at h
    | some p =>
      obtain ⟨off, size⟩ := p
      have hpl : pl.toList[i]? = some (off, size) := by simpa using hp
      simp only [hpl] at h
      cases h1 : Nat.beq v.cells.size size with
      | false => simp [h1] at h
      | true =>
        cases h2 : Nat.ble (off + size) cs.toList.length with
        | false => simp only [h1, h2] at h; cases h
        | true =>
          simp only [h1, h2] at h
          have e1 := Nat.eq_of_beq_eq_true h1
          have e2 : off + size ≤ cs.size := by simpa using Nat.le_of_ble_eq_true h2
          have hcond : (decide (v.cells.size ≠ size) || decide (off + v.cells.size > cs.size)) = false := by simp [e1]; omega
          have hX : (v.cells.zipIdx.foldl (fun cs (p : Value × Nat) => cs.setIfInBounds (off + p.2) p.1) cs).toList = cs.toList.take off ++ v.cells.toList ++ cs.toList.drop (off + size) := by
            rw [← Array.foldl_toList, Array.toList_zipIdx]
            have := setFold off v.cells.toList 0 cs (by simp [e1]; omega)
            simpa [e1] using this
          rw [← hX] at h
          have := fill_fillL pl r _ out h
          simp only [hcond, Bool.false_eq_true, ↓reduceIte]
          exact this

theorem OpV.build {t : TypeId} {ps : Array (Nat × Operand)} {fs : Array Field} {z : Value} {pl : List (Nat × Nat)} {vs : List (Nat × Value)} {cs : List Value} (ht : P.underlying t = some (.struct fs)) (hz : (P.info? t).bind (·.zero) = some z)
    (hpl : fs.toList.map (fun f => (f.offset, ((P.info? f.type).map (·.size)))) = pl.map (fun p => (p.1, some p.2))) (hp : evalPs σ ps.toList = some vs) (hf : fillL pl z.cells.toList vs = some cs) : OpV P (.build t ps) σ L M (.agg cs.toArray) := by
  intro n F a w dst type pos after guard ha hs
  have hps : (ps.map fun p => (p.1, a.eval p.2)).toList = vs := by
    rw [Array.toList_map]; exact evalPs_spec ha hp
  have hfill := fill_fillL pl.toArray vs z.cells cs (by simpa using hf)
  have hm : ∀ (fl : List Field) (pl : List (Nat × Nat)), fl.map (fun f => (f.offset, ((P.info? f.type).map (·.size)))) = pl.map (fun p => (p.1, some p.2)) → (fl.mapM (m := Sem) (fun f => do pure (f.offset, ← sizeOf f.type))).run P w = .ok pl w := by
    intro fl
    induction fl with
    | nil => intro pl h; cases pl <;> simp at h ⊢
    | cons f fl ih =>
      intro pl h
      cases pl with
      | nil => simp at h
      | cons p pl =>
        simp at h
        obtain ⟨⟨h1, h2⟩, h3⟩ := h
        have ih' := ih pl h3
        obtain ⟨p1, p2⟩ := p
        obtain ⟨ie, hie, rfl⟩ := h2
        rw [List.mapM_cons]
        simp only [sizeOf, typeInfo] at ih' ⊢
        simp only [Sem.run_bind, run_program, Result.andThen_ok, hie, Sem.run_pure, ih', h1]
  have hma : (fs.mapM (m := Sem) (fun f => do pure (f.offset, ← sizeOf f.type))).run P w = .ok pl.toArray w := by
    have := hm fs.toList pl hpl
    rw [show fs = fs.toList.toArray by simp, List.mapM_toArray, Sem.run_map, this]
    rfl
  cases hq : P.info? t with
  | none => simp [hq] at hz
  | some ie =>
    have hz' : ie.zero = some z := by simpa [hq] using hz
    have hzv : (zeroValue t).run P w = .ok z w := by simp [zeroValue, typeInfo, hq, hz']
    have hu : (underlying t).run P w = .ok (.struct fs) w := by simp [underlying, ht]
    simp only [execOp, Instr.build, Sem.run_bind, hzv, Result.andThen_ok, hu, hma]
    rw [hps, hfill]
    rfl
end
end Go.Eng
set_option linter.unusedVariables false
set_option linter.unusedSimpArgs false
namespace Go.Eng

section
variable {P : Program} {n : Nat} {ops : Array Oper} {rest : List Oper} {σ : Env} {L : List Res} {M : Mem} {Q : Post}

/-- What the library promises of a world below its end. -/
theorem Ev.of_below {f : FuncId} {vs : Array Value} {v : Value} (h : ∀ w, Calls P f vs w fun e w' => e = .returned v ∧ RowKit.Below w.heap.size w w') : Ev P f vs [] M (Pu M v) :=
  Ev.of_keep fun w => (h w).mono fun e w' ⟨h1, h2⟩ => ⟨h1, ⟨h2.os, h2.tape, h2.output⟩, h2.size, h2.block⟩

/-- What the call laid and fixed is let go. -/
theorem Ev.lax {f : FuncId} {vs : Array Value} {v : Value} (h : Ev P f vs L M fun v' _ _ => v' = v) : Ev P f vs L M (Pu M v) := by
  intro F w hs
  refine (h F w hs).mono ?_
  rintro e w' ⟨v', L', M', h1, h2, h3, h4, rfl⟩
  exact ⟨v', [], M, h1, h2, (Sep.dropLeft (L1 := L') h3).less h4, Mem.le_refl _, rfl, rfl, rfl⟩
theorem Ev.laxR {f : FuncId} {vs : Array Value} {R : Value → Mem → Prop} (h : Ev P f vs L M fun v' _ M' => R v' M') : Ev P f vs L M fun v' L' M' => L' = [] ∧ R v' M' := by
  intro F w hs
  refine (h F w hs).mono ?_
  rintro e w' ⟨v', L', M', h1, h2, h3, h4, h5⟩
  exact ⟨v', [], M', h1, h2, Sep.dropLeft (L1 := L') h3, h4, rfl, h5⟩

/-- A block that is no row of cells: by what is owned, or by what is fixed. -/
def Ko (L : List Res) (M : Mem) (r : Nat) (o : Obj) : Prop := ∀ H F, Sep H (L ++ F) M → H[r]? = some o
theorem Ko.mem {r : Nat} {o : Obj} (h : M r o) : Ko L M r o := fun _ _ hs => hs.mem _ _ h
theorem Ko.obj (i : Nat) {r : Nat} {o : Obj} (hL : L[i]? = some (.obj r o)) : Ko L M r o := fun _ _ hs => hs.objAt hL

def plainKey : TypeDesc → Bool
  | .int _ | .string | .bool => true
  | _ => false
theorem run_checkKey {key : TypeId} {d : TypeDesc} (hk : P.underlying key = some d) (hd : plainKey d = true) (e : Bool) (k : Nat) (v : Value) (w : World) : (Instr.checkKey e (k + 1) key v).run P w = .ok () w := by
  have hu : (underlying key).run P w = .ok d w := by simp [underlying, hk]
  simp only [Instr.checkKey, Sem.run_bind, hu, Result.andThen_ok]
  cases d <;> first | (cases hd; done) | rfl | (cases v <;> rfl)
theorem run_findKey {key : TypeId} {d : TypeDesc} (hk : P.underlying key = some d) {k : Value} {es : List MapEntry} {r : Option (Nat × Value)} (hf : Instr.findNow d k es 0 = some r) (w : World) : (Instr.findKey key k es).run P w = .ok r w := by
  have hu : (underlying key).run P w = .ok d w := by simp [underlying, hk]
  simp only [Instr.findKey, Sem.run_bind, hu, Result.andThen_ok, hf, Sem.run_pure]
theorem OpV.lookupR {t key elem : TypeId} {x ix : Operand} {d : TypeDesc} {r c : Nat} {es : Array MapEntry} {k z : Value} {res : Option (Nat × Value)} (b : Bool) (ht : P.underlying t = some (.map key elem)) (hk : P.underlying key = some d) (hd : plainKey d = true)
    (hz : (P.info? elem).bind (·.zero) = some z) (hx : evalE σ x = some (.map (some r))) (hix : evalE σ ix = some k) (ho : Ko L M r (.map es c)) (hf : Instr.findNow d k es.toList 0 = some res) :
    OpV P (.lookup t x ix b) σ L M (if b then .tuple #[(res.map (·.2)).getD z, .bool res.isSome] else (res.map (·.2)).getD z) := by
  intro n F a w dst type pos after guard ha hs
  have hob := ho _ _ hs
  have hu : (underlying t).run P w = .ok (.map key elem) w := by simp [underlying, ht]
  have hck := run_checkKey hk hd es.isEmpty 9999 k w
  have hfk := run_findKey hk hf w
  have hzv : (zeroValue elem).run P w = .ok z w := by
    cases hq : P.info? elem with
    | none => simp [hq] at hz
    | some ie =>
      have hz' : ie.zero = some z := by simpa [hq] using hz
      simp [zeroValue, typeInfo, hq, hz']
  have hgo : (getObj r).run P w = .ok (.map es c) w := run_getObj_w hob rfl
  simp only [execOp, ha.eval hx, ha.eval hix, Instr.lookup, Sem.run_bind, hu, hgo, Result.andThen_ok, hck, hfk, Sem.run_pure]
  cases res with
  | none => simp only [Sem.run_bind, hzv, Result.andThen_ok, Sem.run_pure]; cases b <;> rfl
  | some p => obtain ⟨i, u⟩ := p; simp only [Sem.run_pure, Result.andThen_ok]; cases b <;> rfl

theorem OpV.lookupV {t key elem : TypeId} {x ix : Operand} {d : TypeDesc} {r c : Nat} {es : Array MapEntry} {k z : Value} {res : Option (Nat × Value)} (ht : P.underlying t = some (.map key elem)) (hk : P.underlying key = some d) (hd : plainKey d = true)
    (hz : (P.info? elem).bind (·.zero) = some z) (hx : evalE σ x = some (.map (some r))) (hix : evalE σ ix = some k) (ho : Ko L M r (.map es c)) (hf : Instr.findNow d k es.toList 0 = some res) :
    OpV P (.lookup t x ix false) σ L M ((res.map (·.2)).getD z) := OpV.lookupR false ht hk hd hz hx hix ho hf
theorem OpV.lookupOk {t key elem : TypeId} {x ix : Operand} {d : TypeDesc} {r c : Nat} {es : Array MapEntry} {k z : Value} {res : Option (Nat × Value)} (ht : P.underlying t = some (.map key elem)) (hk : P.underlying key = some d) (hd : plainKey d = true)
    (hz : (P.info? elem).bind (·.zero) = some z) (hx : evalE σ x = some (.map (some r))) (hix : evalE σ ix = some k) (ho : Ko L M r (.map es c)) (hf : Instr.findNow d k es.toList 0 = some res) :
    OpV P (.lookup t x ix true) σ L M (.tuple #[(res.map (·.2)).getD z, .bool res.isSome]) := OpV.lookupR true ht hk hd hz hx hix ho hf

def BuildAt (P : Program) (t : TypeId) (pl : List (Nat × Nat)) (z : Value) : Prop := ∃ fs, P.underlying t = some (.struct fs) ∧ (P.info? t).bind (·.zero) = some z ∧ fs.toList.map (fun f => (f.offset, ((P.info? f.type).map (·.size)))) = pl.map (fun p => (p.1, some p.2))
theorem OpV.bld {t : TypeId} {ps : Array (Nat × Operand)} {z : Value} {pl : List (Nat × Nat)} {vs : List (Nat × Value)} {cs : List Value} (h : BuildAt P t pl z) (hp : evalPs σ ps.toList = some vs) (hf : fillL pl z.cells.toList vs = some cs) : OpV P (.build t ps) σ L M (.agg cs.toArray) := by
  obtain ⟨fs, h1, h2, h3⟩ := h
  exact OpV.build h1 h2 h3 hp hf

/-! ### Maps with text keys -/
def kvEs (j : Nat) : List (List UInt8 × Value) → List MapEntry
  | [] => []
  | (k, v) :: r => { key := .string (bs k), val := v, born := j } :: kvEs (j + 1) r
def mapObj (kvs : List (List UInt8 × Value)) : Obj := .map (kvEs 0 kvs).toArray kvs.length
def kvFind (k : List UInt8) : List (List UInt8 × Value) → Nat → Option (Nat × Value)
  | [], _ => none
  | (k', v) :: r, i => if k = k' then some (i, v) else kvFind k r (i + 1)
def kvGet (k : List UInt8) : List (List UInt8 × Value) → Option Value
  | [] => none
  | (k', v) :: r => if k = k' then some v else kvGet k r
def kvPut (k : List UInt8) (v : Value) : List (List UInt8 × Value) → List (List UInt8 × Value)
  | [] => [(k, v)]
  | (k', v') :: r => if k = k' then (k, v) :: r else (k', v') :: kvPut k v r
theorem kvFind_get (k : List UInt8) : ∀ (kvs : List (List UInt8 × Value)) (i : Nat), (kvFind k kvs i).map (·.2) = kvGet k kvs
  | [], i => rfl
  | (k', v) :: r, i => by
    simp only [kvFind, kvGet]
    split
    · rfl
    · exact kvFind_get k r (i + 1)
theorem findNow_kv (k : List UInt8) : ∀ (kvs : List (List UInt8 × Value)) (j i : Nat), Instr.findNow .string (.string (bs k)) (kvEs j kvs) i = some (kvFind k kvs i)
  | [], j, i => rfl
  | (k', v) :: r, j, i => by
    have hs : Instr.sameNow .string (.string (bs k)) (.string (bs k')) = some (decide (k = k')) := by
      have hb : (bs k == bs k') = decide (k = k') := by
        show (k.toArray == k'.toArray) = _
        rw [beq_dec]; simp
      simp [Instr.sameNow, hb]
    simp only [kvEs, Instr.findNow, hs, kvFind]
    by_cases h : k = k'
    · simp [h]
    · simp only [decide_eq_false h, if_neg h]
      exact findNow_kv k r (j + 1) (i + 1)
theorem kvEs_append (a b : List (List UInt8 × Value)) : ∀ j, kvEs j (a ++ b) = kvEs j a ++ kvEs (j + a.length) b := by
  induction a with
  | nil => intro j; simp [kvEs]
  | cons p r ih =>
    intro j
    obtain ⟨k, v⟩ := p
    simp only [List.cons_append, kvEs, ih, List.length_cons]
    congr 3
    omega
theorem kvPut_none {k : List UInt8} {v : Value} : ∀ {kvs : List (List UInt8 × Value)} {i : Nat}, kvFind k kvs i = none → kvPut k v kvs = kvs ++ [(k, v)]
  | [], i, _ => rfl
  | (k', v') :: r, i, h => by
    simp only [kvFind] at h
    split at h
    · cases h
    · rename_i hk
      simp only [kvPut, if_neg hk, List.cons_append]
      rw [kvPut_none h]
theorem kvPut_some {k : List UInt8} {v u : Value} : ∀ {kvs : List (List UInt8 × Value)} {i m j : Nat}, kvFind k kvs i = some (m, u) → i ≤ m ∧ m < i + kvs.length ∧ (kvEs j kvs)[m - i]? = some { key := .string (bs k), val := u, born := j + (m - i) } ∧ (kvPut k v kvs).length = kvs.length ∧ kvEs j (kvPut k v kvs) = (kvEs j kvs).modify (m - i) fun e => { e with key := .string (bs k), val := v }
  | [], i, m, j, h => by simp [kvFind] at h
  | (k', v') :: r, i, m, j, h => by
    simp only [kvFind] at h
    split at h
    · rename_i hk
      simp at h
      obtain ⟨rfl, rfl⟩ := h
      subst hk
      simp [kvEs, kvPut]
    · rename_i hk
      obtain ⟨h1, h2, h3, h4, h5⟩ := kvPut_some (v := v) (j := j + 1) h
      have e : m - i = (m - (i + 1)) + 1 := by omega
      refine ⟨by omega, by simp; omega, ?_, by simp [kvPut, hk, h4], ?_⟩
      · rw [e]
        simp only [kvEs, List.getElem?_cons_succ]
        rw [h3]
        congr 2
        omega
      · rw [e]
        simp only [kvPut, if_neg hk, kvEs, h5, List.modify_succ_cons]
theorem OpU.mapPut (i : Nat) {t key elem : TypeId} {m kx vx : Operand} {r : Nat} {kvs : List (List UInt8 × Value)} {k : List UInt8} {v : Value} (ht : P.underlying t = some (.map key elem)) (hk : P.underlying key = some .string)
    (hL : L[i]? = some (.obj r (mapObj kvs))) (hm : evalE σ m = some (.map (some r))) (hkx : evalE σ kx = some (.string (bs k))) (hvx : evalE σ vx = some v) :
    OpU P (.mapUpdate t m kx vx) σ L M (L.set i (.obj r (mapObj (kvPut k v kvs)))) := by
  intro n F a w dst type pos after guard ha hs
  have hob := hs.objAt hL
  have hu : (underlying t).run P w = .ok (.map key elem) w := by simp [underlying, ht]
  have hck := run_checkKey hk rfl false 9999 (.string (bs k)) w
  have hfk := run_findKey hk (findNow_kv k kvs 0 0) w
  have hgo : (getObj r).run P w = .ok (.map (kvEs 0 kvs).toArray kvs.length) w := run_getObj_w hob rfl
  have hstep : ∀ K : Sem Unit, (Instr.mapUpdate t (.map (some r)) (.string (bs k)) v).run P w = K.run P w → ∀ w', K.run P w = .ok () w' → (execOp a.eval { dst, op := .mapUpdate t m kx vx, type, pos, after, guard }).run P w = .ok .skip w' := by
    intro K h1 w' h2
    rw [h2] at h1
    simp only [execOp, ha.eval hm, ha.eval hkx, ha.eval hvx, Sem.run_bind, h1, Result.andThen_ok, Sem.run_pure]
  cases hfd : kvFind k kvs 0 with
  | none =>
    rw [hfd] at hfk
    obtain ⟨w', e, s, z, cc, kk⟩ := run_setObj_w (P := P) (o' := .map ((kvEs 0 kvs).toArray.push { key := .string (bs k), val := v, born := kvs.length }) (kvs.length + 1)) hob rfl
    refine ⟨w', hstep _ ?_ w' e, s, ?_⟩
    · simp only [Instr.mapUpdate, Sem.run_bind, hu, Result.andThen_ok, hgo, hck, List.toList_toArray, hfk]
    · refine hs.setObj hL z ?_ kk
      rw [cc]
      have := kvPut_none (v := v) hfd
      rw [mapObj, this, kvEs_append]
      simp [kvEs]
  | some p =>
    obtain ⟨mi, u⟩ := p
    rw [hfd] at hfk
    obtain ⟨_, h2, h3, h4, h5⟩ := kvPut_some (v := v) (j := 0) hfd
    simp only [Nat.sub_zero, Nat.zero_add] at h2 h3 h5
    obtain ⟨w', e, s, z, cc, kk⟩ := run_setObj_w (P := P) (o' := .map ((kvEs 0 kvs).toArray.modify mi fun e => { e with key := .string (bs k), val := v }) kvs.length) hob rfl
    have hkt : (Instr.keyThatStays (.string (bs k)) (.string (bs k))).run P w = .ok (.string (bs k)) w := by
      have : Instr.sameBits 10000 (.string (bs k)) (.string (bs k)) = true := by
        show (k.toArray == k.toArray) = true
        exact beq_self_eq_true _
      simp [Instr.keyThatStays, this]
    have hold : (((kvEs 0 kvs).toArray[mi]?).map (·.key)).getD (.string (bs k)) = .string (bs k) := by simp [h3]
    refine ⟨w', hstep _ ?_ w' e, s, ?_⟩
    · simp only [Instr.mapUpdate, Sem.run_bind, hu, Result.andThen_ok, hgo, hck, List.toList_toArray, hfk, hold, hkt]
    · refine hs.setObj hL z ?_ kk
      rw [cc, mapObj, h4, h5]
      congr 2
      apply Array.toList_inj.1
      simp
theorem OpH.makeMap {t : TypeId} : OpH P (.makeMap t none) σ L M fun v L' M' => ∃ b, v = .map (some b) ∧ L' = .obj b (mapObj []) :: L ∧ M = M' := by
  intro n F a w dst type pos after guard ha hs
  refine ⟨.map (some w.heap.size), { w with heap := w.heap.push (.map #[] 0) }, .obj w.heap.size (.map #[] 0) :: L, M, ?_, ⟨rfl, rfl, rfl⟩, hs.newObj _, Mem.le_refl _, _, rfl, rfl, rfl⟩
  have h1 : (newObj (.map #[] 0)).run P w = .ok w.heap.size { w with heap := w.heap.push (.map #[] 0) } := rfl
  simp only [execOp, Instr.makeMap, Sem.run_bind, Option.map_none, Result.andThen_ok, Sem.run_pure, h1]

theorem OpV.kvLookup {t key elem : TypeId} {x ix : Operand} {r : Nat} {kvs : List (List UInt8 × Value)} {k : List UInt8} {z : Value} (ht : P.underlying t = some (.map key elem)) (hk : P.underlying key = some .string) (hz : (P.info? elem).bind (·.zero) = some z)
    (hx : evalE σ x = some (.map (some r))) (hix : evalE σ ix = some (.string (bs k))) (ho : Ko L M r (mapObj kvs)) : OpV P (.lookup t x ix false) σ L M ((kvGet k kvs).getD z) := by
  have := OpV.lookupV (L := L) (M := M) ht hk rfl hz hx hix ho (findNow_kv k kvs 0 0)
  rwa [kvFind_get] at this
theorem OpV.kvLookupOk {t key elem : TypeId} {x ix : Operand} {r : Nat} {kvs : List (List UInt8 × Value)} {k : List UInt8} {z : Value} (ht : P.underlying t = some (.map key elem)) (hk : P.underlying key = some .string) (hz : (P.info? elem).bind (·.zero) = some z)
    (hx : evalE σ x = some (.map (some r))) (hix : evalE σ ix = some (.string (bs k))) (ho : Ko L M r (mapObj kvs)) : OpV P (.lookup t x ix true) σ L M (.tuple #[(kvGet k kvs).getD z, .bool (kvGet k kvs).isSome]) := by
  have := OpV.lookupOk (L := L) (M := M) ht hk rfl hz hx hix ho (findNow_kv k kvs 0 0)
  have e : (kvFind k kvs 0).isSome = (kvGet k kvs).isSome := by rw [← kvFind_get k kvs 0, Option.isSome_map]
  rwa [kvFind_get, e] at this

/-! ### Ranging over a map that stays as it is -/
theorem OpH.rangeM {t key elem : TypeId} {x : Operand} {r : Nat} {kvs : List (List UInt8 × Value)} (ht : P.underlying t = some (.map key elem)) (hx : evalE σ x = some (.map (some r))) (ho : Ko L M r (mapObj kvs)) :
    OpH P (.range t x) σ L M fun v L' M' => ∃ b, v = .pointer (some ⟨b, 0, none⟩) ∧ L' = .obj b (.mapIter (some r) kvs.length #[] kvs.length) :: L ∧ M = M' := by
  intro n F a w dst type pos after guard ha hs
  have hob := ho _ _ hs
  have hu : (underlying t).run P w = .ok (.map key elem) w := by simp [underlying, ht]
  have hgo : (getObj r).run P w = .ok (.map (kvEs 0 kvs).toArray kvs.length) w := run_getObj_w hob rfl
  refine ⟨.pointer (some ⟨w.heap.size, 0, none⟩), { w with heap := w.heap.push (.mapIter (some r) kvs.length #[] kvs.length) }, .obj w.heap.size (.mapIter (some r) kvs.length #[] kvs.length) :: L, M, ?_, ⟨rfl, rfl, rfl⟩, hs.newObj _, Mem.le_refl _, _, rfl, rfl, rfl⟩
  have h1 : (newObj (.mapIter (some r) kvs.length #[] kvs.length)).run P w = .ok w.heap.size { w with heap := w.heap.push (.mapIter (some r) kvs.length #[] kvs.length) } := rfl
  simp only [execOp, ha.eval hx, Instr.range, Sem.run_bind, hu, Result.andThen_ok, hgo, Sem.run_pure, h1]

theorem kvEs_get (kvs : List (List UInt8 × Value)) : ∀ (j i : Nat), (kvEs j kvs)[i]? = (kvs[i]?).map fun p => ({ key := .string (bs p.1), val := p.2, born := j + i } : MapEntry) := by
  induction kvs with
  | nil => intro j i; simp [kvEs]
  | cons p r ih =>
    intro j i
    obtain ⟨k, v⟩ := p
    cases i with
    | zero => simp [kvEs]
    | succ i =>
      simp only [kvEs, List.getElem?_cons_succ, ih]
      congr 1
      funext p
      congr 1
      omega
theorem kvEs_mem {kvs : List (List UInt8 × Value)} {e : MapEntry} (h : e ∈ kvEs 0 kvs) : ∃ i p, kvs[i]? = some p ∧ e = { key := .string (bs p.1), val := p.2, born := i } := by
  obtain ⟨i, hi, rfl⟩ := List.mem_iff_getElem.1 h
  have := kvEs_get kvs 0 i
  rw [List.getElem?_eq_getElem hi] at this
  cases hp : kvs[i]? with
  | none => rw [hp] at this; simp at this
  | some p =>
    rw [hp] at this
    simp at this
    exact ⟨i, p, hp, this⟩
theorem kvEs_length (kvs : List (List UInt8 × Value)) : ∀ j, (kvEs j kvs).length = kvs.length := by
  induction kvs with
  | nil => intro j; rfl
  | cons p r ih => intro j; obtain ⟨k, v⟩ := p; simp [kvEs, ih]
def nextM (more : Bool) (k : List UInt8) (v : Value) : Array Value := if more then #[.bool true, .string (bs k), v] else #[.bool false]
theorem nextM_0 (more : Bool) (k : List UInt8) (v : Value) : (nextM more k v)[0]? = some (.bool more) := by cases more <;> rfl
theorem OpH.nextMap (i : Nat) {x : Operand} {b r : Nat} {kvs : List (List UInt8 × Value)} {seen : Array Nat} (hL : L[i]? = some (.obj b (.mapIter (some r) kvs.length seen kvs.length))) (ho : Ko L M r (mapObj kvs)) (hx : evalE σ x = some (.pointer (some ⟨b, 0, none⟩))) :
    OpH P (.next x false) σ L M fun u L' M' => ∃ more j k v, u = .tuple (nextM more k v) ∧ L' = L.set i (.obj b (.mapIter (some r) kvs.length (if more then seen.push j else seen) kvs.length)) ∧ M = M' ∧ (more = true → j < kvs.length ∧ j ∉ seen ∧ kvs[j]? = some (k, v)) ∧ (more = false → ∀ j, j < kvs.length → j ∈ seen) := by
  intro n F a w dst type pos after guard ha hs
  have hob := ho _ _ hs
  have hit := hs.objAt hL
  have hold : ∀ e ∈ (kvEs 0 kvs).toArray.toList, e.born < kvs.length := by
    intro e he
    obtain ⟨j, p, hj, rfl⟩ := kvEs_mem (by simpa using he)
    exact (List.getElem?_eq_some_iff.1 hj).1
  rcases run_next_at (P := P) w type b r kvs.length kvs.length seen (kvEs 0 kvs).toArray kvs.length hit hob hold (Nat.le_refl _) with ⟨h0, hr⟩ | ⟨e, he, w1, hw1, hr⟩
  · refine ⟨.tuple (nextM false [] undef), w, L, M, ?_, St.refl _, hs, Mem.le_refl _, false, 0, [], undef, rfl, by simp [set_self hL], rfl, by simp, ?_⟩
    · simp only [execOp, ha.eval hx, Sem.run_bind, hr, Result.andThen_ok, Sem.run_pure]; rfl
    · intro _ j hj
      obtain ⟨p, hp⟩ : ∃ p, kvs[j]? = some p := ⟨kvs[j], List.getElem?_eq_getElem hj⟩
      have hem : ({ key := .string (bs p.1), val := p.2, born := j } : MapEntry) ∈ (kvEs 0 kvs) := by
        have := kvEs_get kvs 0 j
        rw [hp] at this
        exact List.mem_of_getElem? (by simpa using this)
      unfold leftOf at h0
      have h1 := Array.eq_empty_of_size_eq_zero h0
      rw [Array.filter_eq_empty_iff] at h1
      have := h1 _ (by simpa using hem)
      simpa using this
  · have hmem : e ∈ kvEs 0 kvs ∧ e.born ∉ seen := by
      unfold leftOf at he
      simp at he
      exact he
    obtain ⟨j, p, hj, rfl⟩ := kvEs_mem hmem.1
    have hlt := (List.getElem?_eq_some_iff.1 hj).1
    have hw1h : w1.heap = w.heap ∧ St w w1 := by
      rcases hw1 with rfl | rfl
      · exact ⟨rfl, St.refl _⟩
      · exact ⟨rfl, ⟨rfl, rfl, rfl⟩⟩
    have hbl : b < w.heap.size := (Array.getElem?_eq_some_iff.1 hit).1
    refine ⟨.tuple (nextM true p.1 p.2), ChangeMaps.setBlock w1 b (.mapIter (some r) kvs.length (seen.push j) kvs.length), _, M, ?_, ⟨hw1h.2.os, hw1h.2.tape, hw1h.2.output⟩, hs.setObj hL (o' := .mapIter (some r) kvs.length (seen.push j) kvs.length) ?_ ?_ ?_, Mem.le_refl _, true, j, p.1, p.2, rfl, by simp, rfl, fun _ => ⟨hlt, hmem.2, by rw [hj]⟩, by simp⟩
    · simp only [execOp, ha.eval hx, Sem.run_bind, hr, Result.andThen_ok, Sem.run_pure]; rfl
    · simp [ChangeMaps.setBlock, hw1h.1]
    · simp [ChangeMaps.setBlock, hw1h.1, hbl]
    · intro c hc
      simp [ChangeMaps.setBlock, hw1h.1, Array.getElem?_setIfInBounds, Ne.symm hc]
/-- The round's key and value, read behind the step. -/
theorem OpV.entry {x : Operand} {b r j : Nat} {kvs : List (List UInt8 × Value)} {seen : Array Nat} {k : List UInt8} {v : Value} (hit : Ko L M b (.mapIter (some r) kvs.length (seen.push j) kvs.length)) (ho : Ko L M r (mapObj kvs)) (hx : evalE σ x = some (.pointer (some ⟨b, 0, none⟩))) (hj : kvs[j]? = some (k, v)) :
    OpV P (.entry x) σ L M (.tuple #[.string (bs k), v]) := by
  intro n F a w dst type pos after guard ha hs
  have hborn : ((kvEs 0 kvs).toArray.toList.map (·.born)).Nodup := by
    have : ∀ (l : List (List UInt8 × Value)) (j : Nat), ((kvEs j l).map (·.born)) = List.range' j l.length := by
      intro l
      induction l with
      | nil => intro j; rfl
      | cons p r ih => intro j; obtain ⟨k, v⟩ := p; simp [kvEs, ih, List.range'_succ]
    simp only [List.toList_toArray, this]
    exact List.nodup_range' ..
  have hem : ({ key := .string (bs k), val := v, born := j } : MapEntry) ∈ (kvEs 0 kvs).toArray.toList := by
    have := kvEs_get kvs 0 j
    rw [hj] at this
    simp only [List.toList_toArray]
    exact List.mem_of_getElem? (by simpa using this)
  have := run_entry_at (P := P) w b r kvs.length seen (kvEs 0 kvs).toArray kvs.length { key := .string (bs k), val := v, born := j } (hit _ _ hs) (ho _ _ hs) hem hborn
  simp only [execOp, ha.eval hx, Sem.run_bind, this, Result.andThen_ok, Sem.run_pure]
end
end Go.Eng
/-
  The printed words on a region that draws its order (print.sh's second file, written for this claim; the namespace's name is turned), shortened to what Eng12 uses.
-/
namespace Go.Eng.PrintLast

section
variable {P : Program} {ops : Array Oper} {Q : Exit → Act → World → Prop} {md : Region.Mode} {S : World → Prop} {ds : List Nat}

/-- Operation d waits for operation i, by a chain of at most 'fuel' edges. -/
def Region.reachB (md : Region.Mode) (ops : Array Oper) (i : Nat) : Nat → Nat → Bool
  | 0, _ => false
  | fuel + 1, d => match ops[d]? with
    | some o => o.after.any fun e => Region.binds md e && (e.on == i || Region.reachB md ops i fuel e.on)
    | none => false

/-- What is listed is closed under the edges. -/
def Region.closedB (md : Region.Mode) (ops : Array Oper) (listed : Array Bool) : Bool :=
  (List.range ops.size).all fun j => !listed.getD j false || match ops[j]? with
    | some o => o.after.all fun e => !Region.binds md e || listed.getD e.on false
    | none => true

/-- Each of ds that has not come up yet waits for number i. -/
def Region.lastB (md : Region.Mode) (ops : Array Oper) (listed : Array Bool) (ds : List Nat) (i : Nat) : Bool :=
  ds.all fun d => listed.getD d true || Region.reachB md ops i ops.size d

def ListedClosed (md : Region.Mode) (ops : Array Oper) (listed : Array Bool) : Prop :=
  ∀ j oj, ops[j]? = some oj → listed.getD j false = true → ∀ e ∈ oj.after, Region.binds md e = true → listed.getD e.on false = true

theorem Region.closedB_spec {listed : Array Bool} (h : Region.closedB md ops listed = true) : ListedClosed md ops listed := by
  intro j oj hj hl e he hb
  have hlt : j < ops.size := (Array.getElem?_eq_some_iff.1 hj).1
  have h1 := List.all_eq_true.1 h j (List.mem_range.2 hlt)
  simp only [hl, hj, Bool.not_true, Bool.false_or] at h1
  have h2 := Array.all_eq_true_iff_forall_mem.1 h1 e he
  simpa [hb] using h2

theorem ListedClosed.set {listed : Array Bool} {i : Nat} (h : ListedClosed md ops listed) (hi : i ∈ Region.ready md ops listed) : ListedClosed md ops (listed.setIfInBounds i true) := by
  obtain ⟨_, oi, hoi, hall⟩ := mem_ready.1 hi
  intro j oj hj hl e he hb
  by_cases hij : i = j
  · subst hij
    have : oj = oi := Option.some.inj (hj.symm.trans hoi)
    subst this
    exact getD_set_true (hall e he hb)
  · rw [getD_set_ne false hij] at hl
    exact getD_set_true (h j oj hj hl e he hb)

theorem Region.reach_listed {listed : Array Bool} {i : Nat} (hc : ListedClosed md ops listed) : ∀ (fuel d : Nat), Region.reachB md ops i fuel d = true → listed.getD d false = true → listed.getD i false = true
  | 0, _, h, _ => by simp [Region.reachB] at h
  | fuel + 1, d, h, hl => by
    unfold Region.reachB at h
    cases ho : ops[d]? with
    | none => rw [ho] at h; simp at h
    | some o =>
      rw [ho] at h
      obtain ⟨e, he, h1⟩ := Array.any_eq_true'.1 h
      simp only [Bool.and_eq_true, Bool.or_eq_true, beq_iff_eq] at h1
      have hle := hc d o ho hl e he h1.1
      rcases h1.2 with h2 | h2
      · rw [← h2]; exact hle
      · exact Region.reach_listed hc fuel e.on h2 hle

/-- What waits for i cannot come up before i is listed. -/
theorem Region.reach_not_ready {listed : Array Bool} {i d fuel : Nat} (hc : ListedClosed md ops listed) (hr : Region.reachB md ops i fuel d = true) (hun : listed.getD i true = false) : d ∉ Region.ready md ops listed := by
  intro hd
  obtain ⟨_, o, ho, hall⟩ := mem_ready.1 hd
  have hi : listed.getD i false = true := by
    cases fuel with
    | zero => simp [Region.reachB] at hr
    | succ n =>
      unfold Region.reachB at hr
      rw [ho] at hr
      obtain ⟨e, he, h1⟩ := Array.any_eq_true'.1 hr
      simp only [Bool.and_eq_true, Bool.or_eq_true, beq_iff_eq] at h1
      have hle := hall e he h1.1
      rcases h1.2 with h2 | h2
      · rw [← h2]; exact hle
      · exact Region.reach_listed hc n e.on h2 hle
  rcases Nat.lt_or_ge i listed.size with h' | h'
  · simp [h'] at hun hi
    rw [hun] at hi
    cases hi
  · simp [Array.getElem?_eq_none h'] at hun

/-- Whatever order is picked from here on, AND 'S' HOLDS BEHIND EVERY OPERATION THAT IS CARRIED OUT, those of ds apart. -/
def wpAnyLast (P : Program) (md : Region.Mode) (ops : Array Oper) (Q : Exit → Act → World → Prop) (S : World → Prop) (ds : List Nat) : Nat → Array Bool → Act → World → Prop
  | 0, listed, a, w => Region.ready md ops listed = [] ∧ Q .normal a w
  | fuel + 1, listed, a, w =>
    (Region.ready md ops listed = [] → Q .normal a w) ∧
    ∀ i ∈ Region.ready md ops listed, wpOp P ops Q i (fun a' w' => (i ∉ ds → S w → S w') ∧ wpAnyLast P md ops Q S ds fuel (listed.setIfInBounds i true) a' w') a w

theorem wpAny_of_last : ∀ (fuel : Nat) (listed : Array Bool) (a : Act) (w : World), wpAnyLast P md ops Q S ds fuel listed a w → wpAny P md ops Q fuel listed a w
  | 0, _, _, _, h => h
  | fuel + 1, _, _, _, h => ⟨h.1, fun i hi => wpOp_mono (fun a' w' h' => wpAny_of_last fuel _ a' w' h'.2) (h.2 i hi)⟩

theorem wpAnyLast_first {i : Nat} {oi : Oper} {v : Value} (hi : ops[i]? = some oi) (hsel : ∀ (j : Nat) (o : Oper) cs b, ops[j]? = some o → o.op ≠ .select cs b)
    (hQ : ∀ c a w, Q (.panic c) (a.put oi.dst v) w → Q (.panic c) a w) (n : Nat) :
    ∀ (fuel : Nat) (listed : Array Bool) (a : Act) (w : World),
      (∀ j oj, ops[j]? = some oj → j ≠ i → listed.getD j true = false → (∀ e ∈ oj.after, Region.binds md e = true → e.on ≠ i) → oi.apart ops oj = true) →
      ListedClosed md ops listed → (∀ d ∈ ds, listed.getD d true = false → Region.reachB md ops i n d = true) →
      i ∈ Region.ready md ops listed → YieldsIf P ops S oi v a → S w →
      wpAnyLast P md ops Q S ds fuel (listed.setIfInBounds i true) (a.put oi.dst v) w → wpAnyLast P md ops Q S ds (fuel + 1) listed a w := by
  intro fuel
  induction fuel with
  | zero =>
    intro listed a w _ _ _ hr hy hS H
    refine ⟨fun h => (by rw [h] at hr; cases hr), fun j hj => ?_⟩
    by_cases hji : j = i
    · subst hji; exact hy.wpOp hi hS ⟨fun _ h => h, H⟩
    · have := ready_mono hj hji
      rw [H.1] at this
      cases this
  | succ fuel ih =>
    intro listed a w hfree hc hd hr hy hS H
    refine ⟨fun h => (by rw [h] at hr; cases hr), fun j hj => ?_⟩
    by_cases hji : j = i
    · subst hji; exact hy.wpOp hi hS ⟨fun _ h => h, H⟩
    · have h1 := H.2 j (ready_mono hj hji)
      obtain ⟨hjun, oj, hoj, hall⟩ := mem_ready.1 hj
      have hiun := (mem_ready.1 hr).1
      have hnot : ∀ e ∈ oj.after, Region.binds md e = true → e.on ≠ i := fun e he hb heq => by
        have h1 := hall e he hb
        rw [heq] at h1
        rcases Nat.lt_or_ge i listed.size with h' | h'
        · simp [h'] at hiun h1; rw [hiun] at h1; cases h1
        · simp [Array.getElem?_eq_none h'] at h1
      have hjd : j ∉ ds := fun hm => Region.reach_not_ready hc (hd j hm hjun) hiun hj
      have h2 := wpOp_putIf hoj (hfree j oj hoj hji hjun hnot) (fun cs b => hsel i oi cs b hi) (fun cs b => hsel j oj cs b hoj) hQ hy h1
      have hfree' : ∀ k ok, ops[k]? = some ok → k ≠ i → (listed.setIfInBounds j true).getD k true = false →
          (∀ e ∈ ok.after, Region.binds md e = true → e.on ≠ i) → oi.apart ops ok = true := fun k ok hk hki hun hno => by
        refine hfree k ok hk hki ?_ hno
        by_cases hjk : j = k
        · subst hjk; exact hjun
        · rw [getD_set_ne true hjk] at hun; exact hun
      have hd' : ∀ d ∈ ds, (listed.setIfInBounds j true).getD d true = false → Region.reachB md ops i n d = true := fun d hm hun => by
        refine hd d hm ?_
        by_cases hjk : j = d
        · subst hjk; exact hjun
        · rw [getD_set_ne true hjk] at hun; exact hun
      refine wpOp_mono (fun a' w' h3 => ⟨h3.2.1, ih (listed.setIfInBounds j true) a' w' hfree' (hc.set hj) hd' (ready_mono hr (Ne.symm hji)) h3.1 (h3.2.1 hjd hS) ?_⟩) h2
      rw [Array.setIfInBounds_comm _ _ hji]
      exact h3.2.2

/-- Take number 'i' first, which yields whatever the world: no S is asked for, nor that anything waits for it. -/
theorem wpAnyLast_any {i : Nat} {oi : Oper} {v : Value} (hi : ops[i]? = some oi) (hsel : ∀ (j : Nat) (o : Oper) cs b, ops[j]? = some o → o.op ≠ .select cs b)
    (hQ : ∀ c a w, Q (.panic c) (a.put oi.dst v) w → Q (.panic c) a w) :
    ∀ (fuel : Nat) (listed : Array Bool) (a : Act) (w : World),
      (∀ j oj, ops[j]? = some oj → j ≠ i → listed.getD j true = false → (∀ e ∈ oj.after, Region.binds md e = true → e.on ≠ i) → oi.apart ops oj = true) →
      i ∈ Region.ready md ops listed → Yields P ops oi v a →
      wpAnyLast P md ops Q S ds fuel (listed.setIfInBounds i true) (a.put oi.dst v) w → wpAnyLast P md ops Q S ds (fuel + 1) listed a w := by
  intro fuel
  induction fuel with
  | zero =>
    intro listed a w _ hr hy H
    refine ⟨fun h => (by rw [h] at hr; cases hr), fun j hj => ?_⟩
    by_cases hji : j = i
    · subst hji; exact (hy.yieldsIf (S := fun _ => True)).wpOp hi trivial ⟨fun _ h => h, H⟩
    · have := ready_mono hj hji
      rw [H.1] at this
      cases this
  | succ fuel ih =>
    intro listed a w hfree hr hy H
    refine ⟨fun h => (by rw [h] at hr; cases hr), fun j hj => ?_⟩
    by_cases hji : j = i
    · subst hji; exact (hy.yieldsIf (S := fun _ => True)).wpOp hi trivial ⟨fun _ h => h, H⟩
    · have h1 := H.2 j (ready_mono hj hji)
      obtain ⟨hjun, oj, hoj, hall⟩ := mem_ready.1 hj
      have hiun := (mem_ready.1 hr).1
      have hnot : ∀ e ∈ oj.after, Region.binds md e = true → e.on ≠ i := fun e he hb heq => by
        have h1 := hall e he hb
        rw [heq] at h1
        rcases Nat.lt_or_ge i listed.size with h' | h'
        · simp [h'] at hiun h1; rw [hiun] at h1; cases h1
        · simp [Array.getElem?_eq_none h'] at h1
      have h2 := wpOp_put hoj (hfree j oj hoj hji hjun hnot) (fun cs b => hsel i oi cs b hi) (fun cs b => hsel j oj cs b hoj) hQ hy h1
      have hfree' : ∀ k ok, ops[k]? = some ok → k ≠ i → (listed.setIfInBounds j true).getD k true = false →
          (∀ e ∈ ok.after, Region.binds md e = true → e.on ≠ i) → oi.apart ops ok = true := fun k ok hk hki hun hno => by
        refine hfree k ok hk hki ?_ hno
        by_cases hjk : j = k
        · subst hjk; exact hjun
        · rw [getD_set_ne true hjk] at hun; exact hun
      refine wpOp_mono (fun a' w' h3 => ⟨h3.2.1, ih (listed.setIfInBounds j true) a' w' hfree' (ready_mono hr (Ne.symm hji)) h3.1 ?_⟩) h2
      rw [Array.setIfInBounds_comm _ _ hji]
      exact h3.2.2

/-- Take number 'i' first. -/
theorem wpAnyLast_take {i : Nat} {oi : Oper} {v : Value} {fuel : Nat} {listed : Array Bool} {a : Act} {w : World} (hi : ops[i]? = some oi)
    (hs : Region.noSelect ops = true) (hf : Region.free md ops listed i = true) (hr : (Region.ready md ops listed).contains i = true)
    (hc : Region.closedB md ops listed = true) (hl : Region.lastB md ops listed ds i = true)
    (hQ : ∀ c a w, Q (.panic c) (a.put oi.dst v) w → Q (.panic c) a w) (hy : YieldsIf P ops S oi v a) (hS : S w)
    (h : wpAnyLast P md ops Q S ds fuel (listed.setIfInBounds i true) (a.put oi.dst v) w) : wpAnyLast P md ops Q S ds (fuel + 1) listed a w :=
  wpAnyLast_first hi (Region.noSelect_spec hs) hQ ops.size fuel listed a w (Region.free_spec hi hf) (Region.closedB_spec hc)
    (fun d hm hun => by have := List.all_eq_true.1 hl d hm; rw [hun] at this; simpa using this) (by simpa using hr) hy hS h

theorem wpAnyLast_all {rs : List Nat} {fuel : Nat} {listed : Array Bool} {a : Act} {w : World} (hr : Region.ready md ops listed = rs) (hne : rs ≠ [])
    (h : ∀ i ∈ rs, wpOp P ops Q i (fun a' w' => (i ∉ ds → S w → S w') ∧ wpAnyLast P md ops Q S ds fuel (listed.setIfInBounds i true) a' w') a w) : wpAnyLast P md ops Q S ds (fuel + 1) listed a w :=
  ⟨fun h0 => absurd (hr ▸ h0) hne, hr ▸ h⟩

theorem wpAnyLast_done {listed : Array Bool} {a : Act} {w : World} (hr : Region.ready md ops listed = []) (h : Q .normal a w) :
    ∀ fuel, wpAnyLast P md ops Q S ds fuel listed a w
  | 0 => ⟨hr, h⟩
  | _ + 1 => ⟨fun _ => h, by rw [hr]; simp⟩

theorem wp_region_last {id : Nat} {a : Act} {w : World} (hm : P.follows .mixedOrders = true)
    (h : wpAnyLast P .any ops Q S ds ops.size (Array.replicate ops.size false) a { w with drawn := w.drawn + 1 }) : (Code.region id ops true).wp P Q a w :=
  wp_region_any hm (wpAny_of_last _ _ _ _ h)

end

section
variable {P : Program} {ops : Array Oper} {Q : Exit → Act → World → Prop} {md : Region.Mode} {S : World → Prop} {ds : List Nat}

def AllReadyL (P : Program) (md : Region.Mode) (ops : Array Oper) (Q : Exit → Act → World → Prop) (S : World → Prop) (ds : List Nat) (fuel : Nat) (listed : Array Bool) (a : Act) (w : World) (rs : List Nat) : Prop :=
  ∀ i ∈ rs, wpOp P ops Q i (fun a' w' => (i ∉ ds → S w → S w') ∧ wpAnyLast P md ops Q S ds fuel (listed.setIfInBounds i true) a' w') a w
theorem AllReadyL.nil {fuel : Nat} {listed : Array Bool} {a : Act} {w : World} : AllReadyL P md ops Q S ds fuel listed a w [] := fun _ h => by cases h
theorem AllReadyL.cons {fuel : Nat} {listed : Array Bool} {a : Act} {w : World} {i : Nat} {o : Oper} {rs : List Nat} (ho : ops[i]? = some o) (hd : i ∉ ds)
    (h : ∀ K' : Act → World → Prop, Shut (∀ a w, S w → (S w → wpAnyLast P md ops Q S ds fuel (listed.setIfInBounds i true) a w) → K' a w) → if Region.wanted o (yielded ops a.tmps) = true then Oper.wp P o a w K' Q else K' (a.put o.dst undef) w)
    (hs : AllReadyL P md ops Q S ds fuel listed a w rs) : AllReadyL P md ops Q S ds fuel listed a w (i :: rs) := fun j hj => by
  rcases List.mem_cons.1 hj with rfl | hj
  · exact wpOp_step ho (fun K' hK => h K' (fun a w hS hW => hK a w ⟨fun _ _ => hS, hW hS⟩))
  · exact hs j hj
/-- Behind an operation of ds nothing is shown. -/
theorem AllReadyL.cons_last {fuel : Nat} {listed : Array Bool} {a : Act} {w : World} {i : Nat} {o : Oper} {rs : List Nat} (ho : ops[i]? = some o) (hd : i ∈ ds)
    (h : ∀ K' : Act → World → Prop, Shut (∀ a w, wpAnyLast P md ops Q S ds fuel (listed.setIfInBounds i true) a w → K' a w) → if Region.wanted o (yielded ops a.tmps) = true then Oper.wp P o a w K' Q else K' (a.put o.dst undef) w)
    (hs : AllReadyL P md ops Q S ds fuel listed a w rs) : AllReadyL P md ops Q S ds fuel listed a w (i :: rs) := fun j hj => by
  rcases List.mem_cons.1 hj with rfl | hj
  · exact wpOp_step ho (fun K' hK => h K' (fun a w hW => hK a w ⟨fun hn => absurd hd hn, hW⟩))
  · exact hs j hj
theorem wpAnyLast_ready {rs : List Nat} {fuel : Nat} {listed : Array Bool} {a : Act} {w : World} (hr : Region.ready md ops listed = rs) (hne : rs ≠ [])
    (h : AllReadyL P md ops Q S ds fuel listed a w rs) : wpAnyLast P md ops Q S ds (fuel + 1) listed a w := wpAnyLast_all hr hne h
theorem wp_region_last_drew {id : Nat} {a : Act} {w : World} (hm : P.follows .mixedOrders = true) (hS : S w.drew)
    (h : S w.drew → wpAnyLast P .any ops Q S ds ops.size (Array.replicate ops.size false) a w.drew) : (Code.region id ops true).wp P Q a w :=
  wp_region_last hm (h hS)

end
end Go.Eng.PrintLast
set_option linter.unusedVariables false
set_option linter.unusedSimpArgs false
namespace Go.Eng
open PrintLast

section
variable {P : Program} {n : Nat} {ops : Array Oper} {rest : List Oper} {σ : Env} {L : List Res} {M : Mem} {Q : Post}

/-! ### Regions that draw their order: values first, then calls, then what writes -/
def wpVal (P : Program) (ops : Array Oper) (S : World → Prop) (Q : Act → Prop) : List Oper → Act → Prop
  | [], a => Q a
  | o :: r, a => ∃ v, YieldsIf P ops S o v a ∧ wpVal P ops S Q r (a.put o.dst v)
theorem wpVal_mono {S : World → Prop} {Q Q' : Act → Prop} (hq : ∀ a, Q a → Q' a) : ∀ (l : List Oper) (a : Act), wpVal P ops S Q l a → wpVal P ops S Q' l a
  | [], a, h => hq _ h
  | o :: r, a, ⟨v, h1, h2⟩ => ⟨v, h1, wpVal_mono hq r _ h2⟩
def SV (P : Program) (n : Nat) (ops : Array Oper) (l : List Oper) (σ : Env) (L : List Res) (M : Mem) (Q : Env → Prop) : Prop :=
  ∀ F w0 a, Ag n σ a → wpVal P ops (QC w0 F L M) (fun a' => ∃ σ', Ag n σ' a' ∧ Q σ') l a
theorem SV.nil {Q : Env → Prop} (h : Q σ) : SV P n ops [] σ L M Q := fun _ _ _ ha => ⟨σ, ha, h⟩
theorem SV.val {Q : Env → Prop} {op : Op} {d type : Nat} {pos : String} {after : Array Edge} {v : Value} (h : OpV P op σ L M v) (hd : Nat.blt d n = true) (k : SV P n ops rest ((d, v) :: σ) L M Q) :
    SV P n ops ({ dst := some d, op, type, pos, after, guard := none } :: rest) σ L M Q :=
  fun F w0 a ha => ⟨v, .inl ⟨rfl, fun w hw => h n F a w (some d) type pos after none ha hw.2⟩, k F w0 _ (ha.put hd v)⟩
theorem SV.gval {Q : Env → Prop} {op : Op} {d type : Nat} {pos : String} {after : Array Edge} {v : Value} {j : Nat} {b : Bool} (hw : wantE ops σ j b = some true) (h : OpV P op σ L M v) (hd : Nat.blt d n = true) (k : SV P n ops rest ((d, v) :: σ) L M Q) :
    SV P n ops ({ dst := some d, op, type, pos, after, guard := some (j, b) } :: rest) σ L M Q :=
  fun F w0 a ha => ⟨v, .inl ⟨wantE_spec ha hw _ rfl, fun w hw => h n F a w (some d) type pos after _ ha hw.2⟩, k F w0 _ (ha.put hd v)⟩
theorem SV.skip {Q : Env → Prop} {op : Op} {d type : Nat} {pos : String} {after : Array Edge} {j : Nat} {b : Bool} (hw : wantE ops σ j b = some false) (hd : Nat.blt d n = true) (k : SV P n ops rest ((d, undef) :: σ) L M Q) :
    SV P n ops ({ dst := some d, op, type, pos, after, guard := some (j, b) } :: rest) σ L M Q :=
  fun F w0 a ha => ⟨undef, .inr ⟨wantE_spec ha hw _ rfl, rfl⟩, k F w0 _ (ha.put hd undef)⟩

def pickL (l : List Oper) : List Nat → List Oper
  | [] => []
  | i :: r => match l[i]? with
    | some o => o :: pickL l r
    | none => pickL l r
def noMem : Mem := fun _ _ => False

def takesB (ops : Array Oper) (ds : List Nat) : List Nat → Array Bool → Option (Array Bool)
  | [], l => some l
  | i :: r, l => if (ops[i]?).isSome && Region.noSelect ops && Region.free .any ops l i && (Region.ready .any ops l).contains i && Region.closedB .any ops l && Region.lastB .any ops l ds i then takesB ops ds r (l.setIfInBounds i true) else none
def runsB (ops : Array Oper) (bad : List Nat) : List Nat → Array Bool → Option (Array Bool)
  | [], l => some l
  | i :: r, l => if (ops[i]?).isSome && decide (Region.ready .any ops l = [i]) && !bad.contains i then runsB ops bad r (l.setIfInBounds i true) else none
def anysB (ops : Array Oper) : List Nat → Array Bool → Option (Array Bool)
  | [], l => some l
  | i :: r, l => if (ops[i]?).isSome && Region.noSelect ops && Region.free .any ops l i && (Region.ready .any ops l).contains i then anysB ops r (l.setIfInBounds i true) else none
def drawB (ops : Array Oper) (o1 a1 cl an tl : List Nat) : Bool :=
  match takesB ops tl o1 (Array.replicate ops.size false) with
  | none => false
  | some l0 => match anysB ops a1 l0 with
  | none => false
  | some l1 => match runsB ops tl cl l1 with
    | none => false
    | some l2 => match anysB ops an l2 with
      | none => false
      | some l3 => match runsB ops [] tl l3 with
        | none => false
        | some l4 => decide (Region.ready .any ops l4 = []) && decide (o1.length + (a1.length + (cl.length + (an.length + tl.length))) = ops.size)

theorem takes_ok {Q' : Exit → Act → World → Prop} {S : World → Prop} {ds : List Nat} (hQ : ∀ c d v a w, Q' (.panic c) (Act.put a d v) w → Q' (.panic c) a w) {K : Act → Prop} (f : Nat) {lf' : Array Bool} : ∀ (o1 : List Nat) (l : Array Bool) (a : Act) (w : World), takesB ops ds o1 l = some lf' → S w →
    wpVal P ops S K (pickL ops.toList o1) a → (∀ a', K a' → wpAnyLast P .any ops Q' S ds f lf' a' w) → wpAnyLast P .any ops Q' S ds (o1.length + f) l a w
  | [], l, a, w, hB, hS, h, hk => by
    simp [takesB] at hB; subst hB
    simpa using hk a h
  | i :: r, l, a, w, hB, hS, h, hk => by
    simp only [takesB] at hB
    split at hB
    · rename_i hc
      simp only [Bool.and_eq_true] at hc
      obtain ⟨⟨⟨⟨⟨h0, h1⟩, h2⟩, h3⟩, h4⟩, h5⟩ := hc
      obtain ⟨o, ho⟩ := Option.isSome_iff_exists.1 h0
      have hol : ops.toList[i]? = some o := by simpa using ho
      simp only [pickL, hol] at h
      obtain ⟨v, hy, h⟩ := h
      have := takes_ok hQ f r (l.setIfInBounds i true) (a.put o.dst v) w hB hS h hk
      rw [List.length_cons, Nat.add_right_comm]
      exact wpAnyLast_take ho h1 h2 h3 h4 h5 (fun c a w => hQ c _ _ a w) hy hS this
    · cases hB
theorem Sep.nothing {H : Hp} : Sep H ([] ++ []) noMem := by
  refine ⟨⟨[], rfl, List.nodup_nil, ?_, ?_⟩, ?_⟩
  · intro b h; cases h
  · intro b o h; exact absurd h id
  · intro b o h; exact absurd h id
def SA (P : Program) (n : Nat) (ops : Array Oper) (l : List Oper) (σ : Env) (Q : Env → Prop) : Prop :=
  ∀ a, Ag n σ a → wpVal P ops (fun _ => True) (fun a' => ∃ σ', Ag n σ' a' ∧ Q σ') l a
theorem SA.nil {Q : Env → Prop} (h : Q σ) : SA P n ops [] σ Q := fun _ ha => ⟨σ, ha, h⟩
theorem SA.val {Q : Env → Prop} {op : Op} {d type : Nat} {pos : String} {after : Array Edge} {v : Value} (h : OpV P op σ [] noMem v) (hd : Nat.blt d n = true) (k : SA P n ops rest ((d, v) :: σ) Q) :
    SA P n ops ({ dst := some d, op, type, pos, after, guard := none } :: rest) σ Q :=
  fun a ha => ⟨v, .inl ⟨rfl, fun w _ => h n [] a w (some d) type pos after none ha Sep.nothing⟩, k _ (ha.put hd v)⟩
theorem anys_ok {Q' : Exit → Act → World → Prop} {S : World → Prop} {ds : List Nat} (hQ : ∀ c d v a w, Q' (.panic c) (Act.put a d v) w → Q' (.panic c) a w) {K : Act → Prop} (f : Nat) {lf' : Array Bool} : ∀ (o1 : List Nat) (l : Array Bool) (a : Act) (w : World), anysB ops o1 l = some lf' →
    wpVal P ops (fun _ => True) K (pickL ops.toList o1) a → (∀ a', K a' → wpAnyLast P .any ops Q' S ds f lf' a' w) → wpAnyLast P .any ops Q' S ds (o1.length + f) l a w
  | [], l, a, w, hB, h, hk => by
    simp [anysB] at hB; subst hB
    simpa using hk a h
  | i :: r, l, a, w, hB, h, hk => by
    simp only [anysB] at hB
    split at hB
    · rename_i hc
      simp only [Bool.and_eq_true] at hc
      obtain ⟨⟨⟨h0, h1⟩, h2⟩, h3⟩ := hc
      obtain ⟨o, ho⟩ := Option.isSome_iff_exists.1 h0
      have hol : ops.toList[i]? = some o := by simpa using ho
      simp only [pickL, hol] at h
      obtain ⟨v, hy, h⟩ := h
      have hy' : Yields P ops o v a := hy.imp (fun ⟨h1, h2⟩ => ⟨h1, fun w => h2 w trivial⟩) id
      have := anys_ok (S := S) (ds := ds) hQ f r (l.setIfInBounds i true) (a.put o.dst v) w hB h hk
      rw [List.length_cons, Nat.add_right_comm]
      exact wpAnyLast_any ho (Region.noSelect_spec h1) (fun c a w => hQ c _ _ a w) _ l a w (Region.free_spec ho h2) (by simpa using h3) hy' this
    · cases hB
theorem calls_ok {Q' : Exit → Act → World → Prop} {S : World → Prop} {ds : List Nat} {K : Act → Prop} (f : Nat) {lf' : Array Bool} : ∀ (o1 : List Nat) (l : Array Bool) (a : Act) (w : World), runsB ops ds o1 l = some lf' → S w →
    wpQuiet P ops S K (pickL ops.toList o1) a → (∀ a' w', S w' → K a' → wpAnyLast P .any ops Q' S ds f lf' a' w') → wpAnyLast P .any ops Q' S ds (o1.length + f) l a w
  | [], l, a, w, hB, hS, h, hk => by
    simp [runsB] at hB; subst hB
    simpa using hk a w hS h
  | i :: r, l, a, w, hB, hS, h, hk => by
    simp only [runsB] at hB
    split at hB
    · rename_i hc
      simp only [Bool.and_eq_true, decide_eq_true_eq, Bool.not_eq_true'] at hc
      obtain ⟨⟨h0, h1⟩, h2⟩ := hc
      obtain ⟨o, ho⟩ := Option.isSome_iff_exists.1 h0
      have hol : ops.toList[i]? = some o := by simpa using ho
      simp only [pickL, hol] at h
      rw [List.length_cons, Nat.add_right_comm]
      refine wpAnyLast_all h1 (by simp) ?_
      intro j hj
      obtain rfl : j = i := by simpa using hj
      have ih : ∀ a' w', S w' → wpQuiet P ops S K (pickL ops.toList r) a' → wpAnyLast P .any ops Q' S ds (r.length + f) (l.setIfInBounds j true) a' w' := fun a' w' hS' h' => calls_ok f r (l.setIfInBounds j true) a' w' hB hS' h' hk
      unfold wpQuiet at h
      unfold wpOp
      simp only [ho]
      split
      · rename_i hw
        rw [if_pos hw] at h
        exact .inl (Oper.wp_of_quiet hS (fun a' w' hS' hK => ⟨fun _ _ => hS', ih a' w' hS' hK⟩) h)
      · rename_i hw
        rw [if_neg hw] at h
        exact ⟨fun _ _ => hS, ih _ _ hS h⟩
    · cases hB
theorem tail_ok {Q' : Exit → Act → World → Prop} {S : World → Prop} {ds : List Nat} {lf' : Array Bool} (hend : Region.ready .any ops lf' = []) : ∀ (o1 : List Nat) (l : Array Bool) (a : Act) (w : World), runsB ops [] o1 l = some lf' → (∀ i ∈ o1, i ∈ ds) →
    wpList P ops Q' (pickL ops.toList o1) a w → wpAnyLast P .any ops Q' S ds o1.length l a w
  | [], l, a, w, hB, hd, h => by
    simp [runsB] at hB; subst hB
    exact wpAnyLast_done hend h _
  | i :: r, l, a, w, hB, hd, h => by
    simp only [runsB] at hB
    split at hB
    · rename_i hc
      simp only [Bool.and_eq_true, decide_eq_true_eq, Bool.not_eq_true'] at hc
      obtain ⟨⟨h0, h1⟩, h2⟩ := hc
      obtain ⟨o, ho⟩ := Option.isSome_iff_exists.1 h0
      have hol : ops.toList[i]? = some o := by simpa using ho
      simp only [pickL, hol] at h
      refine wpAnyLast_all h1 (by simp) ?_
      intro j hj
      obtain rfl : j = i := by simpa using hj
      have hw : wpOp P ops Q' j (wpList P ops Q' (pickL ops.toList r)) a w := by unfold wpOp; simp only [ho]; exact h
      exact wpOp_mono (fun a' w' h' => ⟨fun hn => absurd (hd j (by simp)) hn, tail_ok hend r (l.setIfInBounds j true) a' w' hB (fun k hk => hd k (by simp [hk])) h'⟩) hw
    · cases hB

theorem SC.draw (o1 a1 cl an tl : List Nat) {id : Nat} {l : List Oper} (hm : P.follows .mixedOrders = true) (hB : drawB l.toArray o1 a1 cl an tl = true)
    (h : SV P n l.toArray (pickL l o1) σ L M fun σ0 => SA P n l.toArray (pickL l a1) σ0 fun σ1 => SQ P n l.toArray (pickL l cl) σ1 L M fun _ σ2 _ _ => SA P n l.toArray (pickL l an) σ2 fun σ3 => SL P n l.toArray (pickL l tl) σ3 L M fun e σ4 L4 M4 => e = .normal ∧ Q e σ4 L4 M4) :
    SC P n (.region id l.toArray true) σ L M Q := by
  intro F w0 M0 a w ha hs hw hmm
  unfold drawB at hB
  split at hB
  · cases hB
  · rename_i l0 e0
    split at hB
    · cases hB
    rename_i l1 e1
    split at hB
    · cases hB
    · rename_i l2 e2
      split at hB
      · cases hB
      · rename_i l3 e3
        split at hB
        · cases hB
        · rename_i l4 e4
          simp only [Bool.and_eq_true, decide_eq_true_eq] at hB
          obtain ⟨hend, hlen⟩ := hB
          refine wp_mono (Q := fun e a w => e = .normal ∧ lf n w0 F M0 Q e a w) (wp_region_last (S := QC w0 F L M) (ds := tl) hm ?_) (fun _ _ _ h => h.2)
          have hS : QC w0 F L M { w with drawn := w.drawn + 1 } := ⟨⟨hw.os, hw.tape, hw.output⟩, hs⟩
          have hQ : ∀ (c : _) d v a w, (fun e a w => e = Exit.normal ∧ lf n w0 F M0 Q e a w) (.panic c) (Act.put a d v) w → (fun e a w => e = Exit.normal ∧ lf n w0 F M0 Q e a w) (.panic c) a w := fun c d v a w h => by cases h.1
          have hgo : wpAnyLast P .any l.toArray (fun e a w => e = Exit.normal ∧ lf n w0 F M0 Q e a w) (QC w0 F L M) tl (o1.length + (a1.length + (cl.length + (an.length + tl.length)))) (Array.replicate l.toArray.size false) a { w with drawn := w.drawn + 1 } := ?_
          · rw [hlen] at hgo; exact hgo
          refine takes_ok hQ _ o1 _ a _ e0 hS (by simpa using h F w0 a ha) ?_
          rintro a0 ⟨σ0, ha0, h0⟩
          refine anys_ok hQ _ a1 _ a0 _ e1 (by simpa using h0 a0 ha0) ?_
          rintro a1 ⟨σ1, ha1, h1⟩
          refine calls_ok _ cl _ a1 _ e2 hS (by simpa using h1 F w0 a1 ha1) ?_
          rintro a2 w2 hS2 ⟨σ2, ha2, h2⟩
          refine anys_ok hQ _ an _ a2 w2 e3 (by simpa using h2 a2 ha2) ?_
          rintro a3 ⟨σ3, ha3, h3⟩
          refine tail_ok hend tl _ a3 w2 e4 (fun i hi => hi) ?_
          have := h3 F w0 M0 a3 w2 ha3 hS2.2 hS2.1 hmm
          refine wpList_mono ?_ _ _ _ (by simpa using this)
          rintro e a' w' ⟨σ', L', M', k1, k2, k3, k4, k5, k6⟩
          exact ⟨k5, σ', L', M', k1, k2, k3, k4, k6⟩
end
end Go.Eng
set_option linter.unusedVariables false
set_option linter.unusedSimpArgs false
namespace Go.Eng

section
variable {P : Program} {n : Nat} {ops : Array Oper} {rest : List Oper} {σ : Env} {L : List Res} {M : Mem} {Q : Post}

/-! ### What a row's value looks like -/
def RowV (v : Value) (sz : Nat) (xs : List Value) : Prop := ∃ ad m cap, v = .slice ad m cap ∧ xs.length = m * sz ∧ m ≤ cap ∧ cap ≤ maxLen ∧ ((ad = none ∧ m = 0 ∧ cap = 0) ∨ ∃ g, ad = some ⟨g, 0, none⟩)
theorem Sep.rowV {H : Hp} {F : List Res} (h : Sep H (L ++ F) M) {i : Nat} {v : Value} {e sz : Nat} {xs : List Value} (hL : L[i]? = some (.row v e sz xs)) : RowV v sz xs := by
  obtain ⟨fp, k, hk, ⟨h1, h2, _⟩ | ⟨g, cap, cur, fr, h1, _, _, _, h3, h4, _⟩⟩ := h.at_ hL
  · subst h2
    exact ⟨.none, 0, 0, h1, hk, Nat.le_refl _, Nat.zero_le _, .inl ⟨rfl, rfl, rfl⟩⟩
  · exact ⟨.some ⟨g, 0, .none⟩, k, cap, h1, hk, h3, h4, .inr ⟨g, rfl⟩⟩
theorem SC.rowV {c : Code} (i : Nat) {v : Value} {e sz : Nat} {xs : List Value} (hL : L[i]? = some (.row v e sz xs)) (h : RowV v sz xs → SC P n c σ L M Q) : SC P n c σ L M Q :=
  fun F w0 M0 a w ha hs hw hm => h (hs.rowV hL) F w0 M0 a w ha hs hw hm
theorem SL.rowV {l : List Oper} (i : Nat) {v : Value} {e sz : Nat} {xs : List Value} (hL : L[i]? = some (.row v e sz xs)) (h : RowV v sz xs → SL P n ops l σ L M Q) : SL P n ops l σ L M Q :=
  fun F w0 M0 a w ha hs hw hm => h (hs.rowV hL) F w0 M0 a w ha hs hw hm
theorem Ev.rowV {f : FuncId} {vs : Array Value} {R : Value → List Res → Mem → Prop} (i : Nat) {v : Value} {e sz : Nat} {xs : List Value} (hL : L[i]? = some (.row v e sz xs)) (h : RowV v sz xs → Ev P f vs L M R) : Ev P f vs L M R :=
  fun F w hs => h (hs.rowV hL) F w hs

/-- A block that holds whole elements is a row. -/
theorem Sep.blkRow {H : Hp} {F : List Res} (h : Sep H (L ++ F) M) {i b : Nat} {e sz k : Nat} {cs : List Value} (hL : L[i]? = some (.blk b e cs)) (hk : cs.length = k * sz) (hm : k ≤ maxLen) : Sep H (L.set i (.row (.slice (some ⟨b, 0, .none⟩) k k) e sz cs) ++ F) M := by
  have hs := h.perm (perm_at (getElem?_app (F := F) hL))
  obtain ⟨fp, ⟨f1, f2, rfl, ⟨rfl, fr, ht, hb⟩, h2⟩, hn, hl, hd⟩ := hs.own
  have h3 : Sep H (.row (.slice (some ⟨b, 0, .none⟩) k k) e sz cs :: (L ++ F).eraseIdx i) M :=
    ⟨⟨[b] ++ f2, ⟨[b], f2, rfl, ⟨k, hk, .inr ⟨b, k, cs.toArray, fr, rfl, rfl, by simpa using ht, hb, Nat.le_refl _, hm, by simpa using hk, by rw [← hk]; simp⟩⟩, h2⟩, hn, hl, hd⟩, hs.mem⟩
  have := h3.perm ((perm_set (.row (.slice (some ⟨b, 0, .none⟩) k k) e sz cs) (getElem?_app (F := F) hL)))
  rwa [set_app hL] at this
theorem SL.blkRow {l : List Oper} (i : Nat) {b e : Nat} (sz k : Nat) {cs : List Value} (hL : L[i]? = some (.blk b e cs)) (hk : cs.length = k * sz) (hm : k ≤ maxLen) (h : SL P n ops l σ (L.set i (.row (.slice (some ⟨b, 0, .none⟩) k k) e sz cs)) M Q) : SL P n ops l σ L M Q :=
  fun F w0 M0 a w ha hs hw hmm => h F w0 M0 a w ha (hs.blkRow hL hk hm) hw hmm

/-- 's == nil' -/
theorem OpV.slnil {t ty e : TypeId} {x : Operand} {ad : Option Addr} {m c : Nat} (ht : P.underlying t = some (.slice e)) (hx : evalE σ x = some (.slice ad m c)) : OpV P (.binOp .eql t x (.const (.slice .none 0 0)) ty) σ L M (.bool ad.isNone) := by
  intro n F ac w dst type pos after guard ha hs
  have h1 := Lib.run_eql_slice_nil (P := P) w t e ad m c 0 0 ht
  have h2 : (eqGuard .eql t x (.const (.slice .none 0 0)) (.slice ad m c) (.slice .none 0 0)).run P w = .ok () w := by simp [eqGuard]
  have hx' := ha.eval hx
  have hc' : ac.eval (.const (.slice .none 0 0)) = .slice .none 0 0 := rfl
  simp only [execOp, hx', hc', Sem.run_bind, h1, h2, Result.andThen_ok, Sem.run_pure]

/-- Structs of two texts. -/
def TwoStr (P : Program) (t : TypeId) : Prop := ∃ fs f0 f1, P.underlying t = some (.struct fs) ∧ fs.toList = [f0, f1] ∧ (f0.name == "_") = false ∧ (f1.name == "_") = false ∧ f0.offset = 0 ∧ f1.offset = 1 ∧ P.underlying f0.type = some .string ∧ P.underlying f1.type = some .string ∧ P.stoodInHeld t = false ∧ P.eqGuardType P.depth t = false
theorem OpV.neq2 {t ty : TypeId} {x y : Operand} {a b c d : List UInt8} (h : TwoStr P t) (hx : evalE σ x = some (.agg #[.string (bs a), .string (bs b)])) (hy : evalE σ y = some (.agg #[.string (bs c), .string (bs d)])) :
    OpV P (.binOp .neq t x y ty) σ L M (.bool (decide ((a, b) ≠ (c, d)))) := by
  obtain ⟨fs, f0, f1, hu, hfs, hn0, hn1, ho0, ho1, hu0, hu1, hst, hg⟩ := h
  intro n F ac w dst type pos after guard ha hs
  have hf : P.fieldsOf t = fs := by simp [Program.fieldsOf, hu]
  have hpart : ∀ (ft : TypeId) (cs : Array Value) (o : Nat) (v : Value), P.underlying ft = some .string → cs[o]? = some v → (part ft cs o).run P w = .ok v w := by
    intro ft cs o v h1 h2
    have hagg : (isAgg ft).run P w = .ok false w := by
      unfold isAgg underlying
      simp [h1]
    simp [part, hagg, h2]
  have hn0' : f0.name ≠ "_" := by simpa using hn0
  have hn1' : f1.name ≠ "_" := by simpa using hn1
  have hbeq : ∀ u v : List UInt8, (bs u == bs v) = decide (u = v) := by
    intro u v
    show (u.toArray == v.toArray) = _
    rw [beq_dec]; simp
  have heq : (Op.equal t (.agg #[.string (bs a), .string (bs b)]) (.agg #[.string (bs c), .string (bs d)])).run P w = .ok (decide (a = c) && decide (b = d)) w := by
    show (Op.equalIn (9999 + 1) t _ _).run P w = _
    rw [run_equalIn_struct (P := P) w 9999 t _ _ (by rw [hf]; exact hu) hst, hf, hfs]
    have e0 : (Op.equalIn 9999 f0.type (.string (bs a)) (.string (bs c))).run P w = .ok (decide (a = c)) w := by
      have := run_equalIn_string (P := P) w 9998 f0.type (bs a) (bs c) hu0
      rw [bs_toList, bs_toList, beq_dec] at this
      exact this
    have e1 : (Op.equalIn 9999 f1.type (.string (bs b)) (.string (bs d))).run P w = .ok (decide (b = d)) w := by
      have := run_equalIn_string (P := P) w 9998 f1.type (bs b) (bs d) hu1
      rw [bs_toList, bs_toList, beq_dec] at this
      exact this
    have q0 := hpart f0.type #[.string (bs a), .string (bs b)] f0.offset (.string (bs a)) hu0 (by rw [ho0]; rfl)
    have q1 := hpart f0.type #[.string (bs c), .string (bs d)] f0.offset (.string (bs c)) hu0 (by rw [ho0]; rfl)
    have q2 := hpart f1.type #[.string (bs a), .string (bs b)] f1.offset (.string (bs b)) hu1 (by rw [ho1]; rfl)
    have q3 := hpart f1.type #[.string (bs c), .string (bs d)] f1.offset (.string (bs d)) hu1 (by rw [ho1]; rfl)
    have last : (Op.eqFields 9999 #[.string (bs a), .string (bs b)] #[.string (bs c), .string (bs d)] [f1]).run P w = .ok (decide (b = d)) w := by
      rw [Op.eqFields, if_pos hn1', Sem.run_bind, q2, Result.andThen_ok, Sem.run_bind, q3, Result.andThen_ok, Sem.run_bind, e1, Result.andThen_ok]
      by_cases h2 : b = d <;> simp [h2, Op.eqFields]
    rw [Op.eqFields, if_pos hn0', Sem.run_bind, q0, Result.andThen_ok, Sem.run_bind, q1, Result.andThen_ok, Sem.run_bind, e0, Result.andThen_ok]
    by_cases h1 : a = c
    · have e : (!decide (a = c)) = false := by simp [h1]
      rw [e, if_neg (by simp), last]
      simp [h1]
    · simp [h1]
  have hgd : (eqGuard .neq t x y (.agg #[.string (bs a), .string (bs b)]) (.agg #[.string (bs c), .string (bs d)])).run P w = .ok () w := by
    simp [eqGuard, hg]
  have hb : (binOp .neq t (.agg #[.string (bs a), .string (bs b)]) (.agg #[.string (bs c), .string (bs d)])).run P w = .ok (.bool (decide ((a, b) ≠ (c, d)))) w := by
    simp only [binOp, Sem.run_bind, heq, Result.andThen_ok, Sem.run_pure]
    congr 2
    by_cases h1 : a = c <;> by_cases h2 : b = d <;> simp [h1, h2]
  simp only [execOp, ha.eval hx, ha.eval hy, Sem.run_bind, hgd, hb, Result.andThen_ok, Sem.run_pure]

/-- A slice that can be read: of fixed memory, or a row of one's own. -/
def RSl (L : List Res) (M : Mem) (v : Value) (sz m : Nat) (xs : List Value) : Prop := ∃ ad cap, v = .slice ad m cap ∧ xs.length = m * sz ∧ m ≤ cap ∧ cap ≤ maxLen ∧ (m = 0 ∨ ∃ g o, ad = some ⟨g, o, none⟩ ∧ Kns L M g o xs)
theorem ISl.rsl {v : Value} {sz m : Nat} {xs : List Value} (h : ISl M v sz m xs) : RSl L M v sz m xs := by
  obtain ⟨ad, cap, h1, h2, h3, h4, h5⟩ := h
  exact ⟨ad, cap, h1, h2, h3, h4, h5.imp id fun ⟨g, o, k1, k2⟩ => ⟨g, o, k1, Kns.mem k2⟩⟩
theorem RowV.rsl {v : Value} {e sz m : Nat} {xs : List Value} (h : RowV v sz xs) (hm : xs.length = m * sz) (hz : 0 < sz) (i : Nat) (hL : L[i]? = some (.row v e sz xs)) : RSl L M v sz m xs := by
  obtain ⟨ad, k, cap, rfl, h2, h3, h4, h5⟩ := h
  obtain rfl : k = m := by rw [h2] at hm; exact Nat.eq_of_mul_eq_mul_right hz hm
  refine ⟨ad, cap, rfl, h2, h3, h4, ?_⟩
  rcases h5 with ⟨_, h, _⟩ | ⟨g, rfl⟩
  · exact .inl h
  · refine .inr ⟨g, 0, rfl, Kns.row i hL ?_⟩
    simp
theorem RSl.len {v : Value} {sz m : Nat} {xs : List Value} (h : RSl L M v sz m xs) : ∃ ad cap, v = .slice ad m cap ∧ m ≤ cap ∧ cap ≤ maxLen := by
  obtain ⟨ad, cap, h1, h2, h3, h4, h5⟩ := h
  exact ⟨ad, cap, h1, h3, h4⟩
theorem RSl.at_ {v : Value} {sz m : Nat} {xs : List Value} (h : RSl L M v sz m xs) (hm : 0 < m) : ∃ g o cap, v = .slice (some ⟨g, o, none⟩) m cap ∧ Kns L M g o xs ∧ xs.length = m * sz ∧ m ≤ cap ∧ cap ≤ maxLen := by
  obtain ⟨ad, cap, h1, h2, h3, h4, h5⟩ := h
  rcases h5 with h5 | ⟨g, o, rfl, h6⟩
  · omega
  · exact ⟨g, o, cap, h1, h6, h2, h3, h4⟩
theorem RSl.src {v : Value} {sz m : Nat} {xs : List Value} (h : RSl L M v sz m xs) : Src L M sz v m xs := by
  obtain ⟨ad, cap, rfl, h2, h3, h4, h5⟩ := h
  exact .inl ⟨ad, cap, rfl, h2, h5⟩
/-- What is known of some owned resources is known of more. -/
theorem Kn.app {b o : Nat} {v : Value} (h : Kn L M b o v) (G : List Res) : Kn (L ++ G) M b o v := by
  intro H F hs
  exact h H (G ++ F) (by rw [← List.append_assoc]; exact hs)
theorem Kns.app {b o : Nat} {vs : List Value} (h : Kns L M b o vs) (G : List Res) : Kns (L ++ G) M b o vs := fun j v hj => (h j v hj).app G
theorem Kn.cons {b o : Nat} {v : Value} (h : Kn L M b o v) (r : Res) : Kn (r :: L) M b o v := by
  intro H F hs
  exact h H F (Sep.drop hs)
theorem Kns.cons {b o : Nat} {vs : List Value} (h : Kns L M b o vs) (r : Res) : Kns (r :: L) M b o vs := fun j v hj => (h j v hj).cons r
end
end Go.Eng
set_option linter.unusedVariables false
namespace Go.Eng
section
variable {P : Program} {n : Nat} {ops : Array Oper} {rest : List Oper} {σ : Env} {L : List Res} {M : Mem} {Q : Post}
theorem SL.fixObj {l : List Oper} (i : Nat) {b : Nat} {o : Obj} (hi : L[i]? = some (.obj b o))
    (h : ∀ M', M.le M' → M' b o → SL P n ops l σ (L.eraseIdx i) M' Q) : SL P n ops l σ L M Q := by
  intro F w0 M0 a w ha hs hw hmm
  have k2 := Sep.fixObj (hs.perm (perm_at (getElem?_app (F := F) hi)))
  rw [eraseIdx_app hi] at k2
  exact h _ (Mem.le_ins _ _ _) (Mem.ins_self _ _ _) F w0 M0 a w ha k2 hw (Mem.le_trans hmm (Mem.le_ins _ _ _))
theorem SC.fixObj {c : Code} (i : Nat) {b : Nat} {o : Obj} (hi : L[i]? = some (.obj b o))
    (h : ∀ M', M.le M' → M' b o → SC P n c σ (L.eraseIdx i) M' Q) : SC P n c σ L M Q := by
  intro F w0 M0 a w ha hs hw hmm
  have k2 := Sep.fixObj (hs.perm (perm_at (getElem?_app (F := F) hi)))
  rw [eraseIdx_app hi] at k2
  exact h _ (Mem.le_ins _ _ _) (Mem.ins_self _ _ _) F w0 M0 a w ha k2 hw (Mem.le_trans hmm (Mem.le_ins _ _ _))
/-- A call of a known function value with bound receivers ahead of its arguments. -/
theorem SL.callf {f : FuncId} {t : Nat} {fst cap : Array Value} {xs : Array Operand} {ats : Array TypeId} {vs : List Value} {d type : Nat} {pos : String} {after : Array Edge} {g : Option (Nat × Bool)} {L1 G : List Res} {R : Value → List Res → Mem → Prop}
    (hg : g = none ∨ ∃ j b, g = some (j, b) ∧ wantE ops σ j b = some true)
    (hf : Fn.ok P f) (ht : σ.get t = some (.func (.func f) fst cap)) (hx : xs.toList.map (evalE σ) = vs.map some)
    (hL : L.Perm (L1 ++ G)) (hc : Ev P f (fst.toList ++ vs ++ cap.toList).toArray L1 M R) (hd : Nat.blt d n = true)
    (k : ∀ v L' M', M.le M' → R v L' M' → SL P n ops rest ((d, v) :: σ) (L' ++ G) M' Q) :
    SL P n ops ({ dst := some d, op := .call { callee := .value (.tmp t), args := xs, argTypes := ats }, type, pos, after, guard := g } :: rest) σ L M Q :=
  SL.callAt hg (fun n a w ha => by
    have := hf ((fst.toList ++ vs ++ cap.toList).toArray) w
    have he : a.eval (.tmp t) = .func (.func f) fst cap := ha.eval ht
    have e2 : fst ++ vs.toArray ++ cap = (fst.toList ++ vs ++ cap.toList).toArray := Array.toList_inj.1 (by simp)
    simp only [resolve, evals ha hx, he, Deferred.ofValue]
    simpa [invoke, e2] using this) hL hc hd k
end
end Go.Eng
set_option linter.unusedVariables false
set_option linter.unusedSimpArgs false
namespace Go.Eng
open PrintLast
section
variable {P : Program} {n : Nat} {ops : Array Oper} {rest : List Oper} {σ : Env} {L : List Res} {M : Mem} {Q : Post}

def drawAB (ops : Array Oper) (o1 a1 : List Nat) (ai : Nat) (an tl : List Nat) : Bool :=
  match takesB ops tl o1 (Array.replicate ops.size false) with
  | none => false
  | some l0 => match anysB ops a1 l0 with
  | none => false
  | some l1 => match runsB ops tl [ai] l1 with
    | none => false
    | some l2 => match anysB ops an l2 with
      | none => false
      | some l3 => match runsB ops [] tl l3 with
        | none => false
        | some l4 => decide (Region.ready .any ops l4 = []) && decide (o1.length + (a1.length + (1 + (an.length + tl.length))) = ops.size)

/-- A drawn region in which one variable is laid that only the last operations wait for. -/
theorem SC.drawAlloc (o1 a1 : List Nat) (ai : Nat) (an tl : List Nat) {id : Nat} {l : List Oper} {d e type : Nat} {pos : String} {after : Array Edge} {z : Value} (hm : P.follows .mixedOrders = true) (hB : drawAB l.toArray o1 a1 ai an tl = true)
    (hop : l[ai]? = some { dst := some d, op := .alloc e, type, pos, after, guard := none }) (hz : (P.info? e).bind (·.zero) = some z) (hd : Nat.blt d n = true)
    (h : SV P n l.toArray (pickL l o1) σ L M fun σ0 => SA P n l.toArray (pickL l a1) σ0 fun σ1 => ∀ b, SA P n l.toArray (pickL l an) ((d, .pointer (some ⟨b, 0, none⟩)) :: σ1) fun σ3 => SL P n l.toArray (pickL l tl) σ3 (.blk b e z.cells.toList :: L) M fun e σ4 L4 M4 => e = .normal ∧ Q e σ4 L4 M4) :
    SC P n (.region id l.toArray true) σ L M Q := by
  intro F w0 M0 a w ha hs hw hmm
  unfold drawAB at hB
  split at hB
  · cases hB
  · rename_i l0 e0
    split at hB
    · cases hB
    rename_i l1 e1
    split at hB
    · cases hB
    · rename_i l2 e2
      split at hB
      · cases hB
      · rename_i l3 e3
        split at hB
        · cases hB
        · rename_i l4 e4
          simp only [Bool.and_eq_true, decide_eq_true_eq] at hB
          obtain ⟨hend, hlen⟩ := hB
          refine wp_mono (Q := fun e a w => e = .normal ∧ lf n w0 F M0 Q e a w) (wp_region_last (S := QC w0 F L M) (ds := tl) hm ?_) (fun _ _ _ h => h.2)
          have hS : QC w0 F L M { w with drawn := w.drawn + 1 } := ⟨⟨hw.os, hw.tape, hw.output⟩, hs⟩
          have hQ : ∀ (c : _) d v a w, (fun e a w => e = Exit.normal ∧ lf n w0 F M0 Q e a w) (.panic c) (Act.put a d v) w → (fun e a w => e = Exit.normal ∧ lf n w0 F M0 Q e a w) (.panic c) a w := fun c d v a w h => by cases h.1
          have hgo : wpAnyLast P .any l.toArray (fun e a w => e = Exit.normal ∧ lf n w0 F M0 Q e a w) (QC w0 F L M) tl (o1.length + (a1.length + (1 + (an.length + tl.length)))) (Array.replicate l.toArray.size false) a { w with drawn := w.drawn + 1 } := ?_
          · rw [hlen] at hgo; exact hgo
          refine takes_ok hQ _ o1 _ a _ e0 hS (by simpa using h F w0 a ha) ?_
          rintro a0 ⟨σ0, ha0, h0'⟩
          refine anys_ok hQ _ a1 _ a0 _ e1 (by simpa using h0' a0 ha0) ?_
          rintro a1 ⟨σ1, ha1, h1⟩
          simp only [runsB] at e2
          split at e2
          · rename_i hc
            simp only [Bool.and_eq_true, decide_eq_true_eq, Bool.not_eq_true'] at hc
            obtain ⟨⟨h0, hr⟩, hnb⟩ := hc
            simp only [Option.some.injEq] at e2
            subst e2
            rw [Nat.add_comm 1]
            refine wpAnyLast_all hr (by simp) ?_
            intro j hj
            obtain rfl : j = ai := by simpa using hj
            have hopA : l.toArray[j]? = some { dst := some d, op := .alloc e, type, pos, after, guard := none } := by simpa using hop
            obtain ⟨v, w', L', M', r1, r2, r3, r4, b, rfl, rfl, rfl⟩ := OpH.alloc (L := L) (M := M) (σ := σ1) hz n F a1 { w with drawn := w.drawn + 1 } (some d) type pos after none ha1 hS.2
            unfold wpOp
            simp only [hopA]
            rw [if_pos (by rfl)]
            refine .inl ?_
            simp only [Oper.wp, r1, Oper.upon]
            have hS2 : QC w0 F L M w' := ⟨hS.1.trans r2, Sep.drop r3⟩
            refine ⟨fun _ _ => hS2, ?_⟩
            refine anys_ok hQ _ an _ _ w' e3 (by simpa using h1 b _ (ha1.put hd _)) ?_
            rintro a3 ⟨σ3, ha3, h3⟩
            refine tail_ok hend tl _ a3 w' e4 (fun i hi => hi) ?_
            have := h3 F w0 M0 a3 w' ha3 r3 hS2.1 hmm
            refine wpList_mono ?_ _ _ _ (by simpa using this)
            rintro e a' w' ⟨σ', L', M', k1, k2, k3, k4, k5, k6⟩
            exact ⟨k5, σ', L', M', k1, k2, k3, k4, k6⟩
          · cases e2
end
end Go.Eng
set_option linter.unusedVariables false
set_option linter.unusedSimpArgs false
namespace Go.Eng
section
variable {P : Program} {n : Nat} {σ : Env} {L : List Res} {M : Mem}
/-- A field of one cell of a struct's value. -/
theorem OpV.field1 {t : TypeId} {x : Operand} {fi : Nat} {fs : Array Field} {f : Field} {d : TypeDesc} {cs : Array Value} {v : Value} (ht : P.underlying t = some (.struct fs)) (hf : fs[fi]? = some f) (hu : P.underlying f.type = some d) (hd : d.isRow = false)
    (hx : evalE σ x = some (.agg cs)) (hv : cs[f.offset]? = some v) : OpV P (.field t x fi) σ L M v := by
  intro n F ac w dst type pos after guard ha hs
  have hagg : (isAgg f.type).run P w = .ok false w := by
    unfold isAgg underlying
    cases d <;> simp_all
  simp [execOp, ha.eval hx, Instr.field, underlying, ht, hf, asAgg, part, hagg, hv]
/-- A field that is itself a struct. -/
theorem OpV.fields {t : TypeId} {x : Operand} {fi sz : Nat} {fs : Array Field} {f : Field} {d : TypeDesc} {cs : Array Value} (ht : P.underlying t = some (.struct fs)) (hf : fs[fi]? = some f) (hu : P.underlying f.type = some d) (hd : d.isRow = true)
    (hsz : (P.info? f.type).map (·.size) = some sz) (hx : evalE σ x = some (.agg cs)) : OpV P (.field t x fi) σ L M (.agg (cs.extract f.offset (f.offset + sz))) := by
  intro n F ac w dst type pos after guard ha hs
  have hagg : (isAgg f.type).run P w = .ok true w := by
    unfold isAgg underlying
    cases d <;> simp_all
  cases hq : P.info? f.type with
  | none => simp [hq] at hsz
  | some ie =>
    have hse : ie.size = sz := by simpa [hq] using hsz
    simp [execOp, ha.eval hx, Instr.field, underlying, ht, hf, asAgg, part, hagg, sizeOf, typeInfo, hq, hse]
end
end Go.Eng
set_option linter.unusedVariables false
set_option linter.unusedSimpArgs false
namespace Go.Eng
section
variable {P : Program} {n : Nat} {σ : Env} {L : List Res} {M : Mem}
/-- Shifts. -/
theorem OpV.bshr {t ty : TypeId} {x y : Operand} {k k' : IntKind} {a b : Int} (hx : evalE σ x = some (.int k a)) (hy : evalE σ y = some (.int k' b)) (h0 : 0 ≤ b) (h1 : b ≤ k.bits) : OpV P (.binOp .shr t x y ty) σ L M (.int k (a / 2 ^ b.toNat)) := by
  intro n F ac w dst type pos after guard ha hs
  simp [execOp, ha.eval hx, ha.eval hy, binOp, eqGuard, shift_shr k k' a b h0 h1]
theorem OpV.bshl {t ty : TypeId} {x y : Operand} {k k' : IntKind} {a b : Int} (hx : evalE σ x = some (.int k a)) (hy : evalE σ y = some (.int k' b)) (h0 : 0 ≤ b) (h1 : b ≤ k.bits) : OpV P (.binOp .shl t x y ty) σ L M (.int k (k.wrap (a * 2 ^ b.toNat))) := by
  intro n F ac w dst type pos after guard ha hs
  simp [execOp, ha.eval hx, ha.eval hy, binOp, eqGuard, shift_shl k k' a b h0 h1]
/-- '>> 1' of what is not negative. -/
theorem OpV.half {t ty : TypeId} {x : Operand} {a : Int} (hx : evalE σ x = some (.int .u64 a)) : OpV P (.binOp .shr t x (.const (.int .u64 1)) ty) σ L M (.int .u64 (a / 2)) :=
  by simpa using OpV.bshr (P := P) (L := L) (M := M) (t := t) (ty := ty) (y := .const (.int .u64 1)) (k' := .u64) (b := 1) hx rfl (by decide) (by decide)
/-- A part of one cell of an array's value. -/
theorem OpV.aidx {t e : TypeId} {len : Nat} {x i : Operand} {cs : Array Value} {k : IntKind} {j : Int} {v : Value} {d : TypeDesc} (ht : P.underlying t = some (.array len e)) (he : P.underlying e = some d) (hd : d.isRow = false) (hz : (P.info? e).map (·.size) = some 1)
    (hx : evalE σ x = some (.agg cs)) (hi : evalE σ i = some (.int k j)) (h0 : 0 ≤ j) (h1 : j < len) (hv : cs[j.toNat]? = some v) : OpV P (.index t x i) σ L M v := by
  intro n F ac w dst type pos after guard ha hs
  have hagg : (isAgg e).run P w = .ok false w := by
    unfold isAgg underlying
    cases d <;> simp_all
  cases hq : P.info? e with
  | none => simp [hq] at hz
  | some ie =>
    have hse : ie.size = 1 := by simpa [hq] using hz
    simp [execOp, ha.eval hx, ha.eval hi, Instr.index, asIntOf, underlying, ht, h0, h1, sizeOf, typeInfo, hq, hse, part, hagg, hv]
end
end Go.Eng
set_option linter.unusedVariables false
set_option linter.unusedSimpArgs false
namespace Go.Eng
section
variable {P : Program} {n : Nat} {ops : Array Oper} {rest : List Oper} {σ : Env} {L : List Res} {M : Mem} {Q : Post}
/-- Cells of a row of one's own are written. -/
theorem Sep.rowStore {w : World} {F : List Res} {g o m c : Nat} {e : TypeId} {sz : Nat} {xs vs : List Value} (i : Nat) (hs : Sep w.heap (L ++ F) M) (hL : L[i]? = some (.row (.slice (some ⟨g, 0, none⟩) m c) e sz xs)) (ho : o + vs.length ≤ xs.length) (h1 : ∀ v ∈ vs, v.oneCell' = true) :
    ∃ w', (storeCells ⟨g, o, none⟩ vs 0).run P w = .ok () w' ∧ St w w' ∧ Sep w'.heap (L.set i (.row (.slice (some ⟨g, 0, none⟩) m c) e sz (splice xs o vs)) ++ F) M := by
  have hs' := hs.perm (perm_at (getElem?_app (F := F) hL))
  obtain ⟨fp, ⟨f1, f2, rfl, ⟨k, hk, hrow⟩, _⟩, _⟩ := id hs'.own
  rcases hrow with ⟨h0, _⟩ | ⟨g', cap, cur, fr, h0, rfl, hf, hb, h3, h4, h5, h6⟩
  · cases h0
  · simp at h0
    obtain ⟨rfl, rfl, rfl⟩ := h0
    have hle : m * sz ≤ c * sz := Nat.mul_le_mul_right _ h3
    have hxl : xs.length ≤ cur.size := by omega
    obtain ⟨w', r, s, z, cc, kk⟩ := run_storeCells' (P := P) (o := o) vs 0 cur w hb hf (by omega) h1
    refine ⟨w', r, s, ?_⟩
    have hw := hs'.write (r' := .row (.slice (some ⟨g, 0, none⟩) m c) e sz (splice xs o vs)) (b := g) (fun fp h => ?_) z ?_ kk
    · have := hw.perm ((perm_set (.row (.slice (some ⟨g, 0, none⟩) m c) e sz (splice xs o vs)) (getElem?_app (F := F) hL)))
      rwa [set_app hL] at this
    · obtain ⟨_, _, ⟨h, _⟩ | ⟨_, _, _, _, h, h', _⟩⟩ := h
      · cases h
      · simp at h; rw [h', h.1]
    · have hsl : (splice xs o vs).length = xs.length := by simp [splice]; omega
      refine ⟨m, by rw [hsl]; exact hk, .inr ⟨g, c, _, fr, rfl, rfl, ?_, cc, h3, h4, ?_, ?_⟩⟩
      · intro i hi
        refine hf i ?_
        simp at hi
        omega
      · simp; omega
      · simp only [splice]
        rw [← h6]
        simp only [Nat.add_zero]
        have e1 : o ≤ m * sz := by omega
        have e2 : (List.take (m * sz) cur.toList).take o = cur.toList.take o := by rw [List.take_take]; congr 1; omega
        have e3 : (List.take (m * sz) cur.toList).drop (o + vs.length) = (cur.toList.drop (o + vs.length)).take (m * sz - (o + vs.length)) := by rw [List.drop_take]
        rw [e2, e3]
        rw [List.take_append, List.take_append]
        have e4 : (cur.toList.take o).length = o := by simp; omega
        rw [List.take_of_length_le (l := cur.toList.take o) (by rw [e4]; exact e1)]
        simp only [e4, List.length_append]
        rw [List.take_of_length_le (l := vs) (by omega)]
/-- An operation that yields what nobody keeps. -/
def OpN (P : Program) (op : Op) (σ : Env) (L : List Res) (M : Mem) (L' : List Res) : Prop :=
  ∀ n F a w (dst : Option Tmp) type pos after guard, Ag n σ a → Sep w.heap (L ++ F) M →
    ∃ v w', (execOp a.eval { dst, op, type, pos, after, guard }).run P w = .ok (.value v) w' ∧ St w w' ∧ Sep w'.heap (L' ++ F) M
theorem SL.gone {op : Op} {type : Nat} {pos : String} {after : Array Edge} {L' : List Res} (h : OpN P op σ L M L') (k : SL P n ops rest σ L' M Q) :
    SL P n ops ({ dst := none, op, type, pos, after, guard := none } :: rest) σ L M Q := by
  intro F w0 M0 a w ha hs hw hm
  refine wpList_plain rfl fun K hK => ?_
  obtain ⟨v, w', h1, h2, h3⟩ := h n F a w none type pos after none ha hs
  simp only [Oper.wp, h1, Oper.upon]
  exact hK _ _ (k F w0 M0 _ w' ha h3 (hw.trans h2) hm)
/-- 'clear' of a row's end. -/
theorem OpN.clear (i : Nat) {t e : TypeId} {x : Operand} {g o m c q r : Nat} {sz : Nat} {z : Value} {xs : List Value} (hL : L[i]? = some (.row (.slice (some ⟨g, 0, none⟩) m c) e sz xs)) (ht : P.underlying t = some (.slice e)) (hz : (P.info? e).bind (·.zero) = some z)
    (hzs : z.cells.size = sz) (hx : evalE σ x = some (.slice (some ⟨g, o, none⟩) (q + 1) r)) (h1 : z.cells.all (·.oneCell') = true) (ho : o + (q + 1) * sz ≤ xs.length) :
    OpN P (.call { callee := .builtin .clear, args := #[x], argTypes := #[t] }) σ L M (L.set i (.row (.slice (some ⟨g, 0, none⟩) m c) e sz (splice xs o (Builtin.zeroCells z.cells (q + 1)).toList))) := by
  intro n F a w dst type pos after guard ha hs
  have hlen : (Builtin.zeroCells z.cells (q + 1)).toList.length = (q + 1) * sz := by rw [Array.length_toList, size_zeroCells, hzs]
  have hones : ∀ v ∈ (Builtin.zeroCells z.cells (q + 1)).toList, v.oneCell' = true := by
    intro v hv
    have hv' : v ∈ Builtin.zeroCells z.cells (q + 1) := by simpa using hv
    unfold Builtin.zeroCells at hv'
    have := Array.all_eq_true_iff_forall_mem.1 h1
    obtain ⟨k, hk, rfl⟩ := Array.mem_map.1 hv'
    have hk' : k < (q + 1) * z.cells.size := by simpa using hk
    have hp : 0 < z.cells.size := by
      rcases Nat.eq_zero_or_pos z.cells.size with h | h
      · rw [h] at hk'; omega
      · exact h
    have hlt := Nat.mod_lt k hp
    rw [getElem!_pos z.cells _ hlt]
    exact this _ (Array.getElem_mem hlt)
  obtain ⟨w', r1, r2, r3⟩ := Sep.rowStore (P := P) i hs hL (by rw [hlen]; exact ho) hones
  refine ⟨.tuple #[], w', ?_, r2, r3⟩
  cases hq : P.info? e with
  | none => simp [hq] at hz
  | some ie =>
    have hz' : ie.zero = some z := by simpa [hq] using hz
    simp [execOp, resolve, invoke, ha.eval hx, builtin, Builtin.clear_, underlying, ht, zeroValue, typeInfo, hq, hz', r1]
/-- A row is cut. -/
theorem SL.cutRow {l : List Oper} (i k : Nat) {g m c : Nat} {e : TypeId} {sz : Nat} {xs : List Value} (hL : L[i]? = some (.row (.slice (some ⟨g, 0, none⟩) m c) e sz xs)) (hk : k ≤ m) (h : SL P n ops l σ (L.set i (.row (.slice (some ⟨g, 0, none⟩) k c) e sz (xs.take (k * sz)))) M Q) : SL P n ops l σ L M Q := by
  intro F w0 M0 a w ha hs hw hmm
  refine h F w0 M0 a w ha ?_ hw hmm
  have hs' := hs.perm (perm_at (getElem?_app (F := F) hL))
  obtain ⟨fp, ⟨f1, f2, rfl, ⟨j, hj, hrow⟩, h2⟩, hn, hl, hd⟩ := hs'.own
  rcases hrow with ⟨h0, _⟩ | ⟨g', cap, cur, fr, h0, rfl, hf, hb, h3, h4, h5, h6⟩
  · cases h0
  · simp at h0
    obtain ⟨rfl, rfl, rfl⟩ := h0
    have hkm : k * sz ≤ m * sz := Nat.mul_le_mul_right _ hk
    have hnew : Sep w.heap (.row (.slice (some ⟨g, 0, none⟩) k c) e sz (xs.take (k * sz)) :: (L ++ F).eraseIdx i) M :=
      ⟨⟨[g] ++ f2, ⟨[g], f2, rfl, ⟨k, by rw [List.length_take]; omega, .inr ⟨g, c, cur, fr, rfl, rfl, hf, hb, by omega, h4, h5, by rw [← h6, List.take_take]; congr 1; omega⟩⟩, h2⟩, hn, hl, hd⟩, hs'.mem⟩
    have := hnew.perm ((perm_set (.row (.slice (some ⟨g, 0, none⟩) k c) e sz (xs.take (k * sz))) (getElem?_app (F := F) hL)))
    rwa [set_app hL] at this
end
theorem Kn.mono {L : List Res} {M M' : Mem} {b o : Nat} {v : Value} (h : Kn L M b o v) (hm : M.le M') : Kn L M' b o v := fun H F hs => h H F (hs.less hm)
theorem Kns.mono {L : List Res} {M M' : Mem} {b o : Nat} {vs : List Value} (h : Kns L M b o vs) (hm : M.le M') : Kns L M' b o vs := fun j v hj => (h j v hj).mono hm
theorem RSl.mono {L : List Res} {M M' : Mem} {v : Value} {sz m : Nat} {xs : List Value} (h : RSl L M v sz m xs) (hm : M.le M') : RSl L M' v sz m xs := by
  obtain ⟨ad, cap, h1, h2, h3, h4, h5⟩ := h
  exact ⟨ad, cap, h1, h2, h3, h4, h5.imp id fun ⟨g, o, k1, k2⟩ => ⟨g, o, k1, k2.mono hm⟩⟩
end Go.Eng
