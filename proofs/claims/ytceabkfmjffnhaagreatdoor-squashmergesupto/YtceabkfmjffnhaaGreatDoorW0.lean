/- SquashMerges answers true for every input of bulk at most 1048576, and its input reads as it did; the listed variables start as the program's text lays them (walks and laws) -/
import Derived.Test.YtceabkfmjffnhaaGreatDoorF
import Derived.Test.YtceabkfmjffnhaaGreatDoorP
import Derived.Test.YtceabkfmjffnhaaGreatDoorS
set_option linter.unusedVariables false
set_option linter.unusedSimpArgs false
namespace Go.Proofs.YtceabkfmjffnhaaGreatDoor
open Go Go.Eng


theorem u8_eq (c d : UInt8) : ((c.toNat : Int) = (d.toNat : Int)) ↔ c = d := by
  constructor
  · intro h; exact UInt8.toNat_inj.1 (by omega)
  · rintro rfl; rfl
theorem u8_47 (c : UInt8) : ((c.toNat : Int) = 47) ↔ c = 47 := u8_eq c 47
theorem u8_0 (c : UInt8) : ((c.toNat : Int) = 0) ↔ c = 0 := u8_eq c 0
theorem u8n_0 (c : UInt8) : (c.toNat = 0) ↔ c = 0 := by
  rw [← u8_0]; omega
theorem dec_eq {p q : Prop} [Decidable p] [Decidable q] (h : p ↔ q) : decide p = decide q := by
  by_cases hp : p <;> simp [hp, ← h]

theorem begins_ev (s w : Bytes) (M : Mem) : Ev Tryz.prog 58 [str s, str w].toArray [] M (Pu M (.bool (begins s w))) := by
  refine Ev.enter Tryz.func58 rfl Tryz.ntmps58 rfl ?_
  refine SC.seq ?_
  refine SC.region ?_
  refine SL.val (OpV.assign rfl) rfl ?_
  refine SL.nil ?_
  refine seqQ.nm ?_
  refine SC.seq ?_
  refine SC.region ?_
  refine SL.val (OpV.move rfl) rfl ?_
  refine SL.val (OpV.slen Tryz.underlying9 rfl) rfl ?_
  refine SL.val (OpV.move rfl) rfl ?_
  refine SL.val (OpV.slen Tryz.underlying9 rfl) rfl ?_
  refine SL.val (OpV.geq rfl rfl) rfl ?_
  refine SL.val (OpV.move rfl) rfl ?_
  refine SL.andcut 7 (c := 10) (d := 17) rfl (fun h10 => ?_) ?_
  · skip
    refine SL.skip rfl rfl ?_
    refine SL.skip rfl rfl ?_
    refine SL.skip rfl rfl ?_
    refine SL.skip rfl rfl ?_
    refine SL.skip rfl rfl ?_
    refine SL.skip rfl rfl ?_
    refine SL.val (OpV.pickF rfl rfl) rfl ?_
    exact SL.nil ⟨rfl, rfl, (by repeat first | exact Env.le_refl _ | refine Env.le_new rfl ?_), [], List.Perm.refl _⟩
  apply Exists.intro
  refine And.intro (fun h10 => ?_) ?_
  · skip
    have hle : w.length ≤ s.length := by simpa using h10
    refine SL.gval rfl (OpV.move rfl) rfl ?_
    refine SL.gval rfl (OpV.move rfl) rfl ?_
    refine SL.gval rfl (OpV.slen Tryz.underlying9 rfl) rfl ?_
    refine SL.gval rfl (OpV.ssliceH Tryz.underlying9 rfl rfl (by omega) (by omega)) rfl ?_
    refine SL.gval rfl (OpV.move rfl) rfl ?_
    refine SL.gval rfl (OpV.seql rfl rfl) rfl ?_
    refine SL.val (OpV.pickT rfl rfl) rfl ?_
    exact SL.nil ⟨rfl, rfl, (by repeat first | exact Env.le_refl _ | refine Env.le_new rfl ?_), [], List.Perm.refl _⟩
  refine SL.val (OpV.assign rfl) rfl ?_
  refine SL.nil ?_
  refine seqQ.nm ?_
  refine SC.ret ?_
  refine retQ.one rfl (.tmp rfl) ?_ _ (.inr rfl)
  exact ⟨by simp [begins], rfl, rfl⟩

theorem name_bad (s : Bytes) (k : Nat) (hk : k < s.length) (h : s.getD k 0 = 0 ∨ s.getD k 0 = 47) : name s = false := by
  have : s.all (fun c => decide (c ≠ 0) && decide (c ≠ 47)) = false := by
    rw [List.all_eq_false]
    refine ⟨s.getD k 0, ?_, ?_⟩
    · rw [List.getD_eq_getElem?_getD, List.getElem?_eq_getElem hk]; exact List.getElem_mem hk
    · rcases h with h | h <;> rw [h] <;> decide
  simp only [name, this, Bool.false_and]
theorem name_ev (s : Bytes) (M : Mem) (hs : s.length ≤ 1099511627776) : Ev Tryz.prog 72 [str s].toArray [] M (Pu M (.bool (name s))) := by
  refine Ev.enter Tryz.func72 rfl Tryz.ntmps72 rfl ?_
  refine SC.seq ?_
  refine SC.region ?_
  refine SL.val (OpV.assign rfl) rfl ?_
  refine SL.nil ?_
  refine seqQ.nm ?_
  refine SC.seq ?_
  refine SC.seq ?_
  refine SC.region ?_
  refine SL.val (OpV.assign rfl) rfl ?_
  refine SL.nil ?_
  refine seqQ.nm ?_
  refine SC.block ?_
  refine SC.loop (ι := Nat) (fun k M' => k ≤ s.length ∧ (s.take k).all (fun c => decide (c ≠ 0) && decide (c ≠ 47)) = true ∧ M = M') (fun k => [(0, str s), (3, .int .i64 k)]) (fun _ => []) (fun k => s.length - k) 0 (G := []) ⟨rfl, rfl, trivial⟩ (List.Perm.refl _) ⟨Nat.zero_le _, rfl, rfl⟩ ?_
  rintro k _ _ ⟨hk, hall, rfl⟩
  refine SC.seq ?_
  refine SC.seq ?_
  refine SC.region ?_
  refine SL.val (OpV.move rfl) rfl ?_
  refine SL.val (OpV.move rfl) rfl ?_
  refine SL.val (OpV.slen Tryz.underlying9 rfl) rfl ?_
  refine SL.val (OpV.lss rfl rfl) rfl ?_
  refine SL.nil ?_
  refine seqQ.nm ?_
  first | refine SC.ifp rfl (fun h7 => ?_) (fun h7 => ?_) | refine SC.ite rfl (fun h7 => ?_) (fun h7 => ?_)
  · skip
    have hlt : k < s.length := by omega
    refine SC.skip ?_
    refine seqQ.nm ?_
    refine SC.seq ?_
    refine SC.block ?_
    refine SC.seq ?_
    refine SC.region ?_
    refine SL.val (OpV.move rfl) rfl ?_
    refine SL.val (OpV.move rfl) rfl ?_
    refine SL.val (OpV.sindexG Tryz.underlying9 rfl rfl (by omega) (by omega)) rfl ?_
    refine SL.val (OpV.eql rfl rfl) rfl ?_
    refine SL.val (OpV.move rfl) rfl ?_
    refine SL.orcut 5 (c := 14) (d := 19) rfl (fun h14 => ?_) ?_
    · skip
      refine SL.skip rfl rfl ?_
      refine SL.skip rfl rfl ?_
      refine SL.skip rfl rfl ?_
      refine SL.skip rfl rfl ?_
      refine SL.val (OpV.pickT rfl rfl) rfl ?_
      exact SL.nil ⟨rfl, rfl, (by repeat first | exact Env.le_refl _ | refine Env.le_new rfl ?_), [], List.Perm.refl _⟩
    apply Exists.intro
    refine And.intro (fun h14 => ?_) ?_
    · skip
      refine SL.gval rfl (OpV.move rfl) rfl ?_
      refine SL.gval rfl (OpV.move rfl) rfl ?_
      refine SL.gval rfl (OpV.sindexG Tryz.underlying9 rfl rfl (by omega) (by omega)) rfl ?_
      refine SL.gval rfl (OpV.eql rfl rfl) rfl ?_
      refine SL.val (OpV.pickF rfl rfl) rfl ?_
      exact SL.nil ⟨rfl, rfl, (by repeat first | exact Env.le_refl _ | refine Env.le_new rfl ?_), [], List.Perm.refl _⟩
    refine SL.nil ?_
    refine seqQ.nm ?_
    first | refine SC.ifp rfl (fun h19 => ?_) (fun h19 => ?_) | refine SC.ite rfl (fun h19 => ?_) (fun h19 => ?_)
    · skip
      have hbad := name_bad s k hlt (by simpa [u8_0, u8n_0, u8_47] using h19)
      refine SC.seq ?_
      refine SC.region ?_
      refine SL.val (OpV.assign rfl) rfl ?_
      refine SL.nil ?_
      refine seqQ.nm ?_
      refine SC.ret ?_
      refine blockQ.r ?_
      refine seqQ.r ?_
      refine loopQ.r ?_
      refine blockQ.r ?_
      refine seqQ.r ?_
      refine retQ.one rfl (.tmp rfl) ?_ _ (.inr rfl)
      exact ⟨by rw [hbad], rfl, rfl⟩
    · skip
      have hok : (s.take (k + 1)).all (fun c => decide (c ≠ 0) && decide (c ≠ 47)) = true := by
        rw [all_take_succ _ s k _ (getD_some hlt), hall]
        simpa [u8_0, u8n_0, u8_47] using h19
      refine SC.skip ?_
      refine blockQ.nm ?_
      refine seqQ.nm ?_
      refine SC.region ?_
      refine SL.val (OpV.move rfl) rfl ?_
      refine SL.val (OpV.add rfl rfl (IntWalk.i64_in _ (by omega))) rfl ?_
      refine SL.val (OpV.assign rfl) rfl ?_
      refine SL.nil ?_
      exact loopQ.nm (k + 1) (by omega) ⟨rfl, rfl, trivial⟩ (List.Perm.refl _) ⟨by omega, hok, rfl⟩
  · skip
    have hke : k = s.length := by omega
    have hall' : s.all (fun c => decide (c ≠ 0) && decide (c ≠ 47)) = true := by rw [hke, List.take_length] at hall; exact hall
    refine SC.exit ?_
    refine seqQ.e ?_
    refine loopQ.e ?_
    refine blockQ.e ?_
    refine seqQ.nm ?_
    refine SC.seq ?_
    refine SC.region ?_
    refine SL.val (OpV.move rfl) rfl ?_
    refine SL.val (OpV.slen Tryz.underlying9 rfl) rfl ?_
    refine SL.val (OpV.geq rfl rfl) rfl ?_
    refine SL.val (OpV.move rfl) rfl ?_
    refine SL.andcut 4 (c := 23) (d := 27) rfl (fun h23 => ?_) ?_
    · skip
      refine SL.skip rfl rfl ?_
      refine SL.skip rfl rfl ?_
      refine SL.skip rfl rfl ?_
      refine SL.val (OpV.pickF rfl rfl) rfl ?_
      exact SL.nil ⟨rfl, rfl, (by repeat first | exact Env.le_refl _ | refine Env.le_new rfl ?_), [], List.Perm.refl _⟩
    apply Exists.intro
    refine And.intro (fun h23 => ?_) ?_
    · skip
      refine SL.gval rfl (OpV.move rfl) rfl ?_
      refine SL.gval rfl (OpV.slen Tryz.underlying9 rfl) rfl ?_
      refine SL.gval rfl (OpV.leq rfl rfl) rfl ?_
      refine SL.val (OpV.pickT rfl rfl) rfl ?_
      exact SL.nil ⟨rfl, rfl, (by repeat first | exact Env.le_refl _ | refine Env.le_new rfl ?_), [], List.Perm.refl _⟩
    refine SL.val (OpV.move rfl) rfl ?_
    refine SL.andcut 3 (c := 28) (d := 31) rfl (fun h28 => ?_) ?_
    · skip
      refine SL.skip rfl rfl ?_
      refine SL.skip rfl rfl ?_
      refine SL.val (OpV.pickF rfl rfl) rfl ?_
      exact SL.nil ⟨rfl, rfl, (by repeat first | exact Env.le_refl _ | refine Env.le_new rfl ?_), [], List.Perm.refl _⟩
    apply Exists.intro
    refine And.intro (fun h28 => ?_) ?_
    · skip
      refine SL.gval rfl (OpV.move rfl) rfl ?_
      refine SL.gval rfl (OpV.sneq rfl rfl) rfl ?_
      refine SL.val (OpV.pickT rfl rfl) rfl ?_
      exact SL.nil ⟨rfl, rfl, (by repeat first | exact Env.le_refl _ | refine Env.le_new rfl ?_), [], List.Perm.refl _⟩
    refine SL.val (OpV.move rfl) rfl ?_
    refine SL.andcut 3 (c := 32) (d := 35) rfl (fun h32 => ?_) ?_
    · skip
      refine SL.skip rfl rfl ?_
      refine SL.skip rfl rfl ?_
      refine SL.val (OpV.pickF rfl rfl) rfl ?_
      exact SL.nil ⟨rfl, rfl, (by repeat first | exact Env.le_refl _ | refine Env.le_new rfl ?_), [], List.Perm.refl _⟩
    apply Exists.intro
    refine And.intro (fun h32 => ?_) ?_
    · skip
      refine SL.gval rfl (OpV.move rfl) rfl ?_
      refine SL.gval rfl (OpV.sneq rfl rfl) rfl ?_
      refine SL.val (OpV.pickT rfl rfl) rfl ?_
      exact SL.nil ⟨rfl, rfl, (by repeat first | exact Env.le_refl _ | refine Env.le_new rfl ?_), [], List.Perm.refl _⟩
    refine SL.val (OpV.assign rfl) rfl ?_
    refine SL.nil ?_
    refine seqQ.nm ?_
    refine SC.ret ?_
    refine retQ.one rfl (.tmp rfl) ?_ _ (.inr rfl)
    refine ⟨?_, rfl, rfl⟩
    have e1 : decide ((1 : Int) ≤ (s.length : Int)) = decide (1 ≤ s.length) := dec_eq (by omega)
    have e2 : decide ((s.length : Int) ≤ 255) = decide (s.length ≤ 255) := dec_eq (by omega)
    simp only [name, hall', Bool.true_and, e1, e2]

theorem mayName_ev (s : Bytes) (M : Mem) (hs : s.length ≤ 1099511627776) : Ev Tryz.prog 56 [str s].toArray [] M (Pu M (.bool (mayName s))) := by
  refine Ev.enter Tryz.func56 rfl Tryz.ntmps56 rfl ?_
  refine SC.seq ?_
  refine SC.region ?_
  refine SL.val (OpV.assign rfl) rfl ?_
  refine SL.nil ?_
  refine seqQ.nm ?_
  refine SC.seq ?_
  refine SC.region ?_
  refine SL.val (OpV.move rfl) rfl ?_
  refine SL.call ok72 rfl (L1 := []) (List.Perm.refl _) (name_ev s _ hs) rfl ?_
  rintro _ _ _ hM4 ⟨rfl, rfl, rfl⟩
  refine SL.val (OpV.move rfl) rfl ?_
  refine SL.andcut 4 (c := 5) (d := 9) rfl (fun h5 => ?_) ?_
  · skip
    refine SL.skip rfl rfl ?_
    refine SL.skip rfl rfl ?_
    refine SL.skip rfl rfl ?_
    refine SL.val (OpV.pickF rfl rfl) rfl ?_
    exact SL.nil ⟨rfl, rfl, (by repeat first | exact Env.le_refl _ | refine Env.le_new rfl ?_), [], List.Perm.refl _⟩
  apply Exists.intro
  refine And.intro (fun h5 => ?_) ?_
  · skip
    refine SL.gval rfl (OpV.move rfl) rfl ?_
    refine SL.gval rfl (OpV.slen Tryz.underlying9 rfl) rfl ?_
    refine SL.gval rfl (OpV.leq rfl rfl) rfl ?_
    refine SL.val (OpV.pickT rfl rfl) rfl ?_
    exact SL.nil ⟨rfl, rfl, (by repeat first | exact Env.le_refl _ | refine Env.le_new rfl ?_), [], List.Perm.refl _⟩
  refine SL.val (OpV.move rfl) rfl ?_
  refine SL.andcut 4 (c := 10) (d := 14) rfl (fun h10 => ?_) ?_
  · skip
    refine SL.skip rfl rfl ?_
    refine SL.skip rfl rfl ?_
    refine SL.skip rfl rfl ?_
    refine SL.val (OpV.pickF rfl rfl) rfl ?_
    exact SL.nil ⟨rfl, rfl, (by repeat first | exact Env.le_refl _ | refine Env.le_new rfl ?_), [], List.Perm.refl _⟩
  apply Exists.intro
  refine And.intro (fun h10 => ?_) ?_
  · skip
    refine SL.gval rfl (OpV.move rfl) rfl ?_
    refine SL.gcall rfl ok58 rfl (L1 := []) (List.Perm.refl _) (begins_ev s white _) rfl ?_
    rintro _ _ _ hM12 ⟨rfl, rfl, rfl⟩
    refine SL.gval rfl (OpV.not rfl) rfl ?_
    refine SL.val (OpV.pickT rfl rfl) rfl ?_
    exact SL.nil ⟨rfl, rfl, (by repeat first | exact Env.le_refl _ | refine Env.le_new rfl ?_), [], List.Perm.refl _⟩
  refine SL.val (OpV.assign rfl) rfl ?_
  refine SL.nil ?_
  refine seqQ.nm ?_
  refine SC.ret ?_
  refine retQ.one rfl (.tmp rfl) ?_ _ (.inr rfl)
  refine ⟨?_, rfl, rfl⟩
  have e2 : decide ((s.length : Int) ≤ 251) = decide (s.length ≤ 251) := dec_eq (by omega)
  simp only [mayName, e2]

theorem cut_ev (s : Bytes) (M : Mem) (hs : s.length ≤ 1099511627776) : Ev Tryz.prog 61 [str s].toArray [] M (Pu M (.int .i64 (cut s))) := by
  refine Ev.enter Tryz.func61 rfl Tryz.ntmps61 rfl ?_
  refine SC.seq ?_
  refine SC.region ?_
  refine SL.val (OpV.assign rfl) rfl ?_
  refine SL.nil ?_
  refine seqQ.nm ?_
  refine SC.seq ?_
  refine SC.region ?_
  refine SL.val (OpV.assign rfl) rfl ?_
  refine SL.nil ?_
  refine seqQ.nm ?_
  refine SC.seq ?_
  refine SC.seq ?_
  refine SC.region ?_
  refine SL.val (OpV.assign rfl) rfl ?_
  refine SL.nil ?_
  refine seqQ.nm ?_
  refine SC.block ?_
  refine SC.loop (ι := Nat) (fun k M' => k ≤ s.length ∧ M = M') (fun k => [(0, str s), (3, .int .i64 (cutGo (-1) 0 (s.take k))), (4, .int .i64 k)]) (fun _ => []) (fun k => s.length - k) 0 (G := []) ⟨rfl, rfl, rfl, trivial⟩ (List.Perm.refl _) ⟨Nat.zero_le _, rfl⟩ ?_
  rintro k _ _ ⟨hk, rfl⟩
  refine SC.seq ?_
  refine SC.seq ?_
  refine SC.region ?_
  refine SL.val (OpV.move rfl) rfl ?_
  refine SL.val (OpV.move rfl) rfl ?_
  refine SL.val (OpV.slen Tryz.underlying9 rfl) rfl ?_
  refine SL.val (OpV.lss rfl rfl) rfl ?_
  refine SL.nil ?_
  refine seqQ.nm ?_
  first | refine SC.ifp rfl (fun h8 => ?_) (fun h8 => ?_) | refine SC.ite rfl (fun h8 => ?_) (fun h8 => ?_)
  · skip
    have hlt : k < s.length := by omega
    refine SC.skip ?_
    refine seqQ.nm ?_
    refine SC.seq ?_
    refine SC.block ?_
    refine SC.seq ?_
    refine SC.region ?_
    refine SL.val (OpV.move rfl) rfl ?_
    refine SL.val (OpV.move rfl) rfl ?_
    refine SL.val (OpV.sindexG Tryz.underlying9 rfl rfl (by omega) (by omega)) rfl ?_
    refine SL.val (OpV.eql rfl rfl) rfl ?_
    refine SL.nil ?_
    refine seqQ.nm ?_
    first | refine SC.ifp rfl (fun h14 => ?_) (fun h14 => ?_) | refine SC.ite rfl (fun h14 => ?_) (fun h14 => ?_)
    · skip
      have hc : s.getD k 0 = 47 := by simpa [u8_47] using h14
      have hst := cutGo_take s k (-1) 0 hlt
      rw [if_pos hc, Nat.zero_add] at hst
      refine SC.region ?_
      refine SL.val (OpV.move rfl) rfl ?_
      refine SL.val (OpV.assign rfl) rfl ?_
      refine SL.nil ?_
      refine blockQ.nm ?_
      refine seqQ.nm ?_
      refine SC.region ?_
      refine SL.val (OpV.move rfl) rfl ?_
      refine SL.val (OpV.add rfl rfl (IntWalk.i64_in _ (by omega))) rfl ?_
      refine SL.val (OpV.assign rfl) rfl ?_
      refine SL.nil ?_
      exact loopQ.nm (k + 1) (by omega) ⟨rfl, by rw [hst]; rfl, rfl, trivial⟩ (List.Perm.refl _) ⟨by omega, rfl⟩
    · skip
      have hc : ¬ s.getD k 0 = 47 := by simpa [u8_47] using h14
      have hst := cutGo_take s k (-1) 0 hlt
      rw [if_neg hc] at hst
      refine SC.skip ?_
      refine blockQ.nm ?_
      refine seqQ.nm ?_
      refine SC.region ?_
      refine SL.val (OpV.move rfl) rfl ?_
      refine SL.val (OpV.add rfl rfl (IntWalk.i64_in _ (by omega))) rfl ?_
      refine SL.val (OpV.assign rfl) rfl ?_
      refine SL.nil ?_
      exact loopQ.nm (k + 1) (by omega) ⟨rfl, by rw [hst]; rfl, rfl, trivial⟩ (List.Perm.refl _) ⟨by omega, rfl⟩
  · skip
    have hke : k = s.length := by omega
    refine SC.exit ?_
    refine seqQ.e ?_
    refine loopQ.e ?_
    refine blockQ.e ?_
    refine seqQ.nm ?_
    refine SC.seq ?_
    refine SC.region ?_
    refine SL.val (OpV.move rfl) rfl ?_
    refine SL.val (OpV.assign rfl) rfl ?_
    refine SL.nil ?_
    refine seqQ.nm ?_
    refine SC.ret ?_
    refine retQ.one rfl (.tmp rfl) ?_ _ (.inr rfl)
    exact ⟨by rw [hke, List.take_length]; rfl, rfl, rfl⟩

theorem parent_ev (s : Bytes) (M : Mem) (hs : s.length ≤ 1099511627776) : Ev Tryz.prog 33 [str s].toArray [] M (Pu M (str (parent s))) := by
  refine Ev.enter Tryz.func33 rfl Tryz.ntmps33 rfl ?_
  have hr := cut_range s
  refine SC.seq ?_
  refine SC.region ?_
  refine SL.val (OpV.assign rfl) rfl ?_
  refine SL.nil ?_
  refine seqQ.nm ?_
  refine SC.seq ?_
  refine SC.region ?_
  refine SL.val (OpV.move rfl) rfl ?_
  refine SL.call ok61 rfl (L1 := []) (List.Perm.refl _) (cut_ev s _ hs) rfl ?_
  rintro _ _ _ hM5 ⟨rfl, rfl, rfl⟩
  refine SL.val (OpV.assign rfl) rfl ?_
  refine SL.nil ?_
  refine seqQ.nm ?_
  refine SC.seq ?_
  refine SC.seq ?_
  refine SC.region ?_
  refine SL.val (OpV.move rfl) rfl ?_
  refine SL.val (OpV.lss rfl rfl) rfl ?_
  refine SL.nil ?_
  refine seqQ.nm ?_
  first | refine SC.ifp rfl (fun h7 => ?_) (fun h7 => ?_) | refine SC.ite rfl (fun h7 => ?_) (fun h7 => ?_)
  · skip
    refine SC.seq ?_
    refine SC.region ?_
    refine SL.val (OpV.assign rfl) rfl ?_
    refine SL.nil ?_
    refine seqQ.nm ?_
    refine SC.ret ?_
    refine seqQ.r ?_
    refine retQ.one rfl (.tmp rfl) ?_ _ (.inr rfl)
    exact ⟨by rw [parent, show (cut s).toNat = 0 by omega]; rfl, rfl, rfl⟩
  · skip
    refine SC.skip ?_
    refine seqQ.nm ?_
    refine SC.seq ?_
    refine SC.region ?_
    refine SL.val (OpV.move rfl) rfl ?_
    refine SL.val (OpV.move rfl) rfl ?_
    refine SL.val (OpV.ssliceH Tryz.underlying9 rfl rfl (by omega) (by omega)) rfl ?_
    refine SL.val (OpV.assign rfl) rfl ?_
    refine SL.nil ?_
    refine seqQ.nm ?_
    refine SC.ret ?_
    refine retQ.one rfl (.tmp rfl) ?_ _ (.inr rfl)
    exact ⟨rfl, rfl, rfl⟩
theorem base_ev (s : Bytes) (M : Mem) (hs : s.length ≤ 1099511627776) : Ev Tryz.prog 62 [str s].toArray [] M (Pu M (str (base s))) := by
  refine Ev.enter Tryz.func62 rfl Tryz.ntmps62 rfl ?_
  have hr := cut_range s
  refine SC.seq ?_
  refine SC.region ?_
  refine SL.val (OpV.assign rfl) rfl ?_
  refine SL.nil ?_
  refine seqQ.nm ?_
  refine SC.seq ?_
  refine SC.region ?_
  refine SL.val (OpV.move rfl) rfl ?_
  refine SL.val (OpV.move rfl) rfl ?_
  refine SL.call ok61 rfl (L1 := []) (List.Perm.refl _) (cut_ev s _ hs) rfl ?_
  rintro _ _ _ hM5 ⟨rfl, rfl, rfl⟩
  refine SL.val (OpV.add rfl rfl (IntWalk.i64_in _ (by omega))) rfl ?_
  refine SL.val (OpV.ssliceL Tryz.underlying9 rfl rfl (by omega) (by omega)) rfl ?_
  refine SL.val (OpV.assign rfl) rfl ?_
  refine SL.nil ?_
  refine seqQ.nm ?_
  refine SC.ret ?_
  refine retQ.one rfl (.tmp rfl) ?_ _ (.inr rfl)
  exact ⟨rfl, rfl, rfl⟩
theorem under_ev (d p : Bytes) (M : Mem) (hd : d.length ≤ 1099511627776) : Ev Tryz.prog 60 [str d, str p].toArray [] M (Pu M (.bool (under d p))) := by
  refine Ev.enter Tryz.func60 rfl Tryz.ntmps60 rfl ?_
  refine SC.seq ?_
  refine SC.region ?_
  refine SL.val (OpV.assign rfl) rfl ?_
  refine SL.nil ?_
  refine seqQ.nm ?_
  refine SC.seq ?_
  refine SC.seq ?_
  refine SC.region ?_
  refine SL.val (OpV.move rfl) rfl ?_
  refine SL.val (OpV.seql rfl rfl) rfl ?_
  refine SL.nil ?_
  refine seqQ.nm ?_
  first | refine SC.ifp rfl (fun h6 => ?_) (fun h6 => ?_) | refine SC.ite rfl (fun h6 => ?_) (fun h6 => ?_)
  · skip
    refine SC.seq ?_
    refine SC.region ?_
    refine SL.val (OpV.assign rfl) rfl ?_
    refine SL.nil ?_
    refine seqQ.nm ?_
    refine SC.ret ?_
    refine seqQ.r ?_
    refine retQ.one rfl (.tmp rfl) ?_ _ (.inr rfl)
    exact ⟨by simp [under, h6], rfl, rfl⟩
  · skip
    refine SC.skip ?_
    refine seqQ.nm ?_
    refine SC.seq ?_
    refine SC.region ?_
    refine SL.val (OpV.move rfl) rfl ?_
    refine SL.val (OpV.seql rfl rfl) rfl ?_
    refine SL.val (OpV.move rfl) rfl ?_
    refine SL.orcut 5 (c := 9) (d := 14) rfl (fun h9 => ?_) ?_
    · skip
      refine SL.skip rfl rfl ?_
      refine SL.skip rfl rfl ?_
      refine SL.skip rfl rfl ?_
      refine SL.skip rfl rfl ?_
      refine SL.val (OpV.pickT rfl rfl) rfl ?_
      exact SL.nil ⟨rfl, rfl, (by repeat first | exact Env.le_refl _ | refine Env.le_new rfl ?_), [], List.Perm.refl _⟩
    apply Exists.intro
    refine And.intro (fun h9 => ?_) ?_
    · skip
      refine SL.gval rfl (OpV.move rfl) rfl ?_
      refine SL.gval rfl (OpV.move rfl) rfl ?_
      refine SL.gval rfl (OpV.sadd rfl rfl (by simp; omega)) rfl ?_
      refine SL.gcall rfl ok58 rfl (L1 := []) (List.Perm.refl _) (begins_ev p (d ++ [47]) _) rfl ?_
      rintro _ _ _ hM13 ⟨rfl, rfl, rfl⟩
      refine SL.val (OpV.pickF rfl rfl) rfl ?_
      exact SL.nil ⟨rfl, rfl, (by repeat first | exact Env.le_refl _ | refine Env.le_new rfl ?_), [], List.Perm.refl _⟩
    refine SL.val (OpV.assign rfl) rfl ?_
    refine SL.nil ?_
    refine seqQ.nm ?_
    refine SC.ret ?_
    refine retQ.one rfl (.tmp rfl) ?_ _ (.inr rfl)
    exact ⟨by simp [under, h6], rfl, rfl⟩
end Go.Proofs.YtceabkfmjffnhaaGreatDoor
set_option linter.unusedVariables false
set_option linter.unusedSimpArgs false
namespace Go.Proofs.YtceabkfmjffnhaaGreatDoor
open Go Go.Eng

/-- A slice of texts in fixed memory. -/
abbrev Sl1 (M : Mem) (v : Value) (l : List Bytes) : Prop := ISl M v 1 l.length (l.map str)
theorem getElem?_lt {α : Type} {l : List α} {k : Nat} (h : k < l.length) : ∃ x, l[k]? = some x := ⟨l[k], List.getElem?_eq_getElem h⟩

theorem total_mem {l : List Bytes} {x : Bytes} (h : x ∈ l) : x.length ≤ total l := by
  induction l with
  | nil => cases h
  | cons y l ih =>
    rcases List.mem_cons.1 h with rfl | h
    · simp [total]
    · have := ih h; simp [total] at this ⊢; omega
theorem total_succ {l : List Bytes} {k : Nat} {x : Bytes} (h : l[k]? = some x) : total (l.take k) + x.length ≤ total l := by
  have h1 : l.take (k + 1) = l.take k ++ [x] := by rw [List.take_add_one, h]; rfl
  have h2 := total_take l (k + 1)
  rw [h1, total_append] at h2
  simpa [total] using h2

theorem rjoin_ev (l : List Bytes) (v : Value) (M : Mem) (hv : Sl1 M v l) (ht : total l ≤ 1099511627776) (hl : l.length ≤ 1099511627776) : Ev Tryz.prog 57 [v].toArray [] M (Pu M (str (join l))) := by
  refine Ev.enter Tryz.func57 rfl Tryz.ntmps57 rfl ?_
  obtain ⟨ad, cap, rfl, hcap, hmax⟩ := hv.len
  refine SC.seq ?_
  refine SC.region ?_
  refine SL.val (OpV.assign rfl) rfl ?_
  refine SL.nil ?_
  refine seqQ.nm ?_
  refine SC.seq ?_
  refine SC.region ?_
  refine SL.val (OpV.assign rfl) rfl ?_
  refine SL.nil ?_
  refine seqQ.nm ?_
  refine SC.seq ?_
  refine SC.seq ?_
  refine SC.region ?_
  refine SL.val (OpV.assign rfl) rfl ?_
  refine SL.nil ?_
  refine seqQ.nm ?_
  refine SC.block ?_
  refine SC.loop (ι := Nat) (fun k M' => k ≤ l.length ∧ M = M') (fun k => [(0, .slice ad l.length cap), (3, str (joinGo [] (l.take k))), (4, .int .i64 k)]) (fun _ => []) (fun k => l.length - k) 0 (G := []) ⟨rfl, rfl, rfl, trivial⟩ (List.Perm.refl _) ⟨Nat.zero_le _, rfl⟩ ?_
  rintro k _ _ ⟨hk, rfl⟩
  refine SC.seq ?_
  refine SC.seq ?_
  refine SC.region ?_
  refine SL.val (OpV.move rfl) rfl ?_
  refine SL.val (OpV.move rfl) rfl ?_
  refine SL.val (OpV.llen Tryz.underlying52 rfl) rfl ?_
  refine SL.val (OpV.lss rfl rfl) rfl ?_
  refine SL.nil ?_
  refine seqQ.nm ?_
  first | refine SC.ifp rfl (fun h8 => ?_) (fun h8 => ?_) | refine SC.ite rfl (fun h8 => ?_) (fun h8 => ?_)
  · skip
    have hlt : k < l.length := by omega
    obtain ⟨g, o, cap', he, hc, _⟩ := hv.at_ (by omega)
    cases he
    obtain ⟨x, hx⟩ := getElem?_lt hlt
    have hst := joinGo_take_succ [] l k x hx
    have hts := total_succ hx
    have hjl := joinGo_length (l.take k) []
    have htl : (l.take k).length ≤ k := List.length_take_le _ _
    rw [List.length_nil] at hjl
    unfold joinStep at hst
    refine SC.skip ?_
    refine seqQ.nm ?_
    refine SC.seq ?_
    refine SC.block ?_
    refine SC.seq ?_
    refine SC.seq ?_
    refine SC.region ?_
    refine SL.val (OpV.move rfl) rfl ?_
    refine SL.val (OpV.move rfl) rfl ?_
    refine SL.val (OpV.indexAddr1 Tryz.underlying52 sz9 rfl rfl (by omega) (by omega)) rfl ?_
    refine SL.val (OpV.load _ Tryz.underlying9 rfl rfl (Kn.mem (hc.at_ k (v := str x) (by simp [hx])))) rfl ?_
    refine SL.val (OpV.seql rfl rfl) rfl ?_
    refine SL.nil ?_
    refine seqQ.nm ?_
    first | refine SC.ifp rfl (fun h15 => ?_) (fun h15 => ?_) | refine SC.ite rfl (fun h15 => ?_) (fun h15 => ?_)
    · skip
      rw [if_pos h15] at hst
      refine SC.exit ?_
      refine seqQ.e ?_
      refine blockQ.e ?_
      refine seqQ.nm ?_
      refine SC.region ?_
      refine SL.val (OpV.move rfl) rfl ?_
      refine SL.val (OpV.add rfl rfl (IntWalk.i64_in _ (by omega))) rfl ?_
      refine SL.val (OpV.assign rfl) rfl ?_
      refine SL.nil ?_
      first
        | exact loopQ.nm (k + 1) (by omega) ⟨rfl, by rw [hst]; rfl, rfl, trivial⟩ (List.Perm.refl _) ⟨by omega, rfl⟩
        | exact loopQ.nm (k + 1) (by omega) ⟨rfl, by rw [hst, Decidable.not_not.1 h17]; rfl, rfl, trivial⟩ (List.Perm.refl _) ⟨by omega, rfl⟩
    · skip
      rw [if_neg h15] at hst
      refine SC.skip ?_
      refine seqQ.nm ?_
      refine SC.seq ?_
      refine SC.seq ?_
      refine SC.region ?_
      refine SL.val (OpV.move rfl) rfl ?_
      refine SL.val (OpV.sneq rfl rfl) rfl ?_
      refine SL.nil ?_
      refine seqQ.nm ?_
      first | refine SC.ifp rfl (fun h17 => ?_) (fun h17 => ?_) | refine SC.ite rfl (fun h17 => ?_) (fun h17 => ?_)
      · skip
        rw [if_neg h17] at hst
        refine SC.region ?_
        refine SL.val (OpV.move rfl) rfl ?_
        refine SL.val (OpV.sadd rfl rfl (by first | omega | (simp; omega))) rfl ?_
        refine SL.val (OpV.assign rfl) rfl ?_
        refine SL.nil ?_
        refine seqQ.nm ?_
        refine SC.region ?_
        refine SL.val (OpV.move rfl) rfl ?_
        refine SL.val (OpV.move rfl) rfl ?_
        refine SL.val (OpV.move rfl) rfl ?_
        refine SL.val (OpV.indexAddr1 Tryz.underlying52 sz9 rfl rfl (by omega) (by omega)) rfl ?_
        refine SL.val (OpV.load _ Tryz.underlying9 rfl rfl (Kn.mem (hc.at_ k (v := str x) (by simp [hx])))) rfl ?_
        refine SL.val (OpV.sadd rfl rfl (by first | omega | (simp; omega))) rfl ?_
        refine SL.val (OpV.assign rfl) rfl ?_
        refine SL.nil ?_
        refine blockQ.nm ?_
        refine seqQ.nm ?_
        refine SC.region ?_
        refine SL.val (OpV.move rfl) rfl ?_
        refine SL.val (OpV.add rfl rfl (IntWalk.i64_in _ (by omega))) rfl ?_
        refine SL.val (OpV.assign rfl) rfl ?_
        refine SL.nil ?_
        first
          | exact loopQ.nm (k + 1) (by omega) ⟨rfl, by rw [hst]; rfl, rfl, trivial⟩ (List.Perm.refl _) ⟨by omega, rfl⟩
          | exact loopQ.nm (k + 1) (by omega) ⟨rfl, by rw [hst, Decidable.not_not.1 h17]; rfl, rfl, trivial⟩ (List.Perm.refl _) ⟨by omega, rfl⟩
      · skip
        rw [if_pos (Decidable.not_not.1 h17)] at hst
        refine SC.skip ?_
        refine seqQ.nm ?_
        refine SC.region ?_
        refine SL.val (OpV.move rfl) rfl ?_
        refine SL.val (OpV.move rfl) rfl ?_
        refine SL.val (OpV.move rfl) rfl ?_
        refine SL.val (OpV.indexAddr1 Tryz.underlying52 sz9 rfl rfl (by omega) (by omega)) rfl ?_
        refine SL.val (OpV.load _ Tryz.underlying9 rfl rfl (Kn.mem (hc.at_ k (v := str x) (by simp [hx])))) rfl ?_
        refine SL.val (OpV.sadd rfl rfl (by first | omega | (simp; omega))) rfl ?_
        refine SL.val (OpV.assign rfl) rfl ?_
        refine SL.nil ?_
        refine blockQ.nm ?_
        refine seqQ.nm ?_
        refine SC.region ?_
        refine SL.val (OpV.move rfl) rfl ?_
        refine SL.val (OpV.add rfl rfl (IntWalk.i64_in _ (by omega))) rfl ?_
        refine SL.val (OpV.assign rfl) rfl ?_
        refine SL.nil ?_
        first
          | exact loopQ.nm (k + 1) (by omega) ⟨rfl, by rw [hst]; rfl, rfl, trivial⟩ (List.Perm.refl _) ⟨by omega, rfl⟩
          | exact loopQ.nm (k + 1) (by omega) ⟨rfl, by rw [hst, Decidable.not_not.1 h17]; rfl, rfl, trivial⟩ (List.Perm.refl _) ⟨by omega, rfl⟩
  · skip
    have hke : k = l.length := by omega
    refine SC.exit ?_
    refine seqQ.e ?_
    refine loopQ.e ?_
    refine blockQ.e ?_
    refine seqQ.nm ?_
    refine SC.seq ?_
    refine SC.region ?_
    refine SL.val (OpV.move rfl) rfl ?_
    refine SL.val (OpV.assign rfl) rfl ?_
    refine SL.nil ?_
    refine seqQ.nm ?_
    refine SC.ret ?_
    refine retQ.one rfl (.tmp rfl) ?_ _ (.inr rfl)
    exact ⟨by rw [hke, List.take_length]; rfl, rfl, rfl⟩

def splitAt (p : Bytes) (k : Nat) : List Bytes × Nat := if k ≤ p.length then splitTo p k else (split p, p.length + 1)
theorem splitAt_le (p : Bytes) (k : Nat) (hk : k ≤ p.length + 1) : (splitAt p k).2 ≤ k ∧ (splitAt p k).1.length ≤ k := by
  unfold splitAt
  split
  · exact splitTo_le p k
  · have := split_length p; dsimp only; omega
theorem splitAt_cut (p : Bytes) (k : Nat) (hp : p ≠ []) (hk : k ≤ p.length) (h : k = p.length ∨ p.getD k 0 = 47) : splitAt p (k + 1) = ((splitAt p k).1 ++ [(p.drop (splitAt p k).2).take (k - (splitAt p k).2)], k + 1) := by
  have e0 : splitAt p k = splitTo p k := by simp [splitAt, hk]
  rw [e0]
  by_cases hke : k = p.length
  · subst hke
    unfold splitAt
    rw [if_neg (by omega), split_last p hp]
  · have h2 : p.getD k 0 = 47 := h.resolve_left hke
    unfold splitAt
    rw [if_pos (by omega)]
    simp only [splitTo]
    rw [if_pos h2]
theorem splitAt_step (p : Bytes) (k : Nat) (hk : k < p.length) (h : ¬ p.getD k 0 = 47) : splitAt p (k + 1) = splitAt p k := by
  have e0 : splitAt p k = splitTo p k := by simp [splitAt]; omega
  rw [e0]
  unfold splitAt
  rw [if_pos (by omega)]
  simp only [splitTo]
  rw [if_neg h]

theorem rsplit_row (p : Bytes) (M : Mem) (hp : p.length ≤ 1099511627776) : Ev Tryz.prog 55 [str p].toArray [] M fun v L' M' => L' = [.row v 9 1 ((split p).map str)] ∧ M = M' := by
  refine Ev.enter Tryz.func55 rfl Tryz.ntmps55 rfl ?_
  refine SC.nilrow 9 1 ?_
  refine SC.seq ?_
  refine SC.region ?_
  refine SL.val (OpV.assign rfl) rfl ?_
  refine SL.nil ?_
  refine seqQ.nm ?_
  refine SC.seq ?_
  refine SC.region ?_
  refine SL.val (OpV.assign rfl) rfl ?_
  refine SL.nil ?_
  refine seqQ.nm ?_
  refine SC.seq ?_
  refine SC.seq ?_
  refine SC.region ?_
  refine SL.val (OpV.move rfl) rfl ?_
  refine SL.val (OpV.seql rfl rfl) rfl ?_
  refine SL.nil ?_
  refine seqQ.nm ?_
  first | refine SC.ifp rfl (fun h7 => ?_) (fun h7 => ?_) | refine SC.ite rfl (fun h7 => ?_) (fun h7 => ?_)
  · skip
    refine SC.seq ?_
    refine SC.region ?_
    refine SL.val (OpV.move rfl) rfl ?_
    refine SL.val (OpV.assign rfl) rfl ?_
    refine SL.nil ?_
    refine seqQ.nm ?_
    refine SC.ret ?_
    refine seqQ.r ?_
    refine retQ.one rfl (.tmp rfl) ?_ _ (.inr rfl)
    exact ⟨by simp [split, h7], rfl⟩
  · skip
    refine SC.skip ?_
    refine seqQ.nm ?_
    refine SC.seq ?_
    refine SC.region ?_
    refine SL.val (OpV.assign rfl) rfl ?_
    refine SL.nil ?_
    refine seqQ.nm ?_
    refine SC.seq ?_
    refine SC.seq ?_
    refine SC.region ?_
    refine SL.val (OpV.assign rfl) rfl ?_
    refine SL.nil ?_
    refine seqQ.nm ?_
    refine SC.block ?_
    refine SC.loop (ι := Nat × Value) (fun x M' => M = M' ∧ x.1 ≤ p.length + 1) (fun x => [(0, str p), (3, x.2), (4, .int .i64 ((splitAt p x.1).2 : Nat)), (5, .int .i64 x.1)]) (fun x => [.row x.2 9 1 ((splitAt p x.1).1.map str)]) (fun x => p.length + 1 - x.1) (0, .slice none 0 0) (G := []) ⟨rfl, rfl, by simp [splitAt, splitTo]; rfl, rfl, trivial⟩ (by simp [splitAt, splitTo]) ⟨rfl, Nat.zero_le _⟩ ?_
    rintro ⟨k, v⟩ _ _ ⟨rfl, hk⟩
    have hle := splitAt_le p k hk
    dsimp only at hk ⊢
    refine SC.seq ?_
    refine SC.seq ?_
    refine SC.region ?_
    refine SL.val (OpV.move rfl) rfl ?_
    refine SL.val (OpV.move rfl) rfl ?_
    refine SL.val (OpV.slen Tryz.underlying9 rfl) rfl ?_
    refine SL.val (OpV.leq rfl rfl) rfl ?_
    refine SL.nil ?_
    refine seqQ.nm ?_
    first | refine SC.ifp rfl (fun h12 => ?_) (fun h12 => ?_) | refine SC.ite rfl (fun h12 => ?_) (fun h12 => ?_)
    · skip
      refine SC.skip ?_
      refine seqQ.nm ?_
      refine SC.seq ?_
      refine SC.block ?_
      refine SC.seq ?_
      refine SC.region ?_
      refine SL.val (OpV.move rfl) rfl ?_
      refine SL.val (OpV.move rfl) rfl ?_
      refine SL.val (OpV.slen Tryz.underlying9 rfl) rfl ?_
      refine SL.val (OpV.eql rfl rfl) rfl ?_
      refine SL.val (OpV.move rfl) rfl ?_
      refine SL.orcut 5 (c := 19) (d := 24) rfl (fun h19 => ?_) ?_
      · skip
        refine SL.skip rfl rfl ?_
        refine SL.skip rfl rfl ?_
        refine SL.skip rfl rfl ?_
        refine SL.skip rfl rfl ?_
        refine SL.val (OpV.pickT rfl rfl) rfl ?_
        exact SL.nil ⟨rfl, rfl, (by repeat first | exact Env.le_refl _ | refine Env.le_new rfl ?_), [], List.Perm.refl _⟩
      apply Exists.intro
      refine And.intro (fun h19 => ?_) ?_
      · skip
        have hlt : k < p.length := by simp at h19; omega
        refine SL.gval rfl (OpV.move rfl) rfl ?_
        refine SL.gval rfl (OpV.move rfl) rfl ?_
        refine SL.gval rfl (OpV.sindexG Tryz.underlying9 rfl rfl (by omega) (by omega)) rfl ?_
        refine SL.gval rfl (OpV.eql rfl rfl) rfl ?_
        refine SL.val (OpV.pickF rfl rfl) rfl ?_
        exact SL.nil ⟨rfl, rfl, (by repeat first | exact Env.le_refl _ | refine Env.le_new rfl ?_), [], List.Perm.refl _⟩
      refine SL.nil ?_
      refine seqQ.nm ?_
      first | refine SC.ifp rfl (fun h24 => ?_) (fun h24 => ?_) | refine SC.ite rfl (fun h24 => ?_) (fun h24 => ?_)
      · skip
        have hc : k = p.length ∨ p.getD k 0 = 47 := by
          simp [u8_47] at h24
          rcases h24 with h24 | h24
          · exact .inl (by omega)
          · exact .inr (by simpa [List.getD_eq_getElem?_getD] using h24)
        have hst := splitAt_cut p k h7 (by omega) hc
        refine SC.seq ?_
        refine SC.region ?_
        refine SL.val (OpV.move rfl) rfl ?_
        refine SL.val (OpV.move rfl) rfl ?_
        refine SL.val (OpV.move rfl) rfl ?_
        refine SL.val (OpV.move rfl) rfl ?_
        refine SL.val (OpV.sslice Tryz.underlying9 rfl rfl rfl (by omega) (by omega) (by omega)) rfl ?_
        refine SL.act (OpH.one Tryz.underlying52 zs9 rfl rfl) rfl ?_; rintro _ _ _ hM30 ⟨b30, rfl, rfl, rfl⟩; clear hM30
        refine SL.act (OpH.append 1 rfl Tryz.underlying52 Tryz.underlying52 rfl ti9 rfl (by decide) (by decide) rfl rfl (Src.blk 0 rfl rfl) (by simp [Value.oneCell']) (by simp; omega)) rfl ?_; rintro v31 _ _ hM31 ⟨rfl, rfl, hn31⟩; clear hM31
        refine SL.drop 0 rfl ?_
        refine SL.val (OpV.assign rfl) rfl ?_
        refine SL.nil ?_
        refine seqQ.nm ?_
        refine SC.region ?_
        refine SL.val (OpV.move rfl) rfl ?_
        refine SL.val (OpV.add rfl rfl (IntWalk.i64_in _ (by omega))) rfl ?_
        refine SL.val (OpV.assign rfl) rfl ?_
        refine SL.nil ?_
        refine blockQ.nm ?_
        refine seqQ.nm ?_
        refine SC.region ?_
        refine SL.val (OpV.move rfl) rfl ?_
        refine SL.val (OpV.add rfl rfl (IntWalk.i64_in _ (by omega))) rfl ?_
        refine SL.val (OpV.assign rfl) rfl ?_
        refine SL.nil ?_
        first
          | exact loopQ.nm (k + 1, v31) (by dsimp only; omega) ⟨rfl, rfl, by rw [hst]; rfl, rfl, trivial⟩ (by rw [hst]; simp) ⟨rfl, by dsimp only; omega⟩
          | exact loopQ.nm (k + 1, v) (by dsimp only; omega) ⟨rfl, rfl, by rw [hst]; rfl, rfl, trivial⟩ (by rw [hst]) ⟨rfl, by dsimp only; omega⟩
      · skip
        have hc : k < p.length ∧ ¬ p.getD k 0 = 47 := by
          simp [u8_47] at h24
          exact ⟨by omega, by simpa [List.getD_eq_getElem?_getD] using h24.2⟩
        have hst := splitAt_step p k hc.1 hc.2
        refine SC.skip ?_
        refine blockQ.nm ?_
        refine seqQ.nm ?_
        refine SC.region ?_
        refine SL.val (OpV.move rfl) rfl ?_
        refine SL.val (OpV.add rfl rfl (IntWalk.i64_in _ (by omega))) rfl ?_
        refine SL.val (OpV.assign rfl) rfl ?_
        refine SL.nil ?_
        first
          | exact loopQ.nm (k + 1, v31) (by dsimp only; omega) ⟨rfl, rfl, by rw [hst]; rfl, rfl, trivial⟩ (by rw [hst]; simp) ⟨rfl, by dsimp only; omega⟩
          | exact loopQ.nm (k + 1, v) (by dsimp only; omega) ⟨rfl, rfl, by rw [hst]; rfl, rfl, trivial⟩ (by rw [hst]) ⟨rfl, by dsimp only; omega⟩
    · skip
      have hke : k = p.length + 1 := by omega
      refine SC.exit ?_
      refine seqQ.e ?_
      refine loopQ.e ?_
      refine blockQ.e ?_
      refine seqQ.nm ?_
      refine SC.seq ?_
      refine SC.region ?_
      refine SL.val (OpV.move rfl) rfl ?_
      refine SL.val (OpV.assign rfl) rfl ?_
      refine SL.nil ?_
      refine seqQ.nm ?_
      refine SC.ret ?_
      refine retQ.one rfl (.tmp rfl) ?_ _ (.inr rfl)
      exact ⟨by rw [hke]; unfold splitAt; rw [if_neg (by omega)], rfl⟩

theorem rsplit_ev (p : Bytes) (M : Mem) (hp : p.length ≤ 1099511627776) : Ev Tryz.prog 55 [str p].toArray [] M fun v L' M' => L' = [] ∧ Sl1 M' v (split p) :=
  Ev.fixRow (rsplit_row p M hp) (by simp) (by decide)

theorem rmay_ev (p : Bytes) (M : Mem) (hp : p.length ≤ 1099511627776) : Ev Tryz.prog 59 [str p].toArray [] M (Pu M (.bool (mayPath p))) := by
  refine Ev.forget ?_
  refine Ev.enter Tryz.func59 rfl Tryz.ntmps59 rfl ?_
  have hsl := split_length p
  refine SC.seq ?_
  refine SC.region ?_
  refine SL.val (OpV.assign rfl) rfl ?_
  refine SL.nil ?_
  refine seqQ.nm ?_
  refine SC.seq ?_
  refine SC.region ?_
  refine SL.val (OpV.move rfl) rfl ?_
  refine SL.call ok55 rfl (L1 := []) (List.Perm.refl _) (rsplit_ev p M hp) rfl ?_
  rintro v _ M1 hM1 ⟨rfl, hv⟩
  obtain ⟨ad, cap, rfl, hcap, hmax⟩ := hv.len
  refine SL.val (OpV.assign rfl) rfl ?_
  refine SL.nil ?_
  refine seqQ.nm ?_
  refine SC.seq ?_
  refine SC.seq ?_
  refine SC.region ?_
  refine SL.val (OpV.assign rfl) rfl ?_
  refine SL.nil ?_
  refine seqQ.nm ?_
  refine SC.block ?_
  refine SC.loop (ι := Nat) (fun k M' => k ≤ (split p).length ∧ ((split p).take k).all mayName = true ∧ M1.le M') (fun k => [(0, str p), (3, .slice ad (split p).length cap), (4, .int .i64 k)]) (fun _ => []) (fun k => (split p).length - k) 0 (G := []) ⟨rfl, rfl, rfl, trivial⟩ (List.Perm.refl _) ⟨Nat.zero_le _, rfl, Mem.le_refl _⟩ ?_
  rintro k M2 hM2 ⟨hk, hall, hM3⟩
  refine SC.seq ?_
  refine SC.seq ?_
  refine SC.region ?_
  refine SL.val (OpV.move rfl) rfl ?_
  refine SL.val (OpV.move rfl) rfl ?_
  refine SL.val (OpV.llen Tryz.underlying52 rfl) rfl ?_
  refine SL.val (OpV.lss rfl rfl) rfl ?_
  refine SL.nil ?_
  refine seqQ.nm ?_
  first | refine SC.ifp rfl (fun h10 => ?_) (fun h10 => ?_) | refine SC.ite rfl (fun h10 => ?_) (fun h10 => ?_)
  · skip
    have hlt : k < (split p).length := by omega
    obtain ⟨g, o, cap', he, hc, _⟩ := (hv.mono hM3).at_ (by omega)
    cases he
    obtain ⟨x, hx⟩ := getElem?_lt hlt
    have hxl := split_part p x (List.mem_of_getElem? hx)
    have hst := all_take_succ mayName (split p) k x hx
    refine SC.skip ?_
    refine seqQ.nm ?_
    refine SC.seq ?_
    refine SC.block ?_
    refine SC.seq ?_
    refine SC.region ?_
    refine SL.val (OpV.move rfl) rfl ?_
    refine SL.val (OpV.move rfl) rfl ?_
    refine SL.val (OpV.indexAddr1 Tryz.underlying52 sz9 rfl rfl (by omega) (by omega)) rfl ?_
    refine SL.val (OpV.load _ Tryz.underlying9 rfl rfl (Kn.mem (hc.at_ k (v := str x) (by simp [hx])))) rfl ?_
    refine SL.call ok56 rfl (L1 := []) (List.Perm.refl _) (mayName_ev x _ (by omega)) rfl ?_
    rintro _ _ _ hM17 ⟨rfl, rfl, rfl⟩
    refine SL.val (OpV.not rfl) rfl ?_
    refine SL.nil ?_
    refine seqQ.nm ?_
    first | refine SC.ifp rfl (fun h18 => ?_) (fun h18 => ?_) | refine SC.ite rfl (fun h18 => ?_) (fun h18 => ?_)
    · skip
      have hbad : mayPath p = false := by
        have : (split p).all mayName = false := by
          rw [List.all_eq_false]
          exact ⟨x, List.mem_of_getElem? hx, by simpa using h18⟩
        simp [mayPath, this]
      refine SC.seq ?_
      refine SC.region ?_
      refine SL.val (OpV.assign rfl) rfl ?_
      refine SL.nil ?_
      refine seqQ.nm ?_
      refine SC.ret ?_
      refine blockQ.r ?_
      refine seqQ.r ?_
      refine loopQ.r ?_
      refine blockQ.r ?_
      refine seqQ.r ?_
      refine retQ.one rfl (.tmp rfl) ?_ _ (.inr rfl)
      exact ⟨by rw [hbad], rfl⟩
    · skip
      have hg : mayName x = true := by simpa using h18
      rw [hall, hg] at hst
      refine SC.skip ?_
      refine blockQ.nm ?_
      refine seqQ.nm ?_
      refine SC.region ?_
      refine SL.val (OpV.move rfl) rfl ?_
      refine SL.val (OpV.add rfl rfl (IntWalk.i64_in _ (by omega))) rfl ?_
      refine SL.val (OpV.assign rfl) rfl ?_
      refine SL.nil ?_
      exact loopQ.nm (k + 1) (by omega) ⟨rfl, rfl, rfl, trivial⟩ (List.Perm.refl _) ⟨by omega, hst, hM3⟩
  · skip
    have hke : k = (split p).length := by omega
    rw [hke, List.take_length] at hall
    refine SC.exit ?_
    refine seqQ.e ?_
    refine loopQ.e ?_
    refine blockQ.e ?_
    refine seqQ.nm ?_
    refine SC.seq ?_
    refine SC.region ?_
    refine SL.val (OpV.move rfl) rfl ?_
    refine SL.val (OpV.llen Tryz.underlying52 rfl) rfl ?_
    refine SL.val (OpV.leq rfl rfl) rfl ?_
    refine SL.val (OpV.move rfl) rfl ?_
    refine SL.andcut 4 (c := 22) (d := 26) rfl (fun h22 => ?_) ?_
    · skip
      refine SL.skip rfl rfl ?_
      refine SL.skip rfl rfl ?_
      refine SL.skip rfl rfl ?_
      refine SL.val (OpV.pickF rfl rfl) rfl ?_
      exact SL.nil ⟨rfl, rfl, (by repeat first | exact Env.le_refl _ | refine Env.le_new rfl ?_), [], List.Perm.refl _⟩
    apply Exists.intro
    refine And.intro (fun h22 => ?_) ?_
    · skip
      refine SL.gval rfl (OpV.move rfl) rfl ?_
      refine SL.gval rfl (OpV.slen Tryz.underlying9 rfl) rfl ?_
      refine SL.gval rfl (OpV.leq rfl rfl) rfl ?_
      refine SL.val (OpV.pickT rfl rfl) rfl ?_
      exact SL.nil ⟨rfl, rfl, (by repeat first | exact Env.le_refl _ | refine Env.le_new rfl ?_), [], List.Perm.refl _⟩
    refine SL.val (OpV.assign rfl) rfl ?_
    refine SL.nil ?_
    refine seqQ.nm ?_
    refine SC.ret ?_
    refine retQ.one rfl (.tmp rfl) ?_ _ (.inr rfl)
    have e1 : decide (((split p).length : Int) ≤ 254) = decide ((split p).length ≤ 254) := dec_eq (by omega)
    have e2 : decide ((p.length : Int) ≤ 4080) = decide (p.length ≤ 4080) := dec_eq (by omega)
    refine ⟨?_, rfl⟩
    simp only [mayPath, hall, Bool.true_and, e1, e2]

theorem rabove_row (l : Bytes) (M : Mem) (hl : l.length ≤ 1099511627776) : Ev Tryz.prog 30 [str l].toArray [] M fun v L' M' => L' = [.row v 9 1 ((above l).map str)] ∧ M = M' := by
  refine Ev.enter Tryz.func30 rfl Tryz.ntmps30 rfl ?_
  refine SC.nilrow 9 1 ?_
  refine SC.seq ?_
  refine SC.region ?_
  refine SL.val (OpV.assign rfl) rfl ?_
  refine SL.nil ?_
  refine seqQ.nm ?_
  refine SC.seq ?_
  refine SC.region ?_
  refine SL.val (OpV.assign rfl) rfl ?_
  refine SL.nil ?_
  refine seqQ.nm ?_
  refine SC.seq ?_
  refine SC.seq ?_
  refine SC.region ?_
  refine SL.val (OpV.assign rfl) rfl ?_
  refine SL.nil ?_
  refine seqQ.nm ?_
  refine SC.block ?_
  refine SC.loop (ι := Nat × Value) (fun x M' => x.1 ≤ l.length ∧ M = M') (fun x => [(0, str l), (3, x.2), (4, .int .i64 x.1)]) (fun x => [.row x.2 9 1 ((aboveTo l x.1).map str)]) (fun x => l.length - x.1) (0, .slice none 0 0) (G := []) ⟨rfl, rfl, rfl, trivial⟩ (List.Perm.refl _) ⟨Nat.zero_le _, rfl⟩ ?_
  rintro ⟨k, v⟩ _ _ ⟨hk, rfl⟩
  have hal := aboveTo_len l k
  dsimp only at hk hal ⊢
  refine SC.seq ?_
  refine SC.seq ?_
  refine SC.region ?_
  refine SL.val (OpV.move rfl) rfl ?_
  refine SL.val (OpV.move rfl) rfl ?_
  refine SL.val (OpV.slen Tryz.underlying9 rfl) rfl ?_
  refine SL.val (OpV.lss rfl rfl) rfl ?_
  refine SL.nil ?_
  refine seqQ.nm ?_
  first | refine SC.ifp rfl (fun h8 => ?_) (fun h8 => ?_) | refine SC.ite rfl (fun h8 => ?_) (fun h8 => ?_)
  · skip
    have hlt : k < l.length := by omega
    refine SC.skip ?_
    refine seqQ.nm ?_
    refine SC.seq ?_
    refine SC.block ?_
    refine SC.seq ?_
    refine SC.region ?_
    refine SL.val (OpV.move rfl) rfl ?_
    refine SL.val (OpV.move rfl) rfl ?_
    refine SL.val (OpV.sindexG Tryz.underlying9 rfl rfl (by omega) (by omega)) rfl ?_
    refine SL.val (OpV.eql rfl rfl) rfl ?_
    refine SL.nil ?_
    refine seqQ.nm ?_
    first | refine SC.ifp rfl (fun h14 => ?_) (fun h14 => ?_) | refine SC.ite rfl (fun h14 => ?_) (fun h14 => ?_)
    · skip
      have hc : l.getD k 0 = 47 := by simpa [u8_47] using h14
      refine SC.region ?_
      refine SL.val (OpV.move rfl) rfl ?_
      refine SL.val (OpV.move rfl) rfl ?_
      refine SL.val (OpV.move rfl) rfl ?_
      refine SL.val (OpV.ssliceH Tryz.underlying9 rfl rfl (by omega) (by omega)) rfl ?_
      refine SL.act (OpH.one Tryz.underlying52 zs9 rfl rfl) rfl ?_; rintro _ _ _ hM19 ⟨b19, rfl, rfl, rfl⟩; clear hM19
      refine SL.act (OpH.append 1 rfl Tryz.underlying52 Tryz.underlying52 rfl ti9 rfl (by decide) (by decide) rfl rfl (Src.blk 0 rfl rfl) (by simp [Value.oneCell']) (by simp; omega)) rfl ?_; rintro v20 _ _ hM20 ⟨rfl, rfl, hn20⟩; clear hM20
      refine SL.drop 0 rfl ?_
      refine SL.val (OpV.assign rfl) rfl ?_
      refine SL.nil ?_
      refine blockQ.nm ?_
      refine seqQ.nm ?_
      refine SC.region ?_
      refine SL.val (OpV.move rfl) rfl ?_
      refine SL.val (OpV.add rfl rfl (IntWalk.i64_in _ (by omega))) rfl ?_
      refine SL.val (OpV.assign rfl) rfl ?_
      refine SL.nil ?_
      first
        | exact loopQ.nm (k + 1, v20) (by dsimp only; omega) ⟨rfl, rfl, rfl, trivial⟩ (by simp only [aboveTo, hc, if_true]; simp) ⟨by dsimp only; omega, rfl⟩
        | exact loopQ.nm (k + 1, v) (by dsimp only; omega) ⟨rfl, rfl, rfl, trivial⟩ (by simp only [aboveTo, hc, if_false]; simp) ⟨by dsimp only; omega, rfl⟩
    · skip
      have hc : ¬ l.getD k 0 = 47 := by simpa [u8_47] using h14
      refine SC.skip ?_
      refine blockQ.nm ?_
      refine seqQ.nm ?_
      refine SC.region ?_
      refine SL.val (OpV.move rfl) rfl ?_
      refine SL.val (OpV.add rfl rfl (IntWalk.i64_in _ (by omega))) rfl ?_
      refine SL.val (OpV.assign rfl) rfl ?_
      refine SL.nil ?_
      first
        | exact loopQ.nm (k + 1, v20) (by dsimp only; omega) ⟨rfl, rfl, rfl, trivial⟩ (by simp only [aboveTo, hc, if_true]; simp) ⟨by dsimp only; omega, rfl⟩
        | exact loopQ.nm (k + 1, v) (by dsimp only; omega) ⟨rfl, rfl, rfl, trivial⟩ (by simp only [aboveTo, hc, if_false]; simp) ⟨by dsimp only; omega, rfl⟩
  · skip
    have hke : k = l.length := by omega
    refine SC.exit ?_
    refine seqQ.e ?_
    refine loopQ.e ?_
    refine blockQ.e ?_
    refine seqQ.nm ?_
    refine SC.seq ?_
    refine SC.region ?_
    refine SL.val (OpV.move rfl) rfl ?_
    refine SL.val (OpV.assign rfl) rfl ?_
    refine SL.nil ?_
    refine seqQ.nm ?_
    refine SC.ret ?_
    refine retQ.one rfl (.tmp rfl) ?_ _ (.inr rfl)
    exact ⟨by subst hke; rfl, rfl⟩
theorem rabove_ev (l : Bytes) (M : Mem) (hl : l.length ≤ 1099511627776) : Ev Tryz.prog 30 [str l].toArray [] M fun v L' M' => L' = [] ∧ Sl1 M' v (above l) :=
  Ev.fixRow (rabove_row l M hl) (by simp) (by decide)
theorem above_row (l : Bytes) (M : Mem) (hl : l.length ≤ 1099511627776) : Ev Tryz.prog 26 [str l].toArray [] M fun v L' M' => L' = [.row v 9 1 ((above l).map str)] ∧ M = M' := by
  refine Ev.enter Tryz.func26 rfl Tryz.ntmps26 rfl ?_
  refine SC.nilrow 9 1 ?_
  refine SC.seq ?_
  refine SC.region ?_
  refine SL.val (OpV.assign rfl) rfl ?_
  refine SL.nil ?_
  refine seqQ.nm ?_
  refine SC.seq ?_
  refine SC.region ?_
  refine SL.val (OpV.assign rfl) rfl ?_
  refine SL.nil ?_
  refine seqQ.nm ?_
  refine SC.seq ?_
  refine SC.seq ?_
  refine SC.region ?_
  refine SL.val (OpV.move rfl) rfl ?_
  refine SL.val (OpV.slen Tryz.underlying9 rfl) rfl ?_
  refine SL.val (OpV.move rfl) rfl ?_
  refine SL.nil ?_
  refine seqQ.nm ?_
  refine SC.block ?_
  refine SC.loop (ι := Nat × Value) (fun x M' => x.1 ≤ l.length ∧ M = M') (fun x => [(0, str l), (3, x.2), (6, .int .i64 l.length), (7, .int .i64 x.1)]) (fun x => [.row x.2 9 1 ((aboveTo l x.1).map str)]) (fun x => l.length - x.1) (0, .slice none 0 0) (G := []) ⟨rfl, rfl, rfl, rfl, trivial⟩ (List.Perm.refl _) ⟨Nat.zero_le _, rfl⟩ ?_
  rintro ⟨k, v⟩ _ _ ⟨hk, rfl⟩
  have hal := aboveTo_len l k
  dsimp only at hk hal ⊢
  refine SC.seq ?_
  refine SC.region ?_
  refine SL.val (OpV.lss rfl rfl) rfl ?_
  refine SL.nil ?_
  refine seqQ.nm ?_
  refine SC.seq ?_
  first | refine SC.ifp rfl (fun h8 => ?_) (fun h8 => ?_) | refine SC.ite rfl (fun h8 => ?_) (fun h8 => ?_)
  · skip
    have hlt : k < l.length := by omega
    refine SC.skip ?_
    refine seqQ.nm ?_
    refine SC.seq ?_
    refine SC.block ?_
    refine SC.seq ?_
    refine SC.region ?_
    refine SL.val (OpV.move rfl) rfl ?_
    refine SL.val (OpV.assign rfl) rfl ?_
    refine SL.nil ?_
    refine seqQ.nm ?_
    refine SC.seq ?_
    refine SC.region ?_
    refine SL.val (OpV.move rfl) rfl ?_
    refine SL.val (OpV.move rfl) rfl ?_
    refine SL.val (OpV.sindexG Tryz.underlying9 rfl rfl (by omega) (by omega)) rfl ?_
    refine SL.val (OpV.eql rfl rfl) rfl ?_
    refine SL.nil ?_
    refine seqQ.nm ?_
    first | refine SC.ifp rfl (fun h13 => ?_) (fun h13 => ?_) | refine SC.ite rfl (fun h13 => ?_) (fun h13 => ?_)
    · skip
      have hc : l.getD k 0 = 47 := by simpa [u8_47] using h13
      refine SC.region ?_
      refine SL.val (OpV.move rfl) rfl ?_
      refine SL.val (OpV.move rfl) rfl ?_
      refine SL.val (OpV.move rfl) rfl ?_
      refine SL.val (OpV.ssliceH Tryz.underlying9 rfl rfl (by omega) (by omega)) rfl ?_
      refine SL.act (OpH.one Tryz.underlying52 zs9 rfl rfl) rfl ?_; rintro _ _ _ hM18 ⟨b18, rfl, rfl, rfl⟩; clear hM18
      refine SL.act (OpH.append 1 rfl Tryz.underlying52 Tryz.underlying52 rfl ti9 rfl (by decide) (by decide) rfl rfl (Src.blk 0 rfl rfl) (by simp [Value.oneCell']) (by simp; omega)) rfl ?_; rintro v19 _ _ hM19 ⟨rfl, rfl, hn19⟩; clear hM19
      refine SL.drop 0 rfl ?_
      refine SL.val (OpV.assign rfl) rfl ?_
      refine SL.nil ?_
      refine blockQ.nm ?_
      refine seqQ.nm ?_
      refine SC.region ?_
      refine SL.val (OpV.add rfl rfl (IntWalk.i64_in _ (by omega))) rfl ?_
      refine SL.val (OpV.move rfl) rfl ?_
      refine SL.nil ?_
      first
        | exact loopQ.nm (k + 1, v19) (by dsimp only; omega) ⟨rfl, rfl, rfl, rfl, trivial⟩ (by simp only [aboveTo, hc, if_true]; simp) ⟨by dsimp only; omega, rfl⟩
        | exact loopQ.nm (k + 1, v) (by dsimp only; omega) ⟨rfl, rfl, rfl, rfl, trivial⟩ (by simp only [aboveTo, hc, if_false]; simp) ⟨by dsimp only; omega, rfl⟩
    · skip
      have hc : ¬ l.getD k 0 = 47 := by simpa [u8_47] using h13
      refine SC.skip ?_
      refine blockQ.nm ?_
      refine seqQ.nm ?_
      refine SC.region ?_
      refine SL.val (OpV.add rfl rfl (IntWalk.i64_in _ (by omega))) rfl ?_
      refine SL.val (OpV.move rfl) rfl ?_
      refine SL.nil ?_
      first
        | exact loopQ.nm (k + 1, v19) (by dsimp only; omega) ⟨rfl, rfl, rfl, rfl, trivial⟩ (by simp only [aboveTo, hc, if_true]; simp) ⟨by dsimp only; omega, rfl⟩
        | exact loopQ.nm (k + 1, v) (by dsimp only; omega) ⟨rfl, rfl, rfl, rfl, trivial⟩ (by simp only [aboveTo, hc, if_false]; simp) ⟨by dsimp only; omega, rfl⟩
  · skip
    have hke : k = l.length := by omega
    refine SC.exit ?_
    refine seqQ.e ?_
    refine loopQ.e ?_
    refine blockQ.e ?_
    refine seqQ.nm ?_
    refine SC.seq ?_
    refine SC.region ?_
    refine SL.val (OpV.move rfl) rfl ?_
    refine SL.val (OpV.assign rfl) rfl ?_
    refine SL.nil ?_
    refine seqQ.nm ?_
    refine SC.ret ?_
    refine retQ.one rfl (.tmp rfl) ?_ _ (.inr rfl)
    exact ⟨by subst hke; rfl, rfl⟩
theorem above_ev (l : Bytes) (M : Mem) (hl : l.length ≤ 1099511627776) : Ev Tryz.prog 26 [str l].toArray [] M fun v L' M' => L' = [] ∧ Sl1 M' v (above l) :=
  Ev.fixRow (above_row l M hl) (by simp) (by decide)
end Go.Proofs.YtceabkfmjffnhaaGreatDoor
set_option linter.unusedVariables false
set_option linter.unusedSimpArgs false
namespace Go.Proofs.YtceabkfmjffnhaaGreatDoor
open Go Go.Eng

theorem bytes_lit (l : Bytes) : (str l) = .string ⟨l.toArray⟩ := rfl
theorem rclass_ev (p : Bytes) (M : Mem) (hp : p.length ≤ 274877906944) : Ev Tryz.prog 29 [str p].toArray [] M (Pu M (.tuple #[.int .i64 (classRef p).1, str (classRef p).2])) := by
  refine Ev.forget ?_
  refine Ev.enter Tryz.func29 rfl Tryz.ntmps29 rfl ?_
  have hsl := split_length p
  have hst := split_total p
  refine SC.seq ?_
  refine SC.region ?_
  refine SL.val (OpV.assign rfl) rfl ?_
  refine SL.val (OpV.assign rfl) rfl ?_
  refine SL.nil ?_
  refine seqQ.nm ?_
  refine SC.seq ?_
  refine SC.seq ?_
  refine SC.region ?_
  refine SL.val (OpV.move rfl) rfl ?_
  refine SL.val (OpV.seql rfl rfl) rfl ?_
  refine SL.nil ?_
  refine seqQ.nm ?_
  first | refine SC.ifp rfl (fun h11 => ?_) (fun h11 => ?_) | refine SC.ite rfl (fun h11 => ?_) (fun h11 => ?_)
  · skip
    replace h11 : p = tocName := h11
    refine SC.seq ?_
    refine SC.region ?_
    refine SL.val (OpV.assign rfl) rfl ?_
    refine SL.val (OpV.assign rfl) rfl ?_
    refine SL.nil ?_
    refine seqQ.nm ?_
    refine SC.ret ?_
    refine seqQ.r ?_
    refine retQ.two rfl (.tmp rfl) (.tmp rfl) ?_ _ (.inr rfl)
    exact ⟨by rw [classRef, if_pos h11]; rfl, rfl⟩
  · skip
    replace h11 : ¬ p = tocName := h11
    refine SC.skip ?_
    refine seqQ.nm ?_
    refine SC.seq ?_
    refine SC.region ?_
    refine SL.val (OpV.move rfl) rfl ?_
    refine SL.call ok55 rfl (L1 := []) (List.Perm.refl _) (rsplit_ev p M (by omega)) rfl ?_
    rintro v _ M1 hM1 ⟨rfl, hv⟩
    obtain ⟨ad, cap, rfl, hcap, hmax⟩ := hv.len
    refine SL.val (OpV.assign rfl) rfl ?_
    refine SL.nil ?_
    refine seqQ.nm ?_
    refine SC.seq ?_
    refine SC.seq ?_
    refine SC.region ?_
    refine SL.val (OpV.move rfl) rfl ?_
    refine SL.val (OpV.llen Tryz.underlying52 rfl) rfl ?_
    refine SL.val (OpV.eql rfl rfl) rfl ?_
    refine SL.nil ?_
    refine seqQ.nm ?_
    first | refine SC.ifp rfl (fun h16 => ?_) (fun h16 => ?_) | refine SC.ite rfl (fun h16 => ?_) (fun h16 => ?_)
    · skip
      have h0 : (split p).length = 0 := by omega
      have h1 : split p = [] := List.eq_nil_of_length_eq_zero h0
      refine SC.seq ?_
      refine SC.region ?_
      refine SL.val (OpV.assign rfl) rfl ?_
      refine SL.val (OpV.assign rfl) rfl ?_
      refine SL.nil ?_
      refine seqQ.nm ?_
      refine SC.ret ?_
      refine seqQ.r ?_
      refine retQ.two rfl (.tmp rfl) (.tmp rfl) ?_ _ (.inr rfl)
      exact ⟨by rw [classRef, if_neg h11, h1]; rfl, rfl⟩
    · skip
      have h0 : 0 < (split p).length := by omega
      obtain ⟨g, o, cap', he, hc, _⟩ := hv.at_ (by omega)
      cases he
      obtain ⟨b, hb⟩ := getElem?_lt (l := split p) (k := (split p).length - 1) (by omega)
      have hbl := split_part p b (List.mem_of_getElem? hb)
      have hn1 : ((((split p).length : Int) - 1)).toNat = (split p).length - 1 := by omega
      refine SC.skip ?_
      refine seqQ.nm ?_
      refine SC.seq ?_
      refine SC.region ?_
      refine SL.val (OpV.move rfl) rfl ?_
      refine SL.val (OpV.move rfl) rfl ?_
      refine SL.val (OpV.llen Tryz.underlying52 rfl) rfl ?_
      refine SL.val (OpV.sub rfl rfl (IntWalk.i64_in _ (by omega))) rfl ?_
      refine SL.val (OpV.indexAddr1 Tryz.underlying52 sz9 rfl rfl (by omega) (by omega)) rfl ?_
      refine SL.val (OpV.load _ Tryz.underlying9 rfl rfl (Kn.mem (by rw [hn1]; exact hc.at_ _ (v := str b) (by simp [hb])))) rfl ?_
      refine SL.val (OpV.assign rfl) rfl ?_
      refine SL.nil ?_
      refine seqQ.nm ?_
      refine SC.seq ?_
      refine SC.seq ?_
      refine SC.region ?_
      refine SL.val (OpV.assign rfl) rfl ?_
      refine SL.nil ?_
      refine seqQ.nm ?_
      refine SC.block ?_
      refine SC.loop (ι := Nat) (fun k M' => k ≤ (split p).length - 1 ∧ ((split p).take k).all mayName = true ∧ M1.le M') (fun k => [(0, str p), (4, .slice (some ⟨g, o, none⟩) (split p).length cap), (5, str b), (6, .int .i64 k)]) (fun _ => []) (fun k => (split p).length - k) 0 (G := []) ⟨rfl, rfl, rfl, rfl, trivial⟩ (List.Perm.refl _) ⟨Nat.zero_le _, rfl, Mem.le_refl _⟩ ?_
      rintro k M2 hM2 ⟨hk, hall, hM3⟩
      refine SC.seq ?_
      refine SC.seq ?_
      refine SC.region ?_
      refine SL.val (OpV.move rfl) rfl ?_
      refine SL.val (OpV.move rfl) rfl ?_
      refine SL.val (OpV.llen Tryz.underlying52 rfl) rfl ?_
      refine SL.val (OpV.sub rfl rfl (IntWalk.i64_in _ (by omega))) rfl ?_
      refine SL.val (OpV.lss rfl rfl) rfl ?_
      refine SL.nil ?_
      refine seqQ.nm ?_
      first | refine SC.ifp rfl (fun h27 => ?_) (fun h27 => ?_) | refine SC.ite rfl (fun h27 => ?_) (fun h27 => ?_)
      · skip
        have hlt : k < (split p).length - 1 := by omega
        obtain ⟨x, hx⟩ := getElem?_lt (l := split p) (k := k) (by omega)
        have hxl := split_part p x (List.mem_of_getElem? hx)
        have hstep := all_take_succ mayName (split p) k x hx
        refine SC.skip ?_
        refine seqQ.nm ?_
        refine SC.seq ?_
        refine SC.block ?_
        refine SC.seq ?_
        refine SC.region ?_
        refine SL.val (OpV.move rfl) rfl ?_
        refine SL.val (OpV.move rfl) rfl ?_
        refine SL.val (OpV.indexAddr1 Tryz.underlying52 sz9 rfl rfl (by omega) (by omega)) rfl ?_
        refine SL.val (OpV.load _ Tryz.underlying9 rfl rfl (Kn.mem ((hc.mono hM3).at_ k (v := str x) (by simp [hx])))) rfl ?_
        refine SL.call ok56 rfl (L1 := []) (List.Perm.refl _) (mayName_ev x _ (by omega)) rfl ?_
        rintro _ _ _ hM34 ⟨rfl, rfl, rfl⟩
        refine SL.val (OpV.not rfl) rfl ?_
        refine SL.nil ?_
        refine seqQ.nm ?_
        first | refine SC.ifp rfl (fun h35 => ?_) (fun h35 => ?_) | refine SC.ite rfl (fun h35 => ?_) (fun h35 => ?_)
        · skip
          have hbad : ((split p).take ((split p).length - 1)).all mayName = false := by
            rw [List.all_eq_false]
            refine ⟨x, ?_, by simpa using h35⟩
            have : ((split p).take ((split p).length - 1))[k]? = some x := by rw [List.getElem?_take, if_pos hlt]; exact hx
            exact List.mem_of_getElem? this
          refine SC.seq ?_
          refine SC.region ?_
          refine SL.val (OpV.assign rfl) rfl ?_
          refine SL.val (OpV.assign rfl) rfl ?_
          refine SL.nil ?_
          refine seqQ.nm ?_
          refine SC.ret ?_
          refine blockQ.r ?_
          refine seqQ.r ?_
          refine loopQ.r ?_
          refine blockQ.r ?_
          refine seqQ.r ?_
          refine retQ.two rfl (.tmp rfl) (.tmp rfl) ?_ _ (.inr rfl)
          exact ⟨by rw [classRef, if_neg h11, hb]; simp only [hbad]; rfl, rfl⟩
        · skip
          have hg : mayName x = true := by simpa using h35
          rw [hall, hg] at hstep
          refine SC.skip ?_
          refine blockQ.nm ?_
          refine seqQ.nm ?_
          refine SC.region ?_
          refine SL.val (OpV.move rfl) rfl ?_
          refine SL.val (OpV.add rfl rfl (IntWalk.i64_in _ (by omega))) rfl ?_
          refine SL.val (OpV.assign rfl) rfl ?_
          refine SL.nil ?_
          exact loopQ.nm (k + 1) (by omega) ⟨rfl, rfl, rfl, rfl, trivial⟩ (List.Perm.refl _) ⟨by omega, hstep, hM3⟩
      · skip
        have hke : k = (split p).length - 1 := by omega
        rw [hke] at hall
        have hpre := ISl.take (k := (split p).length - 1) (hv.mono hM3) (by omega)
        have hpl : ((split p).take ((split p).length - 1)).length = (split p).length - 1 := by rw [List.length_take]; omega
        have hpre' : Sl1 M2 (.slice (some ⟨g, o, none⟩) ((split p).length - 1) cap) ((split p).take ((split p).length - 1)) := by
          rw [← List.map_take, Nat.mul_one] at hpre
          rwa [Sl1, hpl]
        have hpre2 : Sl1 M2 (.slice (some ⟨g, o, none⟩) (((split p).length : Int) - 1).toNat cap) ((split p).take ((split p).length - 1)) := by rw [hn1]; exact hpre'
        have htt := total_take (split p) ((split p).length - 1)
        have hjl := joinGo_length ((split p).take ((split p).length - 1)) []
        rw [List.length_nil] at hjl
        generalize hdir : join ((split p).take ((split p).length - 1)) = dir
        have hdl : dir.length ≤ total ((split p).take ((split p).length - 1)) + ((split p).take ((split p).length - 1)).length := by rw [← hdir]; unfold join; omega
        have hcl : classRef p = if (classOf p dir b).1 = 0 || !mayPath (classOf p dir b).2 then (0, []) else classOf p dir b := by
          rw [classRef, if_neg h11, hb]
          simp only [hall, if_true, hdir]
        refine SC.exit ?_
        refine seqQ.e ?_
        refine loopQ.e ?_
        refine blockQ.e ?_
        refine seqQ.nm ?_
        refine SC.seq ?_
        refine SC.region ?_
        refine SL.val (OpV.move rfl) rfl ?_
        refine SL.val (OpV.move rfl) rfl ?_
        refine SL.val (OpV.llen Tryz.underlying52 rfl) rfl ?_
        refine SL.val (OpV.sub rfl rfl (IntWalk.i64_in _ (by omega))) rfl ?_
        refine SL.val (OpV.lsliceH Tryz.underlying52 sz9 rfl rfl (by omega) (by omega)) rfl ?_
        refine SL.call ok57 rfl (L1 := []) (List.Perm.refl _) (rjoin_ev _ _ _ hpre2 (by omega) (by omega)) rfl ?_
        rw [hdir]
        rintro _ _ _ hM41 ⟨rfl, rfl, rfl⟩
        refine SL.val (OpV.assign rfl) rfl ?_
        refine SL.nil ?_
        refine seqQ.nm ?_
        refine SC.seq ?_
        refine SC.region ?_
        refine SL.val (OpV.assign rfl) rfl ?_
        refine SL.nil ?_
        refine seqQ.nm ?_
        refine SC.seq ?_
        refine SC.region ?_
        refine SL.val (OpV.assign rfl) rfl ?_
        refine SL.nil ?_
        refine seqQ.nm ?_
        refine SC.seq ?_
        refine SC.seq ?_
        refine SC.region ?_
        refine SL.val (OpV.move rfl) rfl ?_
        refine SL.call ok56 rfl (L1 := []) (List.Perm.refl _) (mayName_ev b _ (by omega)) rfl ?_
        rintro _ _ _ hM43 ⟨rfl, rfl, rfl⟩
        refine SL.nil ?_
        refine seqQ.nm ?_
        first | refine SC.ifp rfl (fun h43 => ?_) (fun h43 => ?_) | refine SC.ite rfl (fun h43 => ?_) (fun h43 => ?_)
        · skip
          have hco : classOf p dir b = (1, p) := by rw [classOf, if_pos h43]
          refine SC.seq ?_
          refine SC.region ?_
          refine SL.val (OpV.assign rfl) rfl ?_
          refine SL.nil ?_
          refine seqQ.nm ?_
          refine SC.region ?_
          refine SL.val (OpV.move rfl) rfl ?_
          refine SL.val (OpV.assign rfl) rfl ?_
          refine SL.nil ?_
          refine seqQ.nm ?_
          refine SC.seq ?_
          refine SC.seq ?_
          refine SC.region ?_
          refine SL.val (OpV.move rfl) rfl ?_
          refine SL.val (OpV.eql rfl rfl) rfl ?_
          refine SL.val (OpV.move rfl) rfl ?_
          refine SL.orcut 4 (c := 62) (d := 66) rfl (fun h62 => ?_) ?_
          · skip
            refine SL.skip rfl rfl ?_
            refine SL.skip rfl rfl ?_
            refine SL.skip rfl rfl ?_
            refine SL.val (OpV.pickT rfl rfl) rfl ?_
            exact SL.nil ⟨rfl, rfl, (by repeat first | exact Env.le_refl _ | refine Env.le_new rfl ?_), [], List.Perm.refl _⟩
          apply Exists.intro
          refine And.intro (fun h62 => ?_) ?_
          · skip
            refine SL.gval rfl (OpV.move rfl) rfl ?_
            refine SL.gcall rfl ok59 rfl (L1 := []) (List.Perm.refl _) (rmay_ev _ _ (by first | omega | (unfold join; omega) | (simp; done))) rfl ?_
            rintro _ _ _ hM64 ⟨rfl, rfl, rfl⟩
            refine SL.gval rfl (OpV.not rfl) rfl ?_
            refine SL.val (OpV.pickF rfl rfl) rfl ?_
            exact SL.nil ⟨rfl, rfl, (by repeat first | exact Env.le_refl _ | refine Env.le_new rfl ?_), [], List.Perm.refl _⟩
          refine SL.nil ?_
          refine seqQ.nm ?_
          first | refine SC.ifp rfl (fun h66 => ?_) (fun h66 => ?_) | refine SC.ite rfl (fun h66 => ?_) (fun h66 => ?_)
          · skip
            refine SC.seq ?_
            refine SC.region ?_
            refine SL.val (OpV.assign rfl) rfl ?_
            refine SL.val (OpV.assign rfl) rfl ?_
            refine SL.nil ?_
            refine seqQ.nm ?_
            refine SC.ret ?_
            refine seqQ.r ?_
            refine retQ.two rfl (.tmp rfl) (.tmp rfl) ?_ _ (.inr rfl)
            refine ⟨?_, rfl⟩
            rw [hcl, hco, if_pos (by first | (simp; done) | (exfalso; simp at h66; done) | simpa using h66)]
            rfl
          · skip
            refine SC.skip ?_
            refine seqQ.nm ?_
            refine SC.seq ?_
            refine SC.region ?_
            refine SL.val (OpV.move rfl) rfl ?_
            refine SL.val (OpV.move rfl) rfl ?_
            refine SL.val (OpV.assign rfl) rfl ?_
            refine SL.val (OpV.assign rfl) rfl ?_
            refine SL.nil ?_
            refine seqQ.nm ?_
            refine SC.ret ?_
            refine retQ.two rfl (.tmp rfl) (.tmp rfl) ?_ _ (.inr rfl)
            refine ⟨?_, rfl⟩
            rw [hcl, hco, if_neg (by first | (simp; done) | (exfalso; simp at h66; done) | simpa using h66)]
            rfl
        · skip
          refine SC.seq ?_
          refine SC.region ?_
          refine SL.val (OpV.move rfl) rfl ?_
          refine SL.val (OpV.seql rfl rfl) rfl ?_
          refine SL.nil ?_
          refine seqQ.nm ?_
          first | refine SC.ifp rfl (fun h46 => ?_) (fun h46 => ?_) | refine SC.ite rfl (fun h46 => ?_) (fun h46 => ?_)
          · skip
            replace h46 : b = opq := h46
            have hco : classOf p dir b = (3, dir) := by rw [classOf, if_neg (by simp [h43]), if_pos h46]
            refine SC.seq ?_
            refine SC.region ?_
            refine SL.val (OpV.assign rfl) rfl ?_
            refine SL.nil ?_
            refine seqQ.nm ?_
            refine SC.region ?_
            refine SL.val (OpV.move rfl) rfl ?_
            refine SL.val (OpV.assign rfl) rfl ?_
            refine SL.nil ?_
            refine seqQ.nm ?_
            refine SC.seq ?_
            refine SC.seq ?_
            refine SC.region ?_
            refine SL.val (OpV.move rfl) rfl ?_
            refine SL.val (OpV.eql rfl rfl) rfl ?_
            refine SL.val (OpV.move rfl) rfl ?_
            refine SL.orcut 4 (c := 62) (d := 66) rfl (fun h62 => ?_) ?_
            · skip
              refine SL.skip rfl rfl ?_
              refine SL.skip rfl rfl ?_
              refine SL.skip rfl rfl ?_
              refine SL.val (OpV.pickT rfl rfl) rfl ?_
              exact SL.nil ⟨rfl, rfl, (by repeat first | exact Env.le_refl _ | refine Env.le_new rfl ?_), [], List.Perm.refl _⟩
            apply Exists.intro
            refine And.intro (fun h62 => ?_) ?_
            · skip
              refine SL.gval rfl (OpV.move rfl) rfl ?_
              refine SL.gcall rfl ok59 rfl (L1 := []) (List.Perm.refl _) (rmay_ev _ _ (by first | omega | (unfold join; omega) | (simp; done))) rfl ?_
              rintro _ _ _ hM64 ⟨rfl, rfl, rfl⟩
              refine SL.gval rfl (OpV.not rfl) rfl ?_
              refine SL.val (OpV.pickF rfl rfl) rfl ?_
              exact SL.nil ⟨rfl, rfl, (by repeat first | exact Env.le_refl _ | refine Env.le_new rfl ?_), [], List.Perm.refl _⟩
            refine SL.nil ?_
            refine seqQ.nm ?_
            first | refine SC.ifp rfl (fun h66 => ?_) (fun h66 => ?_) | refine SC.ite rfl (fun h66 => ?_) (fun h66 => ?_)
            · skip
              refine SC.seq ?_
              refine SC.region ?_
              refine SL.val (OpV.assign rfl) rfl ?_
              refine SL.val (OpV.assign rfl) rfl ?_
              refine SL.nil ?_
              refine seqQ.nm ?_
              refine SC.ret ?_
              refine seqQ.r ?_
              refine retQ.two rfl (.tmp rfl) (.tmp rfl) ?_ _ (.inr rfl)
              refine ⟨?_, rfl⟩
              rw [hcl, hco, if_pos (by first | (simp; done) | (exfalso; simp at h66; done) | simpa using h66)]
              rfl
            · skip
              refine SC.skip ?_
              refine seqQ.nm ?_
              refine SC.seq ?_
              refine SC.region ?_
              refine SL.val (OpV.move rfl) rfl ?_
              refine SL.val (OpV.move rfl) rfl ?_
              refine SL.val (OpV.assign rfl) rfl ?_
              refine SL.val (OpV.assign rfl) rfl ?_
              refine SL.nil ?_
              refine seqQ.nm ?_
              refine SC.ret ?_
              refine retQ.two rfl (.tmp rfl) (.tmp rfl) ?_ _ (.inr rfl)
              refine ⟨?_, rfl⟩
              rw [hcl, hco, if_neg (by first | (simp; done) | (exfalso; simp at h66; done) | simpa using h66)]
              rfl
          · skip
            replace h46 : ¬ b = opq := h46
            refine SC.seq ?_
            refine SC.region ?_
            refine SL.val (OpV.move rfl) rfl ?_
            refine SL.call ok58 rfl (L1 := []) (List.Perm.refl _) (begins_ev b white _) rfl ?_
            rintro _ _ _ hM49 ⟨rfl, rfl, rfl⟩
            refine SL.val (OpV.move rfl) rfl ?_
            refine SL.andcut 4 (c := 50) (d := 54) rfl (fun h50 => ?_) ?_
            · skip
              refine SL.skip rfl rfl ?_
              refine SL.skip rfl rfl ?_
              refine SL.skip rfl rfl ?_
              refine SL.val (OpV.pickF rfl rfl) rfl ?_
              exact SL.nil ⟨rfl, rfl, (by repeat first | exact Env.le_refl _ | refine Env.le_new rfl ?_), [], List.Perm.refl _⟩
            apply Exists.intro
            refine And.intro (fun h50 => ?_) ?_
            · skip
              have h4 : 4 ≤ b.length := by simp [begins, white] at h50; exact h50.1
              refine SL.gval rfl (OpV.move rfl) rfl ?_
              refine SL.gval rfl (OpV.ssliceL Tryz.underlying9 rfl rfl (by omega) (by omega)) rfl ?_
              refine SL.gcall rfl ok56 rfl (L1 := []) (List.Perm.refl _) (mayName_ev _ _ (by simp; omega)) rfl ?_
              rintro _ _ _ hM53 ⟨rfl, rfl, rfl⟩
              refine SL.val (OpV.pickT rfl rfl) rfl ?_
              exact SL.nil ⟨rfl, rfl, (by repeat first | exact Env.le_refl _ | refine Env.le_new rfl ?_), [], List.Perm.refl _⟩
            refine SL.nil ?_
            refine seqQ.nm ?_
            first | refine SC.ifp rfl (fun h54 => ?_) (fun h54 => ?_) | refine SC.ite rfl (fun h54 => ?_) (fun h54 => ?_)
            · skip
              have h4 : 4 ≤ b.length := by simp [begins, white] at h54; exact h54.1.1
              refine SC.seq ?_
              refine SC.region ?_
              refine SL.val (OpV.assign rfl) rfl ?_
              refine SL.nil ?_
              refine seqQ.nm ?_
              refine SC.region ?_
              refine SL.val (OpV.move rfl) rfl ?_
              refine SL.val (OpV.move rfl) rfl ?_
              refine SL.val (OpV.ssliceL Tryz.underlying9 rfl rfl (by omega) (by omega)) rfl ?_
              refine SL.act (OpH.buildSlice Tryz.underlying52 zs9 (by decide) rfl rfl rfl) rfl ?_; rintro _ _ _ hM58 ⟨b58, rfl, rfl, rfl⟩; clear hM58
              refine SL.fixBlk 0 rfl ?_
              intro M5 hM5 hcells
              refine SL.call ok57 rfl (L1 := []) (List.Perm.refl _) (rjoin_ev [dir, b.drop 4] _ _ (ISl.ofCells hcells rfl (by simp [maxLen])) (by simp [total]; omega) (by simp)) rfl ?_
              rintro _ _ _ hM59 ⟨rfl, rfl, rfl⟩
              have hco : classOf p dir b = (2, join [dir, b.drop 4]) := by
                rw [classOf, if_neg (by simp [h43]), if_neg h46, if_pos (by simpa using h54)]
              have hj2 := joinGo_length [dir, b.drop 4] []
              simp only [total, List.map_cons, List.map_nil, List.sum_cons, List.sum_nil, List.length_cons, List.length_nil, List.length_drop] at hj2
              refine SL.val (OpV.assign rfl) rfl ?_
              refine SL.nil ?_
              refine seqQ.nm ?_
              refine SC.seq ?_
              refine SC.seq ?_
              refine SC.region ?_
              refine SL.val (OpV.move rfl) rfl ?_
              refine SL.val (OpV.eql rfl rfl) rfl ?_
              refine SL.val (OpV.move rfl) rfl ?_
              refine SL.orcut 4 (c := 62) (d := 66) rfl (fun h62 => ?_) ?_
              · skip
                refine SL.skip rfl rfl ?_
                refine SL.skip rfl rfl ?_
                refine SL.skip rfl rfl ?_
                refine SL.val (OpV.pickT rfl rfl) rfl ?_
                exact SL.nil ⟨rfl, rfl, (by repeat first | exact Env.le_refl _ | refine Env.le_new rfl ?_), [], List.Perm.refl _⟩
              apply Exists.intro
              refine And.intro (fun h62 => ?_) ?_
              · skip
                refine SL.gval rfl (OpV.move rfl) rfl ?_
                refine SL.gcall rfl ok59 rfl (L1 := []) (List.Perm.refl _) (rmay_ev _ _ (by first | omega | (unfold join; omega) | (simp; done))) rfl ?_
                rintro _ _ _ hM64 ⟨rfl, rfl, rfl⟩
                refine SL.gval rfl (OpV.not rfl) rfl ?_
                refine SL.val (OpV.pickF rfl rfl) rfl ?_
                exact SL.nil ⟨rfl, rfl, (by repeat first | exact Env.le_refl _ | refine Env.le_new rfl ?_), [], List.Perm.refl _⟩
              refine SL.nil ?_
              refine seqQ.nm ?_
              first | refine SC.ifp rfl (fun h66 => ?_) (fun h66 => ?_) | refine SC.ite rfl (fun h66 => ?_) (fun h66 => ?_)
              · skip
                refine SC.seq ?_
                refine SC.region ?_
                refine SL.val (OpV.assign rfl) rfl ?_
                refine SL.val (OpV.assign rfl) rfl ?_
                refine SL.nil ?_
                refine seqQ.nm ?_
                refine SC.ret ?_
                refine seqQ.r ?_
                refine retQ.two rfl (.tmp rfl) (.tmp rfl) ?_ _ (.inr rfl)
                refine ⟨?_, rfl⟩
                rw [hcl, hco, if_pos (by first | (simp; done) | (exfalso; simp at h66; done) | simpa using h66)]
                rfl
              · skip
                refine SC.skip ?_
                refine seqQ.nm ?_
                refine SC.seq ?_
                refine SC.region ?_
                refine SL.val (OpV.move rfl) rfl ?_
                refine SL.val (OpV.move rfl) rfl ?_
                refine SL.val (OpV.assign rfl) rfl ?_
                refine SL.val (OpV.assign rfl) rfl ?_
                refine SL.nil ?_
                refine seqQ.nm ?_
                refine SC.ret ?_
                refine retQ.two rfl (.tmp rfl) (.tmp rfl) ?_ _ (.inr rfl)
                refine ⟨?_, rfl⟩
                rw [hcl, hco, if_neg (by first | (simp; done) | (exfalso; simp at h66; done) | simpa using h66)]
                rfl
            · skip
              have hco : classOf p dir b = (0, []) := by
                rw [classOf, if_neg (by simp [h43]), if_neg h46, if_neg]
                simpa using h54
              refine SC.skip ?_
              refine seqQ.nm ?_
              refine SC.seq ?_
              refine SC.seq ?_
              refine SC.region ?_
              refine SL.val (OpV.move rfl) rfl ?_
              refine SL.val (OpV.eql rfl rfl) rfl ?_
              refine SL.val (OpV.move rfl) rfl ?_
              refine SL.orcut 4 (c := 62) (d := 66) rfl (fun h62 => ?_) ?_
              · skip
                refine SL.skip rfl rfl ?_
                refine SL.skip rfl rfl ?_
                refine SL.skip rfl rfl ?_
                refine SL.val (OpV.pickT rfl rfl) rfl ?_
                exact SL.nil ⟨rfl, rfl, (by repeat first | exact Env.le_refl _ | refine Env.le_new rfl ?_), [], List.Perm.refl _⟩
              apply Exists.intro
              refine And.intro (fun h62 => ?_) ?_
              · skip
                refine SL.gval rfl (OpV.move rfl) rfl ?_
                refine SL.gcall rfl ok59 rfl (L1 := []) (List.Perm.refl _) (rmay_ev _ _ (by first | omega | (unfold join; omega) | (simp; done))) rfl ?_
                rintro _ _ _ hM64 ⟨rfl, rfl, rfl⟩
                refine SL.gval rfl (OpV.not rfl) rfl ?_
                refine SL.val (OpV.pickF rfl rfl) rfl ?_
                exact SL.nil ⟨rfl, rfl, (by repeat first | exact Env.le_refl _ | refine Env.le_new rfl ?_), [], List.Perm.refl _⟩
              refine SL.nil ?_
              refine seqQ.nm ?_
              first | refine SC.ifp rfl (fun h66 => ?_) (fun h66 => ?_) | refine SC.ite rfl (fun h66 => ?_) (fun h66 => ?_)
              · skip
                refine SC.seq ?_
                refine SC.region ?_
                refine SL.val (OpV.assign rfl) rfl ?_
                refine SL.val (OpV.assign rfl) rfl ?_
                refine SL.nil ?_
                refine seqQ.nm ?_
                refine SC.ret ?_
                refine seqQ.r ?_
                refine retQ.two rfl (.tmp rfl) (.tmp rfl) ?_ _ (.inr rfl)
                refine ⟨?_, rfl⟩
                rw [hcl, hco, if_pos (by first | (simp; done) | (exfalso; simp at h66; done) | simpa using h66)]
                rfl
              · skip
                refine SC.skip ?_
                refine seqQ.nm ?_
                refine SC.seq ?_
                refine SC.region ?_
                refine SL.val (OpV.move rfl) rfl ?_
                refine SL.val (OpV.move rfl) rfl ?_
                refine SL.val (OpV.assign rfl) rfl ?_
                refine SL.val (OpV.assign rfl) rfl ?_
                refine SL.nil ?_
                refine seqQ.nm ?_
                refine SC.ret ?_
                refine retQ.two rfl (.tmp rfl) (.tmp rfl) ?_ _ (.inr rfl)
                refine ⟨?_, rfl⟩
                rw [hcl, hco, if_neg (by first | (simp; done) | (exfalso; simp at h66; done) | simpa using h66)]
                rfl
end Go.Proofs.YtceabkfmjffnhaaGreatDoor
set_option linter.unusedVariables false
set_option linter.unusedSimpArgs false
namespace Go.Proofs.YtceabkfmjffnhaaGreatDoor
open Go Go.Eng

theorem indexRune_lo (l : Bytes) (r : Int) (M : Mem) (h0 : 0 ≤ r) (h1 : r < 128) : Ev Tryz.prog 83 [str l, .int .i32 r].toArray [] M (Pu M (.int .i64 (Lib.indexByte l r.toNat.toUInt8))) :=
  Ev.of_same (fun w => by simpa [bs] using Tryz.strings_IndexRune_ascii (bs l) r w h0 h1)
theorem indexByte_ev (l : Bytes) (c : UInt8) (M : Mem) : Ev Tryz.prog 69 [str l, .int .u8 c.toNat].toArray [] M (Pu M (.int .i64 (Lib.indexByte l c))) :=
  Ev.of_same (fun w => by simpa [bs] using Tryz.strings_IndexByte (bs l) c.toNat w)

theorem indexRune_hi (l : Bytes) (r : Int) (M : Mem) (h1 : 128 ≤ r) (hl : l.length ≤ 1099511627776) (hc : ∀ j, j < l.length → (l.getD j 0).toNat < 128) : Ev Tryz.prog 83 [str l, .int .i32 r].toArray [] M (Pu M (.int .i64 (-1))) := by
  refine Ev.enter Tryz.func83 rfl Tryz.ntmps83 rfl ?_
  obtain ⟨rs, hrs, hrs2, hrs4, hlast⟩ := encode_hi r h1
  refine SC.seq ?_
  refine SC.region ?_
  refine SL.val (OpV.assign rfl) rfl ?_
  refine SL.nil ?_
  refine seqQ.nm ?_
  refine SC.block ?_
  refine SC.seq ?_
  refine SC.region ?_
  refine SL.val (OpV.move rfl) rfl ?_
  refine SL.val (OpV.leq rfl rfl) rfl ?_
  refine SL.val (OpV.move rfl) rfl ?_
  refine SL.andcut 3 (c := 163) (d := 166) rfl (fun h163 => ?_) ?_
  · skip
    refine SL.skip rfl rfl ?_
    refine SL.skip rfl rfl ?_
    refine SL.val (OpV.pickF rfl rfl) rfl ?_
    exact SL.nil ⟨rfl, rfl, (by repeat first | exact Env.le_refl _ | refine Env.le_new rfl ?_), [], List.Perm.refl _⟩
  apply Exists.intro
  refine And.intro (fun h163 => ?_) ?_
  · skip
    refine SL.gval rfl (OpV.move rfl) rfl ?_
    refine SL.gval rfl (OpV.lss rfl rfl) rfl ?_
    refine SL.val (OpV.pickT rfl rfl) rfl ?_
    exact SL.nil ⟨rfl, rfl, (by repeat first | exact Env.le_refl _ | refine Env.le_new rfl ?_), [], List.Perm.refl _⟩
  refine SL.val (OpV.assign rfl) rfl ?_
  refine SL.nil ?_
  refine seqQ.nm ?_
  refine SC.ifF rfl (by simp; omega) ?_
  refine SC.seq ?_
  refine SC.region ?_
  refine SL.val (OpV.move rfl) rfl ?_
  refine SL.val (OpV.eql rfl rfl) rfl ?_
  refine SL.val (OpV.assign rfl) rfl ?_
  refine SL.nil ?_
  refine seqQ.nm ?_
  first | refine SC.ifp rfl (fun h171 => ?_) (fun h171 => ?_) | refine SC.ite rfl (fun h171 => ?_) (fun h171 => ?_)
  · skip
    refine SC.seq ?_
    refine SC.seq ?_
    refine SC.region ?_
    refine SL.val (OpV.move rfl) rfl ?_
    refine SL.act (OpH.rangeS Tryz.underlying9 rfl) rfl ?_; rintro _ _ _ hM175 ⟨b175, rfl, rfl, rfl⟩; clear hM175
    refine SL.nil ?_
    refine seqQ.nm ?_
    refine SC.block ?_
    refine SC.loop (ι := Nat) (fun k M' => k ≤ l.length ∧ M = M') (fun k => [(0, str l), (1, .int .i32 r), (175, .pointer (some ⟨b175, 0, none⟩))]) (fun k => [.obj b175 (.stringIter (bs l) k)]) (fun k => l.length + 1 - k) 0 (G := []) ⟨rfl, rfl, rfl, trivial⟩ (List.Perm.refl _) ⟨Nat.zero_le _, rfl⟩ ?_
    rintro k _ _ ⟨hk, rfl⟩
    refine SC.seq ?_
    refine SC.region ?_
    refine SL.act (OpH.nextS 0 rfl rfl) rfl ?_; rintro _ _ _ hM176 ⟨rfl, rfl, rfl⟩; clear hM176
    refine SL.val (OpV.extract rfl (nextV_0 _ _)) rfl ?_
    refine SL.nil ?_
    refine seqQ.nm ?_
    refine SC.seq ?_
    first | refine SC.ifp rfl (fun h177 => ?_) (fun h177 => ?_) | refine SC.ite rfl (fun h177 => ?_) (fun h177 => ?_)
    · skip
      have hd := decode_lo l k (hc k h177)
      have hlo := hc k h177
      refine SC.skip ?_
      refine seqQ.nm ?_
      refine SC.block ?_
      refine SC.seq ?_
      refine SC.region ?_
      refine SL.val (OpV.extract rfl (nextV_1 h177)) rfl ?_
      refine SL.val (OpV.extract rfl (nextV_2 h177)) rfl ?_
      refine SL.val (OpV.assign rfl) rfl ?_
      refine SL.val (OpV.assign rfl) rfl ?_
      refine SL.nil ?_
      refine seqQ.nm ?_
      refine SC.seq ?_
      refine SC.region ?_
      refine SL.val (OpV.move rfl) rfl ?_
      refine SL.val (OpV.eql rfl rfl) rfl ?_
      refine SL.nil ?_
      refine seqQ.nm ?_
      refine SC.ifF rfl (by rw [hd]; exact decide_eq_false (by simp only []; omega)) ?_
      refine SC.skip ?_
      refine blockQ.nm ?_
      exact loopQ.nm (k + 1) (by omega) ⟨rfl, rfl, rfl, trivial⟩ (by simp [nextPos, h177, hd]) ⟨by omega, rfl⟩
    · skip
      refine SC.drop 0 rfl ?_
      refine SC.exit ?_
      refine seqQ.e ?_
      refine loopQ.e ?_
      refine blockQ.e ?_
      refine seqQ.nm ?_
      refine SC.seq ?_
      refine SC.region ?_
      refine SL.val (OpV.assign rfl) rfl ?_
      refine SL.nil ?_
      refine seqQ.nm ?_
      refine SC.ret ?_
      refine blockQ.r ?_
      refine retQ.one rfl (.tmp rfl) ?_ _ (.inr rfl)
      exact ⟨rfl, rfl, rfl⟩
  · skip
    refine SC.seq ?_
    refine SC.region ?_
    refine SL.val (OpV.move rfl) rfl ?_
    refine SL.call ok92 rfl (L1 := []) (List.Perm.refl _) (Ev.of_same (fun w => Tryz.utf8_ValidRune r w)) rfl ?_
    rintro _ _ _ hM185 ⟨rfl, rfl, rfl⟩
    refine SL.val (OpV.not rfl) rfl ?_
    refine SL.val (OpV.assign rfl) rfl ?_
    refine SL.nil ?_
    refine seqQ.nm ?_
    first | refine SC.ifp rfl (fun h183 => ?_) (fun h183 => ?_) | refine SC.ite rfl (fun h183 => ?_) (fun h183 => ?_)
    · skip
      refine SC.seq ?_
      refine SC.region ?_
      refine SL.val (OpV.assign rfl) rfl ?_
      refine SL.nil ?_
      refine seqQ.nm ?_
      refine SC.ret ?_
      refine blockQ.r ?_
      refine retQ.one rfl (.tmp rfl) ?_ _ (.inr rfl)
      exact ⟨rfl, rfl, rfl⟩
    · skip
      refine SC.scope ?_
      refine SC.seq ?_
      refine SC.region ?_
      refine SL.val (OpV.move rfl) rfl ?_
      refine SL.val (show OpV _ _ _ _ _ (str rs) by have e : str rs = .string (Utf8.encode r) := congrArg Value.string hrs.symm; rw [e]; exact OpV.runeStr Tryz.underlying21 Tryz.underlying9 rfl) rfl ?_
      refine SL.val (OpV.assign rfl) rfl ?_
      refine SL.nil ?_
      refine seqQ.nm ?_
      refine SC.seq ?_
      refine SC.region ?_
      refine SL.val (OpV.move rfl) rfl ?_
      refine SL.val (OpV.slen Tryz.underlying9 rfl) rfl ?_
      refine SL.val (OpV.sub rfl rfl (IntWalk.i64_in _ (by omega))) rfl ?_
      refine SL.val (OpV.assign rfl) rfl ?_
      refine SL.nil ?_
      refine seqQ.nm ?_
      refine SC.seq ?_
      refine SC.region ?_
      refine SL.val (OpV.move rfl) rfl ?_
      refine SL.val (OpV.assign rfl) rfl ?_
      refine SL.nil ?_
      refine seqQ.nm ?_
      refine SC.seq ?_
      refine SC.region ?_
      refine SL.val (OpV.assign rfl) rfl ?_
      refine SL.nil ?_
      refine seqQ.nm ?_
      refine SC.seq ?_
      refine SC.block ?_
      refine SC.loop (ι := Unit) (fun _ M' => M = M') (fun _ => [(0, str l), (7, str rs), (8, .int .i64 ((rs.length : Int) - 1)), (9, .int .i64 ((rs.length : Int) - 1))]) (fun _ => []) (fun _ => 0) () (G := []) ⟨rfl, rfl, rfl, rfl, trivial⟩ (List.Perm.refl _) rfl ?_
      rintro _ _ _ rfl
      refine SC.seq ?_
      refine SC.seq ?_
      refine SC.region ?_
      refine SL.val (OpV.move rfl) rfl ?_
      refine SL.val (OpV.move rfl) rfl ?_
      refine SL.val (OpV.slen Tryz.underlying9 rfl) rfl ?_
      refine SL.val (OpV.lss rfl rfl) rfl ?_
      refine SL.nil ?_
      refine seqQ.nm ?_
      first | refine SC.ifp rfl (fun h26 => ?_) (fun h26 => ?_) | refine SC.ite rfl (fun h26 => ?_) (fun h26 => ?_)
      · skip
        have hn1 : ((rs.length : Int) - 1).toNat = rs.length - 1 := by omega
        have hlo := hc (rs.length - 1) (by omega)
        refine SC.skip ?_
        refine seqQ.nm ?_
        refine SC.block ?_
        refine SC.scope ?_
        refine SC.seq ?_
        refine SC.seq ?_
        refine SC.quiet mixed (by decide +kernel) ?_
        refine SQ.val (OpV.move rfl) rfl ?_
        refine SQ.val (OpV.move rfl) rfl ?_
        refine SQ.val (OpV.sindexG Tryz.underlying9 rfl rfl (by omega) (by omega)) rfl ?_
        refine SQ.val (OpV.move rfl) rfl ?_
        refine SQ.val (OpV.move rfl) rfl ?_
        refine SQ.val (OpV.sindexG Tryz.underlying9 rfl rfl (by omega) (by omega)) rfl ?_
        refine SQ.val (OpV.neq rfl rfl) rfl ?_
        refine SQ.nil ?_
        refine seqQ.nm ?_
        refine SC.ifT rfl (by
        simp only [hn1, decide_eq_true_eq]
        omega) ?_
        refine SC.seq ?_
        refine SC.quiet mixed (by decide +kernel) ?_
        refine SQ.val (OpV.move rfl) rfl ?_
        refine SQ.val (OpV.move rfl) rfl ?_
        refine SQ.val (OpV.add rfl rfl (IntWalk.i64_in _ (by omega))) rfl ?_
        refine SQ.val (OpV.ssliceL Tryz.underlying9 rfl rfl (by omega) (by omega)) rfl ?_
        refine SQ.val (OpV.move rfl) rfl ?_
        refine SQ.val (OpV.move rfl) rfl ?_
        refine SQ.val (OpV.sindexG Tryz.underlying9 rfl rfl (by omega) (by omega)) rfl ?_
        refine SQ.call ok69 rfl (indexByte_ev _ _ _) rfl ?_
        refine SQ.val (OpV.assign rfl) rfl ?_
        refine SQ.nil ?_
        refine seqQ.nm ?_
        refine SC.seq ?_
        refine SC.seq ?_
        refine SC.region ?_
        refine SL.val (OpV.move rfl) rfl ?_
        refine SL.val (OpV.lss rfl rfl) rfl ?_
        refine SL.nil ?_
        refine seqQ.nm ?_
        refine SC.ifT rfl (by
        have : Lib.indexByte (l.drop (((rs.length : Int) - 1 + 1)).toNat) (rs.getD ((rs.length : Int) - 1).toNat 0) = -1 := by
          refine indexByte_none ?_
          rw [hn1]
          cases hcc : (l.drop (((rs.length : Int) - 1 + 1)).toNat).contains (rs.getD (rs.length - 1) 0) with
          | false => rfl
          | true =>
            have hm := List.mem_of_mem_drop (List.contains_iff_mem.1 hcc)
            obtain ⟨j, hj, he⟩ := List.mem_iff_getElem.1 hm
            have := hc j hj
            rw [List.getD_eq_getElem?_getD, List.getElem?_eq_getElem hj, he] at this
            simp only [Option.getD_some] at this
            omega
        rw [this]; decide) ?_
        refine SC.seq ?_
        refine SC.region ?_
        refine SL.val (OpV.assign rfl) rfl ?_
        refine SL.nil ?_
        refine seqQ.nm ?_
        refine SC.ret ?_
        refine seqQ.r ?_
        refine seqQ.r ?_
        refine scopeQ.r ?_
        refine blockQ.r ?_
        refine loopQ.r ?_
        refine blockQ.r ?_
        refine seqQ.r ?_
        refine scopeQ.r ?_
        refine blockQ.r ?_
        refine retQ.one rfl (.tmp rfl) ?_ _ (.inr rfl)
        exact ⟨rfl, rfl, rfl⟩
      · skip
        refine SC.exit ?_
        refine seqQ.e ?_
        refine loopQ.e ?_
        refine blockQ.e ?_
        refine seqQ.nm ?_
        refine SC.seq ?_
        refine SC.seq ?_
        refine SC.region ?_
        refine SL.val (OpV.assign rfl) rfl ?_
        refine SL.nil ?_
        refine seqQ.nm ?_
        refine SC.ret ?_
        refine seqQ.r ?_
        refine scopeQ.r ?_
        refine blockQ.r ?_
        refine retQ.one rfl (.tmp rfl) ?_ _ (.inr rfl)
        exact ⟨rfl, rfl, rfl⟩

theorem shouldSet_ev (k : Int) (M : Mem) : Ev Tryz.prog 84 [.int .i64 k].toArray [] M (Pu M (.bool (decide (8 < k)))) := by
  refine Ev.enter Tryz.func84 rfl Tryz.ntmps84 rfl ?_
  refine SC.seq ?_
  refine SC.region ?_
  refine SL.val (OpV.assign rfl) rfl ?_
  refine SL.nil ?_
  refine seqQ.nm ?_
  refine SC.seq ?_
  refine SC.region ?_
  refine SL.val (OpV.move rfl) rfl ?_
  refine SL.val (OpV.gtr rfl rfl) rfl ?_
  refine SL.val (OpV.assign rfl) rfl ?_
  refine SL.nil ?_
  refine seqQ.nm ?_
  refine SC.ret ?_
  refine retQ.one rfl (.tmp rfl) ?_ _ (.inr rfl)
  exact ⟨rfl, rfl, rfl⟩

theorem mem_getD {l : Bytes} {c : UInt8} (h : c ∈ l) : ∃ j, j < l.length ∧ l.getD j 0 = c := by
  obtain ⟨j, hj, he⟩ := List.mem_iff_getElem.1 h
  exact ⟨j, hj, by rw [List.getD_eq_getElem?_getD, List.getElem?_eq_getElem hj]; exact he⟩
theorem getD_mem {l : Bytes} {j : Nat} (h : j < l.length) : l.getD j 0 ∈ l := by
  rw [List.getD_eq_getElem?_getD, List.getElem?_eq_getElem h]; exact List.getElem_mem h

/-- What IndexAny tells, of a text of at most 8 bytes. -/
theorem indexAny_short (s chars : Bytes) (M : Mem) (hs : s.length ≤ 8) (h2 : 2 ≤ chars.length) (hl : chars.length ≤ 1099511627776) (hc : ∀ c ∈ chars, c.toNat < 128) :
    Ev Tryz.prog 77 [str s, str chars].toArray [] M fun v L' M' => ∃ k : Int, v = .int .i64 k ∧ (0 ≤ k ↔ hasAny s chars = true) ∧ L' = [] ∧ M = M' := by
  refine Ev.enter Tryz.func77 rfl Tryz.ntmps77 rfl ?_
  have hcn : ¬ chars = [] := by intro e; rw [e] at h2; simp at h2
  refine SC.seq ?_
  refine SC.region ?_
  refine SL.val (OpV.assign rfl) rfl ?_
  refine SL.nil ?_
  refine seqQ.nm ?_
  refine SC.seq ?_
  refine SC.seq ?_
  refine SC.region ?_
  refine SL.val (OpV.move rfl) rfl ?_
  refine SL.val (OpV.seql rfl rfl) rfl ?_
  refine SL.nil ?_
  refine seqQ.nm ?_
  refine SC.ifF rfl (by simpa using hcn) ?_
  refine SC.skip ?_
  refine seqQ.nm ?_
  refine SC.seq ?_
  refine SC.seq ?_
  refine SC.region ?_
  refine SL.val (OpV.move rfl) rfl ?_
  refine SL.val (OpV.slen Tryz.underlying9 rfl) rfl ?_
  refine SL.val (OpV.eql rfl rfl) rfl ?_
  refine SL.nil ?_
  refine seqQ.nm ?_
  refine SC.ifF rfl (by simp; omega) ?_
  refine SC.skip ?_
  refine seqQ.nm ?_
  refine SC.seq ?_
  refine SC.seq ?_
  refine SC.region ?_
  refine SL.val (OpV.move rfl) rfl ?_
  refine SL.val (OpV.slen Tryz.underlying9 rfl) rfl ?_
  refine SL.call ok84 rfl (L1 := []) (List.Perm.refl _) (shouldSet_ev _ _) rfl ?_
  rintro _ _ _ hM26 ⟨rfl, rfl, rfl⟩
  refine SL.nil ?_
  refine seqQ.nm ?_
  refine SC.ifF rfl (by simp; omega) ?_
  refine SC.skip ?_
  refine seqQ.nm ?_
  refine SC.seq ?_
  refine SC.seq ?_
  refine SC.region ?_
  refine SL.val (OpV.move rfl) rfl ?_
  refine SL.act (OpH.rangeS Tryz.underlying9 rfl) rfl ?_; rintro _ _ _ hM45 ⟨b45, rfl, rfl, rfl⟩; clear hM45
  refine SL.nil ?_
  refine seqQ.nm ?_
  refine SC.block ?_
  refine SC.loop (ι := Nat) (fun k M' => k ≤ s.length ∧ M = M' ∧ ∀ j, j < k → chars.contains (s.getD j 0) = false) (fun k => [(0, str s), (1, str chars), (45, .pointer (some ⟨b45, 0, none⟩))]) (fun k => [.obj b45 (.stringIter (bs s) k)]) (fun k => s.length + 1 - k) 0 (G := []) ⟨rfl, rfl, rfl, trivial⟩ (List.Perm.refl _) ⟨Nat.zero_le _, rfl, fun j hj => by omega⟩ ?_
  rintro k _ _ ⟨hk, rfl, hno⟩
  refine SC.seq ?_
  refine SC.region ?_
  refine SL.act (OpH.nextS 0 rfl rfl) rfl ?_; rintro _ _ _ hM46 ⟨rfl, rfl, rfl⟩; clear hM46
  refine SL.val (OpV.extract rfl (nextV_0 _ _)) rfl ?_
  refine SL.nil ?_
  refine seqQ.nm ?_
  refine SC.seq ?_
  first | refine SC.ifp rfl (fun h47 => ?_) (fun h47 => ?_) | refine SC.ite rfl (fun h47 => ?_) (fun h47 => ?_)
  · skip
    have hex : ∃ (c : Int) (w : Nat) (r : Int), Utf8.decode (bs s) k = (c.toNat, w) ∧ 0 ≤ c ∧ 1 ≤ w ∧ k + w ≤ s.length ∧ -1 ≤ r ∧ (∀ M, Ev Tryz.prog 83 [str chars, .int .i32 c].toArray [] M (Pu M (.int .i64 r))) ∧ (0 ≤ r → chars.contains (s.getD k 0) = true) ∧ (r < 0 → ∀ j, k ≤ j → j < k + w → chars.contains (s.getD j 0) = false) := by
      by_cases hlo : (s.getD k 0).toNat < 128
      · refine ⟨((s.getD k 0).toNat : Int), 1, Lib.indexByte chars (s.getD k 0), decode_lo s k hlo, by omega, by omega, by omega, Lib.indexByte_ge _ _, fun M => ?_, fun h => (indexByte_iff _ _).1 h, ?_⟩
        · have := indexRune_lo chars ((s.getD k 0).toNat : Int) M (by omega) (by omega)
          simpa using this
        · intro hr j h1 h2
          obtain rfl : j = k := by omega
          cases hcc : chars.contains (s.getD j 0) with
          | false => rfl
          | true => have := (indexByte_iff _ _).2 hcc; omega
      · obtain ⟨c, w, hd, hc1, hc2, hw, hkw, hall⟩ := decode_hi s k h47 (by omega)
        refine ⟨c, w, -1, hd, by omega, hw, hkw, by omega, fun M => indexRune_hi chars c M (by omega) hl fun j hj => hc _ (getD_mem hj), fun h => by omega, ?_⟩
        intro _ j h1 h2
        cases hcc : chars.contains (s.getD j 0) with
        | false => rfl
        | true =>
          have h3 := hc _ (List.contains_iff_mem.1 hcc)
          have h4 := hall j h1 h2
          omega
    obtain ⟨c, w, r, hd, hc0, hw1, hkw, hr1, hev, hyes, hnot⟩ := hex
    have hnp : nextPos s k = k + w := by rw [nextPos, if_pos h47, hd]
    have hdc : ((Utf8.decode (bs s) k).1 : Int) = c := by rw [hd]; simp only []; omega
    refine SC.skip ?_
    refine seqQ.nm ?_
    refine SC.block ?_
    refine SC.seq ?_
    refine SC.region ?_
    refine SL.val (OpV.extract rfl (nextV_1 h47)) rfl ?_
    refine SL.val (OpV.extract rfl (hdc ▸ nextV_2 h47)) rfl ?_
    refine SL.val (OpV.assign rfl) rfl ?_
    refine SL.val (OpV.assign rfl) rfl ?_
    refine SL.nil ?_
    refine seqQ.nm ?_
    refine SC.seq ?_
    refine SC.region ?_
    refine SL.val (OpV.move rfl) rfl ?_
    refine SL.val (OpV.move rfl) rfl ?_
    refine SL.call ok83 rfl (L1 := []) (List.Perm.refl _) (hev _) rfl ?_
    rintro _ _ _ hM52 ⟨rfl, rfl, rfl⟩
    refine SL.val (OpV.geq rfl rfl) rfl ?_
    refine SL.nil ?_
    refine seqQ.nm ?_
    first | refine SC.ifp rfl (fun h53 => ?_) (fun h53 => ?_) | refine SC.ite rfl (fun h53 => ?_) (fun h53 => ?_)
    · skip
      refine SC.drop 0 rfl ?_
      refine SC.seq ?_
      refine SC.region ?_
      refine SL.val (OpV.move rfl) rfl ?_
      refine SL.val (OpV.assign rfl) rfl ?_
      refine SL.nil ?_
      refine seqQ.nm ?_
      refine SC.ret ?_
      refine blockQ.r ?_
      refine loopQ.r ?_
      refine blockQ.r ?_
      refine seqQ.r ?_
      refine retQ.one rfl (.tmp rfl) ?_ _ (.inr rfl)
      refine ⟨_, rfl, ⟨fun _ => ?_, fun _ => by omega⟩, rfl, rfl⟩
      exact List.any_eq_true.2 ⟨_, getD_mem h47, hyes h53⟩
    · skip
      refine SC.skip ?_
      refine blockQ.nm ?_
      refine loopQ.nm (k + w) (by omega) ⟨rfl, rfl, rfl, trivial⟩ (by simp [hnp]) ⟨hkw, rfl, ?_⟩
      intro j hj
      rcases Nat.lt_or_ge j k with h | h
      · exact hno j h
      · exact hnot (by omega) j h hj
  · skip
    refine SC.drop 0 rfl ?_
    refine SC.exit ?_
    refine seqQ.e ?_
    refine loopQ.e ?_
    refine blockQ.e ?_
    refine seqQ.nm ?_
    refine SC.seq ?_
    refine SC.region ?_
    refine SL.val (OpV.assign rfl) rfl ?_
    refine SL.nil ?_
    refine seqQ.nm ?_
    refine SC.ret ?_
    refine retQ.one rfl (.tmp rfl) ?_ _ (.inr rfl)
    refine ⟨_, rfl, ⟨fun h => by omega, fun h => ?_⟩, rfl, rfl⟩
    obtain ⟨x, hx, hcx⟩ := List.any_eq_true.1 h
    obtain ⟨j, hj, rfl⟩ := mem_getD hx
    rw [hno j (by omega)] at hcx
    cases hcx

theorem indexAny_long (s chars : Bytes) (M : Mem) (h8 : 8 < s.length) (hs : s.length < 4294967281) (h2 : 2 ≤ chars.length) (hl : chars.length < 4294967281) (hc : ∀ c ∈ chars, c.toNat < 128) :
    Ev Tryz.prog 77 [str s, str chars].toArray [] M (Pu M (.int .i64 (Lib.indexAny s chars))) := by
  refine Ev.of_keep fun w => ?_
  have h := Tryz.strings_IndexAny_long (fun w => by kernel_rfl) (bs s) (bs chars) w (by rw [bs_size]; exact h2) (by rw [bs_size]; exact h8) (by rw [bs_size]; exact hs) (by rw [bs_size]; exact hl) (fun j b hb => hc b (List.mem_of_getElem? hb))
  refine h.mono ?_
  rintro e w' ⟨rfl, rfl⟩
  refine ⟨rfl, ⟨rfl, rfl, rfl⟩, by show w.heap.size ≤ ((w.heap.push _).push _).size; simp; omega, fun b hb => ?_⟩
  show ((w.heap.push _).push _)[b]? = _
  rw [Array.getElem?_push, if_neg (by simp; omega), Array.getElem?_push, if_neg (by omega)]

theorem containsAny_ev (s chars : Bytes) (M : Mem) (hs : s.length < 4294967281) (h2 : 2 ≤ chars.length) (hl : chars.length < 4294967281) (hc : ∀ c ∈ chars, c.toNat < 128) :
    Ev Tryz.prog 68 [str s, str chars].toArray [] M (Pu M (.bool (hasAny s chars))) := by
  have hany : Ev Tryz.prog 77 [str s, str chars].toArray [] M fun v L' M' => ∃ k : Int, v = .int .i64 k ∧ (0 ≤ k ↔ hasAny s chars = true) ∧ L' = [] ∧ M = M' := by
    by_cases h8 : s.length ≤ 8
    · exact indexAny_short s chars M h8 h2 (by omega) hc
    · exact (indexAny_long s chars M (by omega) hs h2 hl hc).mono fun v L' M' _ ⟨h1, h3, h4⟩ => ⟨_, h1, indexAny_iff s chars, h3, h4⟩
  refine Ev.enter Tryz.func68 rfl Tryz.ntmps68 rfl ?_
  refine SC.seq ?_
  refine SC.region ?_
  refine SL.val (OpV.assign rfl) rfl ?_
  refine SL.nil ?_
  refine seqQ.nm ?_
  refine SC.seq ?_
  refine SC.region ?_
  refine SL.val (OpV.move rfl) rfl ?_
  refine SL.val (OpV.move rfl) rfl ?_
  refine SL.call ok77 rfl (L1 := []) (List.Perm.refl _) hany rfl ?_
  rintro _ _ _ hM7 ⟨k, rfl, hk, rfl, rfl⟩
  refine SL.val (OpV.geq rfl rfl) rfl ?_
  refine SL.val (OpV.assign rfl) rfl ?_
  refine SL.nil ?_
  refine seqQ.nm ?_
  refine SC.ret ?_
  refine retQ.one rfl (.tmp rfl) ?_ _ (.inr rfl)
  refine ⟨?_, rfl, rfl⟩
  by_cases h : 0 ≤ k
  · rw [hk.1 h, decide_eq_true h]
  · have : hasAny s chars = false := by
      cases hh : hasAny s chars with
      | false => rfl
      | true => exact absurd (hk.2 hh) h
    rw [this, decide_eq_false h]
end Go.Proofs.YtceabkfmjffnhaaGreatDoor
set_option linter.unusedVariables false
set_option linter.unusedSimpArgs false
namespace Go.Proofs.YtceabkfmjffnhaaGreatDoor
open Go Go.Eng

theorem hasPrefix0_ev (s w : Bytes) (M : Mem) : Ev Tryz.prog 74 [str s, str w].toArray [] M (Pu M (.bool (begins s w))) := by
  refine Ev.enter Tryz.func74 rfl Tryz.ntmps74 rfl ?_
  refine SC.seq ?_
  refine SC.region ?_
  refine SL.val (OpV.assign rfl) rfl ?_
  refine SL.nil ?_
  refine seqQ.nm ?_
  refine SC.seq ?_
  refine SC.region ?_
  refine SL.val (OpV.move rfl) rfl ?_
  refine SL.val (OpV.slen Tryz.underlying9 rfl) rfl ?_
  refine SL.val (OpV.move rfl) rfl ?_
  refine SL.val (OpV.slen Tryz.underlying9 rfl) rfl ?_
  refine SL.val (OpV.geq rfl rfl) rfl ?_
  refine SL.val (OpV.move rfl) rfl ?_
  refine SL.andcut 7 (c := 10) (d := 17) rfl (fun hle => ?_) ?_
  · skip
    refine SL.skip rfl rfl ?_
    refine SL.skip rfl rfl ?_
    refine SL.skip rfl rfl ?_
    refine SL.skip rfl rfl ?_
    refine SL.skip rfl rfl ?_
    refine SL.skip rfl rfl ?_
    refine SL.val (OpV.pickF rfl rfl) rfl ?_
    exact SL.nil ⟨rfl, rfl, (by repeat first | exact Env.le_refl _ | refine Env.le_new rfl ?_), [], List.Perm.refl _⟩
  apply Exists.intro
  refine And.intro (fun hle => ?_) ?_
  · skip
    have hle' : w.length ≤ s.length := by simpa using hle
    refine SL.gval rfl (OpV.move rfl) rfl ?_
    refine SL.gval rfl (OpV.move rfl) rfl ?_
    refine SL.gval rfl (OpV.slen Tryz.underlying9 rfl) rfl ?_
    refine SL.gval rfl (OpV.ssliceH Tryz.underlying9 rfl rfl (by omega) (by omega)) rfl ?_
    refine SL.gval rfl (OpV.move rfl) rfl ?_
    refine SL.gval rfl (OpV.seql rfl rfl) rfl ?_
    refine SL.val (OpV.pickT rfl rfl) rfl ?_
    exact SL.nil ⟨rfl, rfl, (by repeat first | exact Env.le_refl _ | refine Env.le_new rfl ?_), [], List.Perm.refl _⟩
  refine SL.val (OpV.assign rfl) rfl ?_
  refine SL.nil ?_
  refine seqQ.nm ?_
  refine SC.ret ?_
  refine retQ.one rfl (.tmp rfl) ?_ _ (.inr rfl)
  exact ⟨by simp [begins], rfl, rfl⟩
theorem hasPrefix_ev (s w : Bytes) (M : Mem) : Ev Tryz.prog 64 [str s, str w].toArray [] M (Pu M (.bool (begins s w))) := by
  refine Ev.enter Tryz.func64 rfl Tryz.ntmps64 rfl ?_
  refine SC.seq ?_
  refine SC.region ?_
  refine SL.val (OpV.assign rfl) rfl ?_
  refine SL.nil ?_
  refine seqQ.nm ?_
  refine SC.seq ?_
  refine SC.region ?_
  refine SL.val (OpV.move rfl) rfl ?_
  refine SL.val (OpV.move rfl) rfl ?_
  refine SL.call ok74 rfl (L1 := []) (List.Perm.refl _) (hasPrefix0_ev s w _) rfl ?_
  rintro _ _ _ hM7 ⟨rfl, rfl, rfl⟩
  refine SL.val (OpV.assign rfl) rfl ?_
  refine SL.nil ?_
  refine seqQ.nm ?_
  refine SC.ret ?_
  refine retQ.one rfl (.tmp rfl) ?_ _ (.inr rfl)
  exact ⟨rfl, rfl, rfl⟩
theorem hasSuffix0_ev (s w : Bytes) (M : Mem) (hs : s.length ≤ 1099511627776) : Ev Tryz.prog 75 [str s, str w].toArray [] M (Pu M (.bool (tailIs s w))) := by
  refine Ev.enter Tryz.func75 rfl Tryz.ntmps75 rfl ?_
  refine SC.seq ?_
  refine SC.region ?_
  refine SL.val (OpV.assign rfl) rfl ?_
  refine SL.nil ?_
  refine seqQ.nm ?_
  refine SC.seq ?_
  refine SC.region ?_
  refine SL.val (OpV.move rfl) rfl ?_
  refine SL.val (OpV.slen Tryz.underlying9 rfl) rfl ?_
  refine SL.val (OpV.move rfl) rfl ?_
  refine SL.val (OpV.slen Tryz.underlying9 rfl) rfl ?_
  refine SL.val (OpV.geq rfl rfl) rfl ?_
  refine SL.val (OpV.move rfl) rfl ?_
  refine SL.andcut 10 (c := 10) (d := 20) rfl (fun hle => ?_) ?_
  · skip
    refine SL.skip rfl rfl ?_
    refine SL.skip rfl rfl ?_
    refine SL.skip rfl rfl ?_
    refine SL.skip rfl rfl ?_
    refine SL.skip rfl rfl ?_
    refine SL.skip rfl rfl ?_
    refine SL.skip rfl rfl ?_
    refine SL.skip rfl rfl ?_
    refine SL.skip rfl rfl ?_
    refine SL.val (OpV.pickF rfl rfl) rfl ?_
    exact SL.nil ⟨rfl, rfl, (by repeat first | exact Env.le_refl _ | refine Env.le_new rfl ?_), [], List.Perm.refl _⟩
  apply Exists.intro
  refine And.intro (fun hle => ?_) ?_
  · skip
    have hle' : w.length ≤ s.length := by simpa using hle
    refine SL.gval rfl (OpV.move rfl) rfl ?_
    refine SL.gval rfl (OpV.move rfl) rfl ?_
    refine SL.gval rfl (OpV.slen Tryz.underlying9 rfl) rfl ?_
    refine SL.gval rfl (OpV.move rfl) rfl ?_
    refine SL.gval rfl (OpV.slen Tryz.underlying9 rfl) rfl ?_
    refine SL.gval rfl (OpV.sub rfl rfl (IntWalk.i64_in _ (by omega))) rfl ?_
    refine SL.gval rfl (OpV.ssliceL Tryz.underlying9 rfl rfl (by omega) (by omega)) rfl ?_
    refine SL.gval rfl (OpV.move rfl) rfl ?_
    refine SL.gval rfl (OpV.seql rfl rfl) rfl ?_
    refine SL.val (OpV.pickT rfl rfl) rfl ?_
    exact SL.nil ⟨rfl, rfl, (by repeat first | exact Env.le_refl _ | refine Env.le_new rfl ?_), [], List.Perm.refl _⟩
  refine SL.val (OpV.assign rfl) rfl ?_
  refine SL.nil ?_
  refine seqQ.nm ?_
  refine SC.ret ?_
  refine retQ.one rfl (.tmp rfl) ?_ _ (.inr rfl)
  refine ⟨?_, rfl, rfl⟩
  have e : ((s.length : Int) - (w.length : Int)).toNat = s.length - w.length := by omega
  simp [tailIs, e]
theorem trimSuffix0_ev (s w : Bytes) (M : Mem) (hs : s.length ≤ 1099511627776) : Ev Tryz.prog 65 [str s, str w].toArray [] M (Pu M (str (cutOff s w))) := by
  refine Ev.enter Tryz.func65 rfl Tryz.ntmps65 rfl ?_
  refine SC.seq ?_
  refine SC.region ?_
  refine SL.val (OpV.assign rfl) rfl ?_
  refine SL.nil ?_
  refine seqQ.nm ?_
  refine SC.seq ?_
  refine SC.seq ?_
  refine SC.region ?_
  refine SL.val (OpV.move rfl) rfl ?_
  refine SL.val (OpV.move rfl) rfl ?_
  refine SL.call ok75 rfl (L1 := []) (List.Perm.refl _) (hasSuffix0_ev s w _ hs) rfl ?_
  rintro _ _ _ hM7 ⟨rfl, rfl, rfl⟩
  refine SL.nil ?_
  refine seqQ.nm ?_
  first | refine SC.ifp rfl (fun h7 => ?_) (fun h7 => ?_) | refine SC.ite rfl (fun h7 => ?_) (fun h7 => ?_)
  · skip
    have hle : w.length ≤ s.length := by simp [tailIs] at h7; exact h7.1
    have e : ((s.length : Int) - (w.length : Int)).toNat = s.length - w.length := by omega
    refine SC.seq ?_
    refine SC.region ?_
    refine SL.val (OpV.move rfl) rfl ?_
    refine SL.val (OpV.move rfl) rfl ?_
    refine SL.val (OpV.slen Tryz.underlying9 rfl) rfl ?_
    refine SL.val (OpV.move rfl) rfl ?_
    refine SL.val (OpV.slen Tryz.underlying9 rfl) rfl ?_
    refine SL.val (OpV.sub rfl rfl (IntWalk.i64_in _ (by omega))) rfl ?_
    refine SL.val (OpV.ssliceH Tryz.underlying9 rfl rfl (by omega) (by omega)) rfl ?_
    refine SL.val (OpV.assign rfl) rfl ?_
    refine SL.nil ?_
    refine seqQ.nm ?_
    refine SC.ret ?_
    refine seqQ.r ?_
    refine retQ.one rfl (.tmp rfl) ?_ _ (.inr rfl)
    exact ⟨by rw [e, cutOff, if_pos h7], rfl, rfl⟩
  · skip
    refine SC.skip ?_
    refine seqQ.nm ?_
    refine SC.seq ?_
    refine SC.region ?_
    refine SL.val (OpV.move rfl) rfl ?_
    refine SL.val (OpV.assign rfl) rfl ?_
    refine SL.nil ?_
    refine seqQ.nm ?_
    refine SC.ret ?_
    refine retQ.one rfl (.tmp rfl) ?_ _ (.inr rfl)
    exact ⟨by rw [cutOff, if_neg (by simpa using h7)], rfl, rfl⟩
theorem trimSuffix_ev (s w : Bytes) (M : Mem) (hs : s.length ≤ 1099511627776) : Ev Tryz.prog 45 [str s, str w].toArray [] M (Pu M (str (cutOff s w))) := by
  refine Ev.enter Tryz.func45 rfl Tryz.ntmps45 rfl ?_
  refine SC.seq ?_
  refine SC.region ?_
  refine SL.val (OpV.assign rfl) rfl ?_
  refine SL.nil ?_
  refine seqQ.nm ?_
  refine SC.seq ?_
  refine SC.region ?_
  refine SL.val (OpV.move rfl) rfl ?_
  refine SL.val (OpV.move rfl) rfl ?_
  refine SL.call ok65 rfl (L1 := []) (List.Perm.refl _) (trimSuffix0_ev s w _ hs) rfl ?_
  rintro _ _ _ hM7 ⟨rfl, rfl, rfl⟩
  refine SL.val (OpV.assign rfl) rfl ?_
  refine SL.nil ?_
  refine seqQ.nm ?_
  refine SC.ret ?_
  refine retQ.one rfl (.tmp rfl) ?_ _ (.inr rfl)
  exact ⟨rfl, rfl, rfl⟩
theorem lastIndex0_ev (s : Bytes) (M : Mem) (hs : s.length ≤ 1099511627776) : Ev Tryz.prog 73 [str s, .int .u8 47].toArray [] M (Pu M (.int .i64 (cut s))) := by
  refine Ev.enter Tryz.func73 rfl Tryz.ntmps73 rfl ?_
  refine SC.seq ?_
  refine SC.region ?_
  refine SL.val (OpV.assign rfl) rfl ?_
  refine SL.nil ?_
  refine seqQ.nm ?_
  refine SC.seq ?_
  refine SC.seq ?_
  refine SC.region ?_
  refine SL.val (OpV.move rfl) rfl ?_
  refine SL.val (OpV.slen Tryz.underlying9 rfl) rfl ?_
  refine SL.val (OpV.sub rfl rfl (IntWalk.i64_in _ (by omega))) rfl ?_
  refine SL.val (OpV.assign rfl) rfl ?_
  refine SL.nil ?_
  refine seqQ.nm ?_
  refine SC.block ?_
  refine SC.loop (ι := Nat) (fun k M' => k ≤ s.length ∧ cutGo (-1) 0 (s.take k) = cut s ∧ M = M') (fun k => [(0, str s), (1, .int .u8 47), (5, .int .i64 ((k : Int) - 1))]) (fun _ => []) (fun k => k) s.length (G := []) ⟨rfl, rfl, rfl, trivial⟩ (List.Perm.refl _) ⟨Nat.le_refl _, by rw [List.take_length]; rfl, rfl⟩ ?_
  rintro k _ _ ⟨hk, hcut, rfl⟩
  refine SC.seq ?_
  refine SC.seq ?_
  refine SC.region ?_
  refine SL.val (OpV.move rfl) rfl ?_
  refine SL.val (OpV.geq rfl rfl) rfl ?_
  refine SL.nil ?_
  refine seqQ.nm ?_
  first | refine SC.ifp rfl (fun h10 => ?_) (fun h10 => ?_) | refine SC.ite rfl (fun h10 => ?_) (fun h10 => ?_)
  · skip
    have hst := cutGo_take s (k - 1) (-1) 0 (by omega)
    rw [show k - 1 + 1 = k by omega, hcut, Nat.zero_add] at hst
    have hn1 : ((k : Int) - 1).toNat = k - 1 := by omega
    refine SC.skip ?_
    refine seqQ.nm ?_
    refine SC.seq ?_
    refine SC.block ?_
    refine SC.seq ?_
    refine SC.region ?_
    refine SL.val (OpV.move rfl) rfl ?_
    refine SL.val (OpV.move rfl) rfl ?_
    refine SL.val (OpV.sindexG Tryz.underlying9 rfl rfl (by omega) (by omega)) rfl ?_
    refine SL.val (OpV.move rfl) rfl ?_
    refine SL.val (OpV.eql rfl rfl) rfl ?_
    refine SL.nil ?_
    refine seqQ.nm ?_
    first | refine SC.ifp rfl (fun h17 => ?_) (fun h17 => ?_) | refine SC.ite rfl (fun h17 => ?_) (fun h17 => ?_)
    · skip
      have hc : s.getD (k - 1) 0 = 47 := by rw [hn1] at h17; simpa [u8_47] using h17
      rw [if_pos hc] at hst
      refine SC.seq ?_
      refine SC.region ?_
      refine SL.val (OpV.move rfl) rfl ?_
      refine SL.val (OpV.assign rfl) rfl ?_
      refine SL.nil ?_
      refine seqQ.nm ?_
      refine SC.ret ?_
      refine blockQ.r ?_
      refine seqQ.r ?_
      refine loopQ.r ?_
      refine blockQ.r ?_
      refine seqQ.r ?_
      refine retQ.one rfl (.tmp rfl) ?_ _ (.inr rfl)
      exact ⟨by rw [hst]; congr 1; omega, rfl, rfl⟩
    · skip
      have hc : ¬ s.getD (k - 1) 0 = 47 := by rw [hn1] at h17; simpa [u8_47] using h17
      rw [if_neg hc] at hst
      refine SC.skip ?_
      refine blockQ.nm ?_
      refine seqQ.nm ?_
      refine SC.region ?_
      refine SL.val (OpV.move rfl) rfl ?_
      refine SL.val (OpV.sub rfl rfl (IntWalk.i64_in _ (by omega))) rfl ?_
      refine SL.val (OpV.assign rfl) rfl ?_
      refine SL.nil ?_
      exact loopQ.nm (k - 1) (by omega) ⟨rfl, rfl, by show some _ = some _; congr 2; omega, trivial⟩ (List.Perm.refl _) ⟨by omega, hst.symm, rfl⟩
  · skip
    obtain rfl : k = 0 := by omega
    refine SC.exit ?_
    refine seqQ.e ?_
    refine loopQ.e ?_
    refine blockQ.e ?_
    refine seqQ.nm ?_
    refine SC.seq ?_
    refine SC.region ?_
    refine SL.val (OpV.assign rfl) rfl ?_
    refine SL.nil ?_
    refine seqQ.nm ?_
    refine SC.ret ?_
    refine retQ.one rfl (.tmp rfl) ?_ _ (.inr rfl)
    exact ⟨by rw [← hcut]; rfl, rfl, rfl⟩
theorem lastIndex_ev (s : Bytes) (M : Mem) (hs : s.length ≤ 1099511627776) : Ev Tryz.prog 63 [str s, .int .u8 47].toArray [] M (Pu M (.int .i64 (cut s))) := by
  refine Ev.enter Tryz.func63 rfl Tryz.ntmps63 rfl ?_
  refine SC.seq ?_
  refine SC.region ?_
  refine SL.val (OpV.assign rfl) rfl ?_
  refine SL.nil ?_
  refine seqQ.nm ?_
  refine SC.seq ?_
  refine SC.region ?_
  refine SL.val (OpV.move rfl) rfl ?_
  refine SL.val (OpV.move rfl) rfl ?_
  refine SL.call ok73 rfl (L1 := []) (List.Perm.refl _) (lastIndex0_ev s _ hs) rfl ?_
  rintro _ _ _ hM7 ⟨rfl, rfl, rfl⟩
  refine SL.val (OpV.assign rfl) rfl ?_
  refine SL.nil ?_
  refine seqQ.nm ?_
  refine SC.ret ?_
  refine retQ.one rfl (.tmp rfl) ?_ _ (.inr rfl)
  exact ⟨rfl, rfl, rfl⟩
theorem pbase_ev (s : Bytes) (M : Mem) (hs : s.length ≤ 1099511627776) : Ev Tryz.prog 43 [str s].toArray [] M (Pu M (str (base s))) := by
  refine Ev.enter Tryz.func43 rfl Tryz.ntmps43 rfl ?_
  have hr := cut_range s
  refine SC.seq ?_
  refine SC.region ?_
  refine SL.val (OpV.assign rfl) rfl ?_
  refine SL.nil ?_
  refine seqQ.nm ?_
  refine SC.seq ?_
  refine SC.region ?_
  refine SL.val (OpV.move rfl) rfl ?_
  refine SL.val (OpV.move rfl) rfl ?_
  refine SL.call ok63 rfl (L1 := []) (List.Perm.refl _) (lastIndex_ev s _ hs) rfl ?_
  rintro _ _ _ hM5 ⟨rfl, rfl, rfl⟩
  refine SL.val (OpV.add rfl rfl (IntWalk.i64_in _ (by omega))) rfl ?_
  refine SL.val (OpV.ssliceL Tryz.underlying9 rfl rfl (by omega) (by omega)) rfl ?_
  refine SL.val (OpV.assign rfl) rfl ?_
  refine SL.nil ?_
  refine seqQ.nm ?_
  refine SC.ret ?_
  refine retQ.one rfl (.tmp rfl) ?_ _ (.inr rfl)
  exact ⟨rfl, rfl, rfl⟩
theorem pparent_ev (s : Bytes) (M : Mem) (hs : s.length ≤ 1099511627776) : Ev Tryz.prog 128 [str s].toArray [] M (Pu M (str (parent s))) := by
  refine Ev.enter Tryz.func128 rfl Tryz.ntmps128 rfl ?_
  have hr := cut_range s
  refine SC.seq ?_
  refine SC.region ?_
  refine SL.val (OpV.assign rfl) rfl ?_
  refine SL.nil ?_
  refine seqQ.nm ?_
  refine SC.seq ?_
  refine SC.region ?_
  refine SL.val (OpV.move rfl) rfl ?_
  refine SL.val (OpV.move rfl) rfl ?_
  refine SL.call ok63 rfl (L1 := []) (List.Perm.refl _) (lastIndex_ev s _ hs) rfl ?_
  rintro _ _ _ hM5 ⟨rfl, rfl, rfl⟩
  refine SL.val (OpV.bmax rfl rfl) rfl ?_
  refine SL.val (OpV.ssliceH Tryz.underlying9 rfl rfl (by omega) (by omega)) rfl ?_
  refine SL.val (OpV.assign rfl) rfl ?_
  refine SL.nil ?_
  refine seqQ.nm ?_
  refine SC.ret ?_
  refine retQ.one rfl (.tmp rfl) ?_ _ (.inr rfl)
  exact ⟨by rw [parent, show (max (cut s) 0).toNat = (cut s).toNat by omega], rfl, rfl⟩
theorem plast_ev (s : Bytes) (M : Mem) : Ev Tryz.prog 44 [str s].toArray [] M (Pu M (.int .i64 (if s = opq then 3 else if begins s white then 2 else 1))) := by
  refine Ev.enter Tryz.func44 rfl Tryz.ntmps44 rfl ?_
  refine SC.seq ?_
  refine SC.region ?_
  refine SL.val (OpV.assign rfl) rfl ?_
  refine SL.nil ?_
  refine seqQ.nm ?_
  refine SC.seq ?_
  refine SC.block ?_
  refine SC.seq ?_
  refine SC.region ?_
  refine SL.val (OpV.move rfl) rfl ?_
  refine SL.val (OpV.seql rfl rfl) rfl ?_
  refine SL.val (OpV.assign rfl) rfl ?_
  refine SL.nil ?_
  refine seqQ.nm ?_
  first | refine SC.ifp rfl (fun h3 => ?_) (fun h3 => ?_) | refine SC.ite rfl (fun h3 => ?_) (fun h3 => ?_)
  · skip
    refine SC.seq ?_
    refine SC.region ?_
    refine SL.val (OpV.assign rfl) rfl ?_
    refine SL.nil ?_
    refine seqQ.nm ?_
    refine SC.ret ?_
    refine blockQ.r ?_
    refine seqQ.r ?_
    refine retQ.one rfl (.tmp rfl) ?_ _ (.inr rfl)
    exact ⟨by rw [if_pos (show s = opq from h3)], rfl, rfl⟩
  · skip
    refine SC.seq ?_
    refine SC.region ?_
    refine SL.val (OpV.move rfl) rfl ?_
    refine SL.call ok64 rfl (L1 := []) (List.Perm.refl _) (hasPrefix_ev s white _) rfl ?_
    rintro _ _ _ hM8 ⟨rfl, rfl, rfl⟩
    refine SL.val (OpV.assign rfl) rfl ?_
    refine SL.nil ?_
    refine seqQ.nm ?_
    first | refine SC.ifp rfl (fun h6 => ?_) (fun h6 => ?_) | refine SC.ite rfl (fun h6 => ?_) (fun h6 => ?_)
    · skip
      refine SC.seq ?_
      refine SC.region ?_
      refine SL.val (OpV.assign rfl) rfl ?_
      refine SL.nil ?_
      refine seqQ.nm ?_
      refine SC.ret ?_
      refine blockQ.r ?_
      refine seqQ.r ?_
      refine retQ.one rfl (.tmp rfl) ?_ _ (.inr rfl)
      exact ⟨by rw [if_neg (show ¬ s = opq from h3), if_pos h6], rfl, rfl⟩
    · skip
      refine SC.skip ?_
      refine blockQ.nm ?_
      refine seqQ.nm ?_
      refine SC.seq ?_
      refine SC.region ?_
      refine SL.val (OpV.assign rfl) rfl ?_
      refine SL.nil ?_
      refine seqQ.nm ?_
      refine SC.ret ?_
      refine retQ.one rfl (.tmp rfl) ?_ _ (.inr rfl)
      exact ⟨by rw [if_neg (show ¬ s = opq from h3), if_neg (by simpa using h6)], rfl, rfl⟩
theorem hasAny_2 (s : Bytes) (a b : UInt8) : hasAny s [a, b] = !s.all (fun c => decide (c ≠ a) && decide (c ≠ b)) := by
  unfold hasAny
  rw [List.not_all_eq_any_not]
  congr 1
  funext c
  by_cases h1 : c = a <;> by_cases h2 : c = b <;> simp [h1, h2]
theorem pmayName_ev (s : Bytes) (M : Mem) (hs : s.length ≤ 4294967280) : Ev Tryz.prog 47 [str s].toArray [] M (Pu M (.bool (mayName s))) := by
  refine Ev.enter Tryz.func47 rfl Tryz.ntmps47 rfl ?_
  refine SC.seq ?_
  refine SC.region ?_
  refine SL.val (OpV.assign rfl) rfl ?_
  refine SL.nil ?_
  refine seqQ.nm ?_
  refine SC.seq ?_
  refine SC.region ?_
  refine SL.val (OpV.move rfl) rfl ?_
  refine SL.val (OpV.sneq rfl rfl) rfl ?_
  refine SL.val (OpV.move rfl) rfl ?_
  refine SL.andcut 4 (c := 5) (d := 9) rfl (fun h5 => ?_) ?_
  · skip
    refine SL.skip rfl rfl ?_
    refine SL.skip rfl rfl ?_
    refine SL.skip rfl rfl ?_
    refine SL.val (OpV.pickF rfl rfl) rfl ?_
    exact SL.nil ⟨rfl, rfl, (by repeat first | exact Env.le_refl _ | refine Env.le_new rfl ?_), [], List.Perm.refl _⟩
  apply Exists.intro
  refine And.intro (fun h5 => ?_) ?_
  · skip
    refine SL.gval rfl (OpV.move rfl) rfl ?_
    refine SL.gval rfl (OpV.slen Tryz.underlying9 rfl) rfl ?_
    refine SL.gval rfl (OpV.leq rfl rfl) rfl ?_
    refine SL.val (OpV.pickT rfl rfl) rfl ?_
    exact SL.nil ⟨rfl, rfl, (by repeat first | exact Env.le_refl _ | refine Env.le_new rfl ?_), [], List.Perm.refl _⟩
  refine SL.val (OpV.move rfl) rfl ?_
  refine SL.andcut 3 (c := 10) (d := 13) rfl (fun h10 => ?_) ?_
  · skip
    refine SL.skip rfl rfl ?_
    refine SL.skip rfl rfl ?_
    refine SL.val (OpV.pickF rfl rfl) rfl ?_
    exact SL.nil ⟨rfl, rfl, (by repeat first | exact Env.le_refl _ | refine Env.le_new rfl ?_), [], List.Perm.refl _⟩
  apply Exists.intro
  refine And.intro (fun h10 => ?_) ?_
  · skip
    refine SL.gval rfl (OpV.move rfl) rfl ?_
    refine SL.gval rfl (OpV.sneq rfl rfl) rfl ?_
    refine SL.val (OpV.pickT rfl rfl) rfl ?_
    exact SL.nil ⟨rfl, rfl, (by repeat first | exact Env.le_refl _ | refine Env.le_new rfl ?_), [], List.Perm.refl _⟩
  refine SL.val (OpV.move rfl) rfl ?_
  refine SL.andcut 3 (c := 14) (d := 17) rfl (fun h14 => ?_) ?_
  · skip
    refine SL.skip rfl rfl ?_
    refine SL.skip rfl rfl ?_
    refine SL.val (OpV.pickF rfl rfl) rfl ?_
    exact SL.nil ⟨rfl, rfl, (by repeat first | exact Env.le_refl _ | refine Env.le_new rfl ?_), [], List.Perm.refl _⟩
  apply Exists.intro
  refine And.intro (fun h14 => ?_) ?_
  · skip
    refine SL.gval rfl (OpV.move rfl) rfl ?_
    refine SL.gval rfl (OpV.sneq rfl rfl) rfl ?_
    refine SL.val (OpV.pickT rfl rfl) rfl ?_
    exact SL.nil ⟨rfl, rfl, (by repeat first | exact Env.le_refl _ | refine Env.le_new rfl ?_), [], List.Perm.refl _⟩
  refine SL.val (OpV.move rfl) rfl ?_
  refine SL.andcut 4 (c := 18) (d := 22) rfl (fun h18 => ?_) ?_
  · skip
    refine SL.skip rfl rfl ?_
    refine SL.skip rfl rfl ?_
    refine SL.skip rfl rfl ?_
    refine SL.val (OpV.pickF rfl rfl) rfl ?_
    exact SL.nil ⟨rfl, rfl, (by repeat first | exact Env.le_refl _ | refine Env.le_new rfl ?_), [], List.Perm.refl _⟩
  apply Exists.intro
  refine And.intro (fun h18 => ?_) ?_
  · skip
    refine SL.gval rfl (OpV.move rfl) rfl ?_
    refine SL.gcall rfl ok68 rfl (L1 := []) (List.Perm.refl _) (containsAny_ev s [47, 0] _ (by omega) (by simp) (by simp) (by decide)) rfl ?_
    rintro _ _ _ hM20 ⟨rfl, rfl, rfl⟩
    refine SL.gval rfl (OpV.not rfl) rfl ?_
    refine SL.val (OpV.pickT rfl rfl) rfl ?_
    exact SL.nil ⟨rfl, rfl, (by repeat first | exact Env.le_refl _ | refine Env.le_new rfl ?_), [], List.Perm.refl _⟩
  refine SL.val (OpV.move rfl) rfl ?_
  refine SL.andcut 4 (c := 23) (d := 27) rfl (fun h23 => ?_) ?_
  · skip
    refine SL.skip rfl rfl ?_
    refine SL.skip rfl rfl ?_
    refine SL.skip rfl rfl ?_
    refine SL.val (OpV.pickF rfl rfl) rfl ?_
    exact SL.nil ⟨rfl, rfl, (by repeat first | exact Env.le_refl _ | refine Env.le_new rfl ?_), [], List.Perm.refl _⟩
  apply Exists.intro
  refine And.intro (fun h23 => ?_) ?_
  · skip
    refine SL.gval rfl (OpV.move rfl) rfl ?_
    refine SL.gcall rfl ok64 rfl (L1 := []) (List.Perm.refl _) (hasPrefix_ev s white _) rfl ?_
    rintro _ _ _ hM25 ⟨rfl, rfl, rfl⟩
    refine SL.gval rfl (OpV.not rfl) rfl ?_
    refine SL.val (OpV.pickT rfl rfl) rfl ?_
    exact SL.nil ⟨rfl, rfl, (by repeat first | exact Env.le_refl _ | refine Env.le_new rfl ?_), [], List.Perm.refl _⟩
  refine SL.val (OpV.assign rfl) rfl ?_
  refine SL.nil ?_
  refine seqQ.nm ?_
  refine SC.ret ?_
  refine retQ.one rfl (.tmp rfl) ?_ _ (.inr rfl)
  refine ⟨?_, rfl, rfl⟩
  have e2 : decide ((s.length : Int) ≤ 251) = decide (s.length ≤ 251) := dec_eq (by omega)
  have e0 : s.all (fun c => decide (c ≠ 47) && decide (c ≠ 0)) = s.all (fun c => decide (c ≠ 0) && decide (c ≠ 47)) := by congr 1; funext c; rw [Bool.and_comm]
  have e3 : decide (1 ≤ s.length) = decide (s ≠ []) := dec_eq (by cases s <;> simp)
  rw [hasAny_2, Bool.not_not, e0, e2, mayName, name, e3]
  generalize s.all _ = A
  by_cases h1 : s.length ≤ 251
  · have h2 : s.length ≤ 255 := by omega
    simp only [h1, h2, decide_true, Bool.and_true]
    generalize decide (s ≠ []) = B
    generalize decide (s ≠ [46]) = C
    generalize decide (s ≠ [46, 46]) = D
    cases A <;> cases B <;> cases C <;> cases D <;> rfl
  · simp [h1]
theorem pmay1_ev (s : Bytes) (M : Mem) (hs : s.length ≤ 4294967280) : Ev Tryz.prog 67 [str s].toArray [] M (Pu M (.bool (!mayName s))) := by
  refine Ev.enter Tryz.func67 rfl Tryz.ntmps67 rfl ?_
  refine SC.seq ?_
  refine SC.region ?_
  refine SL.val (OpV.assign rfl) rfl ?_
  refine SL.nil ?_
  refine seqQ.nm ?_
  refine SC.seq ?_
  refine SC.region ?_
  refine SL.val (OpV.move rfl) rfl ?_
  refine SL.call ok47 rfl (L1 := []) (List.Perm.refl _) (pmayName_ev s _ hs) rfl ?_
  rintro _ _ _ hM4 ⟨rfl, rfl, rfl⟩
  refine SL.val (OpV.not rfl) rfl ?_
  refine SL.val (OpV.assign rfl) rfl ?_
  refine SL.nil ?_
  refine seqQ.nm ?_
  refine SC.ret ?_
  refine retQ.one rfl (.tmp rfl) ?_ _ (.inr rfl)
  exact ⟨rfl, rfl, rfl⟩
end Go.Proofs.YtceabkfmjffnhaaGreatDoor
set_option linter.unusedVariables false
set_option linter.unusedSimpArgs false
namespace Go.Proofs.YtceabkfmjffnhaaGreatDoor
open Go Go.Eng

theorem count_ev (s : Bytes) (M : Mem) : Ev Tryz.prog 90 [str s, str [47]].toArray [] M (Pu M (.int .i64 (s.count 47 : Nat))) :=
  Ev.of_same (fun w => by simpa [bs, Lib.countByte] using Tryz.strings_Count_one (bs s) 47 w)
theorem index_ev (s : Bytes) (M : Mem) : Ev Tryz.prog 91 [str s, str [47]].toArray [] M (Pu M (.int .i64 (Lib.indexByte s 47))) :=
  Ev.of_same (fun w => by simpa [bs] using Tryz.strings_Index_one (bs s) 47 w)

theorem genSplit_ev (p : Bytes) (M : Mem) (hp : p.length ≤ 1099511627776) : Ev Tryz.prog 82 [str p, str [47], .int .i64 0, .int .i64 (-1)].toArray [] M fun v L' M' => L' = [] ∧ Sl1 M' v (splitGo [] p) := by
  refine Ev.enter Tryz.func82 rfl Tryz.ntmps82 rfl ?_
  have hcl : p.count 47 ≤ p.length := List.count_le_length
  refine SC.seq ?_
  refine SC.region ?_
  refine SL.val (OpV.assign rfl) rfl ?_
  refine SL.nil ?_
  refine seqQ.nm ?_
  refine SC.seq ?_
  refine SC.seq ?_
  refine SC.region ?_
  refine SL.val (OpV.move rfl) rfl ?_
  refine SL.val (OpV.eql rfl rfl) rfl ?_
  refine SL.nil ?_
  refine seqQ.nm ?_
  refine SC.ifF rfl (by decide) ?_
  refine SC.skip ?_
  refine seqQ.nm ?_
  refine SC.seq ?_
  refine SC.seq ?_
  refine SC.region ?_
  refine SL.val (OpV.move rfl) rfl ?_
  refine SL.val (OpV.seql rfl rfl) rfl ?_
  refine SL.nil ?_
  refine seqQ.nm ?_
  refine SC.ifF rfl (by decide) ?_
  refine SC.skip ?_
  refine seqQ.nm ?_
  refine SC.seq ?_
  refine SC.seq ?_
  refine SC.region ?_
  refine SL.val (OpV.move rfl) rfl ?_
  refine SL.val (OpV.lss rfl rfl) rfl ?_
  refine SL.nil ?_
  refine seqQ.nm ?_
  refine SC.ifT rfl (by decide) ?_
  refine SC.region ?_
  refine SL.val (OpV.move rfl) rfl ?_
  refine SL.val (OpV.move rfl) rfl ?_
  refine SL.call ok90 rfl (L1 := []) (List.Perm.refl _) (count_ev p _) rfl ?_
  rintro _ _ _ hM23 ⟨rfl, rfl, rfl⟩
  refine SL.val (OpV.add rfl rfl (IntWalk.i64_in _ (by omega))) rfl ?_
  refine SL.val (OpV.assign rfl) rfl ?_
  refine SL.nil ?_
  refine seqQ.nm ?_
  refine SC.seq ?_
  refine SC.region ?_
  refine SL.val (OpV.move rfl) rfl ?_
  refine SL.val (OpV.move rfl) rfl ?_
  refine SL.val (OpV.slen Tryz.underlying9 rfl) rfl ?_
  refine SL.val (OpV.add rfl rfl (IntWalk.i64_in _ (by omega))) rfl ?_
  refine SL.val (OpV.bmin rfl rfl) rfl ?_
  have hmin : min ((p.count 47 : Int) + 1) ((p.length : Int) + 1) = ((p.count 47 + 1 : Nat) : Int) := by omega
  rw [hmin]
  refine SL.val (OpV.assign rfl) rfl ?_
  refine SL.nil ?_
  refine seqQ.nm ?_
  refine SC.seq ?_
  refine SC.region ?_
  refine SL.val (OpV.move rfl) rfl ?_
  refine SL.act (OpH.makeSlice1 Tryz.underlying52 ti9 rfl rfl (by omega) (by omega)) rfl ?_; rintro _ _ _ hM31 ⟨b31, rfl, rfl, rfl⟩; clear hM31
  refine SL.val (OpV.assign rfl) rfl ?_
  refine SL.nil ?_
  refine seqQ.nm ?_
  refine SC.seq ?_
  refine SC.region ?_
  refine SL.val (OpV.move rfl) rfl ?_
  refine SL.val (OpV.sub rfl rfl (IntWalk.i64_in _ (by omega))) rfl ?_
  refine SL.val (OpV.assign rfl) rfl ?_
  refine SL.nil ?_
  refine seqQ.nm ?_
  refine SC.seq ?_
  refine SC.region ?_
  refine SL.val (OpV.assign rfl) rfl ?_
  refine SL.nil ?_
  refine seqQ.nm ?_
  refine SC.seq ?_
  refine SC.block ?_
  refine SC.loop (ι := List Bytes × Bytes) (fun x M' => M = M' ∧ x.1 ++ splitGo [] x.2 = splitGo [] p ∧ x.1.length + x.2.count 47 = p.count 47 ∧ x.2.length ≤ p.length)
    (fun x => [(0, str x.2), (1, str [47]), (2, .int .i64 0), (3, .int .i64 (p.count 47 : Nat)), (9, .slice (some ⟨b31, 0, none⟩) (p.count 47 + 1) (p.count 47 + 1)), (10, .int .i64 x.1.length)])
    (fun x => [.row (.slice (some ⟨b31, 0, none⟩) (p.count 47 + 1) (p.count 47 + 1)) 9 1 (x.1.map str ++ List.replicate (p.count 47 + 1 - x.1.length) (str []))]) (fun x => x.2.length) ([], p) (G := [])
    ⟨rfl, rfl, rfl, by show some _ = some _; congr 2; omega, rfl, rfl, trivial⟩ (List.Perm.refl _) ⟨rfl, rfl, by simp, Nat.le_refl _⟩ ?_
  rintro ⟨acc, r⟩ _ _ ⟨rfl, hacc, hcnt, hrl⟩
  dsimp only at hacc hcnt hrl ⊢
  refine SC.seq ?_
  refine SC.seq ?_
  refine SC.region ?_
  refine SL.val (OpV.move rfl) rfl ?_
  refine SL.val (OpV.move rfl) rfl ?_
  refine SL.val (OpV.lss rfl rfl) rfl ?_
  refine SL.nil ?_
  refine seqQ.nm ?_
  first | refine SC.ifp rfl (fun h36 => ?_) (fun h36 => ?_) | refine SC.ite rfl (fun h36 => ?_) (fun h36 => ?_)
  · skip
    have hlt : acc.length < p.count 47 := by omega
    refine SC.skip ?_
    refine seqQ.nm ?_
    refine SC.block ?_
    refine SC.seq ?_
    refine SC.region ?_
    refine SL.val (OpV.move rfl) rfl ?_
    refine SL.val (OpV.move rfl) rfl ?_
    refine SL.call ok91 rfl (L1 := []) (List.Perm.refl _) (index_ev r _) rfl ?_
    rintro _ _ _ hM39 ⟨rfl, rfl, rfl⟩
    refine SL.val (OpV.assign rfl) rfl ?_
    refine SL.nil ?_
    refine seqQ.nm ?_
    refine SC.seq ?_
    refine SC.seq ?_
    refine SC.region ?_
    refine SL.val (OpV.move rfl) rfl ?_
    refine SL.val (OpV.lss rfl rfl) rfl ?_
    refine SL.nil ?_
    refine seqQ.nm ?_
    first | refine SC.ifp rfl (fun h41 => ?_) (fun h41 => ?_) | refine SC.ite rfl (fun h41 => ?_) (fun h41 => ?_)
    · skip
      have h0 := count_of_none h41
      refine SC.exit ?_
      refine seqQ.e ?_
      refine blockQ.o rfl ?_
      refine loopQ.e ?_
      refine blockQ.e ?_
      refine seqQ.nm ?_
      refine SC.seq ?_
      have hsr : splitGo [] r = [r] := by rw [splitGo_none r [] h0]; rfl
      refine SC.region ?_
      refine SL.val (OpV.move rfl) rfl ?_
      refine SL.val (OpV.move rfl) rfl ?_
      refine SL.val (OpV.move rfl) rfl ?_
      refine SL.val (OpV.indexAddr1 Tryz.underlying52 sz9 rfl rfl (by omega) (by omega)) rfl ?_
      first
        | refine SL.unit (OpU.store1 0 rfl rfl rfl sz9 (by first | exact Nat.le_of_ble_eq_true rfl | (simp; done) | (simp; omega) | omega) rfl) ?_
        | refine SL.unit (OpU.storeRow1 0 rfl rfl rfl sz9 (by first | exact Nat.le_of_ble_eq_true rfl | (simp; done) | (simp; omega) | omega) rfl) ?_
        | refine SL.unit (OpU.store1 1 rfl rfl rfl sz9 (by first | exact Nat.le_of_ble_eq_true rfl | (simp; done) | (simp; omega) | omega) rfl) ?_
        | refine SL.unit (OpU.storeRow1 1 rfl rfl rfl sz9 (by first | exact Nat.le_of_ble_eq_true rfl | (simp; done) | (simp; omega) | omega) rfl) ?_
        | refine SL.unit (OpU.store1 2 rfl rfl rfl sz9 (by first | exact Nat.le_of_ble_eq_true rfl | (simp; done) | (simp; omega) | omega) rfl) ?_
        | refine SL.unit (OpU.storeRow1 2 rfl rfl rfl sz9 (by first | exact Nat.le_of_ble_eq_true rfl | (simp; done) | (simp; omega) | omega) rfl) ?_
        | refine SL.unit (OpU.store1 3 rfl rfl rfl sz9 (by first | exact Nat.le_of_ble_eq_true rfl | (simp; done) | (simp; omega) | omega) rfl) ?_
        | refine SL.unit (OpU.storeRow1 3 rfl rfl rfl sz9 (by first | exact Nat.le_of_ble_eq_true rfl | (simp; done) | (simp; omega) | omega) rfl) ?_
      refine SL.nil ?_
      refine seqQ.nm ?_
      refine SC.seq ?_
      have hfin : (acc.map str ++ List.replicate (p.count 47 + 1 - acc.length) (str [])).set (0 + (acc.length : Int).toNat) (str r) = (splitGo [] p).map str := by
        have er : p.count 47 + 1 - acc.length = 1 := by omega
        rw [← hacc, hsr, er]
        simp
      have hal : (splitGo [] p).length = p.count 47 + 1 := by rw [← hacc, hsr]; simp; omega
      refine SC.fixRow (m := p.count 47 + 1) (xs := (splitGo [] p).map str) 0 (by rw [← hfin]; rfl) (by simp; omega) (by decide) ?_
      intro M1 hM1 hisl
      refine SC.region ?_
      refine SL.val (OpV.move rfl) rfl ?_
      refine SL.val (OpV.move rfl) rfl ?_
      refine SL.val (OpV.add rfl rfl (IntWalk.i64_in _ (by omega))) rfl ?_
      refine SL.val (OpV.lsliceH Tryz.underlying52 sz9 rfl rfl (by omega) (by omega)) rfl ?_
      refine SL.val (OpV.assign rfl) rfl ?_
      refine SL.nil ?_
      refine seqQ.nm ?_
      refine SC.ret ?_
      refine retQ.one rfl (.tmp rfl) ?_ _ (.inr rfl)
      refine ⟨rfl, ?_⟩
      have e : ((acc.length : Int) + 1).toNat = (splitGo [] p).length := by omega
      rw [e, hal]
      unfold Sl1
      rw [hal]
      exact hisl
    · skip
      have hge : 0 ≤ Lib.indexByte r 47 := by omega
      obtain ⟨e1, e2, e3⟩ := splitGo_at r [] hge
      have hn1 : (Lib.indexByte r 47 + 1).toNat = (Lib.indexByte r 47).toNat + 1 := by omega
      refine SC.skip ?_
      refine seqQ.nm ?_
      refine SC.seq ?_
      refine SC.region ?_
      refine SL.val (OpV.move rfl) rfl ?_
      refine SL.val (OpV.move rfl) rfl ?_
      refine SL.val (OpV.move rfl) rfl ?_
      refine SL.val (OpV.move rfl) rfl ?_
      refine SL.val (OpV.move rfl) rfl ?_
      refine SL.val (OpV.add rfl rfl (IntWalk.i64_in _ (by omega))) rfl ?_
      refine SL.val (OpV.ssliceH Tryz.underlying9 rfl rfl (by omega) (by omega)) rfl ?_
      refine SL.val (OpV.indexAddr1 Tryz.underlying52 sz9 rfl rfl (by omega) (by omega)) rfl ?_
      first
        | refine SL.unit (OpU.store1 0 rfl rfl rfl sz9 (by first | exact Nat.le_of_ble_eq_true rfl | (simp; done) | (simp; omega) | omega) rfl) ?_
        | refine SL.unit (OpU.storeRow1 0 rfl rfl rfl sz9 (by first | exact Nat.le_of_ble_eq_true rfl | (simp; done) | (simp; omega) | omega) rfl) ?_
        | refine SL.unit (OpU.store1 1 rfl rfl rfl sz9 (by first | exact Nat.le_of_ble_eq_true rfl | (simp; done) | (simp; omega) | omega) rfl) ?_
        | refine SL.unit (OpU.storeRow1 1 rfl rfl rfl sz9 (by first | exact Nat.le_of_ble_eq_true rfl | (simp; done) | (simp; omega) | omega) rfl) ?_
        | refine SL.unit (OpU.store1 2 rfl rfl rfl sz9 (by first | exact Nat.le_of_ble_eq_true rfl | (simp; done) | (simp; omega) | omega) rfl) ?_
        | refine SL.unit (OpU.storeRow1 2 rfl rfl rfl sz9 (by first | exact Nat.le_of_ble_eq_true rfl | (simp; done) | (simp; omega) | omega) rfl) ?_
        | refine SL.unit (OpU.store1 3 rfl rfl rfl sz9 (by first | exact Nat.le_of_ble_eq_true rfl | (simp; done) | (simp; omega) | omega) rfl) ?_
        | refine SL.unit (OpU.storeRow1 3 rfl rfl rfl sz9 (by first | exact Nat.le_of_ble_eq_true rfl | (simp; done) | (simp; omega) | omega) rfl) ?_
      refine SL.nil ?_
      refine seqQ.nm ?_
      refine SC.seq ?_
      refine SC.region ?_
      refine SL.val (OpV.move rfl) rfl ?_
      refine SL.val (OpV.move rfl) rfl ?_
      refine SL.val (OpV.move rfl) rfl ?_
      refine SL.val (OpV.slen Tryz.underlying9 rfl) rfl ?_
      refine SL.val (OpV.add rfl rfl (IntWalk.i64_in _ (by simp; omega))) rfl ?_
      refine SL.val (OpV.ssliceL Tryz.underlying9 rfl rfl (by simp; omega) (by simp; omega)) rfl ?_
      refine SL.val (OpV.assign rfl) rfl ?_
      refine SL.nil ?_
      refine seqQ.nm ?_
      refine SC.region ?_
      refine SL.val (OpV.move rfl) rfl ?_
      refine SL.val (OpV.add rfl rfl (IntWalk.i64_in _ (by omega))) rfl ?_
      refine SL.val (OpV.assign rfl) rfl ?_
      refine SL.nil ?_
      refine blockQ.nm ?_
      refine loopQ.nm (acc ++ [r.take (Lib.indexByte r 47).toNat], r.drop ((Lib.indexByte r 47).toNat + 1)) (by simp; omega) ⟨by rw [← hn1]; rfl, rfl, rfl, rfl, rfl, by show some _ = some _; congr 2; simp, trivial⟩ ?_ ⟨rfl, ?_, ?_, ?_⟩
      · refine List.Perm.of_eq ?_
        have er : p.count 47 + 1 - acc.length = (p.count 47 + 1 - (acc.length + 1)) + 1 := by omega
        simp only [List.length_append, List.length_singleton, List.map_append, List.map_cons, List.map_nil]
        simp [er, List.replicate_succ]
      · rw [← hacc, e1]; simp
      · simp only [List.length_append, List.length_singleton]; omega
      · simp only [List.length_drop]; omega
  · skip
    have h0 : r.count 47 = 0 := by omega
    refine SC.exit ?_
    refine seqQ.e ?_
    refine loopQ.e ?_
    refine blockQ.e ?_
    refine seqQ.nm ?_
    refine SC.seq ?_
    have hsr : splitGo [] r = [r] := by rw [splitGo_none r [] h0]; rfl
    refine SC.region ?_
    refine SL.val (OpV.move rfl) rfl ?_
    refine SL.val (OpV.move rfl) rfl ?_
    refine SL.val (OpV.move rfl) rfl ?_
    refine SL.val (OpV.indexAddr1 Tryz.underlying52 sz9 rfl rfl (by omega) (by omega)) rfl ?_
    first
      | refine SL.unit (OpU.store1 0 rfl rfl rfl sz9 (by first | exact Nat.le_of_ble_eq_true rfl | (simp; done) | (simp; omega) | omega) rfl) ?_
      | refine SL.unit (OpU.storeRow1 0 rfl rfl rfl sz9 (by first | exact Nat.le_of_ble_eq_true rfl | (simp; done) | (simp; omega) | omega) rfl) ?_
      | refine SL.unit (OpU.store1 1 rfl rfl rfl sz9 (by first | exact Nat.le_of_ble_eq_true rfl | (simp; done) | (simp; omega) | omega) rfl) ?_
      | refine SL.unit (OpU.storeRow1 1 rfl rfl rfl sz9 (by first | exact Nat.le_of_ble_eq_true rfl | (simp; done) | (simp; omega) | omega) rfl) ?_
      | refine SL.unit (OpU.store1 2 rfl rfl rfl sz9 (by first | exact Nat.le_of_ble_eq_true rfl | (simp; done) | (simp; omega) | omega) rfl) ?_
      | refine SL.unit (OpU.storeRow1 2 rfl rfl rfl sz9 (by first | exact Nat.le_of_ble_eq_true rfl | (simp; done) | (simp; omega) | omega) rfl) ?_
      | refine SL.unit (OpU.store1 3 rfl rfl rfl sz9 (by first | exact Nat.le_of_ble_eq_true rfl | (simp; done) | (simp; omega) | omega) rfl) ?_
      | refine SL.unit (OpU.storeRow1 3 rfl rfl rfl sz9 (by first | exact Nat.le_of_ble_eq_true rfl | (simp; done) | (simp; omega) | omega) rfl) ?_
    refine SL.nil ?_
    refine seqQ.nm ?_
    refine SC.seq ?_
    have hfin : (acc.map str ++ List.replicate (p.count 47 + 1 - acc.length) (str [])).set (0 + (acc.length : Int).toNat) (str r) = (splitGo [] p).map str := by
      have er : p.count 47 + 1 - acc.length = 1 := by omega
      rw [← hacc, hsr, er]
      simp
    have hal : (splitGo [] p).length = p.count 47 + 1 := by rw [← hacc, hsr]; simp; omega
    refine SC.fixRow (m := p.count 47 + 1) (xs := (splitGo [] p).map str) 0 (by rw [← hfin]; rfl) (by simp; omega) (by decide) ?_
    intro M1 hM1 hisl
    refine SC.region ?_
    refine SL.val (OpV.move rfl) rfl ?_
    refine SL.val (OpV.move rfl) rfl ?_
    refine SL.val (OpV.add rfl rfl (IntWalk.i64_in _ (by omega))) rfl ?_
    refine SL.val (OpV.lsliceH Tryz.underlying52 sz9 rfl rfl (by omega) (by omega)) rfl ?_
    refine SL.val (OpV.assign rfl) rfl ?_
    refine SL.nil ?_
    refine seqQ.nm ?_
    refine SC.ret ?_
    refine retQ.one rfl (.tmp rfl) ?_ _ (.inr rfl)
    refine ⟨rfl, ?_⟩
    have e : ((acc.length : Int) + 1).toNat = (splitGo [] p).length := by omega
    rw [e, hal]
    unfold Sl1
    rw [hal]
    exact hisl
theorem split1_ev (p : Bytes) (M : Mem) (hp : p.length ≤ 1099511627776) : Ev Tryz.prog 76 [str p, str [47]].toArray [] M fun v L' M' => L' = [] ∧ Sl1 M' v (splitGo [] p) := by
  refine Ev.enter Tryz.func76 rfl Tryz.ntmps76 rfl ?_
  refine SC.seq ?_
  refine SC.region ?_
  refine SL.val (OpV.assign rfl) rfl ?_
  refine SL.nil ?_
  refine seqQ.nm ?_
  refine SC.seq ?_
  refine SC.region ?_
  refine SL.val (OpV.move rfl) rfl ?_
  refine SL.val (OpV.move rfl) rfl ?_
  refine SL.call ok82 rfl (L1 := []) (List.Perm.refl _) (genSplit_ev p _ hp) rfl ?_
  rintro v _ M7 hM7 ⟨rfl, hv⟩
  refine SL.val (OpV.assign rfl) rfl ?_
  refine SL.nil ?_
  refine seqQ.nm ?_
  refine SC.ret ?_
  refine retQ.one rfl (.tmp rfl) ?_ _ (.inr rfl)
  exact ⟨rfl, hv⟩
theorem psplit_ev (p : Bytes) (M : Mem) (hp : p.length ≤ 1099511627776) : Ev Tryz.prog 66 [str p].toArray [] M fun v L' M' => L' = [] ∧ Sl1 M' v (split p) := by
  refine Ev.enter Tryz.func66 rfl Tryz.ntmps66 rfl ?_
  refine SC.seq ?_
  refine SC.region ?_
  refine SL.val (OpV.assign rfl) rfl ?_
  refine SL.nil ?_
  refine seqQ.nm ?_
  refine SC.seq ?_
  refine SC.seq ?_
  refine SC.region ?_
  refine SL.val (OpV.move rfl) rfl ?_
  refine SL.val (OpV.seql rfl rfl) rfl ?_
  refine SL.nil ?_
  refine seqQ.nm ?_
  first | refine SC.ifp rfl (fun h4 => ?_) (fun h4 => ?_) | refine SC.ite rfl (fun h4 => ?_) (fun h4 => ?_)
  · skip
    refine SC.seq ?_
    refine SC.region ?_
    refine SL.val (OpV.assign rfl) rfl ?_
    refine SL.nil ?_
    refine seqQ.nm ?_
    refine SC.ret ?_
    refine seqQ.r ?_
    refine retQ.one rfl (.tmp rfl) ?_ _ (.inr rfl)
    refine ⟨rfl, ?_⟩
    rw [show p = [] from h4]
    exact ⟨none, 0, rfl, rfl, Nat.le_refl _, Nat.zero_le _, .inl rfl⟩
  · skip
    refine SC.skip ?_
    refine seqQ.nm ?_
    refine SC.seq ?_
    refine SC.region ?_
    refine SL.val (OpV.move rfl) rfl ?_
    refine SL.call ok76 rfl (L1 := []) (List.Perm.refl _) (split1_ev p _ hp) rfl ?_
    rintro v _ M6 hM6 ⟨rfl, hv⟩
    refine SL.val (OpV.assign rfl) rfl ?_
    refine SL.nil ?_
    refine seqQ.nm ?_
    refine SC.ret ?_
    refine retQ.one rfl (.tmp rfl) ?_ _ (.inr rfl)
    exact ⟨rfl, by rw [split, if_neg (show ¬ p = [] from h4)]; exact hv⟩

/-- slices.IndexFunc over texts; the function value may lean on what is owned, and leaves it as it is. -/
theorem indexFunc_ev (l : List Bytes) (v : Value) (f : FuncId) (cap : Array Value) (p : Bytes → Bool) (LL : List Res) (M : Mem) (hv : Sl1 M v l) (hl : l.length ≤ 1099511627776) (hok : Fn.ok Tryz.prog f)
    (hf : ∀ x ∈ l, Ev Tryz.prog f ([str x] ++ cap.toList).toArray LL M fun v' L' M' => v' = .bool (p x) ∧ L' = LL ∧ M = M') :
    Ev Tryz.prog 50 [v, .func (.func f) #[] cap].toArray LL M fun v' L' M' => ∃ k : Int, v' = .int .i64 k ∧ (0 ≤ k ↔ l.any p = true) ∧ L' = LL ∧ M = M' := by
  obtain ⟨ad, cp, rfl, hcap, hmax⟩ := hv.len
  refine Ev.enter Tryz.func50 rfl Tryz.ntmps50 rfl ?_
  refine SC.seq ?_
  refine SC.region ?_
  refine SL.val (OpV.assign rfl) rfl ?_
  refine SL.nil ?_
  refine seqQ.nm ?_
  refine SC.seq ?_
  refine SC.seq ?_
  refine SC.region ?_
  refine SL.val (OpV.move rfl) rfl ?_
  refine SL.val (OpV.llen Tryz.underlying52 rfl) rfl ?_
  refine SL.val (OpV.move rfl) rfl ?_
  refine SL.nil ?_
  refine seqQ.nm ?_
  refine SC.block ?_
  refine SC.loop (ι := Nat) (fun k M' => k ≤ l.length ∧ (l.take k).any p = false ∧ M = M') (fun k => [(0, .slice ad l.length cp), (1, .func (.func f) #[] cap), (7, .int .i64 l.length), (8, .int .i64 k)]) (fun _ => LL) (fun k => l.length - k) 0 (G := []) ⟨rfl, rfl, rfl, rfl, trivial⟩ (List.Perm.refl _) ⟨Nat.zero_le _, rfl, rfl⟩ ?_
  rintro k _ _ ⟨hk, hno, rfl⟩
  refine SC.seq ?_
  refine SC.region ?_
  refine SL.val (OpV.lss rfl rfl) rfl ?_
  refine SL.nil ?_
  refine seqQ.nm ?_
  refine SC.seq ?_
  first | refine SC.ifp rfl (fun h9 => ?_) (fun h9 => ?_) | refine SC.ite rfl (fun h9 => ?_) (fun h9 => ?_)
  · skip
    have hlt : k < l.length := by omega
    obtain ⟨g, o, cap', he, hc, _⟩ := hv.at_ (by omega)
    cases he
    obtain ⟨x, hx⟩ := getElem?_lt hlt
    have hxm := List.mem_of_getElem? hx
    refine SC.skip ?_
    refine seqQ.nm ?_
    refine SC.seq ?_
    refine SC.block ?_
    refine SC.seq ?_
    refine SC.region ?_
    refine SL.val (OpV.move rfl) rfl ?_
    refine SL.val (OpV.assign rfl) rfl ?_
    refine SL.nil ?_
    refine seqQ.nm ?_
    refine SC.seq ?_
    refine SC.region ?_
    refine SL.val (OpV.move rfl) rfl ?_
    refine SL.val (OpV.move rfl) rfl ?_
    refine SL.val (OpV.move rfl) rfl ?_
    refine SL.val (OpV.indexAddr1 Tryz.underlying52 sz9 rfl rfl (by omega) (by omega)) rfl ?_
    refine SL.val (OpV.load _ Tryz.underlying9 rfl rfl (Kn.mem (hc.at_ k (v := str x) (by simp [hx])))) rfl ?_
    refine SL.callv (.inl rfl) (hok) rfl rfl (L1 := LL) (List.Perm.of_eq (List.append_nil LL).symm) (hf x hxm) rfl ?_
    rintro _ _ _ hM16 ⟨rfl, rfl, rfl⟩
    refine SL.nil ?_
    refine seqQ.nm ?_
    first | refine SC.ifp rfl (fun h16 => ?_) (fun h16 => ?_) | refine SC.ite rfl (fun h16 => ?_) (fun h16 => ?_)
    · skip
      refine SC.seq ?_
      refine SC.region ?_
      refine SL.val (OpV.move rfl) rfl ?_
      refine SL.val (OpV.assign rfl) rfl ?_
      refine SL.nil ?_
      refine seqQ.nm ?_
      refine SC.ret ?_
      refine blockQ.r ?_
      refine seqQ.r ?_
      refine loopQ.r ?_
      refine blockQ.r ?_
      refine seqQ.r ?_
      refine retQ.one rfl (.tmp rfl) ?_ _ (.inr rfl)
      exact ⟨_, rfl, ⟨fun _ => List.any_eq_true.2 ⟨x, hxm, h16⟩, fun _ => by omega⟩, by simp, rfl⟩
    · skip
      refine SC.skip ?_
      refine blockQ.nm ?_
      refine seqQ.nm ?_
      refine SC.region ?_
      refine SL.val (OpV.add rfl rfl (IntWalk.i64_in _ (by omega))) rfl ?_
      refine SL.val (OpV.move rfl) rfl ?_
      refine SL.nil ?_
      refine loopQ.nm (k + 1) (by omega) ⟨rfl, rfl, rfl, rfl, trivial⟩ (by simp) ⟨by omega, ?_, rfl⟩
      rw [List.take_add_one, hx]
      simp [hno, h16]
  · skip
    have hke : k = l.length := by omega
    rw [hke, List.take_length] at hno
    refine SC.exit ?_
    refine seqQ.e ?_
    refine loopQ.e ?_
    refine blockQ.e ?_
    refine seqQ.nm ?_
    refine SC.seq ?_
    refine SC.region ?_
    refine SL.val (OpV.assign rfl) rfl ?_
    refine SL.nil ?_
    refine seqQ.nm ?_
    refine SC.ret ?_
    refine retQ.one rfl (.tmp rfl) ?_ _ (.inr rfl)
    exact ⟨_, rfl, ⟨fun h => by omega, fun h => by rw [hno] at h; cases h⟩, by simp, rfl⟩
theorem containsFunc_ev (l : List Bytes) (v : Value) (f : FuncId) (cap : Array Value) (p : Bytes → Bool) (LL : List Res) (M : Mem) (hv : Sl1 M v l) (hl : l.length ≤ 1099511627776) (hok : Fn.ok Tryz.prog f)
    (hf : ∀ x ∈ l, Ev Tryz.prog f ([str x] ++ cap.toList).toArray LL M fun v' L' M' => v' = .bool (p x) ∧ L' = LL ∧ M = M') :
    Ev Tryz.prog 25 [v, .func (.func f) #[] cap].toArray LL M fun v' L' M' => v' = .bool (l.any p) ∧ L' = LL ∧ M = M' := by
  refine Ev.enter Tryz.func25 rfl Tryz.ntmps25 rfl ?_
  refine SC.seq ?_
  refine SC.region ?_
  refine SL.val (OpV.assign rfl) rfl ?_
  refine SL.nil ?_
  refine seqQ.nm ?_
  refine SC.seq ?_
  refine SC.region ?_
  refine SL.val (OpV.move rfl) rfl ?_
  refine SL.val (OpV.move rfl) rfl ?_
  refine SL.call ok50 rfl (L1 := LL) (List.Perm.of_eq (List.append_nil LL).symm) (indexFunc_ev l v f cap p LL _ hv hl hok hf) rfl ?_
  rintro _ _ _ hM7 ⟨k, rfl, hk, rfl, rfl⟩
  refine SL.val (OpV.geq rfl rfl) rfl ?_
  refine SL.val (OpV.assign rfl) rfl ?_
  refine SL.nil ?_
  refine seqQ.nm ?_
  refine SC.ret ?_
  refine retQ.one rfl (.tmp rfl) ?_ _ (.inr rfl)
  refine ⟨?_, by simp, rfl⟩
  by_cases h : 0 ≤ k
  · rw [hk.1 h, decide_eq_true h]
  · have : l.any p = false := by
      cases hh : l.any p with
      | false => rfl
      | true => exact absurd (hk.2 hh) h
    rw [this, decide_eq_false h]
theorem pmay_ev (p : Bytes) (M : Mem) (hp : p.length ≤ 4294967280) : Ev Tryz.prog 46 [str p].toArray [] M (Pu M (.bool (mayPath p))) := by
  refine Ev.forget ?_
  refine Ev.enter Tryz.func46 rfl Tryz.ntmps46 rfl ?_
  refine SC.seq ?_
  refine SC.region ?_
  refine SL.val (OpV.assign rfl) rfl ?_
  refine SL.nil ?_
  refine seqQ.nm ?_
  refine SC.seq ?_
  refine SC.region ?_
  refine SL.val (OpV.move rfl) rfl ?_
  refine SL.call ok66 rfl (L1 := []) (List.Perm.refl _) (psplit_ev p _ (by omega)) rfl ?_
  rintro v _ M5 hM5 ⟨rfl, hv⟩
  have hsl := split_length p
  obtain ⟨ad, cp, rfl, hcap, hmax⟩ := hv.len
  refine SL.val (OpV.assign rfl) rfl ?_
  refine SL.nil ?_
  refine seqQ.nm ?_
  refine SC.seq ?_
  refine SC.region ?_
  refine SL.val (OpV.move rfl) rfl ?_
  refine SL.val (OpV.slen Tryz.underlying9 rfl) rfl ?_
  refine SL.val (OpV.leq rfl rfl) rfl ?_
  refine SL.val (OpV.move rfl) rfl ?_
  refine SL.andcut 4 (c := 9) (d := 13) rfl (fun h9 => ?_) ?_
  · skip
    refine SL.skip rfl rfl ?_
    refine SL.skip rfl rfl ?_
    refine SL.skip rfl rfl ?_
    refine SL.val (OpV.pickF rfl rfl) rfl ?_
    exact SL.nil ⟨rfl, rfl, (by repeat first | exact Env.le_refl _ | refine Env.le_new rfl ?_), [], List.Perm.refl _⟩
  apply Exists.intro
  refine And.intro (fun h9 => ?_) ?_
  · skip
    refine SL.gval rfl (OpV.move rfl) rfl ?_
    refine SL.gval rfl (OpV.llen Tryz.underlying52 rfl) rfl ?_
    refine SL.gval rfl (OpV.lss rfl rfl) rfl ?_
    refine SL.val (OpV.pickT rfl rfl) rfl ?_
    exact SL.nil ⟨rfl, rfl, (by repeat first | exact Env.le_refl _ | refine Env.le_new rfl ?_), [], List.Perm.refl _⟩
  refine SL.val (OpV.move rfl) rfl ?_
  refine SL.andcut 4 (c := 14) (d := 18) rfl (fun h14 => ?_) ?_
  · skip
    refine SL.skip rfl rfl ?_
    refine SL.skip rfl rfl ?_
    refine SL.skip rfl rfl ?_
    refine SL.val (OpV.pickF rfl rfl) rfl ?_
    exact SL.nil ⟨rfl, rfl, (by repeat first | exact Env.le_refl _ | refine Env.le_new rfl ?_), [], List.Perm.refl _⟩
  apply Exists.intro
  refine And.intro (fun h14 => ?_) ?_
  · skip
    refine SL.gval rfl (OpV.move rfl) rfl ?_
    refine SL.gcall rfl ok25 rfl (L1 := []) (List.Perm.refl _) (containsFunc_ev (split p) _ 67 #[] (fun x => !mayName x) [] _ hv (by omega) ok67 (fun x hx => pmay1_ev x _ (by have := split_part p x hx; omega))) rfl ?_
    rintro _ _ _ hM16 ⟨rfl, rfl, rfl⟩
    refine SL.gval rfl (OpV.not rfl) rfl ?_
    refine SL.val (OpV.pickT rfl rfl) rfl ?_
    exact SL.nil ⟨rfl, rfl, (by repeat first | exact Env.le_refl _ | refine Env.le_new rfl ?_), [], List.Perm.refl _⟩
  refine SL.val (OpV.assign rfl) rfl ?_
  refine SL.nil ?_
  refine seqQ.nm ?_
  refine SC.ret ?_
  refine retQ.one rfl (.tmp rfl) ?_ _ (.inr rfl)
  refine ⟨?_, rfl⟩
  have e1 : decide ((p.length : Int) ≤ 4080) = decide (p.length ≤ 4080) := dec_eq (by omega)
  have e2 : decide (((split p).length : Int) < 255) = decide ((split p).length ≤ 254) := dec_eq (by omega)
  have e3 : (!(split p).any fun x => !mayName x) = (split p).all mayName := by
    rw [List.not_any_eq_all_not]; simp only [Bool.not_not]
  rw [e1, e2, e3, mayPath]
  generalize (split p).all mayName = A
  generalize decide (p.length ≤ 4080) = B
  generalize decide ((split p).length ≤ 254) = C
  cases A <;> cases B <;> cases C <;> rfl
end Go.Proofs.YtceabkfmjffnhaaGreatDoor
set_option linter.unusedVariables false
set_option linter.unusedSimpArgs false
namespace Go.Proofs.YtceabkfmjffnhaaGreatDoor
open Go Go.Eng

/-- The function of a class. -/
def classFn (c : Nat) : FuncId := if c = 1 then 143 else if c = 2 then 144 else 145
/-- What the table 'classes' holds. -/
def ClassTab (M : Mem) : Prop := ∃ r es c, M.cell 1 0 (.map (some r)) ∧ M r (.map es c) ∧ ∀ k : Nat, 1 ≤ k → k ≤ 3 → ∃ i, Instr.findNow (.int .i64) (.int .i64 k) es.toList 0 = some (some (i, .func (.func (classFn k)) #[] #[]))
theorem ClassTab.mono {M M' : Mem} (h : ClassTab M) (hm : M.le M') : ClassTab M' := by
  obtain ⟨r, es, c, h1, h2, h3⟩ := h
  exact ⟨r, es, c, h1.mono hm, hm _ _ h2, h3⟩
theorem classFn_ok (c : Nat) : Fn.ok Tryz.prog (classFn c) := by
  unfold classFn
  split
  · exact ok143
  · split
    · exact ok144
    · exact ok145

theorem class1_ev (d b : Bytes) (M : Mem) (hd : d.length ≤ 1099511627776) (hb : b.length ≤ 1099511627776) : Ev Tryz.prog 143 [str d, str b].toArray [] M (Pu M (str (d ++ b))) := by
  refine Ev.enter Tryz.func143 rfl Tryz.ntmps143 rfl ?_
  refine SC.seq ?_
  refine SC.region ?_
  refine SL.val (OpV.assign rfl) rfl ?_
  refine SL.nil ?_
  refine seqQ.nm ?_
  refine SC.seq ?_
  refine SC.region ?_
  refine SL.val (OpV.move rfl) rfl ?_
  refine SL.val (OpV.move rfl) rfl ?_
  refine SL.val (OpV.sadd rfl rfl (by omega)) rfl ?_
  refine SL.val (OpV.assign rfl) rfl ?_
  refine SL.nil ?_
  refine seqQ.nm ?_
  refine SC.ret ?_
  refine retQ.one rfl (.tmp rfl) ?_ _ (.inr rfl)
  exact ⟨rfl, rfl, rfl⟩
theorem class2_ev (d b : Bytes) (M : Mem) (hd : d.length ≤ 1099511627776) (hb : b.length ≤ 1099511627776) (h4 : 4 ≤ b.length) : Ev Tryz.prog 144 [str d, str b].toArray [] M (Pu M (str (d ++ b.drop 4))) := by
  refine Ev.enter Tryz.func144 rfl Tryz.ntmps144 rfl ?_
  refine SC.seq ?_
  refine SC.region ?_
  refine SL.val (OpV.assign rfl) rfl ?_
  refine SL.nil ?_
  refine seqQ.nm ?_
  refine SC.seq ?_
  refine SC.region ?_
  refine SL.val (OpV.move rfl) rfl ?_
  refine SL.val (OpV.move rfl) rfl ?_
  refine SL.val (OpV.ssliceL Tryz.underlying9 rfl rfl (by omega) (by omega)) rfl ?_
  refine SL.val (OpV.sadd rfl rfl (by simp; omega)) rfl ?_
  refine SL.val (OpV.assign rfl) rfl ?_
  refine SL.nil ?_
  refine seqQ.nm ?_
  refine SC.ret ?_
  refine retQ.one rfl (.tmp rfl) ?_ _ (.inr rfl)
  exact ⟨rfl, rfl, rfl⟩
theorem class3_ev (d b : Bytes) (M : Mem) (hd : d.length ≤ 1099511627776) : Ev Tryz.prog 145 [str d, str b].toArray [] M (Pu M (str (cutOff d [47]))) := by
  refine Ev.enter Tryz.func145 rfl Tryz.ntmps145 rfl ?_
  refine SC.seq ?_
  refine SC.region ?_
  refine SL.val (OpV.assign rfl) rfl ?_
  refine SL.nil ?_
  refine seqQ.nm ?_
  refine SC.seq ?_
  refine SC.region ?_
  refine SL.val (OpV.move rfl) rfl ?_
  refine SL.call ok45 rfl (L1 := []) (List.Perm.refl _) (trimSuffix_ev d [47] _ hd) rfl ?_
  rintro _ _ _ hM6 ⟨rfl, rfl, rfl⟩
  refine SL.val (OpV.assign rfl) rfl ?_
  refine SL.nil ?_
  refine seqQ.nm ?_
  refine SC.ret ?_
  refine retQ.one rfl (.tmp rfl) ?_ _ (.inr rfl)
  exact ⟨rfl, rfl, rfl⟩
theorem classFn_ev (c : Nat) (d b : Bytes) (M : Mem) (hc : 1 ≤ c) (h3 : c ≤ 3) (hd : d.length ≤ 1099511627776) (hb : b.length ≤ 1099511627776) (h4 : c = 2 → 4 ≤ b.length) : Ev Tryz.prog (classFn c) [str d, str b].toArray [] M (Pu M (str (targetOf c d b))) := by
  rcases (by omega : c = 1 ∨ c = 2 ∨ c = 3) with rfl | rfl | rfl
  · exact class1_ev d b M hd hb
  · exact class2_ev d b M hd hb (h4 rfl)
  · exact class3_ev d b M hd

theorem lastOf_int (b : Bytes) : (if b = opq then (3 : Int) else if begins b white then 2 else 1) = ((lastOf b : Nat) : Int) := by
  unfold lastOf; split
  · rfl
  · split <;> rfl
theorem lastOf_range (b : Bytes) : 1 ≤ lastOf b ∧ lastOf b ≤ 3 ∧ (lastOf b = 2 → 4 ≤ b.length) := by
  unfold lastOf; split
  · simp
  · split
    · rename_i h
      have := begins_len h
      exact ⟨by simp, by simp, fun _ => by simpa [white] using this⟩
    · simp
theorem cutOff_length (s w : Bytes) : (cutOff s w).length ≤ s.length := by
  unfold cutOff; split
  · simp
  · exact Nat.le_refl _
theorem targetOf_length (c : Nat) (d b : Bytes) : (targetOf c d b).length ≤ d.length + b.length := by
  unfold targetOf
  split
  · simp
  · split
    · simp
    · have := cutOff_length d [47]; omega
theorem base_length (p : Bytes) : (base p).length ≤ p.length := by unfold base; simp

theorem pclass_ev (p : Bytes) (M : Mem) (hg : ClassTab M) (hp : p.length ≤ 1073741824) : Ev Tryz.prog 21 [str p].toArray [] M (Pu M (.tuple #[.int .i64 (classP p).1, str (classP p).2])) := by
  obtain ⟨r, es, c, hg1, hg2, hg3⟩ := hg
  refine Ev.enter Tryz.func21 rfl Tryz.ntmps21 rfl ?_
  have hbl := base_length p
  have hlr := lastOf_range (base p)
  have hdl := cutOff_length p (base p)
  have htl := targetOf_length (lastOf (base p)) (cutOff p (base p)) (base p)
  obtain ⟨fi, hfi⟩ := hg3 (lastOf (base p)) hlr.1 hlr.2.1
  refine SC.seq ?_
  refine SC.region ?_
  refine SL.val (OpV.assign rfl) rfl ?_
  refine SL.val (OpV.assign rfl) rfl ?_
  refine SL.nil ?_
  refine seqQ.nm ?_
  refine SC.seq ?_
  refine SC.seq ?_
  refine SC.region ?_
  refine SL.val (OpV.move rfl) rfl ?_
  refine SL.val (OpV.seql rfl rfl) rfl ?_
  refine SL.nil ?_
  refine seqQ.nm ?_
  first | refine SC.ifp rfl (fun h7 => ?_) (fun h7 => ?_) | refine SC.ite rfl (fun h7 => ?_) (fun h7 => ?_)
  · skip
    refine SC.seq ?_
    refine SC.region ?_
    refine SL.val (OpV.assign rfl) rfl ?_
    refine SL.val (OpV.assign rfl) rfl ?_
    refine SL.nil ?_
    refine seqQ.nm ?_
    refine SC.ret ?_
    refine seqQ.r ?_
    refine retQ.two rfl (.tmp rfl) (.tmp rfl) ?_ _ (.inr rfl)
    exact ⟨by rw [classP, if_pos (show p = tocName from h7)]; rfl, rfl, rfl⟩
  · skip
    refine SC.skip ?_
    refine seqQ.nm ?_
    refine SC.seq ?_
    refine SC.region ?_
    refine SL.val (OpV.move rfl) rfl ?_
    refine SL.call ok43 rfl (L1 := []) (List.Perm.refl _) (pbase_ev p _ (by omega)) rfl ?_
    rintro _ _ _ hM9 ⟨rfl, rfl, rfl⟩
    refine SL.val (OpV.assign rfl) rfl ?_
    refine SL.nil ?_
    refine seqQ.nm ?_
    refine SC.seq ?_
    refine SC.region ?_
    refine SL.val (OpV.move rfl) rfl ?_
    refine SL.call ok44 rfl (L1 := []) (List.Perm.refl _) (by have := plast_ev (base p) M; rw [lastOf_int] at this; exact this) rfl ?_
    rintro _ _ _ hM11 ⟨rfl, rfl, rfl⟩
    refine SL.val (OpV.assign rfl) rfl ?_
    refine SL.nil ?_
    refine seqQ.nm ?_
    refine SC.seq ?_
    refine SC.region ?_
    refine SL.val (OpV.move rfl) rfl ?_
    refine SL.val (OpV.move rfl) rfl ?_
    refine SL.call ok45 rfl (L1 := []) (List.Perm.refl _) (trimSuffix_ev p (base p) _ (by omega)) rfl ?_
    rintro _ _ _ hM14 ⟨rfl, rfl, rfl⟩
    refine SL.val (OpV.assign rfl) rfl ?_
    refine SL.nil ?_
    refine seqQ.nm ?_
    refine SC.seq ?_
    refine SC.region ?_
    refine SL.val (OpV.load _ Tryz.underlying78 rfl rfl (Kn.mem hg1)) rfl ?_
    refine SL.val (OpV.move rfl) rfl ?_
    refine SL.val (OpV.lookupV Tryz.underlying78 Tryz.underlying3 rfl zr77 rfl rfl (Ko.mem hg2) hfi) rfl ?_
    refine SL.val (OpV.move rfl) rfl ?_
    refine SL.val (OpV.move rfl) rfl ?_
    refine SL.callv (.inl rfl) (classFn_ok (lastOf (base p))) rfl rfl (L1 := []) (List.Perm.refl _) (show Ev _ _ ([str (cutOff p (base p)), str (base p)] ++ (#[] : Array Value).toList).toArray _ _ _ from classFn_ev _ _ _ _ hlr.1 hlr.2.1 (by omega) (by omega) hlr.2.2) rfl ?_
    rintro _ _ _ hM20 ⟨rfl, rfl, rfl⟩
    refine SL.val (OpV.assign rfl) rfl ?_
    refine SL.nil ?_
    refine seqQ.nm ?_
    refine SC.seq ?_
    refine SC.seq ?_
    refine SC.region ?_
    refine SL.val (OpV.move rfl) rfl ?_
    refine SL.call ok46 rfl (L1 := []) (List.Perm.refl _) (pmay_ev _ _ (by omega)) rfl ?_
    rintro _ _ _ hM22 ⟨rfl, rfl, rfl⟩
    refine SL.val (OpV.not rfl) rfl ?_
    refine SL.val (OpV.move rfl) rfl ?_
    refine SL.orcut 7 (c := 24) (d := 31) rfl (fun h24 => ?_) ?_
    · skip
      refine SL.skip rfl rfl ?_
      refine SL.skip rfl rfl ?_
      refine SL.skip rfl rfl ?_
      refine SL.skip rfl rfl ?_
      refine SL.skip rfl rfl ?_
      refine SL.skip rfl rfl ?_
      refine SL.val (OpV.pickT rfl rfl) rfl ?_
      exact SL.nil ⟨rfl, rfl, (by repeat first | exact Env.le_refl _ | refine Env.le_new rfl ?_), [], List.Perm.refl _⟩
    apply Exists.intro
    refine And.intro (fun h24 => ?_) ?_
    · skip
      refine SL.gval rfl (OpV.move rfl) rfl ?_
      refine SL.gval rfl (OpV.neq rfl rfl) rfl ?_
      refine SL.gval rfl (OpV.move rfl) rfl ?_
      refine SL.andcut 3 (c := 27) (d := 30) rfl (fun h27 => ?_) ?_
      · skip
        refine SL.skip rfl rfl ?_
        refine SL.skip rfl rfl ?_
        refine SL.gval rfl (OpV.pickF rfl rfl) rfl ?_
        exact SL.nil ⟨rfl, rfl, (by repeat first | exact Env.le_refl _ | refine Env.le_new rfl ?_), [], List.Perm.refl _⟩
      apply Exists.intro
      refine And.intro (fun h27 => ?_) ?_
      · skip
        refine SL.gval rfl (OpV.move rfl) rfl ?_
        refine SL.gval rfl (OpV.seql rfl rfl) rfl ?_
        refine SL.gval rfl (OpV.pickT rfl rfl) rfl ?_
        exact SL.nil ⟨rfl, rfl, (by repeat first | exact Env.le_refl _ | refine Env.le_new rfl ?_), [], List.Perm.refl _⟩
      refine SL.val (OpV.pickF rfl rfl) rfl ?_
      exact SL.nil ⟨rfl, rfl, (by repeat first | exact Env.le_refl _ | refine Env.le_new rfl ?_), [], List.Perm.refl _⟩
    refine SL.val (OpV.move rfl) rfl ?_
    refine SL.orcut 9 (c := 32) (d := 41) rfl (fun h32 => ?_) ?_
    · skip
      refine SL.skip rfl rfl ?_
      refine SL.skip rfl rfl ?_
      refine SL.skip rfl rfl ?_
      refine SL.skip rfl rfl ?_
      refine SL.skip rfl rfl ?_
      refine SL.skip rfl rfl ?_
      refine SL.skip rfl rfl ?_
      refine SL.skip rfl rfl ?_
      refine SL.val (OpV.pickT rfl rfl) rfl ?_
      exact SL.nil ⟨rfl, rfl, (by repeat first | exact Env.le_refl _ | refine Env.le_new rfl ?_), [], List.Perm.refl _⟩
    apply Exists.intro
    refine And.intro (fun h32 => ?_) ?_
    · skip
      refine SL.gval rfl (OpV.move rfl) rfl ?_
      refine SL.gval rfl (OpV.eql rfl rfl) rfl ?_
      refine SL.gval rfl (OpV.move rfl) rfl ?_
      refine SL.andcut 5 (c := 35) (d := 40) rfl (fun h35 => ?_) ?_
      · skip
        refine SL.skip rfl rfl ?_
        refine SL.skip rfl rfl ?_
        refine SL.skip rfl rfl ?_
        refine SL.skip rfl rfl ?_
        refine SL.gval rfl (OpV.pickF rfl rfl) rfl ?_
        exact SL.nil ⟨rfl, rfl, (by repeat first | exact Env.le_refl _ | refine Env.le_new rfl ?_), [], List.Perm.refl _⟩
      apply Exists.intro
      refine And.intro (fun h35 => ?_) ?_
      · skip
        have h4 : 4 ≤ (base p).length := hlr.2.2 (by simp at h35; omega)
        refine SL.gval rfl (OpV.move rfl) rfl ?_
        refine SL.gval rfl (OpV.ssliceL Tryz.underlying9 rfl rfl (by omega) (by omega)) rfl ?_
        refine SL.gcall rfl ok47 rfl (L1 := []) (List.Perm.refl _) (pmayName_ev _ _ (by first | (simp; done) | (simp; omega))) rfl ?_
        rintro _ _ _ hM38 ⟨rfl, rfl, rfl⟩
        refine SL.gval rfl (OpV.not rfl) rfl ?_
        refine SL.gval rfl (OpV.pickT rfl rfl) rfl ?_
        exact SL.nil ⟨rfl, rfl, (by repeat first | exact Env.le_refl _ | refine Env.le_new rfl ?_), [], List.Perm.refl _⟩
      refine SL.val (OpV.pickF rfl rfl) rfl ?_
      exact SL.nil ⟨rfl, rfl, (by repeat first | exact Env.le_refl _ | refine Env.le_new rfl ?_), [], List.Perm.refl _⟩
    refine SL.val (OpV.move rfl) rfl ?_
    refine SL.orcut 3 (c := 42) (d := 45) rfl (fun h42 => ?_) ?_
    · skip
      refine SL.skip rfl rfl ?_
      refine SL.skip rfl rfl ?_
      refine SL.val (OpV.pickT rfl rfl) rfl ?_
      exact SL.nil ⟨rfl, rfl, (by repeat first | exact Env.le_refl _ | refine Env.le_new rfl ?_), [], List.Perm.refl _⟩
    apply Exists.intro
    refine And.intro (fun h42 => ?_) ?_
    · skip
      refine SL.gval rfl (OpV.move rfl) rfl ?_
      refine SL.gval rfl (OpV.seql rfl rfl) rfl ?_
      refine SL.val (OpV.pickF rfl rfl) rfl ?_
      exact SL.nil ⟨rfl, rfl, (by repeat first | exact Env.le_refl _ | refine Env.le_new rfl ?_), [], List.Perm.refl _⟩
    refine SL.nil ?_
    refine seqQ.nm ?_
    first | refine SC.ifp rfl (fun h45 => ?_) (fun h45 => ?_) | refine SC.ite rfl (fun h45 => ?_) (fun h45 => ?_)
    · skip
      refine SC.seq ?_
      refine SC.region ?_
      refine SL.val (OpV.assign rfl) rfl ?_
      refine SL.val (OpV.assign rfl) rfl ?_
      refine SL.nil ?_
      refine seqQ.nm ?_
      refine SC.ret ?_
      refine seqQ.r ?_
      have hr : refused (lastOf (base p)) (cutOff p (base p)) (base p) (targetOf (lastOf (base p)) (cutOff p (base p)) (base p)) = true := by
        rw [← h45, refused]
        congr 1
        congr 1
        · congr 2
          exact (dec_eq (by omega)).symm
        · congr 1
          exact (dec_eq (by omega)).symm
      refine retQ.two rfl (.tmp rfl) (.tmp rfl) ?_ _ (.inr rfl)
      exact ⟨by rw [classP, if_neg (show ¬ p = tocName from h7), if_pos hr]; rfl, rfl, rfl⟩
    · skip
      refine SC.skip ?_
      refine seqQ.nm ?_
      refine SC.seq ?_
      refine SC.region ?_
      refine SL.val (OpV.move rfl) rfl ?_
      refine SL.val (OpV.move rfl) rfl ?_
      refine SL.val (OpV.assign rfl) rfl ?_
      refine SL.val (OpV.assign rfl) rfl ?_
      refine SL.nil ?_
      refine seqQ.nm ?_
      refine SC.ret ?_
      refine retQ.two rfl (.tmp rfl) (.tmp rfl) ?_ _ (.inr rfl)
      have hr : ¬ refused (lastOf (base p)) (cutOff p (base p)) (base p) (targetOf (lastOf (base p)) (cutOff p (base p)) (base p)) = true := by
        intro e
        rw [Bool.eq_false_iff] at h45
        apply h45
        rw [← e, refused]
        congr 1
        congr 1
        · congr 2
          exact (dec_eq (by omega))
        · congr 1
          exact (dec_eq (by omega))
      exact ⟨by rw [classP, if_neg (show ¬ p = tocName from h7), if_neg hr], rfl, rfl⟩
end Go.Proofs.YtceabkfmjffnhaaGreatDoor
set_option linter.unusedVariables false
set_option linter.unusedSimpArgs false
namespace Go.Proofs.YtceabkfmjffnhaaGreatDoor
open Go Go.Eng

theorem indexByte_dec (l : Bytes) (c : UInt8) : decide (Lib.indexByte l c < 0) = !l.contains c := by
  have h1 := indexByte_iff l c
  cases h : l.contains c with
  | true => rw [h] at h1; have := h1.2 rfl; simp; omega
  | false => rw [indexByte_none h]; rfl
theorem mayLink_ev (l : Bytes) (is : Bool) (M : Mem) (hl : l.length ≤ big) : Ev Tryz.prog 49 [str l, .bool is].toArray [] M (Pu M (.bool (mayLink l is))) := by
  refine Ev.enter Tryz.func49 rfl Tryz.ntmps49 rfl ?_
  have hl' : l.length ≤ 268435456 := hl
  refine SC.seq ?_
  refine SC.region ?_
  refine SL.val (OpV.assign rfl) rfl ?_
  refine SL.nil ?_
  refine seqQ.nm ?_
  refine SC.seq ?_
  refine SC.seq ?_
  refine SC.region ?_
  refine SL.val (OpV.move rfl) rfl ?_
  refine SL.val (OpV.not rfl) rfl ?_
  refine SL.nil ?_
  refine seqQ.nm ?_
  first | refine SC.ifp rfl (fun h6 => ?_) (fun h6 => ?_) | refine SC.ite rfl (fun h6 => ?_) (fun h6 => ?_)
  · skip
    refine SC.seq ?_
    refine SC.region ?_
    refine SL.val (OpV.move rfl) rfl ?_
    refine SL.val (OpV.seql rfl rfl) rfl ?_
    refine SL.val (OpV.assign rfl) rfl ?_
    refine SL.nil ?_
    refine seqQ.nm ?_
    refine SC.ret ?_
    refine seqQ.r ?_
    refine retQ.one rfl (.tmp rfl) ?_ _ (.inr rfl)
    refine ⟨?_, rfl, rfl⟩
    have : is = false := by simpa using h6
    subst this; rfl
  · skip
    refine SC.skip ?_
    refine seqQ.nm ?_
    refine SC.seq ?_
    refine SC.region ?_
    refine SL.val (OpV.move rfl) rfl ?_
    refine SL.val (OpV.sneq rfl rfl) rfl ?_
    refine SL.val (OpV.move rfl) rfl ?_
    refine SL.andcut 4 (c := 11) (d := 15) rfl (fun h11 => ?_) ?_
    · skip
      refine SL.skip rfl rfl ?_
      refine SL.skip rfl rfl ?_
      refine SL.skip rfl rfl ?_
      refine SL.val (OpV.pickF rfl rfl) rfl ?_
      exact SL.nil ⟨rfl, rfl, (by repeat first | exact Env.le_refl _ | refine Env.le_new rfl ?_), [], List.Perm.refl _⟩
    apply Exists.intro
    refine And.intro (fun h11 => ?_) ?_
    · skip
      refine SL.gval rfl (OpV.move rfl) rfl ?_
      refine SL.gval rfl (OpV.slen Tryz.underlying9 rfl) rfl ?_
      refine SL.gval rfl (OpV.leq rfl rfl) rfl ?_
      refine SL.val (OpV.pickT rfl rfl) rfl ?_
      exact SL.nil ⟨rfl, rfl, (by repeat first | exact Env.le_refl _ | refine Env.le_new rfl ?_), [], List.Perm.refl _⟩
    refine SL.val (OpV.move rfl) rfl ?_
    refine SL.andcut 4 (c := 16) (d := 20) rfl (fun h16 => ?_) ?_
    · skip
      refine SL.skip rfl rfl ?_
      refine SL.skip rfl rfl ?_
      refine SL.skip rfl rfl ?_
      refine SL.val (OpV.pickF rfl rfl) rfl ?_
      exact SL.nil ⟨rfl, rfl, (by repeat first | exact Env.le_refl _ | refine Env.le_new rfl ?_), [], List.Perm.refl _⟩
    apply Exists.intro
    refine And.intro (fun h16 => ?_) ?_
    · skip
      refine SL.gval rfl (OpV.move rfl) rfl ?_
      refine SL.gcall rfl ok69 rfl (L1 := []) (List.Perm.refl _) (indexByte_ev l 0 _) rfl ?_
      rintro _ _ _ hM18 ⟨rfl, rfl, rfl⟩
      refine SL.gval rfl (OpV.lss rfl rfl) rfl ?_
      refine SL.val (OpV.pickT rfl rfl) rfl ?_
      exact SL.nil ⟨rfl, rfl, (by repeat first | exact Env.le_refl _ | refine Env.le_new rfl ?_), [], List.Perm.refl _⟩
    refine SL.val (OpV.assign rfl) rfl ?_
    refine SL.nil ?_
    refine seqQ.nm ?_
    refine SC.ret ?_
    refine retQ.one rfl (.tmp rfl) ?_ _ (.inr rfl)
    refine ⟨?_, rfl, rfl⟩
    have : is = true := by simpa using h6
    subst this
    have e1 : decide ((l.length : Int) ≤ 4096) = decide (l.length ≤ 4096) := dec_eq (by omega)
    rw [indexByte_dec, e1]; rfl

theorem nm_some {av : List (Bytes × Bytes)} {k : Nat} {p : Bytes × Bytes} (h : av[k]? = some p) : nm av k = p.1 := by simp [nm, h]
theorem avCells_at {M : Mem} {g o : Nat} {av : List (Bytes × Bytes)} {k : Nat} {p : Bytes × Bytes} (h : M.cells g o (avCells av)) (hk : av[k]? = some p) : M.cells g (o + k * 2) [str p.1, str p.2] := Mem.cells.flat (f := fun p => [str p.1, str p.2]) h 2 (fun _ => rfl) hk

theorem mayAttrs_ev (v : Value) (av : List (Bytes × Bytes)) (M : Mem) (hv : ISl M v 2 av.length (avCells av)) (hl : av.length ≤ big) (hn : ∀ p ∈ av, p.1.length ≤ big ∧ p.2.length ≤ big) :
    Ev Tryz.prog 48 [v].toArray [] M (Pu M (.bool (mayAttrs av))) := by
  obtain ⟨ad, cap, rfl, hcap, hmax⟩ := hv.len
  refine Ev.enter Tryz.func48 rfl Tryz.ntmps48 rfl ?_
  have hl' : av.length ≤ 268435456 := hl
  refine SC.seq ?_
  refine SC.region ?_
  refine SL.val (OpV.assign rfl) rfl ?_
  refine SL.nil ?_
  refine seqQ.nm ?_
  refine SC.seq ?_
  refine SC.seq ?_
  refine SC.region ?_
  refine SL.val (OpV.move rfl) rfl ?_
  refine SL.val (OpV.llen Tryz.underlying33 rfl) rfl ?_
  refine SL.val (OpV.move rfl) rfl ?_
  refine SL.nil ?_
  refine seqQ.nm ?_
  refine SC.block ?_
  refine SC.loop (ι := Nat) (fun k M' => k ≤ av.length ∧ attrsTo av k = true ∧ M = M') (fun k => [(0, .slice ad av.length cap), (5, .slice ad av.length cap), (6, .int .i64 av.length), (7, .int .i64 k)]) (fun _ => []) (fun k => av.length - k) 0 (G := []) ⟨rfl, rfl, rfl, rfl, trivial⟩ (List.Perm.refl _) ⟨Nat.zero_le _, rfl, rfl⟩ ?_
  rintro k _ _ ⟨hk, hall, rfl⟩
  refine SC.seq ?_
  refine SC.region ?_
  refine SL.val (OpV.lss rfl rfl) rfl ?_
  refine SL.nil ?_
  refine seqQ.nm ?_
  refine SC.seq ?_
  first | refine SC.ifp rfl (fun h8 => ?_) (fun h8 => ?_) | refine SC.ite rfl (fun h8 => ?_) (fun h8 => ?_)
  · skip
    have hlt : k < av.length := by omega
    obtain ⟨g, o, cap', he, hc, _⟩ := hv.at_ (by omega)
    cases he
    obtain ⟨p, hp⟩ := getElem?_lt hlt
    have hpl := hn p (List.mem_of_getElem? hp)
    have hpl1 : p.1.length ≤ 268435456 := hpl.1
    have hpc := avCells_at hc hp
    have hst := attrsTo_succ av k
    rw [hall, Bool.true_and] at hst
    refine SC.skip ?_
    refine seqQ.nm ?_
    refine SC.seq ?_
    refine SC.block ?_
    refine SC.seq ?_
    refine SC.region ?_
    refine SL.val (OpV.move rfl) rfl ?_
    refine SL.val (OpV.indexAddr Tryz.underlying33 sz50 rfl rfl (by omega) (by omega)) rfl ?_
    refine SL.val (OpV.loads (cs := [str p.1, str p.2]) _ Tryz.underlying50 rfl rfl sz50 (Kns.mem hpc)) rfl ?_
    refine SL.act (OpH.alloc zr50) rfl ?_; rintro _ _ _ hM4 ⟨b4, rfl, rfl, rfl⟩; clear hM4
    refine SL.val (OpV.assign rfl) rfl ?_
    first
      | refine SL.unit (OpU.store 0 rfl rfl rfl sz50 (by first | exact Nat.le_of_ble_eq_true rfl | (simp; done) | (simp; omega) | omega) (by first | rfl | (simp [Value.cells, Value.oneCell']; done))) ?_
      | refine SL.unit (OpU.storeRow 0 rfl rfl rfl sz50 (by first | exact Nat.le_of_ble_eq_true rfl | (simp; done) | (simp; omega) | omega) (by first | rfl | (simp [Value.cells, Value.oneCell']; done))) ?_
      | refine SL.unit (OpU.store 1 rfl rfl rfl sz50 (by first | exact Nat.le_of_ble_eq_true rfl | (simp; done) | (simp; omega) | omega) (by first | rfl | (simp [Value.cells, Value.oneCell']; done))) ?_
      | refine SL.unit (OpU.storeRow 1 rfl rfl rfl sz50 (by first | exact Nat.le_of_ble_eq_true rfl | (simp; done) | (simp; omega) | omega) (by first | rfl | (simp [Value.cells, Value.oneCell']; done))) ?_
      | refine SL.unit (OpU.store 2 rfl rfl rfl sz50 (by first | exact Nat.le_of_ble_eq_true rfl | (simp; done) | (simp; omega) | omega) (by first | rfl | (simp [Value.cells, Value.oneCell']; done))) ?_
      | refine SL.unit (OpU.storeRow 2 rfl rfl rfl sz50 (by first | exact Nat.le_of_ble_eq_true rfl | (simp; done) | (simp; omega) | omega) (by first | rfl | (simp [Value.cells, Value.oneCell']; done))) ?_
      | refine SL.unit (OpU.store 3 rfl rfl rfl sz50 (by first | exact Nat.le_of_ble_eq_true rfl | (simp; done) | (simp; omega) | omega) (by first | rfl | (simp [Value.cells, Value.oneCell']; done))) ?_
      | refine SL.unit (OpU.storeRow 3 rfl rfl rfl sz50 (by first | exact Nat.le_of_ble_eq_true rfl | (simp; done) | (simp; omega) | omega) (by first | rfl | (simp [Value.cells, Value.oneCell']; done))) ?_
    refine SL.nil ?_
    refine seqQ.nm ?_
    refine SC.seq ?_
    refine SC.quiet mixed (by decide +kernel) ?_
    refine SQ.val (OpV.fld fa50_0 rfl) rfl ?_
    first
      | refine SQ.val (OpV.load _ Tryz.underlying9 rfl rfl (Kn.blk 0 rfl rfl)) rfl ?_
      | refine SQ.val (OpV.load _ Tryz.underlying9 rfl rfl (Kn.blk 1 rfl rfl)) rfl ?_
      | refine SQ.val (OpV.load _ Tryz.underlying9 rfl rfl (Kn.blk 2 rfl rfl)) rfl ?_
      | refine SQ.val (OpV.load _ Tryz.underlying9 rfl rfl (Kn.blk 3 rfl rfl)) rfl ?_
      | refine SQ.val (OpV.load _ Tryz.underlying9 rfl rfl (Kn.mem (by assumption))) rfl ?_
    refine SQ.val (OpV.seql rfl rfl) rfl ?_
    refine SQ.val (OpV.move rfl) rfl ?_
    refine SQ.orcut 5 (c := 15) (d := 20) rfl (fun h15 => ?_) ?_
    · skip
      refine SQ.skip rfl rfl ?_
      refine SQ.skip rfl rfl ?_
      refine SQ.skip rfl rfl ?_
      refine SQ.skip rfl rfl ?_
      refine SQ.val (OpV.pickT rfl rfl) rfl ?_
      exact SQ.nil ⟨rfl, rfl, (by repeat first | exact Env.le_refl _ | refine Env.le_new rfl ?_), [], List.Perm.refl _⟩
    apply Exists.intro
    refine And.intro (fun h15 => ?_) ?_
    · skip
      refine SQ.gval rfl (OpV.fld fa50_0 rfl) rfl ?_
      first
        | refine SQ.gval rfl (OpV.load _ Tryz.underlying9 rfl rfl (Kn.blk 0 rfl rfl)) rfl ?_
        | refine SQ.gval rfl (OpV.load _ Tryz.underlying9 rfl rfl (Kn.blk 1 rfl rfl)) rfl ?_
        | refine SQ.gval rfl (OpV.load _ Tryz.underlying9 rfl rfl (Kn.blk 2 rfl rfl)) rfl ?_
        | refine SQ.gval rfl (OpV.load _ Tryz.underlying9 rfl rfl (Kn.blk 3 rfl rfl)) rfl ?_
        | refine SQ.gval rfl (OpV.load _ Tryz.underlying9 rfl rfl (Kn.mem (by assumption))) rfl ?_
      refine SQ.gval rfl (OpV.slen Tryz.underlying9 rfl) rfl ?_
      refine SQ.gval rfl (OpV.gtr rfl rfl) rfl ?_
      refine SQ.val (OpV.pickF rfl rfl) rfl ?_
      exact SQ.nil ⟨rfl, rfl, (by repeat first | exact Env.le_refl _ | refine Env.le_new rfl ?_), [], List.Perm.refl _⟩
    refine SQ.val (OpV.move rfl) rfl ?_
    refine SQ.orcut 4 (c := 21) (d := 25) rfl (fun h21 => ?_) ?_
    · skip
      refine SQ.skip rfl rfl ?_
      refine SQ.skip rfl rfl ?_
      refine SQ.skip rfl rfl ?_
      refine SQ.val (OpV.pickT rfl rfl) rfl ?_
      exact SQ.nil ⟨rfl, rfl, (by repeat first | exact Env.le_refl _ | refine Env.le_new rfl ?_), [], List.Perm.refl _⟩
    apply Exists.intro
    refine And.intro (fun h21 => ?_) ?_
    · skip
      refine SQ.gval rfl (OpV.fld fa50_0 rfl) rfl ?_
      first
        | refine SQ.gval rfl (OpV.load _ Tryz.underlying9 rfl rfl (Kn.blk 0 rfl rfl)) rfl ?_
        | refine SQ.gval rfl (OpV.load _ Tryz.underlying9 rfl rfl (Kn.blk 1 rfl rfl)) rfl ?_
        | refine SQ.gval rfl (OpV.load _ Tryz.underlying9 rfl rfl (Kn.blk 2 rfl rfl)) rfl ?_
        | refine SQ.gval rfl (OpV.load _ Tryz.underlying9 rfl rfl (Kn.blk 3 rfl rfl)) rfl ?_
        | refine SQ.gval rfl (OpV.load _ Tryz.underlying9 rfl rfl (Kn.mem (by assumption))) rfl ?_
      refine SQ.gcall rfl ok68 rfl (containsAny_ev p.1 [0, 61, 10] _ (by omega) (by simp) (by simp) (by decide)) rfl ?_
      refine SQ.val (OpV.pickF rfl rfl) rfl ?_
      exact SQ.nil ⟨rfl, rfl, (by repeat first | exact Env.le_refl _ | refine Env.le_new rfl ?_), [], List.Perm.refl _⟩
    refine SQ.val (OpV.move rfl) rfl ?_
    refine SQ.orcut 14 (c := 26) (d := 40) rfl (fun h26 => ?_) ?_
    · skip
      refine SQ.skip rfl rfl ?_
      refine SQ.skip rfl rfl ?_
      refine SQ.skip rfl rfl ?_
      refine SQ.skip rfl rfl ?_
      refine SQ.skip rfl rfl ?_
      refine SQ.skip rfl rfl ?_
      refine SQ.skip rfl rfl ?_
      refine SQ.skip rfl rfl ?_
      refine SQ.skip rfl rfl ?_
      refine SQ.skip rfl rfl ?_
      refine SQ.skip rfl rfl ?_
      refine SQ.skip rfl rfl ?_
      refine SQ.skip rfl rfl ?_
      refine SQ.val (OpV.pickT rfl rfl) rfl ?_
      exact SQ.nil ⟨rfl, rfl, (by repeat first | exact Env.le_refl _ | refine Env.le_new rfl ?_), [], List.Perm.refl _⟩
    apply Exists.intro
    refine And.intro (fun h26 => ?_) ?_
    · skip
      refine SQ.gval rfl (OpV.move rfl) rfl ?_
      refine SQ.gval rfl (OpV.gtr rfl rfl) rfl ?_
      refine SQ.gval rfl (OpV.move rfl) rfl ?_
      refine SQ.andcut 10 (c := 29) (d := 39) rfl (fun h29 => ?_) ?_
      · skip
        refine SQ.skip rfl rfl ?_
        refine SQ.skip rfl rfl ?_
        refine SQ.skip rfl rfl ?_
        refine SQ.skip rfl rfl ?_
        refine SQ.skip rfl rfl ?_
        refine SQ.skip rfl rfl ?_
        refine SQ.skip rfl rfl ?_
        refine SQ.skip rfl rfl ?_
        refine SQ.skip rfl rfl ?_
        refine SQ.gval rfl (OpV.pickF rfl rfl) rfl ?_
        exact SQ.nil ⟨rfl, rfl, (by repeat first | exact Env.le_refl _ | refine Env.le_new rfl ?_), [], List.Perm.refl _⟩
      apply Exists.intro
      refine And.intro (fun h29 => ?_) ?_
      · skip
        have hk0 : 0 < k := by simpa using h29
        have hn1 : ((k : Int) - 1).toNat = k - 1 := by omega
        obtain ⟨q, hq⟩ := getElem?_lt (l := av) (k := k - 1) (by omega)
        have hqc := avCells_at hc hq
        refine SQ.gval rfl (OpV.move rfl) rfl ?_
        refine SQ.gval rfl (OpV.move rfl) rfl ?_
        refine SQ.gval rfl (OpV.sub rfl rfl (IntWalk.i64_in _ (by omega))) rfl ?_
        refine SQ.gval rfl (OpV.indexAddr Tryz.underlying33 sz50 rfl rfl (by omega) (by omega)) rfl ?_
        refine SQ.gval rfl (OpV.fld fa50_0 rfl) rfl ?_
        refine SQ.gval rfl (OpV.load _ Tryz.underlying9 rfl rfl (Kn.mem (v := str (nm av (k - 1))) (by rw [hn1]; exact hqc 0 _ (by rw [nm_some hq]; rfl)))) rfl ?_
        refine SQ.gval rfl (OpV.fld fa50_0 rfl) rfl ?_
        first
          | refine SQ.gval rfl (OpV.load _ Tryz.underlying9 rfl rfl (Kn.blk 0 rfl rfl)) rfl ?_
          | refine SQ.gval rfl (OpV.load _ Tryz.underlying9 rfl rfl (Kn.blk 1 rfl rfl)) rfl ?_
          | refine SQ.gval rfl (OpV.load _ Tryz.underlying9 rfl rfl (Kn.blk 2 rfl rfl)) rfl ?_
          | refine SQ.gval rfl (OpV.load _ Tryz.underlying9 rfl rfl (Kn.blk 3 rfl rfl)) rfl ?_
          | refine SQ.gval rfl (OpV.load _ Tryz.underlying9 rfl rfl (Kn.mem (by assumption))) rfl ?_
        refine SQ.gval rfl (OpV.sgeq rfl rfl) rfl ?_
        refine SQ.gval rfl (OpV.pickT rfl rfl) rfl ?_
        exact SQ.nil ⟨rfl, rfl, (by repeat first | exact Env.le_refl _ | refine Env.le_new rfl ?_), [], List.Perm.refl _⟩
      refine SQ.val (OpV.pickF rfl rfl) rfl ?_
      exact SQ.nil ⟨rfl, rfl, (by repeat first | exact Env.le_refl _ | refine Env.le_new rfl ?_), [], List.Perm.refl _⟩
    refine SQ.nil ?_
    refine seqQ.nm ?_
    first | refine SC.ifp rfl (fun h40 => ?_) (fun h40 => ?_) | refine SC.ite rfl (fun h40 => ?_) (fun h40 => ?_)
    · skip
      refine SC.drop 0 rfl ?_
      refine SC.seq ?_
      refine SC.region ?_
      refine SL.val (OpV.assign rfl) rfl ?_
      refine SL.nil ?_
      refine seqQ.nm ?_
      refine SC.ret ?_
      refine blockQ.r ?_
      refine seqQ.r ?_
      refine loopQ.r ?_
      refine blockQ.r ?_
      refine seqQ.r ?_
      have hbad : attrAt av k = false := by
        rw [attrAt, nm_some hp, attrName]
        simp only [Bool.or_eq_true] at h40
        rcases h40 with ((h40 | h40) | h40) | h40
        · rw [decide_eq_false (p := p.1 ≠ []) (by simpa using h40)]; rfl
        · rw [decide_eq_false (p := p.1.length ≤ 242) (by simp at h40; omega)]; simp
        · rw [h40]; simp
        · simp only [Bool.and_eq_true, decide_eq_true_eq, Bool.not_eq_true'] at h40
          have hk0 : ¬ k = 0 := by omega
          simp [h40.2, hk0]
      refine retQ.one rfl (.tmp rfl) ?_ _ (.inr rfl)
      exact ⟨by rw [mayAttrs, attrsTo_bad hlt hbad]; rfl, rfl, rfl⟩
    · skip
      refine SC.drop 0 rfl ?_
      refine SC.skip ?_
      refine blockQ.nm ?_
      refine seqQ.nm ?_
      refine SC.region ?_
      refine SL.val (OpV.add rfl rfl (IntWalk.i64_in _ (by omega))) rfl ?_
      refine SL.val (OpV.move rfl) rfl ?_
      refine SL.nil ?_
      refine loopQ.nm (k + 1) (by omega) ⟨rfl, rfl, rfl, rfl, trivial⟩ (List.Perm.refl _) ⟨by omega, ?_, rfl⟩
      rw [hst, attrAt, nm_some hp, attrName]
      simp only [Bool.or_eq_false_iff] at h40
      obtain ⟨⟨⟨h1, h2⟩, h3⟩, h4⟩ := h40
      rw [decide_eq_true (p := p.1 ≠ []) (by simpa using h1), decide_eq_true (p := p.1.length ≤ 242) (by simp at h2; omega), h3]
      by_cases hk0 : k = 0
      · simp [hk0]
      · simp only [Bool.and_eq_false_iff, decide_eq_false_iff_not, Bool.not_eq_false'] at h4
        rcases h4 with h4 | h4
        · omega
        · simp [h4]
  · skip
    have hke : k = av.length := by omega
    rw [hke] at hall
    refine SC.exit ?_
    refine seqQ.e ?_
    refine loopQ.e ?_
    refine blockQ.e ?_
    refine seqQ.nm ?_
    refine SC.seq ?_
    refine SC.region ?_
    refine SL.val (OpV.move rfl) rfl ?_
    refine SL.val (OpV.llen Tryz.underlying33 rfl) rfl ?_
    refine SL.val (OpV.leq rfl rfl) rfl ?_
    refine SL.val (OpV.assign rfl) rfl ?_
    refine SL.nil ?_
    refine seqQ.nm ?_
    refine SC.ret ?_
    refine retQ.one rfl (.tmp rfl) ?_ _ (.inr rfl)
    refine ⟨?_, rfl, rfl⟩
    have e1 : decide ((av.length : Int) ≤ 16) = decide (av.length ≤ 16) := dec_eq (by omega)
    rw [mayAttrs, hall, e1, Bool.true_and]
end Go.Proofs.YtceabkfmjffnhaaGreatDoor
set_option linter.unusedVariables false
set_option linter.unusedSimpArgs false
namespace Go.Proofs.YtceabkfmjffnhaaGreatDoor
open Go Go.Eng

def typeOf (k : Int) : Int := if k = 1 then 53 else if k = 2 then 48 else if k = 3 then 50 else if k = 4 then 54 else 0
/-- What the table 'types' holds. -/
def TypeTab (M : Mem) : Prop := ∃ r es c, M.cell 2 0 (.map (some r)) ∧ M r (.map es c) ∧ ∀ k : Int, ∃ res, Instr.findNow (.int .i64) (.int .i64 k) es.toList 0 = some res ∧ (res.map (·.2)).getD (.int .u8 0) = .int .u8 (typeOf k)
theorem TypeTab.mono {M M' : Mem} (h : TypeTab M) (hm : M.le M') : TypeTab M' := by
  obtain ⟨r, es, c, h1, h2, h3⟩ := h
  exact ⟨r, es, c, h1.mono hm, hm _ _ h2, h3⟩
theorem typeOf_zero (k : Int) : typeOf k = 0 ↔ ¬ (1 ≤ k ∧ k ≤ 4) := by
  unfold typeOf
  split
  · omega
  · split
    · omega
    · split
      · omega
      · split <;> omega
theorem slice_one {M : Mem} {v : Value} {sz m : Nat} {xs : List Value} (h : ISl M v sz m xs) : v.oneCell' = true := by
  obtain ⟨ad, cap, rfl, _⟩ := h.len; rfl
theorem node_ones {M : Mem} {m : Mb} (h : m.ok M) : (Value.agg m.node.toArray).cells.all (·.oneCell') = true := by
  obtain ⟨a1, c1, e1, _⟩ := h.attrs.len
  obtain ⟨a2, c2, e2, _⟩ := h.data.len
  simp [Value.cells, Mb.node, Value.oneCell', e1, e2]
theorem cells_ones {M : Mem} {m : Mb} (h : m.ok M) : (Value.agg m.cells.toArray).cells.all (·.oneCell') = true := by
  obtain ⟨a1, c1, e1, _⟩ := h.attrs.len
  obtain ⟨a2, c2, e2, _⟩ := h.data.len
  simp [Value.cells, Mb.cells, Value.oneCell', e1, e2]
theorem mayMb_eq (m : Core) : mayMb m = (!(decide (((classP m.path).1 : Int) = 0) || decide (typeOf m.kind = 0) || decide (4095 < m.mode) || !mayAttrs m.av || !mayLink m.link (decide (m.kind = 3))) && (decide ((m.dv.length : Int) ≤ 16777216) && (decide (m.kind = 2) || decide ((m.dv.length : Int) = 0)))) := by
  rw [classP_eq, mayMb, mayNode, mayData]
  have e1 : decide (((classRef m.path).1 : Int) = 0) = !decide ((classRef m.path).1 ≠ 0) := by
    rw [← decide_not]; exact dec_eq (by omega)
  have e2 : decide (typeOf m.kind = 0) = !(decide (1 ≤ m.kind) && decide (m.kind ≤ 4)) := by
    rw [← Bool.decide_and, ← decide_not]; exact dec_eq (typeOf_zero _)
  have e3 : decide (4095 < m.mode) = !decide (m.mode ≤ 4095) := by
    rw [← decide_not]; exact dec_eq (by omega)
  have e4 : decide ((m.dv.length : Int) ≤ 16777216) = decide (m.dv.length ≤ 16777216) := dec_eq (by omega)
  have e5 : decide ((m.dv.length : Int) = 0) = decide (m.dv.length = 0) := dec_eq (by omega)
  rw [e1, e2, e3, e4, e5]
  simp only [Bool.not_or, Bool.not_not, Bool.and_assoc]

theorem tmay_ev (m : Mb) (M : Mem) (hc : ClassTab M) (ht : TypeTab M) (hok : m.ok M) : Ev Tryz.prog 23 [.agg m.cells.toArray].toArray [] M (Pu M (.bool (mayMb m.core))) := by
  obtain ⟨r, es, c, hg1, hg2, hg3⟩ := ht
  refine Ev.lax ?_
  refine Ev.enter Tryz.func23 rfl Tryz.ntmps23 rfl ?_
  have hp : m.path.length ≤ 268435456 := hok.path
  have hdl : m.dv.length ≤ 268435456 := hok.dataLen
  obtain ⟨res, hres1, hres2⟩ := hg3 m.kind
  obtain ⟨dad, dcap, hde, _⟩ := hok.data.len
  refine SC.seq ?_
  refine SC.region ?_
  refine SL.act (OpH.box rfl) rfl ?_; rintro _ _ _ hM1 ⟨b1, rfl, rfl, rfl⟩; clear hM1
  refine SL.val (OpV.assign rfl) rfl ?_
  refine SL.nil ?_
  refine seqQ.nm ?_
  refine SC.seq ?_
  refine SC.region ?_
  refine SL.val (OpV.fld fa38_0 rfl) rfl ?_
  first
    | refine SL.val (OpV.load _ Tryz.underlying9 rfl rfl (Kn.blk 0 rfl rfl)) rfl ?_
    | refine SL.val (OpV.load _ Tryz.underlying9 rfl rfl (Kn.blk 1 rfl rfl)) rfl ?_
    | refine SL.val (OpV.load _ Tryz.underlying9 rfl rfl (Kn.blk 2 rfl rfl)) rfl ?_
    | refine SL.val (OpV.load _ Tryz.underlying9 rfl rfl (Kn.blk 3 rfl rfl)) rfl ?_
    | refine SL.val (OpV.load _ Tryz.underlying9 rfl rfl (Kn.mem (by assumption))) rfl ?_
  refine SL.call ok21 rfl (L1 := []) (List.Perm.refl _) (pclass_ev m.path _ hc (by omega)) rfl ?_
  rintro _ _ _ hM9 ⟨rfl, rfl, rfl⟩
  refine SL.val (OpV.move rfl) rfl ?_
  refine SL.val (OpV.extract rfl rfl) rfl ?_
  refine SL.val (OpV.extract rfl rfl) rfl ?_
  refine SL.val (OpV.assign rfl) rfl ?_
  refine SL.val (OpV.assign rfl) rfl ?_
  refine SL.nil ?_
  refine seqQ.nm ?_
  refine SC.seq ?_
  refine SC.region ?_
  refine SL.val (OpV.fld fa38_1 rfl) rfl ?_
  first
    | refine SL.val (OpV.loads (cs := m.node) _ Tryz.underlying36 rfl rfl sz36 (Kns.blk 0 rfl rfl)) rfl ?_
    | refine SL.val (OpV.loads (cs := m.node) _ Tryz.underlying36 rfl rfl sz36 (Kns.blk 1 rfl rfl)) rfl ?_
    | refine SL.val (OpV.loads (cs := m.node) _ Tryz.underlying36 rfl rfl sz36 (Kns.blk 2 rfl rfl)) rfl ?_
    | refine SL.val (OpV.loads (cs := m.node) _ Tryz.underlying36 rfl rfl sz36 (Kns.blk 3 rfl rfl)) rfl ?_
    | refine SL.val (OpV.loads (cs := m.node) _ Tryz.underlying36 rfl rfl sz36 (Kns.mem (by assumption))) rfl ?_
  refine SL.act (OpH.alloc zr36) rfl ?_; rintro _ _ _ hM5 ⟨b5, rfl, rfl, rfl⟩; clear hM5
  first
    | refine SL.unit (OpU.store 0 rfl rfl rfl sz36 (by first | exact Nat.le_of_ble_eq_true rfl | (simp; done) | (simp; omega) | omega) (node_ones hok)) ?_
    | refine SL.unit (OpU.storeRow 0 rfl rfl rfl sz36 (by first | exact Nat.le_of_ble_eq_true rfl | (simp; done) | (simp; omega) | omega) (node_ones hok)) ?_
    | refine SL.unit (OpU.store 1 rfl rfl rfl sz36 (by first | exact Nat.le_of_ble_eq_true rfl | (simp; done) | (simp; omega) | omega) (node_ones hok)) ?_
    | refine SL.unit (OpU.storeRow 1 rfl rfl rfl sz36 (by first | exact Nat.le_of_ble_eq_true rfl | (simp; done) | (simp; omega) | omega) (node_ones hok)) ?_
    | refine SL.unit (OpU.store 2 rfl rfl rfl sz36 (by first | exact Nat.le_of_ble_eq_true rfl | (simp; done) | (simp; omega) | omega) (node_ones hok)) ?_
    | refine SL.unit (OpU.storeRow 2 rfl rfl rfl sz36 (by first | exact Nat.le_of_ble_eq_true rfl | (simp; done) | (simp; omega) | omega) (node_ones hok)) ?_
    | refine SL.unit (OpU.store 3 rfl rfl rfl sz36 (by first | exact Nat.le_of_ble_eq_true rfl | (simp; done) | (simp; omega) | omega) (node_ones hok)) ?_
    | refine SL.unit (OpU.storeRow 3 rfl rfl rfl sz36 (by first | exact Nat.le_of_ble_eq_true rfl | (simp; done) | (simp; omega) | omega) (node_ones hok)) ?_
  refine SL.nil ?_
  refine seqQ.nm ?_
  refine SC.seq ?_
  refine SC.seq ?_
  refine SC.region ?_
  refine SL.val (OpV.move rfl) rfl ?_
  refine SL.val (OpV.eql rfl rfl) rfl ?_
  refine SL.val (OpV.move rfl) rfl ?_
  refine SL.orcut 6 (c := 16) (d := 22) rfl (fun h16 => ?_) ?_
  · skip
    refine SL.skip rfl rfl ?_
    refine SL.skip rfl rfl ?_
    refine SL.skip rfl rfl ?_
    refine SL.skip rfl rfl ?_
    refine SL.skip rfl rfl ?_
    refine SL.val (OpV.pickT rfl rfl) rfl ?_
    exact SL.nil ⟨rfl, rfl, (by repeat first | exact Env.le_refl _ | refine Env.le_new rfl ?_), [], List.Perm.refl _⟩
  apply Exists.intro
  refine And.intro (fun h16 => ?_) ?_
  · skip
    refine SL.gval rfl (OpV.load _ Tryz.underlying79 rfl rfl (Kn.mem hg1)) rfl ?_
    refine SL.gval rfl (OpV.fld fa36_0 rfl) rfl ?_
    first
      | refine SL.gval rfl (OpV.load _ Tryz.underlying3 rfl rfl (Kn.blk 0 rfl rfl)) rfl ?_
      | refine SL.gval rfl (OpV.load _ Tryz.underlying3 rfl rfl (Kn.blk 1 rfl rfl)) rfl ?_
      | refine SL.gval rfl (OpV.load _ Tryz.underlying3 rfl rfl (Kn.blk 2 rfl rfl)) rfl ?_
      | refine SL.gval rfl (OpV.load _ Tryz.underlying3 rfl rfl (Kn.blk 3 rfl rfl)) rfl ?_
      | refine SL.gval rfl (OpV.load _ Tryz.underlying3 rfl rfl (Kn.mem (by assumption))) rfl ?_
    refine SL.gval rfl (show OpV _ _ _ _ _ (.int .u8 (typeOf m.kind)) by rw [← hres2]; exact (OpV.lookupV Tryz.underlying79 Tryz.underlying3 rfl zr5 rfl rfl (Ko.mem hg2) hres1)) rfl ?_
    refine SL.gval rfl (OpV.eql rfl rfl) rfl ?_
    refine SL.val (OpV.pickF rfl rfl) rfl ?_
    exact SL.nil ⟨rfl, rfl, (by repeat first | exact Env.le_refl _ | refine Env.le_new rfl ?_), [], List.Perm.refl _⟩
  refine SL.val (OpV.move rfl) rfl ?_
  refine SL.orcut 4 (c := 23) (d := 27) rfl (fun h23 => ?_) ?_
  · skip
    refine SL.skip rfl rfl ?_
    refine SL.skip rfl rfl ?_
    refine SL.skip rfl rfl ?_
    refine SL.val (OpV.pickT rfl rfl) rfl ?_
    exact SL.nil ⟨rfl, rfl, (by repeat first | exact Env.le_refl _ | refine Env.le_new rfl ?_), [], List.Perm.refl _⟩
  apply Exists.intro
  refine And.intro (fun h23 => ?_) ?_
  · skip
    refine SL.gval rfl (OpV.fld fa36_1 rfl) rfl ?_
    first
      | refine SL.gval rfl (OpV.load _ Tryz.underlying32 rfl rfl (Kn.blk 0 rfl rfl)) rfl ?_
      | refine SL.gval rfl (OpV.load _ Tryz.underlying32 rfl rfl (Kn.blk 1 rfl rfl)) rfl ?_
      | refine SL.gval rfl (OpV.load _ Tryz.underlying32 rfl rfl (Kn.blk 2 rfl rfl)) rfl ?_
      | refine SL.gval rfl (OpV.load _ Tryz.underlying32 rfl rfl (Kn.blk 3 rfl rfl)) rfl ?_
      | refine SL.gval rfl (OpV.load _ Tryz.underlying32 rfl rfl (Kn.mem (by assumption))) rfl ?_
    refine SL.gval rfl (OpV.gtr rfl rfl) rfl ?_
    refine SL.val (OpV.pickF rfl rfl) rfl ?_
    exact SL.nil ⟨rfl, rfl, (by repeat first | exact Env.le_refl _ | refine Env.le_new rfl ?_), [], List.Perm.refl _⟩
  refine SL.val (OpV.move rfl) rfl ?_
  refine SL.orcut 5 (c := 28) (d := 33) rfl (fun h28 => ?_) ?_
  · skip
    refine SL.skip rfl rfl ?_
    refine SL.skip rfl rfl ?_
    refine SL.skip rfl rfl ?_
    refine SL.skip rfl rfl ?_
    refine SL.val (OpV.pickT rfl rfl) rfl ?_
    exact SL.nil ⟨rfl, rfl, (by repeat first | exact Env.le_refl _ | refine Env.le_new rfl ?_), [], List.Perm.refl _⟩
  apply Exists.intro
  refine And.intro (fun h28 => ?_) ?_
  · skip
    refine SL.gval rfl (OpV.fld fa36_5 rfl) rfl ?_
    first
      | refine SL.gval rfl (OpV.load _ Tryz.underlying33 rfl rfl (Kn.blk 0 rfl rfl)) rfl ?_
      | refine SL.gval rfl (OpV.load _ Tryz.underlying33 rfl rfl (Kn.blk 1 rfl rfl)) rfl ?_
      | refine SL.gval rfl (OpV.load _ Tryz.underlying33 rfl rfl (Kn.blk 2 rfl rfl)) rfl ?_
      | refine SL.gval rfl (OpV.load _ Tryz.underlying33 rfl rfl (Kn.blk 3 rfl rfl)) rfl ?_
      | refine SL.gval rfl (OpV.load _ Tryz.underlying33 rfl rfl (Kn.mem (by assumption))) rfl ?_
    refine SL.gcall rfl ok48 rfl (L1 := []) (List.Perm.refl _) (mayAttrs_ev m.attrs m.av _ hok.attrs hok.attrsLen hok.names) rfl ?_
    rintro _ _ _ hM31 ⟨rfl, rfl, rfl⟩
    refine SL.gval rfl (OpV.not rfl) rfl ?_
    refine SL.val (OpV.pickF rfl rfl) rfl ?_
    exact SL.nil ⟨rfl, rfl, (by repeat first | exact Env.le_refl _ | refine Env.le_new rfl ?_), [], List.Perm.refl _⟩
  refine SL.val (OpV.move rfl) rfl ?_
  refine SL.orcut 8 (c := 34) (d := 42) rfl (fun h34 => ?_) ?_
  · skip
    refine SL.skip rfl rfl ?_
    refine SL.skip rfl rfl ?_
    refine SL.skip rfl rfl ?_
    refine SL.skip rfl rfl ?_
    refine SL.skip rfl rfl ?_
    refine SL.skip rfl rfl ?_
    refine SL.skip rfl rfl ?_
    refine SL.val (OpV.pickT rfl rfl) rfl ?_
    exact SL.nil ⟨rfl, rfl, (by repeat first | exact Env.le_refl _ | refine Env.le_new rfl ?_), [], List.Perm.refl _⟩
  apply Exists.intro
  refine And.intro (fun h34 => ?_) ?_
  · skip
    refine SL.gval rfl (OpV.fld fa36_7 rfl) rfl ?_
    first
      | refine SL.gval rfl (OpV.load _ Tryz.underlying9 rfl rfl (Kn.blk 0 rfl rfl)) rfl ?_
      | refine SL.gval rfl (OpV.load _ Tryz.underlying9 rfl rfl (Kn.blk 1 rfl rfl)) rfl ?_
      | refine SL.gval rfl (OpV.load _ Tryz.underlying9 rfl rfl (Kn.blk 2 rfl rfl)) rfl ?_
      | refine SL.gval rfl (OpV.load _ Tryz.underlying9 rfl rfl (Kn.blk 3 rfl rfl)) rfl ?_
      | refine SL.gval rfl (OpV.load _ Tryz.underlying9 rfl rfl (Kn.mem (by assumption))) rfl ?_
    refine SL.gval rfl (OpV.fld fa36_0 rfl) rfl ?_
    first
      | refine SL.gval rfl (OpV.load _ Tryz.underlying3 rfl rfl (Kn.blk 0 rfl rfl)) rfl ?_
      | refine SL.gval rfl (OpV.load _ Tryz.underlying3 rfl rfl (Kn.blk 1 rfl rfl)) rfl ?_
      | refine SL.gval rfl (OpV.load _ Tryz.underlying3 rfl rfl (Kn.blk 2 rfl rfl)) rfl ?_
      | refine SL.gval rfl (OpV.load _ Tryz.underlying3 rfl rfl (Kn.blk 3 rfl rfl)) rfl ?_
      | refine SL.gval rfl (OpV.load _ Tryz.underlying3 rfl rfl (Kn.mem (by assumption))) rfl ?_
    refine SL.gval rfl (OpV.eql rfl rfl) rfl ?_
    refine SL.gcall rfl ok49 rfl (L1 := []) (List.Perm.refl _) (mayLink_ev m.link _ _ hok.link) rfl ?_
    rintro _ _ _ hM40 ⟨rfl, rfl, rfl⟩
    refine SL.gval rfl (OpV.not rfl) rfl ?_
    refine SL.val (OpV.pickF rfl rfl) rfl ?_
    exact SL.nil ⟨rfl, rfl, (by repeat first | exact Env.le_refl _ | refine Env.le_new rfl ?_), [], List.Perm.refl _⟩
  refine SL.nil ?_
  refine seqQ.nm ?_
  first | refine SC.ifp rfl (fun h42 => ?_) (fun h42 => ?_) | refine SC.ite rfl (fun h42 => ?_) (fun h42 => ?_)
  · skip
    refine SC.seq ?_
    refine SC.region ?_
    refine SL.val (OpV.assign rfl) rfl ?_
    refine SL.nil ?_
    refine seqQ.nm ?_
    refine SC.ret ?_
    refine seqQ.r ?_
    refine retQ.one rfl (.tmp rfl) ?_ _ (.inr rfl)
    exact (by rw [mayMb_eq]; rw [show (decide (((classP m.core.path).1 : Int) = 0) || decide (typeOf m.core.kind = 0) || decide (4095 < m.core.mode) || !mayAttrs m.core.av || !mayLink m.core.link (decide (m.core.kind = 3))) = true from h42]; rfl)
  · skip
    refine SC.skip ?_
    refine seqQ.nm ?_
    refine SC.seq ?_
    refine SC.region ?_
    refine SL.val (OpV.fld fa36_6 rfl) rfl ?_
    first
      | refine SL.val (show OpV _ _ _ _ _ (.slice dad m.dv.length dcap) by rw [← hde]; exact (OpV.load _ Tryz.underlying34 rfl rfl (Kn.blk 0 rfl rfl))) rfl ?_
      | refine SL.val (show OpV _ _ _ _ _ (.slice dad m.dv.length dcap) by rw [← hde]; exact (OpV.load _ Tryz.underlying34 rfl rfl (Kn.blk 1 rfl rfl))) rfl ?_
      | refine SL.val (show OpV _ _ _ _ _ (.slice dad m.dv.length dcap) by rw [← hde]; exact (OpV.load _ Tryz.underlying34 rfl rfl (Kn.blk 2 rfl rfl))) rfl ?_
      | refine SL.val (show OpV _ _ _ _ _ (.slice dad m.dv.length dcap) by rw [← hde]; exact (OpV.load _ Tryz.underlying34 rfl rfl (Kn.blk 3 rfl rfl))) rfl ?_
      | refine SL.val (show OpV _ _ _ _ _ (.slice dad m.dv.length dcap) by rw [← hde]; exact (OpV.load _ Tryz.underlying34 rfl rfl (Kn.mem (by assumption)))) rfl ?_
    refine SL.val (OpV.llen Tryz.underlying34 rfl) rfl ?_
    refine SL.val (OpV.leq rfl rfl) rfl ?_
    refine SL.val (OpV.move rfl) rfl ?_
    refine SL.andcut 10 (c := 47) (d := 57) rfl (fun h47 => ?_) ?_
    · skip
      refine SL.skip rfl rfl ?_
      refine SL.skip rfl rfl ?_
      refine SL.skip rfl rfl ?_
      refine SL.skip rfl rfl ?_
      refine SL.skip rfl rfl ?_
      refine SL.skip rfl rfl ?_
      refine SL.skip rfl rfl ?_
      refine SL.skip rfl rfl ?_
      refine SL.skip rfl rfl ?_
      refine SL.val (OpV.pickF rfl rfl) rfl ?_
      exact SL.nil ⟨rfl, rfl, (by repeat first | exact Env.le_refl _ | refine Env.le_new rfl ?_), [], List.Perm.refl _⟩
    apply Exists.intro
    refine And.intro (fun h47 => ?_) ?_
    · skip
      refine SL.gval rfl (OpV.fld fa36_0 rfl) rfl ?_
      first
        | refine SL.gval rfl (OpV.load _ Tryz.underlying3 rfl rfl (Kn.blk 0 rfl rfl)) rfl ?_
        | refine SL.gval rfl (OpV.load _ Tryz.underlying3 rfl rfl (Kn.blk 1 rfl rfl)) rfl ?_
        | refine SL.gval rfl (OpV.load _ Tryz.underlying3 rfl rfl (Kn.blk 2 rfl rfl)) rfl ?_
        | refine SL.gval rfl (OpV.load _ Tryz.underlying3 rfl rfl (Kn.blk 3 rfl rfl)) rfl ?_
        | refine SL.gval rfl (OpV.load _ Tryz.underlying3 rfl rfl (Kn.mem (by assumption))) rfl ?_
      refine SL.gval rfl (OpV.eql rfl rfl) rfl ?_
      refine SL.gval rfl (OpV.move rfl) rfl ?_
      refine SL.orcut 5 (c := 51) (d := 56) rfl (fun h51 => ?_) ?_
      · skip
        refine SL.skip rfl rfl ?_
        refine SL.skip rfl rfl ?_
        refine SL.skip rfl rfl ?_
        refine SL.skip rfl rfl ?_
        refine SL.gval rfl (OpV.pickT rfl rfl) rfl ?_
        exact SL.nil ⟨rfl, rfl, (by repeat first | exact Env.le_refl _ | refine Env.le_new rfl ?_), [], List.Perm.refl _⟩
      apply Exists.intro
      refine And.intro (fun h51 => ?_) ?_
      · skip
        refine SL.gval rfl (OpV.fld fa36_6 rfl) rfl ?_
        first
          | refine SL.gval rfl (show OpV _ _ _ _ _ (.slice dad m.dv.length dcap) by rw [← hde]; exact (OpV.load _ Tryz.underlying34 rfl rfl (Kn.blk 0 rfl rfl))) rfl ?_
          | refine SL.gval rfl (show OpV _ _ _ _ _ (.slice dad m.dv.length dcap) by rw [← hde]; exact (OpV.load _ Tryz.underlying34 rfl rfl (Kn.blk 1 rfl rfl))) rfl ?_
          | refine SL.gval rfl (show OpV _ _ _ _ _ (.slice dad m.dv.length dcap) by rw [← hde]; exact (OpV.load _ Tryz.underlying34 rfl rfl (Kn.blk 2 rfl rfl))) rfl ?_
          | refine SL.gval rfl (show OpV _ _ _ _ _ (.slice dad m.dv.length dcap) by rw [← hde]; exact (OpV.load _ Tryz.underlying34 rfl rfl (Kn.blk 3 rfl rfl))) rfl ?_
          | refine SL.gval rfl (show OpV _ _ _ _ _ (.slice dad m.dv.length dcap) by rw [← hde]; exact (OpV.load _ Tryz.underlying34 rfl rfl (Kn.mem (by assumption)))) rfl ?_
        refine SL.gval rfl (OpV.llen Tryz.underlying34 rfl) rfl ?_
        refine SL.gval rfl (OpV.eql rfl rfl) rfl ?_
        refine SL.gval rfl (OpV.pickF rfl rfl) rfl ?_
        exact SL.nil ⟨rfl, rfl, (by repeat first | exact Env.le_refl _ | refine Env.le_new rfl ?_), [], List.Perm.refl _⟩
      refine SL.val (OpV.pickT rfl rfl) rfl ?_
      exact SL.nil ⟨rfl, rfl, (by repeat first | exact Env.le_refl _ | refine Env.le_new rfl ?_), [], List.Perm.refl _⟩
    refine SL.val (OpV.assign rfl) rfl ?_
    refine SL.nil ?_
    refine seqQ.nm ?_
    refine SC.ret ?_
    refine retQ.one rfl (.tmp rfl) ?_ _ (.inr rfl)
    exact (by rw [mayMb_eq]; rw [show (decide (((classP m.core.path).1 : Int) = 0) || decide (typeOf m.core.kind = 0) || decide (4095 < m.core.mode) || !mayAttrs m.core.av || !mayLink m.core.link (decide (m.core.kind = 3))) = false from h42]; rfl)
end Go.Proofs.YtceabkfmjffnhaaGreatDoor
set_option linter.unusedVariables false
set_option linter.unusedSimpArgs false
namespace Go.Proofs.YtceabkfmjffnhaaGreatDoor
open Go Go.Eng

theorem u8_int (c d : UInt8) : decide ((c.toNat : Int) = (d.toNat : Int)) = decide (c = d) := dec_eq (u8_eq c d)
theorem rhas_ev (s : Bytes) (c : UInt8) (M : Mem) (hs : s.length ≤ 1099511627776) : Ev Tryz.prog 54 [str s, .int .u8 c.toNat].toArray [] M (Pu M (.bool (s.contains c))) := by
  refine Ev.enter Tryz.func54 rfl Tryz.ntmps54 rfl ?_
  refine SC.seq ?_
  refine SC.region ?_
  refine SL.val (OpV.assign rfl) rfl ?_
  refine SL.nil ?_
  refine seqQ.nm ?_
  refine SC.seq ?_
  refine SC.seq ?_
  refine SC.region ?_
  refine SL.val (OpV.assign rfl) rfl ?_
  refine SL.nil ?_
  refine seqQ.nm ?_
  refine SC.block ?_
  refine SC.loop (ι := Nat) (fun k M' => k ≤ s.length ∧ (s.take k).contains c = false ∧ M = M') (fun k => [(0, str s), (1, .int .u8 c.toNat), (5, .int .i64 k)]) (fun _ => []) (fun k => s.length - k) 0 (G := []) ⟨rfl, rfl, rfl, trivial⟩ (List.Perm.refl _) ⟨Nat.zero_le _, rfl, rfl⟩ ?_
  rintro k _ _ ⟨hk, hno, rfl⟩
  refine SC.seq ?_
  refine SC.seq ?_
  refine SC.region ?_
  refine SL.val (OpV.move rfl) rfl ?_
  refine SL.val (OpV.move rfl) rfl ?_
  refine SL.val (OpV.slen Tryz.underlying9 rfl) rfl ?_
  refine SL.val (OpV.lss rfl rfl) rfl ?_
  refine SL.nil ?_
  refine seqQ.nm ?_
  first | refine SC.ifp rfl (fun h9 => ?_) (fun h9 => ?_) | refine SC.ite rfl (fun h9 => ?_) (fun h9 => ?_)
  · skip
    have hlt : k < s.length := by omega
    refine SC.skip ?_
    refine seqQ.nm ?_
    refine SC.seq ?_
    refine SC.block ?_
    refine SC.seq ?_
    refine SC.region ?_
    refine SL.val (OpV.move rfl) rfl ?_
    refine SL.val (OpV.move rfl) rfl ?_
    refine SL.val (OpV.sindexG Tryz.underlying9 rfl rfl (by omega) (by omega)) rfl ?_
    refine SL.val (OpV.move rfl) rfl ?_
    refine SL.val (OpV.eql rfl rfl) rfl ?_
    refine SL.nil ?_
    refine seqQ.nm ?_
    first | refine SC.ifp rfl (fun h16 => ?_) (fun h16 => ?_) | refine SC.ite rfl (fun h16 => ?_) (fun h16 => ?_)
    · skip
      have hc : s.getD k 0 = c := (u8_eq _ _).1 (by simpa using h16)
      have hin : s.contains c = true := by rw [← hc]; exact List.contains_iff_mem.2 (getD_mem hlt)
      refine SC.seq ?_
      refine SC.region ?_
      refine SL.val (OpV.assign rfl) rfl ?_
      refine SL.nil ?_
      refine seqQ.nm ?_
      refine SC.ret ?_
      refine blockQ.r ?_
      refine seqQ.r ?_
      refine loopQ.r ?_
      refine blockQ.r ?_
      refine seqQ.r ?_
      refine retQ.one rfl (.tmp rfl) ?_ _ (.inr rfl)
      exact ⟨by rw [hin], rfl, rfl⟩
    · skip
      have hc : ¬ s.getD k 0 = c := fun e => h16 (by simpa using (u8_eq _ _).2 e)
      refine SC.skip ?_
      refine blockQ.nm ?_
      refine seqQ.nm ?_
      refine SC.region ?_
      refine SL.val (OpV.move rfl) rfl ?_
      refine SL.val (OpV.add rfl rfl (IntWalk.i64_in _ (by omega))) rfl ?_
      refine SL.val (OpV.assign rfl) rfl ?_
      refine SL.nil ?_
      refine loopQ.nm (k + 1) (by omega) ⟨rfl, rfl, rfl, trivial⟩ (List.Perm.refl _) ⟨by omega, ?_, rfl⟩
      rw [List.take_add_one, getD_some hlt]
      rw [Bool.eq_false_iff] at hno ⊢
      intro e
      have e' := List.contains_iff_mem.1 e
      rw [Option.toList_some, List.mem_append, List.mem_singleton] at e'
      rcases e' with e' | e'
      · exact hno (List.contains_iff_mem.2 e')
      · exact hc e'.symm
  · skip
    have hke : k = s.length := by omega
    rw [hke, List.take_length] at hno
    refine SC.exit ?_
    refine seqQ.e ?_
    refine loopQ.e ?_
    refine blockQ.e ?_
    refine seqQ.nm ?_
    refine SC.seq ?_
    refine SC.region ?_
    refine SL.val (OpV.assign rfl) rfl ?_
    refine SL.nil ?_
    refine seqQ.nm ?_
    refine SC.ret ?_
    refine retQ.one rfl (.tmp rfl) ?_ _ (.inr rfl)
    exact ⟨by rw [hno], rfl, rfl⟩
theorem hasAny_3 (s : Bytes) (a b c : UInt8) : hasAny s [a, b, c] = (s.contains a || s.contains b || s.contains c) := by
  induction s with
  | nil => rfl
  | cons x s ih =>
    have e : hasAny (x :: s) [a, b, c] = ([a, b, c].contains x || hasAny s [a, b, c]) := by simp [hasAny]
    rw [e, ih]
    simp only [List.contains_cons, List.contains_nil, Bool.or_false]
    rw [show (a == x) = (x == a) from BEq.comm, show (b == x) = (x == b) from BEq.comm, show (c == x) = (x == c) from BEq.comm]
    generalize (x == a) = A
    generalize (x == b) = B
    generalize (x == c) = C
    generalize s.contains a = D
    generalize s.contains b = E
    generalize s.contains c = F
    cases A <;> cases B <;> cases C <;> cases D <;> cases E <;> cases F <;> rfl
theorem mayMb_ref (m : Core) : mayMb m = (!(decide (((classRef m.path).1 : Int) = 0) || decide (m.kind < 1) || decide (4 < m.kind) || decide (4095 < m.mode) || decide (16 < (m.av.length : Int))) && (attrsTo m.av m.av.length && (mayLink m.link (decide (m.kind = 3)) && (decide ((m.dv.length : Int) ≤ 16777216) && (decide (m.kind = 2) || decide ((m.dv.length : Int) = 0)))))) := by
  rw [mayMb, mayNode, mayData, mayAttrs]
  have e1 : decide (((classRef m.path).1 : Int) = 0) = !decide ((classRef m.path).1 ≠ 0) := by
    rw [← decide_not]; exact dec_eq (by omega)
  have e2 : decide (m.kind < 1) = !decide (1 ≤ m.kind) := by rw [← decide_not]; exact dec_eq (by omega)
  have e6 : decide (4 < m.kind) = !decide (m.kind ≤ 4) := by rw [← decide_not]; exact dec_eq (by omega)
  have e3 : decide (4095 < m.mode) = !decide (m.mode ≤ 4095) := by
    rw [← decide_not]; exact dec_eq (by omega)
  have e7 : decide (16 < (m.av.length : Int)) = !decide (m.av.length ≤ 16) := by
    rw [← decide_not]; exact dec_eq (by omega)
  have e4 : decide ((m.dv.length : Int) ≤ 16777216) = decide (m.dv.length ≤ 16777216) := dec_eq (by omega)
  have e5 : decide ((m.dv.length : Int) = 0) = decide (m.dv.length = 0) := dec_eq (by omega)
  rw [e1, e2, e3, e4, e5, e6, e7]
  simp only [Bool.not_or, Bool.not_not, Bool.and_assoc]
  generalize decide (m.av.length ≤ 16) = A
  generalize attrsTo m.av m.av.length = B
  cases A <;> cases B <;> simp

theorem rtmay_ev (m : Mb) (M : Mem) (hok : m.ok M) : Ev Tryz.prog 28 [.agg m.cells.toArray].toArray [] M (Pu M (.bool (mayMb m.core))) := by
  refine Ev.lax ?_
  refine Ev.enter Tryz.func28 rfl Tryz.ntmps28 rfl ?_
  have hp : m.path.length ≤ 268435456 := hok.path
  have hlk : m.link.length ≤ 268435456 := hok.link
  have hal : m.av.length ≤ 268435456 := hok.attrsLen
  have hdl : m.dv.length ≤ 268435456 := hok.dataLen
  obtain ⟨dad, dcap, hde, _⟩ := hok.data.len
  obtain ⟨aad, acap, hae, _⟩ := hok.attrs.len
  refine SC.seq ?_
  refine SC.region ?_
  refine SL.act (OpH.box rfl) rfl ?_; rintro _ _ _ hM1 ⟨b1, rfl, rfl, rfl⟩; clear hM1
  refine SL.val (OpV.assign rfl) rfl ?_
  refine SL.nil ?_
  refine seqQ.nm ?_
  refine SC.seq ?_
  refine SC.region ?_
  refine SL.val (OpV.fld fa38_0 rfl) rfl ?_
  first
    | refine SL.val (OpV.load _ Tryz.underlying9 rfl rfl (Kn.blk 0 rfl rfl)) rfl ?_
    | refine SL.val (OpV.load _ Tryz.underlying9 rfl rfl (Kn.blk 1 rfl rfl)) rfl ?_
    | refine SL.val (OpV.load _ Tryz.underlying9 rfl rfl (Kn.blk 2 rfl rfl)) rfl ?_
    | refine SL.val (OpV.load _ Tryz.underlying9 rfl rfl (Kn.blk 3 rfl rfl)) rfl ?_
    | refine SL.val (OpV.load _ Tryz.underlying9 rfl rfl (Kn.mem (by assumption))) rfl ?_
  refine SL.call ok29 rfl (L1 := []) (List.Perm.refl _) (rclass_ev m.path _ (by omega)) rfl ?_
  rintro _ _ _ hM11 ⟨rfl, rfl, rfl⟩
  refine SL.val (OpV.move rfl) rfl ?_
  refine SL.val (OpV.extract rfl rfl) rfl ?_
  refine SL.val (OpV.extract rfl rfl) rfl ?_
  refine SL.val (OpV.assign rfl) rfl ?_
  refine SL.val (OpV.assign rfl) rfl ?_
  refine SL.nil ?_
  refine seqQ.nm ?_
  refine SC.seq ?_
  refine SC.region ?_
  refine SL.val (OpV.fld fa38_1 rfl) rfl ?_
  first
    | refine SL.val (OpV.loads (cs := m.node) _ Tryz.underlying36 rfl rfl sz36 (Kns.blk 0 rfl rfl)) rfl ?_
    | refine SL.val (OpV.loads (cs := m.node) _ Tryz.underlying36 rfl rfl sz36 (Kns.blk 1 rfl rfl)) rfl ?_
    | refine SL.val (OpV.loads (cs := m.node) _ Tryz.underlying36 rfl rfl sz36 (Kns.blk 2 rfl rfl)) rfl ?_
    | refine SL.val (OpV.loads (cs := m.node) _ Tryz.underlying36 rfl rfl sz36 (Kns.blk 3 rfl rfl)) rfl ?_
    | refine SL.val (OpV.loads (cs := m.node) _ Tryz.underlying36 rfl rfl sz36 (Kns.mem (by assumption))) rfl ?_
  refine SL.act (OpH.alloc zr36) rfl ?_; rintro _ _ _ hM5 ⟨b5, rfl, rfl, rfl⟩; clear hM5
  first
    | refine SL.unit (OpU.store 0 rfl rfl rfl sz36 (by first | exact Nat.le_of_ble_eq_true rfl | (simp; done) | (simp; omega) | omega) (node_ones hok)) ?_
    | refine SL.unit (OpU.storeRow 0 rfl rfl rfl sz36 (by first | exact Nat.le_of_ble_eq_true rfl | (simp; done) | (simp; omega) | omega) (node_ones hok)) ?_
    | refine SL.unit (OpU.store 1 rfl rfl rfl sz36 (by first | exact Nat.le_of_ble_eq_true rfl | (simp; done) | (simp; omega) | omega) (node_ones hok)) ?_
    | refine SL.unit (OpU.storeRow 1 rfl rfl rfl sz36 (by first | exact Nat.le_of_ble_eq_true rfl | (simp; done) | (simp; omega) | omega) (node_ones hok)) ?_
    | refine SL.unit (OpU.store 2 rfl rfl rfl sz36 (by first | exact Nat.le_of_ble_eq_true rfl | (simp; done) | (simp; omega) | omega) (node_ones hok)) ?_
    | refine SL.unit (OpU.storeRow 2 rfl rfl rfl sz36 (by first | exact Nat.le_of_ble_eq_true rfl | (simp; done) | (simp; omega) | omega) (node_ones hok)) ?_
    | refine SL.unit (OpU.store 3 rfl rfl rfl sz36 (by first | exact Nat.le_of_ble_eq_true rfl | (simp; done) | (simp; omega) | omega) (node_ones hok)) ?_
    | refine SL.unit (OpU.storeRow 3 rfl rfl rfl sz36 (by first | exact Nat.le_of_ble_eq_true rfl | (simp; done) | (simp; omega) | omega) (node_ones hok)) ?_
  refine SL.nil ?_
  refine seqQ.nm ?_
  refine SC.seq ?_
  refine SC.seq ?_
  refine SC.region ?_
  refine SL.val (OpV.move rfl) rfl ?_
  refine SL.val (OpV.eql rfl rfl) rfl ?_
  refine SL.val (OpV.move rfl) rfl ?_
  refine SL.orcut 4 (c := 18) (d := 22) rfl (fun h18 => ?_) ?_
  · skip
    refine SL.skip rfl rfl ?_
    refine SL.skip rfl rfl ?_
    refine SL.skip rfl rfl ?_
    refine SL.val (OpV.pickT rfl rfl) rfl ?_
    exact SL.nil ⟨rfl, rfl, (by repeat first | exact Env.le_refl _ | refine Env.le_new rfl ?_), [], List.Perm.refl _⟩
  apply Exists.intro
  refine And.intro (fun h18 => ?_) ?_
  · skip
    refine SL.gval rfl (OpV.fld fa36_0 rfl) rfl ?_
    first
      | refine SL.gval rfl (OpV.load _ Tryz.underlying3 rfl rfl (Kn.blk 0 rfl rfl)) rfl ?_
      | refine SL.gval rfl (OpV.load _ Tryz.underlying3 rfl rfl (Kn.blk 1 rfl rfl)) rfl ?_
      | refine SL.gval rfl (OpV.load _ Tryz.underlying3 rfl rfl (Kn.blk 2 rfl rfl)) rfl ?_
      | refine SL.gval rfl (OpV.load _ Tryz.underlying3 rfl rfl (Kn.blk 3 rfl rfl)) rfl ?_
      | refine SL.gval rfl (OpV.load _ Tryz.underlying3 rfl rfl (Kn.mem (by assumption))) rfl ?_
    refine SL.gval rfl (OpV.lss rfl rfl) rfl ?_
    refine SL.val (OpV.pickF rfl rfl) rfl ?_
    exact SL.nil ⟨rfl, rfl, (by repeat first | exact Env.le_refl _ | refine Env.le_new rfl ?_), [], List.Perm.refl _⟩
  refine SL.val (OpV.move rfl) rfl ?_
  refine SL.orcut 4 (c := 23) (d := 27) rfl (fun h23 => ?_) ?_
  · skip
    refine SL.skip rfl rfl ?_
    refine SL.skip rfl rfl ?_
    refine SL.skip rfl rfl ?_
    refine SL.val (OpV.pickT rfl rfl) rfl ?_
    exact SL.nil ⟨rfl, rfl, (by repeat first | exact Env.le_refl _ | refine Env.le_new rfl ?_), [], List.Perm.refl _⟩
  apply Exists.intro
  refine And.intro (fun h23 => ?_) ?_
  · skip
    refine SL.gval rfl (OpV.fld fa36_0 rfl) rfl ?_
    first
      | refine SL.gval rfl (OpV.load _ Tryz.underlying3 rfl rfl (Kn.blk 0 rfl rfl)) rfl ?_
      | refine SL.gval rfl (OpV.load _ Tryz.underlying3 rfl rfl (Kn.blk 1 rfl rfl)) rfl ?_
      | refine SL.gval rfl (OpV.load _ Tryz.underlying3 rfl rfl (Kn.blk 2 rfl rfl)) rfl ?_
      | refine SL.gval rfl (OpV.load _ Tryz.underlying3 rfl rfl (Kn.blk 3 rfl rfl)) rfl ?_
      | refine SL.gval rfl (OpV.load _ Tryz.underlying3 rfl rfl (Kn.mem (by assumption))) rfl ?_
    refine SL.gval rfl (OpV.gtr rfl rfl) rfl ?_
    refine SL.val (OpV.pickF rfl rfl) rfl ?_
    exact SL.nil ⟨rfl, rfl, (by repeat first | exact Env.le_refl _ | refine Env.le_new rfl ?_), [], List.Perm.refl _⟩
  refine SL.val (OpV.move rfl) rfl ?_
  refine SL.orcut 4 (c := 28) (d := 32) rfl (fun h28 => ?_) ?_
  · skip
    refine SL.skip rfl rfl ?_
    refine SL.skip rfl rfl ?_
    refine SL.skip rfl rfl ?_
    refine SL.val (OpV.pickT rfl rfl) rfl ?_
    exact SL.nil ⟨rfl, rfl, (by repeat first | exact Env.le_refl _ | refine Env.le_new rfl ?_), [], List.Perm.refl _⟩
  apply Exists.intro
  refine And.intro (fun h28 => ?_) ?_
  · skip
    refine SL.gval rfl (OpV.fld fa36_1 rfl) rfl ?_
    first
      | refine SL.gval rfl (OpV.load _ Tryz.underlying32 rfl rfl (Kn.blk 0 rfl rfl)) rfl ?_
      | refine SL.gval rfl (OpV.load _ Tryz.underlying32 rfl rfl (Kn.blk 1 rfl rfl)) rfl ?_
      | refine SL.gval rfl (OpV.load _ Tryz.underlying32 rfl rfl (Kn.blk 2 rfl rfl)) rfl ?_
      | refine SL.gval rfl (OpV.load _ Tryz.underlying32 rfl rfl (Kn.blk 3 rfl rfl)) rfl ?_
      | refine SL.gval rfl (OpV.load _ Tryz.underlying32 rfl rfl (Kn.mem (by assumption))) rfl ?_
    refine SL.gval rfl (OpV.gtr rfl rfl) rfl ?_
    refine SL.val (OpV.pickF rfl rfl) rfl ?_
    exact SL.nil ⟨rfl, rfl, (by repeat first | exact Env.le_refl _ | refine Env.le_new rfl ?_), [], List.Perm.refl _⟩
  refine SL.val (OpV.move rfl) rfl ?_
  refine SL.orcut 5 (c := 33) (d := 38) rfl (fun h33 => ?_) ?_
  · skip
    refine SL.skip rfl rfl ?_
    refine SL.skip rfl rfl ?_
    refine SL.skip rfl rfl ?_
    refine SL.skip rfl rfl ?_
    refine SL.val (OpV.pickT rfl rfl) rfl ?_
    exact SL.nil ⟨rfl, rfl, (by repeat first | exact Env.le_refl _ | refine Env.le_new rfl ?_), [], List.Perm.refl _⟩
  apply Exists.intro
  refine And.intro (fun h33 => ?_) ?_
  · skip
    refine SL.gval rfl (OpV.fld fa36_5 rfl) rfl ?_
    first
      | refine SL.gval rfl (show OpV _ _ _ _ _ (.slice aad m.av.length acap) by rw [← hae]; exact (OpV.load _ Tryz.underlying33 rfl rfl (Kn.blk 0 rfl rfl))) rfl ?_
      | refine SL.gval rfl (show OpV _ _ _ _ _ (.slice aad m.av.length acap) by rw [← hae]; exact (OpV.load _ Tryz.underlying33 rfl rfl (Kn.blk 1 rfl rfl))) rfl ?_
      | refine SL.gval rfl (show OpV _ _ _ _ _ (.slice aad m.av.length acap) by rw [← hae]; exact (OpV.load _ Tryz.underlying33 rfl rfl (Kn.blk 2 rfl rfl))) rfl ?_
      | refine SL.gval rfl (show OpV _ _ _ _ _ (.slice aad m.av.length acap) by rw [← hae]; exact (OpV.load _ Tryz.underlying33 rfl rfl (Kn.blk 3 rfl rfl))) rfl ?_
      | refine SL.gval rfl (show OpV _ _ _ _ _ (.slice aad m.av.length acap) by rw [← hae]; exact (OpV.load _ Tryz.underlying33 rfl rfl (Kn.mem (by assumption)))) rfl ?_
    refine SL.gval rfl (OpV.llen Tryz.underlying33 rfl) rfl ?_
    refine SL.gval rfl (OpV.gtr rfl rfl) rfl ?_
    refine SL.val (OpV.pickF rfl rfl) rfl ?_
    exact SL.nil ⟨rfl, rfl, (by repeat first | exact Env.le_refl _ | refine Env.le_new rfl ?_), [], List.Perm.refl _⟩
  refine SL.nil ?_
  refine seqQ.nm ?_
  first | refine SC.ifp rfl (fun h38 => ?_) (fun h38 => ?_) | refine SC.ite rfl (fun h38 => ?_) (fun h38 => ?_)
  · skip
    refine SC.seq ?_
    refine SC.region ?_
    refine SL.val (OpV.assign rfl) rfl ?_
    refine SL.nil ?_
    refine seqQ.nm ?_
    refine SC.ret ?_
    refine seqQ.r ?_
    refine retQ.one rfl (.tmp rfl) ?_ _ (.inr rfl)
    exact (by rw [mayMb_ref, show (decide (((classRef m.core.path).1 : Int) = 0) || decide (m.core.kind < 1) || decide (4 < m.core.kind) || decide (4095 < m.core.mode) || decide (16 < (m.core.av.length : Int))) = true from h38]; rfl)
  · skip
    have hpre : (decide (((classRef m.core.path).1 : Int) = 0) || decide (m.core.kind < 1) || decide (4 < m.core.kind) || decide (4095 < m.core.mode) || decide (16 < (m.core.av.length : Int))) = false := h38
    refine SC.skip ?_
    refine seqQ.nm ?_
    refine SC.seq ?_
    refine SC.seq ?_
    refine SC.region ?_
    refine SL.val (OpV.assign rfl) rfl ?_
    refine SL.nil ?_
    refine seqQ.nm ?_
    refine SC.block ?_
    refine SC.loop (ι := Nat) (fun k M' => k ≤ m.av.length ∧ attrsTo m.av k = true ∧ M.le M') (fun k => [(5, .pointer (some ⟨b5, 0, none⟩)), (6, .int .i64 k)]) (fun _ => [.blk b5 36 m.node, .blk b1 38 m.cells]) (fun k => m.av.length - k) 0 (G := []) ⟨rfl, rfl, trivial⟩ (List.Perm.refl _) ⟨Nat.zero_le _, rfl, Mem.le_refl _⟩ ?_
    rintro k M1 hM1 ⟨hk, hall, hMM⟩
    refine SC.seq ?_
    refine SC.seq ?_
    refine SC.region ?_
    refine SL.val (OpV.move rfl) rfl ?_
    refine SL.val (OpV.fld fa36_5 rfl) rfl ?_
    first
      | refine SL.val (show OpV _ _ _ _ _ (.slice aad m.av.length acap) by rw [← hae]; exact (OpV.load _ Tryz.underlying33 rfl rfl (Kn.blk 0 rfl rfl))) rfl ?_
      | refine SL.val (show OpV _ _ _ _ _ (.slice aad m.av.length acap) by rw [← hae]; exact (OpV.load _ Tryz.underlying33 rfl rfl (Kn.blk 1 rfl rfl))) rfl ?_
      | refine SL.val (show OpV _ _ _ _ _ (.slice aad m.av.length acap) by rw [← hae]; exact (OpV.load _ Tryz.underlying33 rfl rfl (Kn.blk 2 rfl rfl))) rfl ?_
      | refine SL.val (show OpV _ _ _ _ _ (.slice aad m.av.length acap) by rw [← hae]; exact (OpV.load _ Tryz.underlying33 rfl rfl (Kn.blk 3 rfl rfl))) rfl ?_
      | refine SL.val (show OpV _ _ _ _ _ (.slice aad m.av.length acap) by rw [← hae]; exact (OpV.load _ Tryz.underlying33 rfl rfl (Kn.mem (by assumption)))) rfl ?_
    refine SL.val (OpV.llen Tryz.underlying33 rfl) rfl ?_
    refine SL.val (OpV.lss rfl rfl) rfl ?_
    refine SL.nil ?_
    refine seqQ.nm ?_
    first | refine SC.ifp rfl (fun h43 => ?_) (fun h43 => ?_) | refine SC.ite rfl (fun h43 => ?_) (fun h43 => ?_)
    · skip
      have hlt : k < m.av.length := by omega
      obtain ⟨g, o, cap', he, hc, _⟩ := (hok.attrs.mono hMM).at_ (by omega)
      rw [hae] at he
      cases he
      obtain ⟨p, hpk⟩ := getElem?_lt hlt
      have hpl1 : p.1.length ≤ 268435456 := (hok.names p (List.mem_of_getElem? hpk)).1
      have hpc := avCells_at hc hpk
      have hst := attrsTo_succ m.av k
      rw [hall, Bool.true_and] at hst
      refine SC.skip ?_
      refine seqQ.nm ?_
      refine SC.seq ?_
      refine SC.block ?_
      refine SC.seq ?_
      refine SC.region ?_
      refine SL.val (OpV.fld fa36_5 rfl) rfl ?_
      first
        | refine SL.val (show OpV _ _ _ _ _ (.slice (some ⟨g, o, none⟩) m.av.length acap) by rw [← hae]; exact (OpV.load _ Tryz.underlying33 rfl rfl (Kn.blk 0 rfl rfl))) rfl ?_
        | refine SL.val (show OpV _ _ _ _ _ (.slice (some ⟨g, o, none⟩) m.av.length acap) by rw [← hae]; exact (OpV.load _ Tryz.underlying33 rfl rfl (Kn.blk 1 rfl rfl))) rfl ?_
        | refine SL.val (show OpV _ _ _ _ _ (.slice (some ⟨g, o, none⟩) m.av.length acap) by rw [← hae]; exact (OpV.load _ Tryz.underlying33 rfl rfl (Kn.blk 2 rfl rfl))) rfl ?_
        | refine SL.val (show OpV _ _ _ _ _ (.slice (some ⟨g, o, none⟩) m.av.length acap) by rw [← hae]; exact (OpV.load _ Tryz.underlying33 rfl rfl (Kn.blk 3 rfl rfl))) rfl ?_
        | refine SL.val (show OpV _ _ _ _ _ (.slice (some ⟨g, o, none⟩) m.av.length acap) by rw [← hae]; exact (OpV.load _ Tryz.underlying33 rfl rfl (Kn.mem (by assumption)))) rfl ?_
      refine SL.val (OpV.move rfl) rfl ?_
      refine SL.val (OpV.indexAddr Tryz.underlying33 sz50 rfl rfl (by omega) (by omega)) rfl ?_
      refine SL.val (OpV.fld fa50_0 rfl) rfl ?_
      refine SL.val (OpV.load _ Tryz.underlying9 rfl rfl (Kn.mem (hpc 0 (str p.1) rfl))) rfl ?_
      refine SL.val (OpV.assign rfl) rfl ?_
      refine SL.nil ?_
      refine seqQ.nm ?_
      refine SC.seq ?_
      refine SC.seq ?_
      refine SC.region ?_
      refine SL.val (OpV.move rfl) rfl ?_
      refine SL.val (OpV.seql rfl rfl) rfl ?_
      refine SL.val (OpV.move rfl) rfl ?_
      refine SL.orcut 4 (c := 54) (d := 58) rfl (fun h54 => ?_) ?_
      · skip
        refine SL.skip rfl rfl ?_
        refine SL.skip rfl rfl ?_
        refine SL.skip rfl rfl ?_
        refine SL.val (OpV.pickT rfl rfl) rfl ?_
        exact SL.nil ⟨rfl, rfl, (by repeat first | exact Env.le_refl _ | refine Env.le_new rfl ?_), [], List.Perm.refl _⟩
      apply Exists.intro
      refine And.intro (fun h54 => ?_) ?_
      · skip
        refine SL.gval rfl (OpV.move rfl) rfl ?_
        refine SL.gval rfl (OpV.slen Tryz.underlying9 rfl) rfl ?_
        refine SL.gval rfl (OpV.gtr rfl rfl) rfl ?_
        refine SL.val (OpV.pickF rfl rfl) rfl ?_
        exact SL.nil ⟨rfl, rfl, (by repeat first | exact Env.le_refl _ | refine Env.le_new rfl ?_), [], List.Perm.refl _⟩
      refine SL.val (OpV.move rfl) rfl ?_
      refine SL.orcut 3 (c := 59) (d := 62) rfl (fun h59 => ?_) ?_
      · skip
        refine SL.skip rfl rfl ?_
        refine SL.skip rfl rfl ?_
        refine SL.val (OpV.pickT rfl rfl) rfl ?_
        exact SL.nil ⟨rfl, rfl, (by repeat first | exact Env.le_refl _ | refine Env.le_new rfl ?_), [], List.Perm.refl _⟩
      apply Exists.intro
      refine And.intro (fun h59 => ?_) ?_
      · skip
        refine SL.gval rfl (OpV.move rfl) rfl ?_
        refine SL.gcall rfl ok54 rfl (L1 := []) (List.Perm.refl _) (rhas_ev p.1 0 _ (by omega)) rfl ?_
        rintro _ _ _ hM61 ⟨rfl, rfl, rfl⟩
        refine SL.val (OpV.pickF rfl rfl) rfl ?_
        exact SL.nil ⟨rfl, rfl, (by repeat first | exact Env.le_refl _ | refine Env.le_new rfl ?_), [], List.Perm.refl _⟩
      refine SL.val (OpV.move rfl) rfl ?_
      refine SL.orcut 3 (c := 63) (d := 66) rfl (fun h63 => ?_) ?_
      · skip
        refine SL.skip rfl rfl ?_
        refine SL.skip rfl rfl ?_
        refine SL.val (OpV.pickT rfl rfl) rfl ?_
        exact SL.nil ⟨rfl, rfl, (by repeat first | exact Env.le_refl _ | refine Env.le_new rfl ?_), [], List.Perm.refl _⟩
      apply Exists.intro
      refine And.intro (fun h63 => ?_) ?_
      · skip
        refine SL.gval rfl (OpV.move rfl) rfl ?_
        refine SL.gcall rfl ok54 rfl (L1 := []) (List.Perm.refl _) (rhas_ev p.1 61 _ (by omega)) rfl ?_
        rintro _ _ _ hM65 ⟨rfl, rfl, rfl⟩
        refine SL.val (OpV.pickF rfl rfl) rfl ?_
        exact SL.nil ⟨rfl, rfl, (by repeat first | exact Env.le_refl _ | refine Env.le_new rfl ?_), [], List.Perm.refl _⟩
      refine SL.val (OpV.move rfl) rfl ?_
      refine SL.orcut 3 (c := 67) (d := 70) rfl (fun h67 => ?_) ?_
      · skip
        refine SL.skip rfl rfl ?_
        refine SL.skip rfl rfl ?_
        refine SL.val (OpV.pickT rfl rfl) rfl ?_
        exact SL.nil ⟨rfl, rfl, (by repeat first | exact Env.le_refl _ | refine Env.le_new rfl ?_), [], List.Perm.refl _⟩
      apply Exists.intro
      refine And.intro (fun h67 => ?_) ?_
      · skip
        refine SL.gval rfl (OpV.move rfl) rfl ?_
        refine SL.gcall rfl ok54 rfl (L1 := []) (List.Perm.refl _) (rhas_ev p.1 10 _ (by omega)) rfl ?_
        rintro _ _ _ hM69 ⟨rfl, rfl, rfl⟩
        refine SL.val (OpV.pickF rfl rfl) rfl ?_
        exact SL.nil ⟨rfl, rfl, (by repeat first | exact Env.le_refl _ | refine Env.le_new rfl ?_), [], List.Perm.refl _⟩
      refine SL.nil ?_
      refine seqQ.nm ?_
      first | refine SC.ifp rfl (fun h70 => ?_) (fun h70 => ?_) | refine SC.ite rfl (fun h70 => ?_) (fun h70 => ?_)
      · skip
        have hbad : attrAt m.av k = false := by
          rw [attrAt, nm_some hpk, attrName, hasAny_3]
          simp only [Bool.or_eq_true] at h70
          rcases h70 with (((h | h) | h) | h) | h
          · rw [decide_eq_false (p := p.1 ≠ []) (by simpa using h)]; rfl
          · rw [decide_eq_false (p := p.1.length ≤ 242) (by simp at h; omega)]; simp
          · rw [h]; simp
          · rw [h]; simp
          · rw [h]; simp
        refine SC.seq ?_
        refine SC.region ?_
        refine SL.val (OpV.assign rfl) rfl ?_
        refine SL.nil ?_
        refine seqQ.nm ?_
        refine SC.ret ?_
        refine seqQ.r ?_
        refine blockQ.r ?_
        refine seqQ.r ?_
        refine loopQ.r ?_
        refine blockQ.r ?_
        refine seqQ.r ?_
        refine retQ.one rfl (.tmp rfl) ?_ _ (.inr rfl)
        exact (by rw [mayMb_ref, attrsTo_bad (av := m.core.av) (show k < m.core.av.length from hlt) hbad]; simp)
      · skip
        have hgood : attrName p.1 = true := by
          rw [attrName, hasAny_3]
          simp only [Bool.or_eq_false_iff] at h70
          obtain ⟨⟨⟨⟨h1, h2⟩, h3⟩, h4⟩, h5⟩ := h70
          rw [decide_eq_true (p := p.1 ≠ []) (by simpa using h1), decide_eq_true (p := p.1.length ≤ 242) (by simp at h2; omega), h3, h4, h5]
          rfl
        refine SC.skip ?_
        refine seqQ.nm ?_
        refine SC.seq ?_
        refine SC.region ?_
        refine SL.val (OpV.move rfl) rfl ?_
        refine SL.val (OpV.gtr rfl rfl) rfl ?_
        refine SL.val (OpV.move rfl) rfl ?_
        refine SL.andcut 10 (c := 73) (d := 83) rfl (fun h73 => ?_) ?_
        · skip
          refine SL.skip rfl rfl ?_
          refine SL.skip rfl rfl ?_
          refine SL.skip rfl rfl ?_
          refine SL.skip rfl rfl ?_
          refine SL.skip rfl rfl ?_
          refine SL.skip rfl rfl ?_
          refine SL.skip rfl rfl ?_
          refine SL.skip rfl rfl ?_
          refine SL.skip rfl rfl ?_
          refine SL.val (OpV.pickF rfl rfl) rfl ?_
          exact SL.nil ⟨rfl, rfl, (by repeat first | exact Env.le_refl _ | refine Env.le_new rfl ?_), [], List.Perm.refl _⟩
        apply Exists.intro
        refine And.intro (fun h73 => ?_) ?_
        · skip
          have hk0 : 0 < k := by simpa using h73
          have hn1 : ((k : Int) - 1).toNat = k - 1 := by omega
          obtain ⟨q, hq⟩ := getElem?_lt (l := m.av) (k := k - 1) (by omega)
          have hqc := avCells_at hc hq
          refine SL.gval rfl (OpV.fld fa36_5 rfl) rfl ?_
          first
            | refine SL.gval rfl (show OpV _ _ _ _ _ (.slice (some ⟨g, o, none⟩) m.av.length acap) by rw [← hae]; exact (OpV.load _ Tryz.underlying33 rfl rfl (Kn.blk 0 rfl rfl))) rfl ?_
            | refine SL.gval rfl (show OpV _ _ _ _ _ (.slice (some ⟨g, o, none⟩) m.av.length acap) by rw [← hae]; exact (OpV.load _ Tryz.underlying33 rfl rfl (Kn.blk 1 rfl rfl))) rfl ?_
            | refine SL.gval rfl (show OpV _ _ _ _ _ (.slice (some ⟨g, o, none⟩) m.av.length acap) by rw [← hae]; exact (OpV.load _ Tryz.underlying33 rfl rfl (Kn.blk 2 rfl rfl))) rfl ?_
            | refine SL.gval rfl (show OpV _ _ _ _ _ (.slice (some ⟨g, o, none⟩) m.av.length acap) by rw [← hae]; exact (OpV.load _ Tryz.underlying33 rfl rfl (Kn.blk 3 rfl rfl))) rfl ?_
            | refine SL.gval rfl (show OpV _ _ _ _ _ (.slice (some ⟨g, o, none⟩) m.av.length acap) by rw [← hae]; exact (OpV.load _ Tryz.underlying33 rfl rfl (Kn.mem (by assumption)))) rfl ?_
          refine SL.gval rfl (OpV.move rfl) rfl ?_
          refine SL.gval rfl (OpV.sub rfl rfl (IntWalk.i64_in _ (by omega))) rfl ?_
          refine SL.gval rfl (OpV.indexAddr Tryz.underlying33 sz50 rfl rfl (by omega) (by omega)) rfl ?_
          refine SL.gval rfl (OpV.fld fa50_0 rfl) rfl ?_
          refine SL.gval rfl (OpV.load _ Tryz.underlying9 rfl rfl (Kn.mem (v := str (nm m.av (k - 1))) (by rw [hn1]; exact hqc 0 _ (by rw [nm_some hq]; rfl)))) rfl ?_
          refine SL.gval rfl (OpV.move rfl) rfl ?_
          refine SL.gval rfl (OpV.sgeq rfl rfl) rfl ?_
          refine SL.val (OpV.pickT rfl rfl) rfl ?_
          exact SL.nil ⟨rfl, rfl, (by repeat first | exact Env.le_refl _ | refine Env.le_new rfl ?_), [], List.Perm.refl _⟩
        refine SL.nil ?_
        refine seqQ.nm ?_
        first | refine SC.ifp rfl (fun h83 => ?_) (fun h83 => ?_) | refine SC.ite rfl (fun h83 => ?_) (fun h83 => ?_)
        · skip
          have hbad : attrAt m.av k = false := by
            rw [attrAt, nm_some hpk, hgood]
            simp only [Bool.and_eq_true, decide_eq_true_eq, Bool.not_eq_true'] at h83
            have hk0 : ¬ k = 0 := by omega
            simp [h83.2, hk0]
          refine SC.seq ?_
          refine SC.region ?_
          refine SL.val (OpV.assign rfl) rfl ?_
          refine SL.nil ?_
          refine seqQ.nm ?_
          refine SC.ret ?_
          refine blockQ.r ?_
          refine seqQ.r ?_
          refine loopQ.r ?_
          refine blockQ.r ?_
          refine seqQ.r ?_
          refine retQ.one rfl (.tmp rfl) ?_ _ (.inr rfl)
          exact (by rw [mayMb_ref, attrsTo_bad (av := m.core.av) (show k < m.core.av.length from hlt) hbad]; simp)
        · skip
          refine SC.skip ?_
          refine blockQ.nm ?_
          refine seqQ.nm ?_
          refine SC.region ?_
          refine SL.val (OpV.move rfl) rfl ?_
          refine SL.val (OpV.add rfl rfl (IntWalk.i64_in _ (by omega))) rfl ?_
          refine SL.val (OpV.assign rfl) rfl ?_
          refine SL.nil ?_
          refine loopQ.nm (k + 1) (by omega) ⟨rfl, rfl, trivial⟩ (List.Perm.refl _) ⟨by omega, ?_, hMM⟩
          rw [hst, attrAt, nm_some hpk, hgood]
          by_cases hk0 : k = 0
          · simp [hk0]
          · simp only [Bool.and_eq_false_iff, decide_eq_false_iff_not, Bool.not_eq_false'] at h83
            rcases h83 with h4 | h4
            · omega
            · simp [h4]
    · skip
      have hke : k = m.av.length := by omega
      rw [hke] at hall
      refine SC.exit ?_
      refine seqQ.e ?_
      refine loopQ.e ?_
      refine blockQ.e ?_
      refine seqQ.nm ?_
      refine SC.seq ?_
      refine SC.seq ?_
      refine SC.region ?_
      refine SL.val (OpV.fld fa36_0 rfl) rfl ?_
      first
        | refine SL.val (OpV.load _ Tryz.underlying3 rfl rfl (Kn.blk 0 rfl rfl)) rfl ?_
        | refine SL.val (OpV.load _ Tryz.underlying3 rfl rfl (Kn.blk 1 rfl rfl)) rfl ?_
        | refine SL.val (OpV.load _ Tryz.underlying3 rfl rfl (Kn.blk 2 rfl rfl)) rfl ?_
        | refine SL.val (OpV.load _ Tryz.underlying3 rfl rfl (Kn.blk 3 rfl rfl)) rfl ?_
        | refine SL.val (OpV.load _ Tryz.underlying3 rfl rfl (Kn.mem (by assumption))) rfl ?_
      refine SL.val (OpV.eql rfl rfl) rfl ?_
      refine SL.val (OpV.move rfl) rfl ?_
      refine SL.andcut 15 (c := 87) (d := 102) rfl (fun h87 => ?_) ?_
      · skip
        refine SL.skip rfl rfl ?_
        refine SL.skip rfl rfl ?_
        refine SL.skip rfl rfl ?_
        refine SL.skip rfl rfl ?_
        refine SL.skip rfl rfl ?_
        refine SL.skip rfl rfl ?_
        refine SL.skip rfl rfl ?_
        refine SL.skip rfl rfl ?_
        refine SL.skip rfl rfl ?_
        refine SL.skip rfl rfl ?_
        refine SL.skip rfl rfl ?_
        refine SL.skip rfl rfl ?_
        refine SL.skip rfl rfl ?_
        refine SL.skip rfl rfl ?_
        refine SL.val (OpV.pickF rfl rfl) rfl ?_
        exact SL.nil ⟨rfl, rfl, (by repeat first | exact Env.le_refl _ | refine Env.le_new rfl ?_), [], List.Perm.refl _⟩
      apply Exists.intro
      refine And.intro (fun h87 => ?_) ?_
      · skip
        refine SL.gval rfl (OpV.fld fa36_7 rfl) rfl ?_
        first
          | refine SL.gval rfl (OpV.load _ Tryz.underlying9 rfl rfl (Kn.blk 0 rfl rfl)) rfl ?_
          | refine SL.gval rfl (OpV.load _ Tryz.underlying9 rfl rfl (Kn.blk 1 rfl rfl)) rfl ?_
          | refine SL.gval rfl (OpV.load _ Tryz.underlying9 rfl rfl (Kn.blk 2 rfl rfl)) rfl ?_
          | refine SL.gval rfl (OpV.load _ Tryz.underlying9 rfl rfl (Kn.blk 3 rfl rfl)) rfl ?_
          | refine SL.gval rfl (OpV.load _ Tryz.underlying9 rfl rfl (Kn.mem (by assumption))) rfl ?_
        refine SL.gval rfl (OpV.seql rfl rfl) rfl ?_
        refine SL.gval rfl (OpV.move rfl) rfl ?_
        refine SL.orcut 5 (c := 91) (d := 96) rfl (fun h91 => ?_) ?_
        · skip
          refine SL.skip rfl rfl ?_
          refine SL.skip rfl rfl ?_
          refine SL.skip rfl rfl ?_
          refine SL.skip rfl rfl ?_
          refine SL.gval rfl (OpV.pickT rfl rfl) rfl ?_
          exact SL.nil ⟨rfl, rfl, (by repeat first | exact Env.le_refl _ | refine Env.le_new rfl ?_), [], List.Perm.refl _⟩
        apply Exists.intro
        refine And.intro (fun h91 => ?_) ?_
        · skip
          refine SL.gval rfl (OpV.fld fa36_7 rfl) rfl ?_
          first
            | refine SL.gval rfl (OpV.load _ Tryz.underlying9 rfl rfl (Kn.blk 0 rfl rfl)) rfl ?_
            | refine SL.gval rfl (OpV.load _ Tryz.underlying9 rfl rfl (Kn.blk 1 rfl rfl)) rfl ?_
            | refine SL.gval rfl (OpV.load _ Tryz.underlying9 rfl rfl (Kn.blk 2 rfl rfl)) rfl ?_
            | refine SL.gval rfl (OpV.load _ Tryz.underlying9 rfl rfl (Kn.blk 3 rfl rfl)) rfl ?_
            | refine SL.gval rfl (OpV.load _ Tryz.underlying9 rfl rfl (Kn.mem (by assumption))) rfl ?_
          refine SL.gval rfl (OpV.slen Tryz.underlying9 rfl) rfl ?_
          refine SL.gval rfl (OpV.gtr rfl rfl) rfl ?_
          refine SL.gval rfl (OpV.pickF rfl rfl) rfl ?_
          exact SL.nil ⟨rfl, rfl, (by repeat first | exact Env.le_refl _ | refine Env.le_new rfl ?_), [], List.Perm.refl _⟩
        refine SL.gval rfl (OpV.move rfl) rfl ?_
        refine SL.orcut 4 (c := 97) (d := 101) rfl (fun h97 => ?_) ?_
        · skip
          refine SL.skip rfl rfl ?_
          refine SL.skip rfl rfl ?_
          refine SL.skip rfl rfl ?_
          refine SL.gval rfl (OpV.pickT rfl rfl) rfl ?_
          exact SL.nil ⟨rfl, rfl, (by repeat first | exact Env.le_refl _ | refine Env.le_new rfl ?_), [], List.Perm.refl _⟩
        apply Exists.intro
        refine And.intro (fun h97 => ?_) ?_
        · skip
          refine SL.gval rfl (OpV.fld fa36_7 rfl) rfl ?_
          first
            | refine SL.gval rfl (OpV.load _ Tryz.underlying9 rfl rfl (Kn.blk 0 rfl rfl)) rfl ?_
            | refine SL.gval rfl (OpV.load _ Tryz.underlying9 rfl rfl (Kn.blk 1 rfl rfl)) rfl ?_
            | refine SL.gval rfl (OpV.load _ Tryz.underlying9 rfl rfl (Kn.blk 2 rfl rfl)) rfl ?_
            | refine SL.gval rfl (OpV.load _ Tryz.underlying9 rfl rfl (Kn.blk 3 rfl rfl)) rfl ?_
            | refine SL.gval rfl (OpV.load _ Tryz.underlying9 rfl rfl (Kn.mem (by assumption))) rfl ?_
          refine SL.gcall rfl ok54 rfl (L1 := []) (List.Perm.refl _) (rhas_ev m.link 0 _ (by omega)) rfl ?_
          rintro _ _ _ hM100 ⟨rfl, rfl, rfl⟩
          refine SL.gval rfl (OpV.pickF rfl rfl) rfl ?_
          exact SL.nil ⟨rfl, rfl, (by repeat first | exact Env.le_refl _ | refine Env.le_new rfl ?_), [], List.Perm.refl _⟩
        refine SL.val (OpV.pickT rfl rfl) rfl ?_
        exact SL.nil ⟨rfl, rfl, (by repeat first | exact Env.le_refl _ | refine Env.le_new rfl ?_), [], List.Perm.refl _⟩
      refine SL.val (OpV.move rfl) rfl ?_
      refine SL.orcut 9 (c := 103) (d := 112) rfl (fun h103 => ?_) ?_
      · skip
        refine SL.skip rfl rfl ?_
        refine SL.skip rfl rfl ?_
        refine SL.skip rfl rfl ?_
        refine SL.skip rfl rfl ?_
        refine SL.skip rfl rfl ?_
        refine SL.skip rfl rfl ?_
        refine SL.skip rfl rfl ?_
        refine SL.skip rfl rfl ?_
        refine SL.val (OpV.pickT rfl rfl) rfl ?_
        exact SL.nil ⟨rfl, rfl, (by repeat first | exact Env.le_refl _ | refine Env.le_new rfl ?_), [], List.Perm.refl _⟩
      apply Exists.intro
      refine And.intro (fun h103 => ?_) ?_
      · skip
        refine SL.gval rfl (OpV.fld fa36_0 rfl) rfl ?_
        first
          | refine SL.gval rfl (OpV.load _ Tryz.underlying3 rfl rfl (Kn.blk 0 rfl rfl)) rfl ?_
          | refine SL.gval rfl (OpV.load _ Tryz.underlying3 rfl rfl (Kn.blk 1 rfl rfl)) rfl ?_
          | refine SL.gval rfl (OpV.load _ Tryz.underlying3 rfl rfl (Kn.blk 2 rfl rfl)) rfl ?_
          | refine SL.gval rfl (OpV.load _ Tryz.underlying3 rfl rfl (Kn.blk 3 rfl rfl)) rfl ?_
          | refine SL.gval rfl (OpV.load _ Tryz.underlying3 rfl rfl (Kn.mem (by assumption))) rfl ?_
        refine SL.gval rfl (OpV.neq rfl rfl) rfl ?_
        refine SL.gval rfl (OpV.move rfl) rfl ?_
        refine SL.andcut 4 (c := 107) (d := 111) rfl (fun h107 => ?_) ?_
        · skip
          refine SL.skip rfl rfl ?_
          refine SL.skip rfl rfl ?_
          refine SL.skip rfl rfl ?_
          refine SL.gval rfl (OpV.pickF rfl rfl) rfl ?_
          exact SL.nil ⟨rfl, rfl, (by repeat first | exact Env.le_refl _ | refine Env.le_new rfl ?_), [], List.Perm.refl _⟩
        apply Exists.intro
        refine And.intro (fun h107 => ?_) ?_
        · skip
          refine SL.gval rfl (OpV.fld fa36_7 rfl) rfl ?_
          first
            | refine SL.gval rfl (OpV.load _ Tryz.underlying9 rfl rfl (Kn.blk 0 rfl rfl)) rfl ?_
            | refine SL.gval rfl (OpV.load _ Tryz.underlying9 rfl rfl (Kn.blk 1 rfl rfl)) rfl ?_
            | refine SL.gval rfl (OpV.load _ Tryz.underlying9 rfl rfl (Kn.blk 2 rfl rfl)) rfl ?_
            | refine SL.gval rfl (OpV.load _ Tryz.underlying9 rfl rfl (Kn.blk 3 rfl rfl)) rfl ?_
            | refine SL.gval rfl (OpV.load _ Tryz.underlying9 rfl rfl (Kn.mem (by assumption))) rfl ?_
          refine SL.gval rfl (OpV.sneq rfl rfl) rfl ?_
          refine SL.gval rfl (OpV.pickT rfl rfl) rfl ?_
          exact SL.nil ⟨rfl, rfl, (by repeat first | exact Env.le_refl _ | refine Env.le_new rfl ?_), [], List.Perm.refl _⟩
        refine SL.val (OpV.pickF rfl rfl) rfl ?_
        exact SL.nil ⟨rfl, rfl, (by repeat first | exact Env.le_refl _ | refine Env.le_new rfl ?_), [], List.Perm.refl _⟩
      refine SL.nil ?_
      have hlink : ∀ A : Bool, A = ((decide (m.kind = 3) && (decide (m.link = []) || decide (4096 < (m.link.length : Int)) || m.link.contains 0)) || (decide (m.kind ≠ 3) && decide (m.link ≠ []))) → mayLink m.link (decide (m.kind = 3)) = !A := by
        rintro A rfl
        have e4 : decide (4096 < (m.link.length : Int)) = !decide (m.link.length ≤ 4096) := by rw [← decide_not]; exact dec_eq (by omega)
        unfold mayLink
        by_cases hk3 : m.kind = 3
        · simp only [hk3, decide_true, if_true, e4]
          simp [Bool.not_or]
        · simp [hk3]
      refine seqQ.nm ?_
      first | refine SC.ifp rfl (fun h112 => ?_) (fun h112 => ?_) | refine SC.ite rfl (fun h112 => ?_) (fun h112 => ?_)
      · skip
        have hl2 := hlink _ (h112.symm)
        refine SC.seq ?_
        refine SC.region ?_
        refine SL.val (OpV.assign rfl) rfl ?_
        refine SL.nil ?_
        refine seqQ.nm ?_
        refine SC.ret ?_
        refine seqQ.r ?_
        refine retQ.one rfl (.tmp rfl) ?_ _ (.inr rfl)
        exact (by rw [mayMb_ref, show mayLink m.core.link (decide (m.core.kind = 3)) = !true from hl2]; simp)
      · skip
        have hl2 := hlink _ (h112.symm)
        refine SC.skip ?_
        refine seqQ.nm ?_
        refine SC.seq ?_
        refine SC.region ?_
        refine SL.val (OpV.fld fa36_6 rfl) rfl ?_
        first
          | refine SL.val (show OpV _ _ _ _ _ (.slice dad m.dv.length dcap) by rw [← hde]; exact (OpV.load _ Tryz.underlying34 rfl rfl (Kn.blk 0 rfl rfl))) rfl ?_
          | refine SL.val (show OpV _ _ _ _ _ (.slice dad m.dv.length dcap) by rw [← hde]; exact (OpV.load _ Tryz.underlying34 rfl rfl (Kn.blk 1 rfl rfl))) rfl ?_
          | refine SL.val (show OpV _ _ _ _ _ (.slice dad m.dv.length dcap) by rw [← hde]; exact (OpV.load _ Tryz.underlying34 rfl rfl (Kn.blk 2 rfl rfl))) rfl ?_
          | refine SL.val (show OpV _ _ _ _ _ (.slice dad m.dv.length dcap) by rw [← hde]; exact (OpV.load _ Tryz.underlying34 rfl rfl (Kn.blk 3 rfl rfl))) rfl ?_
          | refine SL.val (show OpV _ _ _ _ _ (.slice dad m.dv.length dcap) by rw [← hde]; exact (OpV.load _ Tryz.underlying34 rfl rfl (Kn.mem (by assumption)))) rfl ?_
        refine SL.val (OpV.llen Tryz.underlying34 rfl) rfl ?_
        refine SL.val (OpV.leq rfl rfl) rfl ?_
        refine SL.val (OpV.move rfl) rfl ?_
        refine SL.andcut 10 (c := 117) (d := 127) rfl (fun h117 => ?_) ?_
        · skip
          refine SL.skip rfl rfl ?_
          refine SL.skip rfl rfl ?_
          refine SL.skip rfl rfl ?_
          refine SL.skip rfl rfl ?_
          refine SL.skip rfl rfl ?_
          refine SL.skip rfl rfl ?_
          refine SL.skip rfl rfl ?_
          refine SL.skip rfl rfl ?_
          refine SL.skip rfl rfl ?_
          refine SL.val (OpV.pickF rfl rfl) rfl ?_
          exact SL.nil ⟨rfl, rfl, (by repeat first | exact Env.le_refl _ | refine Env.le_new rfl ?_), [], List.Perm.refl _⟩
        apply Exists.intro
        refine And.intro (fun h117 => ?_) ?_
        · skip
          refine SL.gval rfl (OpV.fld fa36_0 rfl) rfl ?_
          first
            | refine SL.gval rfl (OpV.load _ Tryz.underlying3 rfl rfl (Kn.blk 0 rfl rfl)) rfl ?_
            | refine SL.gval rfl (OpV.load _ Tryz.underlying3 rfl rfl (Kn.blk 1 rfl rfl)) rfl ?_
            | refine SL.gval rfl (OpV.load _ Tryz.underlying3 rfl rfl (Kn.blk 2 rfl rfl)) rfl ?_
            | refine SL.gval rfl (OpV.load _ Tryz.underlying3 rfl rfl (Kn.blk 3 rfl rfl)) rfl ?_
            | refine SL.gval rfl (OpV.load _ Tryz.underlying3 rfl rfl (Kn.mem (by assumption))) rfl ?_
          refine SL.gval rfl (OpV.eql rfl rfl) rfl ?_
          refine SL.gval rfl (OpV.move rfl) rfl ?_
          refine SL.orcut 5 (c := 121) (d := 126) rfl (fun h121 => ?_) ?_
          · skip
            refine SL.skip rfl rfl ?_
            refine SL.skip rfl rfl ?_
            refine SL.skip rfl rfl ?_
            refine SL.skip rfl rfl ?_
            refine SL.gval rfl (OpV.pickT rfl rfl) rfl ?_
            exact SL.nil ⟨rfl, rfl, (by repeat first | exact Env.le_refl _ | refine Env.le_new rfl ?_), [], List.Perm.refl _⟩
          apply Exists.intro
          refine And.intro (fun h121 => ?_) ?_
          · skip
            refine SL.gval rfl (OpV.fld fa36_6 rfl) rfl ?_
            first
              | refine SL.gval rfl (show OpV _ _ _ _ _ (.slice dad m.dv.length dcap) by rw [← hde]; exact (OpV.load _ Tryz.underlying34 rfl rfl (Kn.blk 0 rfl rfl))) rfl ?_
              | refine SL.gval rfl (show OpV _ _ _ _ _ (.slice dad m.dv.length dcap) by rw [← hde]; exact (OpV.load _ Tryz.underlying34 rfl rfl (Kn.blk 1 rfl rfl))) rfl ?_
              | refine SL.gval rfl (show OpV _ _ _ _ _ (.slice dad m.dv.length dcap) by rw [← hde]; exact (OpV.load _ Tryz.underlying34 rfl rfl (Kn.blk 2 rfl rfl))) rfl ?_
              | refine SL.gval rfl (show OpV _ _ _ _ _ (.slice dad m.dv.length dcap) by rw [← hde]; exact (OpV.load _ Tryz.underlying34 rfl rfl (Kn.blk 3 rfl rfl))) rfl ?_
              | refine SL.gval rfl (show OpV _ _ _ _ _ (.slice dad m.dv.length dcap) by rw [← hde]; exact (OpV.load _ Tryz.underlying34 rfl rfl (Kn.mem (by assumption)))) rfl ?_
            refine SL.gval rfl (OpV.llen Tryz.underlying34 rfl) rfl ?_
            refine SL.gval rfl (OpV.eql rfl rfl) rfl ?_
            refine SL.gval rfl (OpV.pickF rfl rfl) rfl ?_
            exact SL.nil ⟨rfl, rfl, (by repeat first | exact Env.le_refl _ | refine Env.le_new rfl ?_), [], List.Perm.refl _⟩
          refine SL.val (OpV.pickT rfl rfl) rfl ?_
          exact SL.nil ⟨rfl, rfl, (by repeat first | exact Env.le_refl _ | refine Env.le_new rfl ?_), [], List.Perm.refl _⟩
        refine SL.val (OpV.assign rfl) rfl ?_
        refine SL.nil ?_
        refine seqQ.nm ?_
        refine SC.ret ?_
        refine retQ.one rfl (.tmp rfl) ?_ _ (.inr rfl)
        exact (by rw [mayMb_ref, hpre, show attrsTo m.core.av m.core.av.length = true from hall, show mayLink m.core.link (decide (m.core.kind = 3)) = !false from hl2]; rfl)
end Go.Proofs.YtceabkfmjffnhaaGreatDoor
set_option linter.unusedVariables false
set_option linter.unusedSimpArgs false
namespace Go.Proofs.YtceabkfmjffnhaaGreatDoor
open Go Go.Eng

theorem mbCells_at {M : Mem} {g o : Nat} {ms : List Mb} {k : Nat} {m : Mb} (h : M.cells g o (ms.flatMap Mb.cells)) (hk : ms[k]? = some m) : M.cells g (o + k * 9) m.cells := Mem.cells.flat h 9 (fun _ => rfl) hk
abbrev cores (ms : List Mb) : List Core := ms.map Mb.core

theorem bare_ev (m : Mb) (M : Mem) (hok : m.ok M) : Ev Tryz.prog 24 [.agg m.node.toArray].toArray [] M (Pu M (.bool (bare m.core))) := by
  refine Ev.lax ?_
  refine Ev.enter Tryz.func24 rfl Tryz.ntmps24 rfl ?_
  obtain ⟨dad, dcap, hde, _⟩ := hok.data.len
  obtain ⟨aad, acap, hae, _⟩ := hok.attrs.len
  refine SC.seq ?_
  refine SC.region ?_
  refine SL.act (OpH.box rfl) rfl ?_; rintro _ _ _ hM1 ⟨b1, rfl, rfl, rfl⟩; clear hM1
  refine SL.val (OpV.assign rfl) rfl ?_
  refine SL.nil ?_
  refine seqQ.nm ?_
  refine SC.seq ?_
  refine SC.region ?_
  refine SL.val (OpV.fld fa36_0 rfl) rfl ?_
  first
    | refine SL.val (OpV.load _ Tryz.underlying3 rfl rfl (Kn.blk 0 rfl rfl)) rfl ?_
    | refine SL.val (OpV.load _ Tryz.underlying3 rfl rfl (Kn.blk 1 rfl rfl)) rfl ?_
    | refine SL.val (OpV.load _ Tryz.underlying3 rfl rfl (Kn.blk 2 rfl rfl)) rfl ?_
    | refine SL.val (OpV.load _ Tryz.underlying3 rfl rfl (Kn.blk 3 rfl rfl)) rfl ?_
    | refine SL.val (OpV.load _ Tryz.underlying3 rfl rfl (Kn.mem (by assumption))) rfl ?_
  refine SL.val (OpV.eql rfl rfl) rfl ?_
  refine SL.val (OpV.move rfl) rfl ?_
  refine SL.andcut 4 (c := 6) (d := 10) rfl (fun h6 => ?_) ?_
  · skip
    refine SL.skip rfl rfl ?_
    refine SL.skip rfl rfl ?_
    refine SL.skip rfl rfl ?_
    refine SL.val (OpV.pickF rfl rfl) rfl ?_
    exact SL.nil ⟨rfl, rfl, (by repeat first | exact Env.le_refl _ | refine Env.le_new rfl ?_), [], List.Perm.refl _⟩
  apply Exists.intro
  refine And.intro (fun h6 => ?_) ?_
  · skip
    refine SL.gval rfl (OpV.fld fa36_1 rfl) rfl ?_
    first
      | refine SL.gval rfl (OpV.load _ Tryz.underlying32 rfl rfl (Kn.blk 0 rfl rfl)) rfl ?_
      | refine SL.gval rfl (OpV.load _ Tryz.underlying32 rfl rfl (Kn.blk 1 rfl rfl)) rfl ?_
      | refine SL.gval rfl (OpV.load _ Tryz.underlying32 rfl rfl (Kn.blk 2 rfl rfl)) rfl ?_
      | refine SL.gval rfl (OpV.load _ Tryz.underlying32 rfl rfl (Kn.blk 3 rfl rfl)) rfl ?_
      | refine SL.gval rfl (OpV.load _ Tryz.underlying32 rfl rfl (Kn.mem (by assumption))) rfl ?_
    refine SL.gval rfl (OpV.eql rfl rfl) rfl ?_
    refine SL.val (OpV.pickT rfl rfl) rfl ?_
    exact SL.nil ⟨rfl, rfl, (by repeat first | exact Env.le_refl _ | refine Env.le_new rfl ?_), [], List.Perm.refl _⟩
  refine SL.val (OpV.move rfl) rfl ?_
  refine SL.andcut 4 (c := 11) (d := 15) rfl (fun h11 => ?_) ?_
  · skip
    refine SL.skip rfl rfl ?_
    refine SL.skip rfl rfl ?_
    refine SL.skip rfl rfl ?_
    refine SL.val (OpV.pickF rfl rfl) rfl ?_
    exact SL.nil ⟨rfl, rfl, (by repeat first | exact Env.le_refl _ | refine Env.le_new rfl ?_), [], List.Perm.refl _⟩
  apply Exists.intro
  refine And.intro (fun h11 => ?_) ?_
  · skip
    refine SL.gval rfl (OpV.fld fa36_2 rfl) rfl ?_
    first
      | refine SL.gval rfl (OpV.load _ Tryz.underlying32 rfl rfl (Kn.blk 0 rfl rfl)) rfl ?_
      | refine SL.gval rfl (OpV.load _ Tryz.underlying32 rfl rfl (Kn.blk 1 rfl rfl)) rfl ?_
      | refine SL.gval rfl (OpV.load _ Tryz.underlying32 rfl rfl (Kn.blk 2 rfl rfl)) rfl ?_
      | refine SL.gval rfl (OpV.load _ Tryz.underlying32 rfl rfl (Kn.blk 3 rfl rfl)) rfl ?_
      | refine SL.gval rfl (OpV.load _ Tryz.underlying32 rfl rfl (Kn.mem (by assumption))) rfl ?_
    refine SL.gval rfl (OpV.eql rfl rfl) rfl ?_
    refine SL.val (OpV.pickT rfl rfl) rfl ?_
    exact SL.nil ⟨rfl, rfl, (by repeat first | exact Env.le_refl _ | refine Env.le_new rfl ?_), [], List.Perm.refl _⟩
  refine SL.val (OpV.move rfl) rfl ?_
  refine SL.andcut 4 (c := 16) (d := 20) rfl (fun h16 => ?_) ?_
  · skip
    refine SL.skip rfl rfl ?_
    refine SL.skip rfl rfl ?_
    refine SL.skip rfl rfl ?_
    refine SL.val (OpV.pickF rfl rfl) rfl ?_
    exact SL.nil ⟨rfl, rfl, (by repeat first | exact Env.le_refl _ | refine Env.le_new rfl ?_), [], List.Perm.refl _⟩
  apply Exists.intro
  refine And.intro (fun h16 => ?_) ?_
  · skip
    refine SL.gval rfl (OpV.fld fa36_3 rfl) rfl ?_
    first
      | refine SL.gval rfl (OpV.load _ Tryz.underlying32 rfl rfl (Kn.blk 0 rfl rfl)) rfl ?_
      | refine SL.gval rfl (OpV.load _ Tryz.underlying32 rfl rfl (Kn.blk 1 rfl rfl)) rfl ?_
      | refine SL.gval rfl (OpV.load _ Tryz.underlying32 rfl rfl (Kn.blk 2 rfl rfl)) rfl ?_
      | refine SL.gval rfl (OpV.load _ Tryz.underlying32 rfl rfl (Kn.blk 3 rfl rfl)) rfl ?_
      | refine SL.gval rfl (OpV.load _ Tryz.underlying32 rfl rfl (Kn.mem (by assumption))) rfl ?_
    refine SL.gval rfl (OpV.eql rfl rfl) rfl ?_
    refine SL.val (OpV.pickT rfl rfl) rfl ?_
    exact SL.nil ⟨rfl, rfl, (by repeat first | exact Env.le_refl _ | refine Env.le_new rfl ?_), [], List.Perm.refl _⟩
  refine SL.val (OpV.move rfl) rfl ?_
  refine SL.andcut 4 (c := 21) (d := 25) rfl (fun h21 => ?_) ?_
  · skip
    refine SL.skip rfl rfl ?_
    refine SL.skip rfl rfl ?_
    refine SL.skip rfl rfl ?_
    refine SL.val (OpV.pickF rfl rfl) rfl ?_
    exact SL.nil ⟨rfl, rfl, (by repeat first | exact Env.le_refl _ | refine Env.le_new rfl ?_), [], List.Perm.refl _⟩
  apply Exists.intro
  refine And.intro (fun h21 => ?_) ?_
  · skip
    refine SL.gval rfl (OpV.fld fa36_4 rfl) rfl ?_
    first
      | refine SL.gval rfl (OpV.load _ Tryz.underlying2 rfl rfl (Kn.blk 0 rfl rfl)) rfl ?_
      | refine SL.gval rfl (OpV.load _ Tryz.underlying2 rfl rfl (Kn.blk 1 rfl rfl)) rfl ?_
      | refine SL.gval rfl (OpV.load _ Tryz.underlying2 rfl rfl (Kn.blk 2 rfl rfl)) rfl ?_
      | refine SL.gval rfl (OpV.load _ Tryz.underlying2 rfl rfl (Kn.blk 3 rfl rfl)) rfl ?_
      | refine SL.gval rfl (OpV.load _ Tryz.underlying2 rfl rfl (Kn.mem (by assumption))) rfl ?_
    refine SL.gval rfl (OpV.eql rfl rfl) rfl ?_
    refine SL.val (OpV.pickT rfl rfl) rfl ?_
    exact SL.nil ⟨rfl, rfl, (by repeat first | exact Env.le_refl _ | refine Env.le_new rfl ?_), [], List.Perm.refl _⟩
  refine SL.val (OpV.move rfl) rfl ?_
  refine SL.andcut 5 (c := 26) (d := 31) rfl (fun h26 => ?_) ?_
  · skip
    refine SL.skip rfl rfl ?_
    refine SL.skip rfl rfl ?_
    refine SL.skip rfl rfl ?_
    refine SL.skip rfl rfl ?_
    refine SL.val (OpV.pickF rfl rfl) rfl ?_
    exact SL.nil ⟨rfl, rfl, (by repeat first | exact Env.le_refl _ | refine Env.le_new rfl ?_), [], List.Perm.refl _⟩
  apply Exists.intro
  refine And.intro (fun h26 => ?_) ?_
  · skip
    refine SL.gval rfl (OpV.fld fa36_5 rfl) rfl ?_
    first
      | refine SL.gval rfl (show OpV _ _ _ _ _ (.slice aad m.av.length acap) by rw [← hae]; exact (OpV.load _ Tryz.underlying33 rfl rfl (Kn.blk 0 rfl rfl))) rfl ?_
      | refine SL.gval rfl (show OpV _ _ _ _ _ (.slice aad m.av.length acap) by rw [← hae]; exact (OpV.load _ Tryz.underlying33 rfl rfl (Kn.blk 1 rfl rfl))) rfl ?_
      | refine SL.gval rfl (show OpV _ _ _ _ _ (.slice aad m.av.length acap) by rw [← hae]; exact (OpV.load _ Tryz.underlying33 rfl rfl (Kn.blk 2 rfl rfl))) rfl ?_
      | refine SL.gval rfl (show OpV _ _ _ _ _ (.slice aad m.av.length acap) by rw [← hae]; exact (OpV.load _ Tryz.underlying33 rfl rfl (Kn.blk 3 rfl rfl))) rfl ?_
      | refine SL.gval rfl (show OpV _ _ _ _ _ (.slice aad m.av.length acap) by rw [← hae]; exact (OpV.load _ Tryz.underlying33 rfl rfl (Kn.mem (by assumption)))) rfl ?_
    refine SL.gval rfl (OpV.llen Tryz.underlying33 rfl) rfl ?_
    refine SL.gval rfl (OpV.eql rfl rfl) rfl ?_
    refine SL.val (OpV.pickT rfl rfl) rfl ?_
    exact SL.nil ⟨rfl, rfl, (by repeat first | exact Env.le_refl _ | refine Env.le_new rfl ?_), [], List.Perm.refl _⟩
  refine SL.val (OpV.move rfl) rfl ?_
  refine SL.andcut 5 (c := 32) (d := 37) rfl (fun h32 => ?_) ?_
  · skip
    refine SL.skip rfl rfl ?_
    refine SL.skip rfl rfl ?_
    refine SL.skip rfl rfl ?_
    refine SL.skip rfl rfl ?_
    refine SL.val (OpV.pickF rfl rfl) rfl ?_
    exact SL.nil ⟨rfl, rfl, (by repeat first | exact Env.le_refl _ | refine Env.le_new rfl ?_), [], List.Perm.refl _⟩
  apply Exists.intro
  refine And.intro (fun h32 => ?_) ?_
  · skip
    refine SL.gval rfl (OpV.fld fa36_6 rfl) rfl ?_
    first
      | refine SL.gval rfl (show OpV _ _ _ _ _ (.slice dad m.dv.length dcap) by rw [← hde]; exact (OpV.load _ Tryz.underlying34 rfl rfl (Kn.blk 0 rfl rfl))) rfl ?_
      | refine SL.gval rfl (show OpV _ _ _ _ _ (.slice dad m.dv.length dcap) by rw [← hde]; exact (OpV.load _ Tryz.underlying34 rfl rfl (Kn.blk 1 rfl rfl))) rfl ?_
      | refine SL.gval rfl (show OpV _ _ _ _ _ (.slice dad m.dv.length dcap) by rw [← hde]; exact (OpV.load _ Tryz.underlying34 rfl rfl (Kn.blk 2 rfl rfl))) rfl ?_
      | refine SL.gval rfl (show OpV _ _ _ _ _ (.slice dad m.dv.length dcap) by rw [← hde]; exact (OpV.load _ Tryz.underlying34 rfl rfl (Kn.blk 3 rfl rfl))) rfl ?_
      | refine SL.gval rfl (show OpV _ _ _ _ _ (.slice dad m.dv.length dcap) by rw [← hde]; exact (OpV.load _ Tryz.underlying34 rfl rfl (Kn.mem (by assumption)))) rfl ?_
    refine SL.gval rfl (OpV.llen Tryz.underlying34 rfl) rfl ?_
    refine SL.gval rfl (OpV.eql rfl rfl) rfl ?_
    refine SL.val (OpV.pickT rfl rfl) rfl ?_
    exact SL.nil ⟨rfl, rfl, (by repeat first | exact Env.le_refl _ | refine Env.le_new rfl ?_), [], List.Perm.refl _⟩
  refine SL.val (OpV.move rfl) rfl ?_
  refine SL.andcut 4 (c := 38) (d := 42) rfl (fun h38 => ?_) ?_
  · skip
    refine SL.skip rfl rfl ?_
    refine SL.skip rfl rfl ?_
    refine SL.skip rfl rfl ?_
    refine SL.val (OpV.pickF rfl rfl) rfl ?_
    exact SL.nil ⟨rfl, rfl, (by repeat first | exact Env.le_refl _ | refine Env.le_new rfl ?_), [], List.Perm.refl _⟩
  apply Exists.intro
  refine And.intro (fun h38 => ?_) ?_
  · skip
    refine SL.gval rfl (OpV.fld fa36_7 rfl) rfl ?_
    first
      | refine SL.gval rfl (OpV.load _ Tryz.underlying9 rfl rfl (Kn.blk 0 rfl rfl)) rfl ?_
      | refine SL.gval rfl (OpV.load _ Tryz.underlying9 rfl rfl (Kn.blk 1 rfl rfl)) rfl ?_
      | refine SL.gval rfl (OpV.load _ Tryz.underlying9 rfl rfl (Kn.blk 2 rfl rfl)) rfl ?_
      | refine SL.gval rfl (OpV.load _ Tryz.underlying9 rfl rfl (Kn.blk 3 rfl rfl)) rfl ?_
      | refine SL.gval rfl (OpV.load _ Tryz.underlying9 rfl rfl (Kn.mem (by assumption))) rfl ?_
    refine SL.gval rfl (OpV.seql rfl rfl) rfl ?_
    refine SL.val (OpV.pickT rfl rfl) rfl ?_
    exact SL.nil ⟨rfl, rfl, (by repeat first | exact Env.le_refl _ | refine Env.le_new rfl ?_), [], List.Perm.refl _⟩
  refine SL.val (OpV.assign rfl) rfl ?_
  refine SL.nil ?_
  refine seqQ.nm ?_
  refine SC.ret ?_
  refine retQ.one rfl (.tmp rfl) ?_ _ (.inr rfl)
  have e4 : decide ((m.av.length : Int) = 0) = decide (m.av.length = 0) := dec_eq (by omega)
  have e5 : decide ((m.dv.length : Int) = 0) = decide (m.dv.length = 0) := dec_eq (by omega)
  rw [e4, e5]
  rfl

/-- 'dirs[p] == 0', dirs being captured. -/
theorem inside_ev (x : Bytes) (b bm : Nat) (kvs : List (Bytes × Value)) (p : Bytes → Bool) (M : Mem) (hkv : ∀ x, (kvGet x kvs).getD (.int .i64 0) = .int .i64 (if p x then 1 else 0)) :
    Ev Tryz.prog 22 ([str x] ++ (#[.pointer (some ⟨b, 0, none⟩)] : Array Value).toList).toArray [.blk b 55 [.map (some bm)], .obj bm (mapObj kvs)] M fun v L' M' => v = .bool (!p x) ∧ L' = [.blk b 55 [.map (some bm)], .obj bm (mapObj kvs)] ∧ M = M' := by
  refine Ev.enter Tryz.func22 rfl Tryz.ntmps22 rfl ?_
  refine SC.seq ?_
  refine SC.region ?_
  refine SL.val (OpV.assign rfl) rfl ?_
  refine SL.nil ?_
  refine seqQ.nm ?_
  refine SC.seq ?_
  refine SC.region ?_
  first
    | refine SL.val (OpV.load _ Tryz.underlying55 rfl rfl (Kn.blk 0 rfl rfl)) rfl ?_
    | refine SL.val (OpV.load _ Tryz.underlying55 rfl rfl (Kn.blk 1 rfl rfl)) rfl ?_
    | refine SL.val (OpV.load _ Tryz.underlying55 rfl rfl (Kn.blk 2 rfl rfl)) rfl ?_
    | refine SL.val (OpV.load _ Tryz.underlying55 rfl rfl (Kn.blk 3 rfl rfl)) rfl ?_
    | refine SL.val (OpV.load _ Tryz.underlying55 rfl rfl (Kn.mem (by assumption))) rfl ?_
  refine SL.val (OpV.move rfl) rfl ?_
  refine SL.val (show OpV _ _ _ _ _ (.int .i64 (if p x then 1 else 0)) by rw [← hkv x]; exact (OpV.kvLookup Tryz.underlying55 Tryz.underlying9 zr3 rfl rfl (Ko.obj 1 rfl))) rfl ?_
  refine SL.val (OpV.eql rfl rfl) rfl ?_
  refine SL.val (OpV.assign rfl) rfl ?_
  refine SL.nil ?_
  refine seqQ.nm ?_
  refine SC.ret ?_
  refine retQ.one rfl (.tmp rfl) ?_ _ (.inr rfl)
  refine ⟨?_, rfl, rfl⟩
  cases p x <;> rfl
end Go.Proofs.YtceabkfmjffnhaaGreatDoor
set_option linter.unusedVariables false
set_option linter.unusedSimpArgs false
namespace Go.Proofs.YtceabkfmjffnhaaGreatDoor
open Go Go.Eng

theorem above_len (l : Bytes) : (above l).length ≤ l.length := aboveTo_len l l.length
theorem above_part (l : Bytes) : ∀ x ∈ above l, x.length ≤ l.length := by
  have key : ∀ k, ∀ x ∈ aboveTo l k, x.length ≤ l.length := by
    intro k
    induction k with
    | zero => intro x hx; simp [aboveTo] at hx
    | succ k ih =>
      intro x hx
      simp only [aboveTo, List.mem_append] at hx
      rcases hx with hx | hx
      · exact ih x hx
      · split at hx
        · simp at hx; subst hx; simp; omega
        · simp at hx
  exact key l.length
theorem core_at {ms : List Mb} {k : Nat} {m : Mb} (h : ms[k]? = some m) : (cores ms)[k]? = some m.core := by simp [cores, h]
theorem cp_core {ms : List Mb} {k : Nat} {m : Mb} (h : ms[k]? = some m) : cp (cores ms) k = m.path := cp_some (core_at h)

theorem cmay_ev (v : Value) (ms : List Mb) (M : Mem) (hc : ClassTab M) (ht : TypeTab M) (hv : SlM M v ms) (hok : ∀ m ∈ ms, m.ok M) (hl : ms.length ≤ big) :
    Ev Tryz.prog 11 [v].toArray [] M (Pu M (.int .i64 (maySet (cores ms)))) := by
  obtain ⟨ad, cap, rfl, hcap, hmax⟩ := hv.len
  refine Ev.lax ?_
  refine Ev.enter Tryz.func11 rfl Tryz.ntmps11 rfl ?_
  have hl' : ms.length ≤ 268435456 := hl
  refine SC.seq ?_
  refine SC.region ?_
  refine SL.val (OpV.assign rfl) rfl ?_
  refine SL.nil ?_
  refine seqQ.nm ?_
  refine SC.seq ?_
  refine SC.region ?_
  refine SL.act OpH.makeMap rfl ?_; rintro _ _ _ hM9 ⟨b9, rfl, rfl, rfl⟩; clear hM9
  refine SL.act (OpH.alloc zr55) rfl ?_; rintro _ _ _ hM3 ⟨b3, rfl, rfl, rfl⟩; clear hM3
  first
    | refine SL.unit (OpU.store1 0 rfl rfl rfl sz55 (by first | exact Nat.le_of_ble_eq_true rfl | (simp; done) | (simp; omega) | omega) rfl) ?_
    | refine SL.unit (OpU.storeRow1 0 rfl rfl rfl sz55 (by first | exact Nat.le_of_ble_eq_true rfl | (simp; done) | (simp; omega) | omega) rfl) ?_
    | refine SL.unit (OpU.store1 1 rfl rfl rfl sz55 (by first | exact Nat.le_of_ble_eq_true rfl | (simp; done) | (simp; omega) | omega) rfl) ?_
    | refine SL.unit (OpU.storeRow1 1 rfl rfl rfl sz55 (by first | exact Nat.le_of_ble_eq_true rfl | (simp; done) | (simp; omega) | omega) rfl) ?_
    | refine SL.unit (OpU.store1 2 rfl rfl rfl sz55 (by first | exact Nat.le_of_ble_eq_true rfl | (simp; done) | (simp; omega) | omega) rfl) ?_
    | refine SL.unit (OpU.storeRow1 2 rfl rfl rfl sz55 (by first | exact Nat.le_of_ble_eq_true rfl | (simp; done) | (simp; omega) | omega) rfl) ?_
    | refine SL.unit (OpU.store1 3 rfl rfl rfl sz55 (by first | exact Nat.le_of_ble_eq_true rfl | (simp; done) | (simp; omega) | omega) rfl) ?_
    | refine SL.unit (OpU.storeRow1 3 rfl rfl rfl sz55 (by first | exact Nat.le_of_ble_eq_true rfl | (simp; done) | (simp; omega) | omega) rfl) ?_
  refine SL.nil ?_
  refine seqQ.nm ?_
  refine SC.seq ?_
  refine SC.seq ?_
  refine SC.region ?_
  refine SL.val (OpV.move rfl) rfl ?_
  refine SL.val (OpV.llen Tryz.underlying25 rfl) rfl ?_
  refine SL.val (OpV.move rfl) rfl ?_
  refine SL.nil ?_
  refine seqQ.nm ?_
  refine SC.block ?_
  refine SC.loop (ι := Nat × List (Bytes × Value)) (fun x M' => x.1 ≤ ms.length ∧ firstErr (cores ms) x.1 = 0 ∧ (∀ y, (kvGet y x.2).getD (.int .i64 0) = .int .i64 (if isDir ((cores ms).take x.1) y then 1 else 0)) ∧ M.le M')
    (fun x => [(0, .slice ad ms.length cap), (3, .pointer (some ⟨b3, 0, none⟩)), (10, .slice ad ms.length cap), (11, .int .i64 ms.length), (12, .int .i64 x.1)])
    (fun x => [.blk b3 55 [.map (some b9)], .obj b9 (mapObj x.2)]) (fun x => ms.length - x.1) (0, []) (G := []) ⟨rfl, rfl, rfl, rfl, rfl, trivial⟩ (List.Perm.refl _) ⟨Nat.zero_le _, rfl, fun y => by simp [kvGet, isDir], Mem.le_refl _⟩ ?_
  rintro ⟨k, kvs⟩ M1 hM1 ⟨hk, herr, hkv, hMM⟩
  dsimp only at hk herr hkv ⊢
  replace hv := hv.mono hMM
  replace hok : ∀ m ∈ ms, m.ok M1 := fun m hm => (hok m hm).mono hMM
  replace hc := hc.mono hMM
  replace ht := ht.mono hMM
  refine SC.seq ?_
  refine SC.region ?_
  refine SL.val (OpV.lss rfl rfl) rfl ?_
  refine SL.nil ?_
  refine seqQ.nm ?_
  refine SC.seq ?_
  first | refine SC.ifp rfl (fun h13 => ?_) (fun h13 => ?_) | refine SC.ite rfl (fun h13 => ?_) (fun h13 => ?_)
  · skip
    have hlt : k < ms.length := by omega
    obtain ⟨g, o, cap', he, hcs, _⟩ := hv.at_ (by omega)
    cases he
    obtain ⟨m, hm⟩ := getElem?_lt hlt
    have hmok := hok m (List.mem_of_getElem? hm)
    have hmc := mbCells_at hcs hm
    have hmp : m.path.length ≤ 268435456 := hmok.path
    have hmok2 : Mb.ok M1 { m with path := [97] } := ⟨hmok.attrs, hmok.data, (show ([97] : Bytes).length ≤ big by decide), hmok.link, hmok.names, hmok.attrsLen, hmok.dataLen⟩
    have hcm := core_at hm
    have hcl := classRef_lt m.path
    refine SC.skip ?_
    refine seqQ.nm ?_
    refine SC.seq ?_
    refine SC.block ?_
    refine SC.seq ?_
    refine SC.region ?_
    refine SL.val (OpV.move rfl) rfl ?_
    refine SL.val (OpV.indexAddr Tryz.underlying25 sz38 rfl rfl (by omega) (by omega)) rfl ?_
    refine SL.val (OpV.loads (cs := m.cells) _ Tryz.underlying38 rfl rfl sz38 (Kns.mem hmc)) rfl ?_
    refine SL.act (OpH.alloc zr38) rfl ?_; rintro _ _ _ hM5 ⟨b5, rfl, rfl, rfl⟩; clear hM5
    refine SL.val (OpV.assign rfl) rfl ?_
    first
      | refine SL.unit (OpU.store 0 rfl rfl rfl sz38 (by first | exact Nat.le_of_ble_eq_true rfl | (simp; done) | (simp; omega) | omega) (cells_ones hmok)) ?_
      | refine SL.unit (OpU.storeRow 0 rfl rfl rfl sz38 (by first | exact Nat.le_of_ble_eq_true rfl | (simp; done) | (simp; omega) | omega) (cells_ones hmok)) ?_
      | refine SL.unit (OpU.store 1 rfl rfl rfl sz38 (by first | exact Nat.le_of_ble_eq_true rfl | (simp; done) | (simp; omega) | omega) (cells_ones hmok)) ?_
      | refine SL.unit (OpU.storeRow 1 rfl rfl rfl sz38 (by first | exact Nat.le_of_ble_eq_true rfl | (simp; done) | (simp; omega) | omega) (cells_ones hmok)) ?_
      | refine SL.unit (OpU.store 2 rfl rfl rfl sz38 (by first | exact Nat.le_of_ble_eq_true rfl | (simp; done) | (simp; omega) | omega) (cells_ones hmok)) ?_
      | refine SL.unit (OpU.storeRow 2 rfl rfl rfl sz38 (by first | exact Nat.le_of_ble_eq_true rfl | (simp; done) | (simp; omega) | omega) (cells_ones hmok)) ?_
      | refine SL.unit (OpU.store 3 rfl rfl rfl sz38 (by first | exact Nat.le_of_ble_eq_true rfl | (simp; done) | (simp; omega) | omega) (cells_ones hmok)) ?_
      | refine SL.unit (OpU.storeRow 3 rfl rfl rfl sz38 (by first | exact Nat.le_of_ble_eq_true rfl | (simp; done) | (simp; omega) | omega) (cells_ones hmok)) ?_
    refine SL.nil ?_
    refine seqQ.nm ?_
    refine SC.seq ?_
    refine SC.region ?_
    refine SL.val (OpV.fld fa38_0 rfl) rfl ?_
    first
      | refine SL.val (OpV.load _ Tryz.underlying9 rfl rfl (Kn.blk 0 rfl rfl)) rfl ?_
      | refine SL.val (OpV.load _ Tryz.underlying9 rfl rfl (Kn.blk 1 rfl rfl)) rfl ?_
      | refine SL.val (OpV.load _ Tryz.underlying9 rfl rfl (Kn.blk 2 rfl rfl)) rfl ?_
      | refine SL.val (OpV.load _ Tryz.underlying9 rfl rfl (Kn.blk 3 rfl rfl)) rfl ?_
      | refine SL.val (OpV.load _ Tryz.underlying9 rfl rfl (Kn.mem (by assumption))) rfl ?_
    refine SL.call ok21 rfl (L1 := []) (List.Perm.refl _) (by have := pclass_ev m.path M1 hc (by omega); rw [classP_eq] at this; exact this) rfl ?_
    rintro _ _ _ hM20 ⟨rfl, rfl, rfl⟩
    refine SL.val (OpV.move rfl) rfl ?_
    refine SL.val (OpV.extract rfl rfl) rfl ?_
    refine SL.val (OpV.extract rfl rfl) rfl ?_
    refine SL.val (OpV.assign rfl) rfl ?_
    refine SL.val (OpV.assign rfl) rfl ?_
    refine SL.nil ?_
    refine seqQ.nm ?_
    refine SC.seq ?_
    refine SC.region ?_
    refine SL.val (OpV.makeFunc (vs := []) (us := [.pointer (some ⟨b3, 0, none⟩)]) rfl rfl) rfl ?_
    refine SL.val (OpV.assign rfl) rfl ?_
    refine SL.nil ?_
    refine seqQ.nm ?_
    refine SC.seq ?_
    refine SC.block ?_
    refine SC.seq ?_
    refine SC.quiet mixed (by decide +kernel) ?_
    refine SQ.val (OpV.fld fa38_1 rfl) rfl ?_
    first
      | refine SQ.val (OpV.loads (cs := m.node) _ Tryz.underlying36 rfl rfl sz36 (Kns.blk 0 rfl rfl)) rfl ?_
      | refine SQ.val (OpV.loads (cs := m.node) _ Tryz.underlying36 rfl rfl sz36 (Kns.blk 1 rfl rfl)) rfl ?_
      | refine SQ.val (OpV.loads (cs := m.node) _ Tryz.underlying36 rfl rfl sz36 (Kns.blk 2 rfl rfl)) rfl ?_
      | refine SQ.val (OpV.loads (cs := m.node) _ Tryz.underlying36 rfl rfl sz36 (Kns.blk 3 rfl rfl)) rfl ?_
      | refine SQ.val (OpV.loads (cs := m.node) _ Tryz.underlying36 rfl rfl sz36 (Kns.mem (by assumption))) rfl ?_
    refine SQ.val (show OpV _ _ _ _ _ (.agg (({ m with path := [97] } : Mb).cells.toArray)) from OpV.bld bl38 rfl rfl) rfl ?_
    refine SQ.call ok23 rfl (tmay_ev { m with path := [97] } _ hc ht hmok2) rfl ?_
    refine SQ.val (OpV.not rfl) rfl ?_
    refine SQ.val (OpV.move rfl) rfl ?_
    refine SQ.orcut 14 (c := 30) (d := 44) rfl (fun h30 => ?_) ?_
    · skip
      refine SQ.skip rfl rfl ?_
      refine SQ.skip rfl rfl ?_
      refine SQ.skip rfl rfl ?_
      refine SQ.skip rfl rfl ?_
      refine SQ.skip rfl rfl ?_
      refine SQ.skip rfl rfl ?_
      refine SQ.skip rfl rfl ?_
      refine SQ.skip rfl rfl ?_
      refine SQ.skip rfl rfl ?_
      refine SQ.skip rfl rfl ?_
      refine SQ.skip rfl rfl ?_
      refine SQ.skip rfl rfl ?_
      refine SQ.skip rfl rfl ?_
      refine SQ.val (OpV.pickT rfl rfl) rfl ?_
      exact SQ.nil ⟨rfl, rfl, (by repeat first | exact Env.le_refl _ | refine Env.le_new rfl ?_), [], List.Perm.refl _⟩
    apply Exists.intro
    refine And.intro (fun h30 => ?_) ?_
    · skip
      refine SQ.gval rfl (OpV.move rfl) rfl ?_
      refine SQ.gval rfl (OpV.gtr rfl rfl) rfl ?_
      refine SQ.gval rfl (OpV.move rfl) rfl ?_
      refine SQ.andcut 10 (c := 33) (d := 43) rfl (fun h33 => ?_) ?_
      · skip
        refine SQ.skip rfl rfl ?_
        refine SQ.skip rfl rfl ?_
        refine SQ.skip rfl rfl ?_
        refine SQ.skip rfl rfl ?_
        refine SQ.skip rfl rfl ?_
        refine SQ.skip rfl rfl ?_
        refine SQ.skip rfl rfl ?_
        refine SQ.skip rfl rfl ?_
        refine SQ.skip rfl rfl ?_
        refine SQ.gval rfl (OpV.pickF rfl rfl) rfl ?_
        exact SQ.nil ⟨rfl, rfl, (by repeat first | exact Env.le_refl _ | refine Env.le_new rfl ?_), [], List.Perm.refl _⟩
      apply Exists.intro
      refine And.intro (fun h33 => ?_) ?_
      · skip
        have hk0 : 0 < k := by simpa using h33
        have hn1 : ((k : Int) - 1).toNat = k - 1 := by omega
        obtain ⟨q, hq⟩ := getElem?_lt (l := ms) (k := k - 1) (by omega)
        have hqc := mbCells_at hcs hq
        refine SQ.gval rfl (OpV.move rfl) rfl ?_
        refine SQ.gval rfl (OpV.move rfl) rfl ?_
        refine SQ.gval rfl (OpV.sub rfl rfl (IntWalk.i64_in _ (by omega))) rfl ?_
        refine SQ.gval rfl (OpV.indexAddr Tryz.underlying25 sz38 rfl rfl (by omega) (by omega)) rfl ?_
        refine SQ.gval rfl (OpV.fld fa38_0 rfl) rfl ?_
        refine SQ.gval rfl (OpV.load _ Tryz.underlying9 rfl rfl (Kn.mem (v := str (cp (cores ms) (k - 1))) (by rw [hn1]; exact hqc 0 _ (by rw [cp_core hq]; rfl)))) rfl ?_
        refine SQ.gval rfl (OpV.fld fa38_0 rfl) rfl ?_
        first
          | refine SQ.gval rfl (OpV.load _ Tryz.underlying9 rfl rfl (Kn.blk 0 rfl rfl)) rfl ?_
          | refine SQ.gval rfl (OpV.load _ Tryz.underlying9 rfl rfl (Kn.blk 1 rfl rfl)) rfl ?_
          | refine SQ.gval rfl (OpV.load _ Tryz.underlying9 rfl rfl (Kn.blk 2 rfl rfl)) rfl ?_
          | refine SQ.gval rfl (OpV.load _ Tryz.underlying9 rfl rfl (Kn.blk 3 rfl rfl)) rfl ?_
          | refine SQ.gval rfl (OpV.load _ Tryz.underlying9 rfl rfl (Kn.mem (by assumption))) rfl ?_
        refine SQ.gval rfl (OpV.sgeq rfl rfl) rfl ?_
        refine SQ.gval rfl (OpV.pickT rfl rfl) rfl ?_
        exact SQ.nil ⟨rfl, rfl, (by repeat first | exact Env.le_refl _ | refine Env.le_new rfl ?_), [], List.Perm.refl _⟩
      refine SQ.val (OpV.pickF rfl rfl) rfl ?_
      exact SQ.nil ⟨rfl, rfl, (by repeat first | exact Env.le_refl _ | refine Env.le_new rfl ?_), [], List.Perm.refl _⟩
    refine SQ.val (OpV.assign rfl) rfl ?_
    refine SQ.nil ?_
    refine seqQ.nm ?_
    first | refine SC.ifp rfl (fun h24 => ?_) (fun h24 => ?_) | refine SC.ite rfl (fun h24 => ?_) (fun h24 => ?_)
    · skip
      have hbad : errAt (cores ms) k m.core = 1 := by
        unfold errAt
        rw [if_pos]
        have e : decide (0 < (k : Int)) = decide (0 < k) := dec_eq (by omega)
        rw [e] at h24
        exact h24
      refine SC.seq ?_
      refine SC.region ?_
      refine SL.val (OpV.assign rfl) rfl ?_
      refine SL.nil ?_
      refine seqQ.nm ?_
      refine SC.ret ?_
      refine blockQ.r ?_
      refine seqQ.r ?_
      refine blockQ.r ?_
      refine seqQ.r ?_
      refine loopQ.r ?_
      refine blockQ.r ?_
      refine seqQ.r ?_
      refine retQ.one rfl (.tmp rfl) ?_ _ (.inr rfl)
      exact (by rw [maySet_err herr hcm (by rw [hbad]; decide), hbad]; rfl)
    · skip
      have hgood1 : (!aloneOk m.core || (decide (0 < k) && !Op.bytesLess (cp (cores ms) (k - 1)) m.path)) = false := by
        have e : decide (0 < (k : Int)) = decide (0 < k) := dec_eq (by omega)
        rw [e] at h24
        exact h24
      refine SC.seq ?_
      refine SC.region ?_
      refine SL.val (OpV.move rfl) rfl ?_
      refine SL.val (OpV.lss rfl rfl) rfl ?_
      refine SL.val (OpV.move rfl) rfl ?_
      refine SL.orcut 3 (c := 48) (d := 51) rfl (fun h48 => ?_) ?_
      · skip
        refine SL.skip rfl rfl ?_
        refine SL.skip rfl rfl ?_
        refine SL.val (OpV.pickT rfl rfl) rfl ?_
        exact SL.nil ⟨rfl, rfl, (by repeat first | exact Env.le_refl _ | refine Env.le_new rfl ?_), [], List.Perm.refl _⟩
      apply Exists.intro
      refine And.intro (fun h48 => ?_) ?_
      · skip
        refine SL.gval rfl (OpV.move rfl) rfl ?_
        refine SL.gval rfl (OpV.gtr rfl rfl) rfl ?_
        refine SL.val (OpV.pickF rfl rfl) rfl ?_
        exact SL.nil ⟨rfl, rfl, (by repeat first | exact Env.le_refl _ | refine Env.le_new rfl ?_), [], List.Perm.refl _⟩
      refine SL.val (OpV.assign rfl) rfl ?_
      refine SL.nil ?_
      refine seqQ.nm ?_
      first | refine SC.ifp rfl (fun h45 => ?_) (fun h45 => ?_) | refine SC.ite rfl (fun h45 => ?_) (fun h45 => ?_)
      · skip
        have hbad : errAt (cores ms) k m.core = 32 := by
          unfold errAt
          rw [if_neg (by rw [show (!aloneOk m.core || (decide (0 < k) && !Op.bytesLess (cp (cores ms) (k - 1)) m.core.path)) = false from hgood1]; decide), if_pos]
          simp only [Bool.or_eq_true, decide_eq_true_eq] at h45 ⊢
          rcases h45 with h | h
          · exact .inl (by show (classRef m.path).1 < 1; omega)
          · exact .inr (by show 3 < (classRef m.path).1; omega)
        refine SC.seq ?_
        refine SC.region ?_
        refine SL.val (OpV.assign rfl) rfl ?_
        refine SL.nil ?_
        refine seqQ.nm ?_
        refine SC.ret ?_
        refine blockQ.r ?_
        refine seqQ.r ?_
        refine blockQ.r ?_
        refine seqQ.r ?_
        refine loopQ.r ?_
        refine blockQ.r ?_
        refine seqQ.r ?_
        refine retQ.one rfl (.tmp rfl) ?_ _ (.inr rfl)
        exact (by rw [maySet_err herr hcm (by rw [hbad]; decide), hbad]; rfl)
      · skip
        have hgood2 : (decide ((classRef m.core.path).1 < 1) || decide (3 < (classRef m.core.path).1)) = false := by
          simp only [Bool.or_eq_false_iff, decide_eq_false_iff_not] at h45 ⊢
          exact ⟨by show ¬ (classRef m.path).1 < 1; omega, by show ¬ 3 < (classRef m.path).1; omega⟩
        have hstep : errAt (cores ms) k m.core = if decide ((classRef m.core.path).1 ≠ 1) && !bare m.core then 31 else if (above m.core.path).any (fun x => !isDir ((cores ms).take k) x) then 33 else 0 := by
          unfold errAt
          rw [if_neg (by rw [show (!aloneOk m.core || (decide (0 < k) && !Op.bytesLess (cp (cores ms) (k - 1)) m.core.path)) = false from hgood1]; decide), if_neg (by rw [hgood2]; decide)]
        have e1 : decide (((classRef m.path).1 : Int) ≠ 1) = decide ((classRef m.core.path).1 ≠ 1) := dec_eq (by show _ ↔ (classRef m.path).1 ≠ 1; omega)
        refine SC.seq ?_
        refine SC.region ?_
        refine SL.val (OpV.move rfl) rfl ?_
        refine SL.val (OpV.neq rfl rfl) rfl ?_
        refine SL.val (OpV.move rfl) rfl ?_
        refine SL.andcut 5 (c := 55) (d := 60) rfl (fun h55 => ?_) ?_
        · skip
          refine SL.skip rfl rfl ?_
          refine SL.skip rfl rfl ?_
          refine SL.skip rfl rfl ?_
          refine SL.skip rfl rfl ?_
          refine SL.val (OpV.pickF rfl rfl) rfl ?_
          exact SL.nil ⟨rfl, rfl, (by repeat first | exact Env.le_refl _ | refine Env.le_new rfl ?_), [], List.Perm.refl _⟩
        apply Exists.intro
        refine And.intro (fun h55 => ?_) ?_
        · skip
          refine SL.gval rfl (OpV.fld fa38_1 rfl) rfl ?_
          first
            | refine SL.gval rfl (OpV.loads (cs := m.node) _ Tryz.underlying36 rfl rfl sz36 (Kns.blk 0 rfl rfl)) rfl ?_
            | refine SL.gval rfl (OpV.loads (cs := m.node) _ Tryz.underlying36 rfl rfl sz36 (Kns.blk 1 rfl rfl)) rfl ?_
            | refine SL.gval rfl (OpV.loads (cs := m.node) _ Tryz.underlying36 rfl rfl sz36 (Kns.blk 2 rfl rfl)) rfl ?_
            | refine SL.gval rfl (OpV.loads (cs := m.node) _ Tryz.underlying36 rfl rfl sz36 (Kns.blk 3 rfl rfl)) rfl ?_
            | refine SL.gval rfl (OpV.loads (cs := m.node) _ Tryz.underlying36 rfl rfl sz36 (Kns.mem (by assumption))) rfl ?_
          refine SL.gcall rfl ok24 rfl (L1 := []) (List.Perm.refl _) (bare_ev m _ hmok) rfl ?_
          rintro _ _ _ hM58 ⟨rfl, rfl, rfl⟩
          refine SL.gval rfl (OpV.not rfl) rfl ?_
          refine SL.val (OpV.pickT rfl rfl) rfl ?_
          exact SL.nil ⟨rfl, rfl, (by repeat first | exact Env.le_refl _ | refine Env.le_new rfl ?_), [], List.Perm.refl _⟩
        refine SL.val (OpV.assign rfl) rfl ?_
        refine SL.nil ?_
        refine seqQ.nm ?_
        first | refine SC.ifp rfl (fun h52 => ?_) (fun h52 => ?_) | refine SC.ite rfl (fun h52 => ?_) (fun h52 => ?_)
        · skip
          have hbad : errAt (cores ms) k m.core = 31 := by
            rw [hstep, ← e1, if_pos h52]
          refine SC.seq ?_
          refine SC.region ?_
          refine SL.val (OpV.assign rfl) rfl ?_
          refine SL.nil ?_
          refine seqQ.nm ?_
          refine SC.ret ?_
          refine blockQ.r ?_
          refine seqQ.r ?_
          refine blockQ.r ?_
          refine seqQ.r ?_
          refine loopQ.r ?_
          refine blockQ.r ?_
          refine seqQ.r ?_
          refine retQ.one rfl (.tmp rfl) ?_ _ (.inr rfl)
          exact (by rw [maySet_err herr hcm (by rw [hbad]; decide), hbad]; rfl)
        · skip
          have hstep2 : errAt (cores ms) k m.core = if (above m.core.path).any (fun x => !isDir ((cores ms).take k) x) then 33 else 0 := by
            rw [hstep, ← e1, if_neg (by rw [h52]; decide)]
          have hal := above_len m.path
          refine SC.seq ?_
          refine SC.region ?_
          refine SL.val (OpV.fld fa38_0 rfl) rfl ?_
          first
            | refine SL.val (OpV.load _ Tryz.underlying9 rfl rfl (Kn.blk 0 rfl rfl)) rfl ?_
            | refine SL.val (OpV.load _ Tryz.underlying9 rfl rfl (Kn.blk 1 rfl rfl)) rfl ?_
            | refine SL.val (OpV.load _ Tryz.underlying9 rfl rfl (Kn.blk 2 rfl rfl)) rfl ?_
            | refine SL.val (OpV.load _ Tryz.underlying9 rfl rfl (Kn.blk 3 rfl rfl)) rfl ?_
            | refine SL.val (OpV.load _ Tryz.underlying9 rfl rfl (Kn.mem (by assumption))) rfl ?_
          refine SL.call ok26 rfl (L1 := []) (List.Perm.refl _) (above_ev m.path _ (by omega)) rfl ?_
          rintro va _ M2 hM2 ⟨rfl, hva⟩
          refine SL.val (OpV.move rfl) rfl ?_
          refine SL.call ok25 rfl (L1 := [.blk b3 55 [.map (some b9)], .obj b9 (mapObj kvs)]) (List.perm_append_comm (l₁ := [_])) (containsFunc_ev (above m.path) va 22 #[.pointer (some ⟨b3, 0, none⟩)] (fun x => !isDir ((cores ms).take k) x) _ _ hva (by omega) ok22 (fun x hx => inside_ev x b3 b9 kvs _ _ hkv)) rfl ?_
          rintro _ _ _ hM66 ⟨rfl, rfl, rfl⟩
          refine SL.val (OpV.assign rfl) rfl ?_
          refine SL.nil ?_
          refine seqQ.nm ?_
          first | refine SC.ifp rfl (fun h61 => ?_) (fun h61 => ?_) | refine SC.ite rfl (fun h61 => ?_) (fun h61 => ?_)
          · skip
            have hbad : errAt (cores ms) k m.core = 33 := by
              rw [hstep2, if_pos (show (above m.core.path).any (fun x => !isDir ((cores ms).take k) x) = true from h61)]
            refine SC.seq ?_
            refine SC.region ?_
            refine SL.val (OpV.assign rfl) rfl ?_
            refine SL.nil ?_
            refine seqQ.nm ?_
            refine SC.ret ?_
            refine blockQ.r ?_
            refine seqQ.r ?_
            refine blockQ.r ?_
            refine seqQ.r ?_
            refine loopQ.r ?_
            refine blockQ.r ?_
            refine seqQ.r ?_
            refine retQ.one rfl (.tmp rfl) ?_ _ (.inr rfl)
            exact (by rw [maySet_err herr hcm (by rw [hbad]; decide), hbad]; rfl)
          · skip
            have hgood : firstErr (cores ms) (k + 1) = 0 := by
              rw [firstErr_succ herr hcm, hstep2, if_neg (by rw [show (above m.core.path).any (fun x => !isDir ((cores ms).take k) x) = false from h61]; decide)]
            refine SC.skip ?_
            refine blockQ.nm ?_
            refine seqQ.nm ?_
            refine SC.seq ?_
            refine SC.region ?_
            refine SL.val (OpV.fld fa38_1 rfl) rfl ?_
            refine SL.val (OpV.fld fa36_0 rfl) rfl ?_
            refine SL.val (OpV.load _ Tryz.underlying3 rfl rfl (Kn.blk 2 rfl rfl)) rfl ?_
            refine SL.val (OpV.eql rfl rfl) rfl ?_
            refine SL.nil ?_
            refine seqQ.nm ?_
            first | refine SC.ifp rfl (fun h70 => ?_) (fun h70 => ?_) | refine SC.ite rfl (fun h70 => ?_) (fun h70 => ?_)
            · skip
              refine SC.region ?_
              first
                | refine SL.val (OpV.load _ Tryz.underlying55 rfl rfl (Kn.blk 0 rfl rfl)) rfl ?_
                | refine SL.val (OpV.load _ Tryz.underlying55 rfl rfl (Kn.blk 1 rfl rfl)) rfl ?_
                | refine SL.val (OpV.load _ Tryz.underlying55 rfl rfl (Kn.blk 2 rfl rfl)) rfl ?_
                | refine SL.val (OpV.load _ Tryz.underlying55 rfl rfl (Kn.blk 3 rfl rfl)) rfl ?_
                | refine SL.val (OpV.load _ Tryz.underlying55 rfl rfl (Kn.mem (by assumption))) rfl ?_
              refine SL.val (OpV.fld fa38_0 rfl) rfl ?_
              first
                | refine SL.val (OpV.load _ Tryz.underlying9 rfl rfl (Kn.blk 0 rfl rfl)) rfl ?_
                | refine SL.val (OpV.load _ Tryz.underlying9 rfl rfl (Kn.blk 1 rfl rfl)) rfl ?_
                | refine SL.val (OpV.load _ Tryz.underlying9 rfl rfl (Kn.blk 2 rfl rfl)) rfl ?_
                | refine SL.val (OpV.load _ Tryz.underlying9 rfl rfl (Kn.blk 3 rfl rfl)) rfl ?_
                | refine SL.val (OpV.load _ Tryz.underlying9 rfl rfl (Kn.mem (by assumption))) rfl ?_
              refine SL.unit (OpU.mapPut 1 Tryz.underlying55 Tryz.underlying9 rfl rfl rfl rfl) ?_
              refine SL.drop 2 rfl ?_
              refine SL.nil ?_
              refine blockQ.nm ?_
              refine seqQ.nm ?_
              refine SC.region ?_
              refine SL.val (OpV.add rfl rfl (IntWalk.i64_in _ (by omega))) rfl ?_
              refine SL.val (OpV.move rfl) rfl ?_
              refine SL.nil ?_
              first
                | refine loopQ.nm (k + 1, kvPut m.path (.int .i64 1) kvs) (by dsimp only; omega) ⟨rfl, rfl, rfl, rfl, rfl, trivial⟩ (List.Perm.refl _) ⟨by dsimp only; omega, hgood, ?_, Mem.le_trans hMM hM2⟩
                  intro y
                  dsimp only
                  rw [kvGet_put, isDir_succ hcm]
                  by_cases hy : y = m.path
                  · subst hy
                    simp [Mb.core, h70]
                  · have : ¬ m.core.path = y := fun e => hy e.symm
                    rw [if_neg hy, hkv y]
                    simp [this]
                | refine loopQ.nm (k + 1, kvs) (by dsimp only; omega) ⟨rfl, rfl, rfl, rfl, rfl, trivial⟩ (List.Perm.refl _) ⟨by dsimp only; omega, hgood, ?_, Mem.le_trans hMM hM2⟩
                  intro y
                  dsimp only
                  rw [isDir_succ hcm, hkv y]
                  have : ¬ m.core.kind = 1 := h70
                  simp [this]
            · skip
              refine SC.drop 2 rfl ?_
              refine SC.skip ?_
              refine blockQ.nm ?_
              refine seqQ.nm ?_
              refine SC.region ?_
              refine SL.val (OpV.add rfl rfl (IntWalk.i64_in _ (by omega))) rfl ?_
              refine SL.val (OpV.move rfl) rfl ?_
              refine SL.nil ?_
              first
                | refine loopQ.nm (k + 1, kvPut m.path (.int .i64 1) kvs) (by dsimp only; omega) ⟨rfl, rfl, rfl, rfl, rfl, trivial⟩ (List.Perm.refl _) ⟨by dsimp only; omega, hgood, ?_, Mem.le_trans hMM hM2⟩
                  intro y
                  dsimp only
                  rw [kvGet_put, isDir_succ hcm]
                  by_cases hy : y = m.path
                  · subst hy
                    simp [Mb.core, h70]
                  · have : ¬ m.core.path = y := fun e => hy e.symm
                    rw [if_neg hy, hkv y]
                    simp [this]
                | refine loopQ.nm (k + 1, kvs) (by dsimp only; omega) ⟨rfl, rfl, rfl, rfl, rfl, trivial⟩ (List.Perm.refl _) ⟨by dsimp only; omega, hgood, ?_, Mem.le_trans hMM hM2⟩
                  intro y
                  dsimp only
                  rw [isDir_succ hcm, hkv y]
                  have : ¬ m.core.kind = 1 := h70
                  simp [this]
  · skip
    have hke : k = (cores ms).length := by simp; omega
    rw [hke] at herr
    have hce : (cores ms).length = ms.length := by simp
    refine SC.exit ?_
    refine seqQ.e ?_
    refine loopQ.e ?_
    refine blockQ.e ?_
    refine seqQ.nm ?_
    refine SC.seq ?_
    refine SC.seq ?_
    refine SC.region ?_
    refine SL.val (OpV.move rfl) rfl ?_
    refine SL.val (OpV.llen Tryz.underlying25 rfl) rfl ?_
    refine SL.val (OpV.gtr rfl rfl) rfl ?_
    refine SL.nil ?_
    refine seqQ.nm ?_
    first | refine SC.ifp rfl (fun h77 => ?_) (fun h77 => ?_) | refine SC.ite rfl (fun h77 => ?_) (fun h77 => ?_)
    · skip
      refine SC.seq ?_
      refine SC.region ?_
      refine SL.val (OpV.assign rfl) rfl ?_
      refine SL.nil ?_
      refine seqQ.nm ?_
      refine SC.ret ?_
      refine seqQ.r ?_
      refine retQ.one rfl (.tmp rfl) ?_ _ (.inr rfl)
      exact (by rw [maySet, herr, if_neg (by simp), if_pos (by omega)]; rfl)
    · skip
      refine SC.skip ?_
      refine seqQ.nm ?_
      refine SC.seq ?_
      refine SC.region ?_
      refine SL.val (OpV.assign rfl) rfl ?_
      refine SL.nil ?_
      refine seqQ.nm ?_
      refine SC.ret ?_
      refine retQ.one rfl (.tmp rfl) ?_ _ (.inr rfl)
      exact (by rw [maySet, herr, if_neg (by simp), if_neg (by omega)]; rfl)
end Go.Proofs.YtceabkfmjffnhaaGreatDoor
