/- SquashMerges answers true for every input of bulk at most 1048576, and its input reads as it did; the listed variables start as the program's text lays them (walks and laws) -/
import Derived.Test.YtceabkfmjffnhaaGreatDoorW1
import Derived.Test.YtceabkfmjffnhaaGreatDoorP
import Derived.Test.YtceabkfmjffnhaaGreatDoorE
set_option linter.unusedVariables false
set_option linter.unusedSimpArgs false
namespace Go.Proofs.YtceabkfmjffnhaaGreatDoor
open Go Go.Eng

theorem compareS_ev (a b : Bytes) (M : Mem) : Ev Tryz.prog 71 [str a, str b].toArray [] M (Pu M (.int .i64 (Lib.compareBytes a b))) := by
  refine Ev.enter Tryz.func71 rfl Tryz.ntmps71 rfl ?_
  refine SC.seq ?_
  refine SC.region ?_
  refine SL.val (OpV.assign rfl) rfl ?_
  refine SL.nil ?_
  refine seqQ.nm ?_
  refine SC.seq ?_
  refine SC.region ?_
  refine SL.val (OpV.move rfl) rfl ?_
  refine SL.val (OpV.move rfl) rfl ?_
  refine SL.val (OpV.ext ext81 rfl (fun w => Lib.run_compareString (bs a) (bs b) w)) rfl ?_
  refine SL.val (OpV.assign rfl) rfl ?_
  refine SL.nil ?_
  refine seqQ.nm ?_
  refine SC.ret ?_
  refine retQ.one rfl (.tmp rfl) ?_ _ (.inr rfl)
  exact ⟨rfl, rfl, rfl⟩
theorem compare_ev (a b : Bytes) (M : Mem) : Ev Tryz.prog 53 [str a, str b].toArray [] M (Pu M (.int .i64 (Lib.compareBytes a b))) := by
  refine Ev.enter Tryz.func53 rfl Tryz.ntmps53 rfl ?_
  refine SC.seq ?_
  refine SC.region ?_
  refine SL.val (OpV.assign rfl) rfl ?_
  refine SL.nil ?_
  refine seqQ.nm ?_
  refine SC.seq ?_
  refine SC.region ?_
  refine SL.val (OpV.move rfl) rfl ?_
  refine SL.val (OpV.move rfl) rfl ?_
  refine SL.call ok71 rfl (L1 := []) (List.Perm.refl _) (compareS_ev a b _) rfl ?_
  rintro _ _ _ hM7 ⟨rfl, rfl, rfl⟩
  refine SL.val (OpV.assign rfl) rfl ?_
  refine SL.nil ?_
  refine seqQ.nm ?_
  refine SC.ret ?_
  refine retQ.one rfl (.tmp rfl) ?_ _ (.inr rfl)
  exact ⟨rfl, rfl, rfl⟩
theorem cmp_ev (x y : Mb) (M : Mem) : Ev Tryz.prog 52 [.agg x.cells.toArray, .agg y.cells.toArray].toArray [] M (Pu M (.int .i64 (Lib.compareBytes x.path y.path))) := by
  refine Ev.lax ?_
  refine Ev.enter Tryz.func52 rfl Tryz.ntmps52 rfl ?_
  refine SC.seq ?_
  refine SC.region ?_
  refine SL.act (OpH.box rfl) rfl ?_; rintro _ _ _ hM2 ⟨b2, rfl, rfl, rfl⟩; clear hM2
  refine SL.act (OpH.box rfl) rfl ?_; rintro _ _ _ hM3 ⟨b3, rfl, rfl, rfl⟩; clear hM3
  refine SL.val (OpV.assign rfl) rfl ?_
  refine SL.nil ?_
  refine seqQ.nm ?_
  refine SC.seq ?_
  refine SC.region ?_
  refine SL.val (OpV.fld fa38_0 rfl) rfl ?_
  first
    | refine SL.val (OpV.load _ Tryz.underlying9 rfl rfl (Kn.blk 0 rfl rfl)) rfl ?_
    | refine SL.val (OpV.load _ Tryz.underlying9 rfl rfl (Kn.blk 1 rfl rfl)) rfl ?_
    | refine SL.val (OpV.load _ Tryz.underlying9 rfl rfl (Kn.blk 2 rfl rfl)) rfl ?_
    | refine SL.val (OpV.load _ Tryz.underlying9 rfl rfl (Kn.blk 3 rfl rfl)) rfl ?_
    | refine SL.val (OpV.load _ Tryz.underlying9 rfl rfl (Kn.mem (by assumption))) rfl ?_
  refine SL.val (OpV.fld fa38_0 rfl) rfl ?_
  first
    | refine SL.val (OpV.load _ Tryz.underlying9 rfl rfl (Kn.blk 0 rfl rfl)) rfl ?_
    | refine SL.val (OpV.load _ Tryz.underlying9 rfl rfl (Kn.blk 1 rfl rfl)) rfl ?_
    | refine SL.val (OpV.load _ Tryz.underlying9 rfl rfl (Kn.blk 2 rfl rfl)) rfl ?_
    | refine SL.val (OpV.load _ Tryz.underlying9 rfl rfl (Kn.blk 3 rfl rfl)) rfl ?_
    | refine SL.val (OpV.load _ Tryz.underlying9 rfl rfl (Kn.mem (by assumption))) rfl ?_
  refine SL.call ok53 rfl (L1 := []) (List.Perm.refl _) (compare_ev x.path y.path _) rfl ?_
  rintro _ _ _ hM9 ⟨rfl, rfl, rfl⟩
  refine SL.val (OpV.assign rfl) rfl ?_
  refine SL.nil ?_
  refine seqQ.nm ?_
  refine SC.ret ?_
  refine retQ.one rfl (.tmp rfl) ?_ _ (.inr rfl)
  exact rfl
end Go.Proofs.YtceabkfmjffnhaaGreatDoor
set_option linter.unusedVariables false
set_option linter.unusedSimpArgs false
namespace Go.Proofs.YtceabkfmjffnhaaGreatDoor
open Go Go.Eng

theorem xones {M : Mem} {x : Xb} (h : x.1.ok M) : (Value.agg (xc x).toArray).cells.all (·.oneCell') = true := cells_ones h
theorem cmpv_ev (x y : Xb) (p q : Bytes) (M : Mem) (hx : x.1.path = p) (hy : y.1.path = q) : Ev Tryz.prog 52 ([Value.agg (xc x).toArray, Value.agg (xc y).toArray] ++ (#[] : Array Value).toList).toArray [] M (Pu M (.int .i64 (Lib.compareBytes p q))) := by
  subst hx hy
  exact cmp_ev x.1 y.1 M
theorem ins_ev (g n cap : Nat) (X S Y : List Xb) (M : Mem) (hn : X.length + S.length + Y.length = n) (hst : S.Pairwise stab) (hok : ∀ x ∈ S, x.1.ok M) (hb : n ≤ big) :
    Ev Tryz.prog 79 [.slice (some ⟨g, 0, none⟩) n cap, .int .i64 X.length, .int .i64 ((X.length : Int) + S.length), .func (.func 52) #[] #[]].toArray [.row (.slice (some ⟨g, 0, none⟩) n cap) 38 9 ((X ++ S ++ Y).flatMap xc)] M fun v' L' M' => ∃ S', L' = [.row (.slice (some ⟨g, 0, none⟩) n cap) 38 9 ((X ++ S' ++ Y).flatMap xc)] ∧ S'.Perm S ∧ S'.Pairwise plt ∧ M = M' := by
  have hb' : n ≤ 268435456 := hb
  refine Ev.enter Tryz.func79 rfl Tryz.ntmps79 rfl ?_
  refine SC.seq ?_
  refine SC.region ?_
  refine SL.val (OpV.move rfl) rfl ?_
  refine SL.val (OpV.add rfl rfl (IntWalk.i64_in _ (by omega))) rfl ?_
  refine SL.val (OpV.assign rfl) rfl ?_
  refine SL.nil ?_
  refine seqQ.nm ?_
  refine SC.block ?_
  refine SC.loop (ι := Nat × List Xb) (fun x M' => x.1 ≤ S.length + 1 ∧ x.2.Perm (S.take x.1) ∧ x.2.Pairwise plt ∧ M = M') (fun x => [(0, .slice (some ⟨g, 0, none⟩) n cap), (1, .int .i64 X.length), (2, .int .i64 ((X.length : Int) + S.length)), (3, .func (.func 52) #[] #[]), (8, .int .i64 ((X.length : Int) + (x.1 : Nat)))]) (fun x => [.row (.slice (some ⟨g, 0, none⟩) n cap) 38 9 ((X ++ (x.2 ++ S.drop x.1) ++ Y).flatMap xc)]) (fun x => S.length + 1 - x.1) (1, S.take 1) (G := []) ⟨rfl, rfl, rfl, rfl, rfl, trivial⟩ (List.Perm.of_eq (by dsimp only; rw [List.take_append_drop]; rfl)) ⟨by dsimp only; omega, List.Perm.refl _, (by cases S <;> simp), rfl⟩ ?_
  rintro ⟨k, T⟩ _ _ ⟨hk, hperm, hsort, rfl⟩
  dsimp only at hk hperm hsort ⊢
  refine SC.seq ?_
  refine SC.seq ?_
  refine SC.region ?_
  refine SL.val (OpV.move rfl) rfl ?_
  refine SL.val (OpV.move rfl) rfl ?_
  refine SL.val (OpV.lss rfl rfl) rfl ?_
  refine SL.nil ?_
  refine seqQ.nm ?_
  first | refine SC.ifp rfl (fun h14 => ?_) (fun h14 => ?_) | refine SC.ite rfl (fun h14 => ?_) (fun h14 => ?_)
  · skip
    have hlt : k < S.length := by omega
    obtain ⟨m, hm⟩ := getElem?_lt hlt
    have hmok := hok m (List.mem_of_getElem? hm)
    have hTl : T.length = k := by rw [hperm.length_eq, List.length_take]; omega
    have hdr := drop_at hm
    have hTm : ∀ t ∈ T, stab t m := fun t ht => stab_at hst hm t (hperm.mem_iff.1 ht)
    have hTok : ∀ t ∈ T, t.1.ok M := fun t ht => hok t (List.mem_of_mem_take (hperm.mem_iff.1 ht))
    have hRl : (S.drop (k + 1)).length = S.length - (k + 1) := List.length_drop
    generalize hR : S.drop (k + 1) = R at *
    refine SC.skip ?_
    refine seqQ.nm ?_
    refine SC.seq ?_
    refine SC.block ?_
    refine SC.seq ?_
    refine SC.region ?_
    refine SL.val (OpV.move rfl) rfl ?_
    refine SL.val (OpV.assign rfl) rfl ?_
    refine SL.nil ?_
    refine seqQ.nm ?_
    refine SC.block ?_
    refine SC.loop (ι := List Xb × List Xb) (fun x M' => x.1 ++ x.2 = T ∧ (∀ s ∈ x.2, plt m s) ∧ M = M') (fun x => [(0, .slice (some ⟨g, 0, none⟩) n cap), (1, .int .i64 X.length), (2, .int .i64 ((X.length : Int) + S.length)), (3, .func (.func 52) #[] #[]), (8, .int .i64 ((X.length : Int) + (k : Nat))), (9, .int .i64 ((X.length : Int) + (x.1.length : Nat)))]) (fun x => [.row (.slice (some ⟨g, 0, none⟩) n cap) 38 9 (((X ++ x.1) ++ m :: (x.2 ++ (R ++ Y))).flatMap xc)]) (fun x => x.1.length) (T, []) (G := []) ⟨rfl, rfl, rfl, rfl, rfl, by show some _ = some _; rw [hTl], trivial⟩ (List.Perm.of_eq (by dsimp only; rw [hdr]; simp)) ⟨List.append_nil _, (fun s hs => by cases hs), rfl⟩ ?_
    rintro ⟨T1, T2⟩ _ _ ⟨hcat, hgt, rfl⟩
    dsimp only at hcat hgt ⊢
    have hTT : T1.length + T2.length = k := by rw [← hTl, ← hcat, List.length_append]
    have hn0 : ((X.length : Int) + (T1.length : Nat)).toNat = (X ++ T1).length := by simp; omega
    have hmA : ((X ++ T1) ++ m :: (T2 ++ (R ++ Y)))[(X ++ T1).length]? = some m := at0 _ _ _
    generalize hsj : ((T1[T1.length - 1]?).map (·.1.path)).getD [] = sj
    refine SC.seq ?_
    refine SC.seq ?_
    refine SC.quiet mixed (by decide +kernel) ?_
    refine SQ.val (OpV.move rfl) rfl ?_
    refine SQ.val (OpV.move rfl) rfl ?_
    refine SQ.val (OpV.gtr rfl rfl) rfl ?_
    refine SQ.val (OpV.move rfl) rfl ?_
    refine SQ.andcut 13 (c := 21) (d := 34) rfl (fun h21 => ?_) ?_
    · skip
      refine SQ.skip rfl rfl ?_
      refine SQ.skip rfl rfl ?_
      refine SQ.skip rfl rfl ?_
      refine SQ.skip rfl rfl ?_
      refine SQ.skip rfl rfl ?_
      refine SQ.skip rfl rfl ?_
      refine SQ.skip rfl rfl ?_
      refine SQ.skip rfl rfl ?_
      refine SQ.skip rfl rfl ?_
      refine SQ.skip rfl rfl ?_
      refine SQ.skip rfl rfl ?_
      refine SQ.skip rfl rfl ?_
      refine SQ.val (OpV.pickF rfl rfl) rfl ?_
      exact SQ.nil ⟨rfl, rfl, (by repeat first | exact Env.le_refl _ | refine Env.le_new rfl ?_), [], List.Perm.refl _⟩
    apply Exists.intro
    refine And.intro (fun h21 => ?_) ?_
    · skip
      have hj0 : 0 < T1.length := by simp at h21; omega
      have hn1 : ((X.length : Int) + (T1.length : Nat) - 1).toNat = (X ++ T1).length - 1 := by simp; omega
      obtain ⟨s, hs⟩ := getElem?_lt (l := T1) (k := T1.length - 1) (by omega)
      have hs2 : ((X ++ T1) ++ m :: (T2 ++ (R ++ Y)))[(X ++ T1).length - 1]? = some s := by
        rw [List.getElem?_append_left (by simp; omega), List.getElem?_append_right (by simp; omega)]
        rw [← hs]; congr 1; simp; omega
      have hsp : s.1.path = sj := by rw [← hsj, hs]; rfl
      refine SQ.gval rfl (OpV.move rfl) rfl ?_
      refine SQ.gval rfl (OpV.move rfl) rfl ?_
      refine SQ.gval rfl (OpV.move rfl) rfl ?_
      refine SQ.gval rfl (OpV.indexAddr Tryz.underlying25 sz38 rfl rfl (by omega) (by omega)) rfl ?_
      refine SQ.gval rfl (OpV.loads (cs := (xc m)) _ Tryz.underlying38 rfl rfl sz38 (Kns.row 0 rfl (by rw [hn0]; exact fl_elem xc 9 xc_len _ _ m hmA))) rfl ?_
      refine SQ.gval rfl (OpV.move rfl) rfl ?_
      refine SQ.gval rfl (OpV.move rfl) rfl ?_
      refine SQ.gval rfl (OpV.sub rfl rfl (IntWalk.i64_in _ (by omega))) rfl ?_
      refine SQ.gval rfl (OpV.indexAddr Tryz.underlying25 sz38 rfl rfl (by omega) (by omega)) rfl ?_
      refine SQ.gval rfl (OpV.loads (cs := (xc s)) _ Tryz.underlying38 rfl rfl sz38 (Kns.row 0 rfl (by rw [hn1]; exact fl_elem xc 9 xc_len _ _ s hs2))) rfl ?_
      refine SQ.callv (.inr ⟨_, _, rfl, rfl⟩) ok52 rfl rfl (cmpv_ev m s m.1.path sj M rfl hsp) rfl ?_
      refine SQ.gval rfl (OpV.lss rfl rfl) rfl ?_
      refine SQ.val (OpV.pickT rfl rfl) rfl ?_
      exact SQ.nil ⟨rfl, rfl, (by repeat first | exact Env.le_refl _ | refine Env.le_new rfl ?_), [], List.Perm.refl _⟩
    refine SQ.nil ?_
    refine seqQ.nm ?_
    first | refine SC.ifp rfl (fun h34 => ?_) (fun h34 => ?_) | refine SC.ite rfl (fun h34 => ?_) (fun h34 => ?_)
    · skip
      simp only [Bool.and_eq_true, decide_eq_true_eq] at h34
      obtain ⟨hj0, hlt2⟩ := h34
      obtain ⟨U, s, rfl⟩ := snoc_of (l := T1) (by omega)
      have hsp : s.1.path = sj := by rw [← hsj]; simp
      have hUl : (U ++ [s]).length = U.length + 1 := by simp
      have hre : (X ++ (U ++ [s])) ++ m :: (T2 ++ (R ++ Y)) = (X ++ U) ++ s :: m :: (T2 ++ (R ++ Y)) := by simp
      have hn2 : ((X.length : Int) + ((U ++ [s]).length : Nat)).toNat = (X ++ U).length + 1 := by simp; omega
      have hn3 : ((X.length : Int) + ((U ++ [s]).length : Nat) - 1).toNat = (X ++ U).length := by simp; omega
      have hsA : ((X ++ U) ++ s :: m :: (T2 ++ (R ++ Y)))[(X ++ U).length]? = some s := at0 _ _ _
      have hmB : ((X ++ U) ++ s :: m :: (T2 ++ (R ++ Y)))[(X ++ U).length + 1]? = some m := at1 _ _ _ _
      have hsok := hTok s (by rw [← hcat]; simp)
      have hll : ((X ++ U) ++ s :: m :: (T2 ++ (R ++ Y))).length = (X ++ U).length + 2 + (T2 ++ (R ++ Y)).length := by simp; omega
      rw [hre]
      refine SC.skip ?_
      refine seqQ.nm ?_
      refine SC.seq ?_
      refine SC.block ?_
      refine SC.draw [0, 1, 5, 6, 7, 8, 9, 10, 11, 12, 13, 14] [2, 3, 4] [] [] [15, 16, 17] mixed (by decide +kernel) ?_
      refine SV.val (OpV.move rfl) rfl ?_
      refine SV.val (OpV.move rfl) rfl ?_
      refine SV.val (OpV.move rfl) rfl ?_
      refine SV.val (OpV.move rfl) rfl ?_
      refine SV.val (OpV.sub rfl rfl (IntWalk.i64_in _ (by omega))) rfl ?_
      refine SV.val (OpV.indexAddr Tryz.underlying25 sz38 rfl rfl (by omega) (by omega)) rfl ?_
      refine SV.val (OpV.loads (cs := (xc s)) _ Tryz.underlying38 rfl rfl sz38 (Kns.row 0 rfl (by rw [hn3]; exact fl_elem xc 9 xc_len _ _ s hsA))) rfl ?_
      refine SV.val (OpV.move rfl) rfl ?_
      refine SV.val (OpV.move rfl) rfl ?_
      refine SV.val (OpV.indexAddr Tryz.underlying25 sz38 rfl rfl (by omega) (by omega)) rfl ?_
      refine SV.val (OpV.loads (cs := (xc m)) _ Tryz.underlying38 rfl rfl sz38 (Kns.row 0 rfl (by rw [hn2]; exact fl_elem xc 9 xc_len _ _ m hmB))) rfl ?_
      refine SV.val (OpV.indexAddr Tryz.underlying25 sz38 rfl rfl (by omega) (by omega)) rfl ?_
      refine SV.nil ?_
      refine SA.val (OpV.move rfl) rfl ?_
      refine SA.val (OpV.move rfl) rfl ?_
      refine SA.val (OpV.sub rfl rfl (IntWalk.i64_in _ (by omega))) rfl ?_
      refine SA.nil ?_
      refine SQ.nil ?_
      refine SA.nil ?_
      refine SL.unit (OpU.storeRow 0 rfl rfl rfl sz38 (by rw [hn2, xcs_len]; simp [Value.cells, xc_len]; omega) (xones hsok)) ?_
      refine SL.val (OpV.indexAddr Tryz.underlying25 sz38 rfl rfl (by omega) (by omega)) rfl ?_
      refine SL.unit (OpU.storeRow 0 rfl rfl rfl sz38 (by rw [hn2, fl_splice xc 9 xc_len _ _ s (by rw [hll]; omega), hn3, xcs_len]; simp [Value.cells, xc_len]; omega) (xones hmok)) ?_
      refine SL.nil ⟨rfl, ?_⟩
      refine blockQ.nm ?_
      refine seqQ.nm ?_
      refine SC.region ?_
      refine SL.val (OpV.move rfl) rfl ?_
      refine SL.val (OpV.sub rfl rfl (IntWalk.i64_in _ (by omega))) rfl ?_
      refine SL.val (OpV.assign rfl) rfl ?_
      refine SL.nil ?_
      refine loopQ.nm (U, s :: T2) (by rw [hUl]; dsimp only; omega) ⟨rfl, rfl, rfl, rfl, rfl, by show some _ = some _; congr 2 <;> rw [hUl] <;> push_cast <;> omega, trivial⟩ ?_ ⟨by rw [← hcat]; simp, ?_, rfl⟩
      · refine List.Perm.of_eq ?_
        rw [hn2, hn3]
        simp only [List.set_cons_zero]
        rw [fl_splice xc 9 xc_len _ _ s (by rw [hll]; omega), fl_splice xc 9 xc_len _ _ m (by rw [List.length_set, hll]; omega), swap1]
        simp
      · intro u hu
        rcases List.mem_cons.1 hu with rfl | hu
        · exact .inl (by rw [hsp]; exact cmp_lt_true hlt2)
        · exact hgt u hu
    · skip
      have hS1 : ∀ u ∈ T1, plt u m := by
        intro u hu
        have hpos : 0 < T1.length := List.length_pos_of_mem hu
        obtain ⟨U, s, rfl⟩ := snoc_of (l := T1) hpos
        have hsp : s.1.path = sj := by rw [← hsj]; simp
        have hlt2 : ¬ Lib.compareBytes m.1.path sj < 0 := by
          simp only [Bool.and_eq_false_iff, decide_eq_false_iff_not] at h34
          rcases h34 with h | h
          · exact absurd (by omega) h
          · exact h
        have hsm : plt s m := plt_of (hTm s (by rw [← hcat]; simp)) (by rw [hsp]; exact cmp_lt_false hlt2)
        rcases List.mem_append.1 hu with hu | hu
        · have ha : ((U ++ [s]) ++ T2).Pairwise plt := by rw [hcat]; exact hsort
          exact plt_trans ((List.pairwise_append.1 (List.pairwise_append.1 ha).1).2.2 u hu s (by simp)) hsm
        · rw [List.mem_singleton] at hu; rw [hu]; exact hsm
      have hsort2 : (T1 ++ m :: T2).Pairwise plt := pw_mid (by rw [hcat]; exact hsort) hgt hS1
      have hperm2 : (T1 ++ m :: T2).Perm (S.take (k + 1)) := by
        rw [List.take_add_one, hm]
        refine List.perm_middle.trans ?_
        rw [hcat]
        exact (List.Perm.cons m hperm).trans (List.perm_append_comm (l₁ := [m]))
      refine SC.exit ?_
      refine seqQ.e ?_
      refine loopQ.e ?_
      refine blockQ.e ?_
      refine blockQ.nm ?_
      refine seqQ.nm ?_
      refine SC.region ?_
      refine SL.val (OpV.move rfl) rfl ?_
      refine SL.val (OpV.add rfl rfl (IntWalk.i64_in _ (by omega))) rfl ?_
      refine SL.val (OpV.assign rfl) rfl ?_
      refine SL.nil ?_
      exact loopQ.nm (k + 1, T1 ++ m :: T2) (by dsimp only; omega) ⟨rfl, rfl, rfl, rfl, by show some _ = some _; congr 2 <;> push_cast <;> omega, trivial⟩ (List.Perm.of_eq (by dsimp only; rw [hR]; simp)) ⟨by dsimp only; omega, hperm2, hsort2, rfl⟩
  · skip
    refine SC.exit ?_
    refine seqQ.e ?_
    refine loopQ.e ?_
    refine blockQ.e ?_
    refine retQ.none rfl  ?_ _ (.inl rfl)
    have hke : S.length ≤ k := by omega
    rw [List.take_of_length_le hke] at hperm
    exact ⟨T, by rw [List.drop_of_length_le hke, List.append_nil], hperm, hsort, rfl⟩
end Go.Proofs.YtceabkfmjffnhaaGreatDoor
set_option linter.unusedVariables false
set_option linter.unusedSimpArgs false
namespace Go.Proofs.YtceabkfmjffnhaaGreatDoor
open Go Go.Eng

theorem ins_at (g n cap : Nat) (X S Y : List Xb) (a b : Int) (M : Mem) (ha : a = X.length) (hb' : b = X.length + S.length) (hn : X.length + S.length + Y.length = n) (hst : S.Pairwise stab) (hok : ∀ x ∈ S, x.1.ok M) (hb : n ≤ big) :
    Ev Tryz.prog 79 [.slice (some ⟨g, 0, none⟩) n cap, .int .i64 a, .int .i64 b, .func (.func 52) #[] #[]].toArray [.row (.slice (some ⟨g, 0, none⟩) n cap) 38 9 ((X ++ S ++ Y).flatMap xc)] M fun v' L' M' => ∃ S', L' = [.row (.slice (some ⟨g, 0, none⟩) n cap) 38 9 ((X ++ S' ++ Y).flatMap xc)] ∧ S'.Perm S ∧ S'.Pairwise plt ∧ M = M' := by
  subst ha hb'
  exact ins_ev g n cap X S Y M hn hst hok hb
theorem swapRange_ev (g n cap : Nat) (X U Z V Y : List Xb) (a b c : Int) (f : Value) (M : Mem) (ha : a = X.length) (hb1 : b = X.length + U.length + Z.length) (hc : c = U.length) (hUV : U.length = V.length) (hn : X.length + U.length + Z.length + V.length + Y.length = n) (hok : ∀ x ∈ U ++ V, x.1.ok M) (hb : n ≤ big) :
    Ev Tryz.prog 95 [.slice (some ⟨g, 0, none⟩) n cap, .int .i64 a, .int .i64 b, .int .i64 c, f].toArray [.row (.slice (some ⟨g, 0, none⟩) n cap) 38 9 ((X ++ U ++ Z ++ V ++ Y).flatMap xc)] M fun v' L' M' => L' = [.row (.slice (some ⟨g, 0, none⟩) n cap) 38 9 ((X ++ V ++ Z ++ U ++ Y).flatMap xc)] ∧ M = M' := by
  have hb' : n ≤ 268435456 := hb
  subst ha hb1 hc
  refine Ev.enter Tryz.func95 rfl Tryz.ntmps95 rfl ?_
  refine SC.seq ?_
  refine SC.region ?_
  refine SL.val (OpV.assign rfl) rfl ?_
  refine SL.nil ?_
  refine seqQ.nm ?_
  refine SC.block ?_
  refine SC.loop (ι := Nat) (fun k M' => k ≤ U.length ∧ M = M') (fun k => [(0, .slice (some ⟨g, 0, none⟩) n cap), (1, .int .i64 X.length), (2, .int .i64 ((X.length : Int) + U.length + Z.length)), (3, .int .i64 U.length), (10, .int .i64 (k : Nat))]) (fun k => [.row (.slice (some ⟨g, 0, none⟩) n cap) 38 9 ((X ++ (V.take k ++ U.drop k) ++ Z ++ (U.take k ++ V.drop k) ++ Y).flatMap xc)]) (fun k => U.length - k) 0 (G := []) ⟨rfl, rfl, rfl, rfl, rfl, trivial⟩ (List.Perm.of_eq (by simp)) ⟨Nat.zero_le _, rfl⟩ ?_
  rintro k _ _ ⟨hk, rfl⟩
  refine SC.seq ?_
  refine SC.seq ?_
  refine SC.region ?_
  refine SL.val (OpV.move rfl) rfl ?_
  refine SL.val (OpV.move rfl) rfl ?_
  refine SL.val (OpV.lss rfl rfl) rfl ?_
  refine SL.nil ?_
  refine seqQ.nm ?_
  first | refine SC.ifp rfl (fun h13 => ?_) (fun h13 => ?_) | refine SC.ite rfl (fun h13 => ?_) (fun h13 => ?_)
  · skip
    have hlt : k < U.length := by omega
    obtain ⟨u, hu⟩ := getElem?_lt hlt
    obtain ⟨v, hv⟩ := getElem?_lt (l := V) (k := k) (by omega)
    have huok := hok u (List.mem_append_left _ (List.mem_of_getElem? hu))
    have hvok := hok v (List.mem_append_right _ (List.mem_of_getElem? hv))
    have hre : X ++ (V.take k ++ U.drop k) ++ Z ++ (U.take k ++ V.drop k) ++ Y = (X ++ V.take k) ++ u :: ((U.drop (k + 1) ++ Z ++ U.take k) ++ v :: (V.drop (k + 1) ++ Y)) := by
      rw [drop_at hu, drop_at hv]; simp
    have hre2 : (X ++ V.take k) ++ v :: ((U.drop (k + 1) ++ Z ++ U.take k) ++ u :: (V.drop (k + 1) ++ Y)) = X ++ (V.take (k + 1) ++ U.drop (k + 1)) ++ Z ++ (U.take (k + 1) ++ V.drop (k + 1)) ++ Y := by
      rw [List.take_add_one, List.take_add_one, hu, hv]; simp
    have hA : (X ++ V.take k).length = X.length + k := by simp; omega
    have hB : (U.drop (k + 1) ++ Z ++ U.take k).length = U.length - (k + 1) + Z.length + k := by simp; omega
    have hC : (V.drop (k + 1) ++ Y).length = V.length - (k + 1) + Y.length := by simp
    generalize X ++ V.take k = A at *
    generalize U.drop (k + 1) ++ Z ++ U.take k = B at *
    generalize V.drop (k + 1) ++ Y = C at *
    have hn1 : ((X.length : Int) + (k : Nat)).toNat = A.length := by omega
    have hn2 : ((X.length : Int) + U.length + Z.length + (k : Nat)).toNat = A.length + 1 + B.length := by omega
    have hsA : (A ++ u :: (B ++ v :: C))[A.length]? = some u := at0 _ _ _
    have hsB : (A ++ u :: (B ++ v :: C))[A.length + 1 + B.length]? = some v := by
      have := at0 (A ++ u :: B) C v
      simp only [List.append_assoc, List.cons_append] at this
      rw [← this]; congr 1; simp; omega
    have hll : (A ++ u :: (B ++ v :: C)).length = A.length + B.length + C.length + 2 := by simp; omega
    rw [hre]
    refine SC.skip ?_
    refine seqQ.nm ?_
    refine SC.seq ?_
    refine SC.block ?_
    refine SC.draw [0, 1, 2, 3, 8, 9, 10, 11, 12, 13, 14, 15, 16, 17, 18, 19, 20] [4, 5, 6, 7] [] [] [21, 22, 23] mixed (by decide +kernel) ?_
    refine SV.val (OpV.move rfl) rfl ?_
    refine SV.val (OpV.move rfl) rfl ?_
    refine SV.val (OpV.move rfl) rfl ?_
    refine SV.val (OpV.add rfl rfl (IntWalk.i64_in _ (by omega))) rfl ?_
    refine SV.val (OpV.move rfl) rfl ?_
    refine SV.val (OpV.move rfl) rfl ?_
    refine SV.val (OpV.move rfl) rfl ?_
    refine SV.val (OpV.add rfl rfl (IntWalk.i64_in _ (by omega))) rfl ?_
    refine SV.val (OpV.indexAddr Tryz.underlying25 sz38 rfl rfl (by omega) (by omega)) rfl ?_
    refine SV.val (OpV.loads (cs := (xc v)) _ Tryz.underlying38 rfl rfl sz38 (Kns.row 0 rfl (by rw [hn2]; exact fl_elem xc 9 xc_len _ _ v hsB))) rfl ?_
    refine SV.val (OpV.move rfl) rfl ?_
    refine SV.val (OpV.move rfl) rfl ?_
    refine SV.val (OpV.move rfl) rfl ?_
    refine SV.val (OpV.add rfl rfl (IntWalk.i64_in _ (by omega))) rfl ?_
    refine SV.val (OpV.indexAddr Tryz.underlying25 sz38 rfl rfl (by omega) (by omega)) rfl ?_
    refine SV.val (OpV.loads (cs := (xc u)) _ Tryz.underlying38 rfl rfl sz38 (Kns.row 0 rfl (by rw [hn1]; exact fl_elem xc 9 xc_len _ _ u hsA))) rfl ?_
    refine SV.val (OpV.indexAddr Tryz.underlying25 sz38 rfl rfl (by omega) (by omega)) rfl ?_
    refine SV.nil ?_
    refine SA.val (OpV.move rfl) rfl ?_
    refine SA.val (OpV.move rfl) rfl ?_
    refine SA.val (OpV.move rfl) rfl ?_
    refine SA.val (OpV.add rfl rfl (IntWalk.i64_in _ (by omega))) rfl ?_
    refine SA.nil ?_
    refine SQ.nil ?_
    refine SA.nil ?_
    refine SL.unit (OpU.storeRow 0 rfl rfl rfl sz38 (by rw [hn1, xcs_len]; simp [Value.cells, xc_len]; omega) (xones hvok)) ?_
    refine SL.val (OpV.indexAddr Tryz.underlying25 sz38 rfl rfl (by omega) (by omega)) rfl ?_
    refine SL.unit (OpU.storeRow 0 rfl rfl rfl sz38 (by rw [hn1, fl_splice xc 9 xc_len _ _ v (by rw [hll]; omega), hn2, xcs_len]; simp [Value.cells, xc_len]; omega) (xones huok)) ?_
    refine SL.nil ⟨rfl, ?_⟩
    refine blockQ.nm ?_
    refine seqQ.nm ?_
    refine SC.region ?_
    refine SL.val (OpV.move rfl) rfl ?_
    refine SL.val (OpV.add rfl rfl (IntWalk.i64_in _ (by omega))) rfl ?_
    refine SL.val (OpV.assign rfl) rfl ?_
    refine SL.nil ?_
    refine loopQ.nm (k + 1) (by omega) ⟨rfl, rfl, rfl, rfl, rfl, trivial⟩ (List.Perm.of_eq ?_) ⟨by omega, rfl⟩
    rw [hn1, hn2]
    simp only [List.set_cons_zero]
    rw [fl_splice xc 9 xc_len _ _ v (by rw [hll]; omega), fl_splice xc 9 xc_len _ _ u (by rw [List.length_set, hll]; omega), swap3, hre2]
  · skip
    refine SC.exit ?_
    refine seqQ.e ?_
    refine loopQ.e ?_
    refine blockQ.e ?_
    refine retQ.none rfl  ?_ _ (.inl rfl)
    have hke : k = U.length := by omega
    subst hke
    refine ⟨?_, rfl⟩
    have h1 : V.take U.length = V := List.take_of_length_le (by omega)
    have h2 : V.drop U.length = [] := List.drop_of_length_le (by omega)
    rw [List.take_length, List.drop_length, h1, h2]
    simp
theorem rotate_ev (g n cap : Nat) (X U V Y : List Xb) (a m b : Int) (f : Value) (M : Mem) (ha : a = X.length) (hm : m = X.length + U.length) (hb1 : b = X.length + U.length + V.length) (hU : 0 < U.length) (hV : 0 < V.length) (hn : X.length + U.length + V.length + Y.length = n) (hok : ∀ x ∈ U ++ V, x.1.ok M) (hb : n ≤ big) :
    Ev Tryz.prog 88 [.slice (some ⟨g, 0, none⟩) n cap, .int .i64 a, .int .i64 m, .int .i64 b, f].toArray [.row (.slice (some ⟨g, 0, none⟩) n cap) 38 9 ((X ++ U ++ V ++ Y).flatMap xc)] M fun v' L' M' => L' = [.row (.slice (some ⟨g, 0, none⟩) n cap) 38 9 ((X ++ V ++ U ++ Y).flatMap xc)] ∧ M = M' := by
  have hb' : n ≤ 268435456 := hb
  subst ha hm hb1
  refine Ev.enter Tryz.func88 rfl Tryz.ntmps88 rfl ?_
  refine SC.seq ?_
  refine SC.region ?_
  refine SL.val (OpV.move rfl) rfl ?_
  refine SL.val (OpV.move rfl) rfl ?_
  refine SL.val (OpV.sub rfl rfl (IntWalk.i64_in _ (by omega))) rfl ?_
  refine SL.val (OpV.assign rfl) rfl ?_
  refine SL.nil ?_
  refine seqQ.nm ?_
  refine SC.seq ?_
  refine SC.region ?_
  refine SL.val (OpV.move rfl) rfl ?_
  refine SL.val (OpV.move rfl) rfl ?_
  refine SL.val (OpV.sub rfl rfl (IntWalk.i64_in _ (by omega))) rfl ?_
  refine SL.val (OpV.assign rfl) rfl ?_
  refine SL.nil ?_
  refine seqQ.nm ?_
  refine SC.seq ?_
  refine SC.block ?_
  refine SC.loop (ι := List Xb × List Xb × List Xb × List Xb) (fun x M' => x.1 ++ x.2.2.1 ++ x.2.1 ++ x.2.2.2 = V ++ U ∧ 0 < x.2.1.length ∧ 0 < x.2.2.1.length ∧ x.1.length + x.2.1.length = U.length ∧ M = M') (fun x => [(0, .slice (some ⟨g, 0, none⟩) n cap), (2, .int .i64 ((X.length : Int) + U.length)), (4, f), (10, .int .i64 x.2.1.length), (11, .int .i64 x.2.2.1.length)]) (fun x => [.row (.slice (some ⟨g, 0, none⟩) n cap) 38 9 ((X ++ x.1 ++ x.2.1 ++ x.2.2.1 ++ x.2.2.2 ++ Y).flatMap xc)]) (fun x => x.2.1.length + x.2.2.1.length) ([], U, V, []) (G := []) ⟨rfl, rfl, rfl, by show some _ = some _; congr 2; dsimp only; omega, by show some _ = some _; congr 2; dsimp only; omega, trivial⟩ (List.Perm.of_eq (by simp)) ⟨by simp, hU, hV, by simp, rfl⟩ ?_
  rintro ⟨P, A, B, Q⟩ _ _ ⟨hcat, hA, hB, hPA, rfl⟩
  dsimp only at hcat hA hB hPA ⊢
  have hln : P.length + B.length + A.length + Q.length = V.length + U.length := by
    have := congrArg List.length hcat
    simp only [List.length_append] at this
    omega
  have hmem : ∀ x, x ∈ A ++ B → x.1.ok M := by
    intro x hx
    refine hok x ?_
    have h1 : x ∈ V ++ U := by
      rw [← hcat]
      rcases List.mem_append.1 hx with h | h <;> simp [h]
    rcases List.mem_append.1 h1 with h | h <;> simp [h]
  refine SC.seq ?_
  refine SC.seq ?_
  refine SC.region ?_
  refine SL.val (OpV.move rfl) rfl ?_
  refine SL.val (OpV.move rfl) rfl ?_
  refine SL.val (OpV.neq rfl rfl) rfl ?_
  refine SL.nil ?_
  refine seqQ.nm ?_
  first | refine SC.ifp rfl (fun h20 => ?_) (fun h20 => ?_) | refine SC.ite rfl (fun h20 => ?_) (fun h20 => ?_)
  · skip
    refine SC.skip ?_
    refine seqQ.nm ?_
    refine SC.block ?_
    refine SC.seq ?_
    refine SC.region ?_
    refine SL.val (OpV.move rfl) rfl ?_
    refine SL.val (OpV.move rfl) rfl ?_
    refine SL.val (OpV.gtr rfl rfl) rfl ?_
    refine SL.nil ?_
    refine seqQ.nm ?_
    first | refine SC.ifp rfl (fun h23 => ?_) (fun h23 => ?_) | refine SC.ite rfl (fun h23 => ?_) (fun h23 => ?_)
    · skip
      have hij : B.length < A.length := by omega
      obtain ⟨A1, A2, rfl, hA1⟩ : ∃ A1 A2, A = A1 ++ A2 ∧ A1.length = B.length := ⟨A.take B.length, A.drop B.length, (List.take_append_drop _ _).symm, by simp; omega⟩
      have hAl : (A1 ++ A2).length = A1.length + A2.length := List.length_append
      have hre : X ++ P ++ (A1 ++ A2) ++ B ++ Q ++ Y = (X ++ P) ++ A1 ++ A2 ++ B ++ (Q ++ Y) := by simp
      rw [hre]
      refine SC.seq ?_
      refine SC.region ?_
      refine SL.val (OpV.move rfl) rfl ?_
      refine SL.val (OpV.move rfl) rfl ?_
      refine SL.val (OpV.move rfl) rfl ?_
      refine SL.val (OpV.sub rfl rfl (IntWalk.i64_in _ (by omega))) rfl ?_
      refine SL.val (OpV.move rfl) rfl ?_
      refine SL.val (OpV.move rfl) rfl ?_
      refine SL.val (OpV.move rfl) rfl ?_
      refine SL.call ok95 rfl (L1 := [.row (.slice (some ⟨g, 0, none⟩) n cap) 38 9 (((X ++ P) ++ A1 ++ A2 ++ B ++ (Q ++ Y)).flatMap xc)]) (List.Perm.refl _) (swapRange_ev g n cap (X ++ P) A1 A2 B (Q ++ Y) _ _ _ f _ (by simp; omega) (by simp; omega) (by omega) hA1 (by simp; omega) (fun x hx => hmem x (by rcases List.mem_append.1 hx with h | h <;> simp [h])) hb) rfl ?_
      rintro _ _ _ hM31 ⟨rfl, rfl⟩
      refine SL.nil ?_
      refine seqQ.nm ?_
      refine SC.region ?_
      refine SL.val (OpV.move rfl) rfl ?_
      refine SL.val (OpV.move rfl) rfl ?_
      refine SL.val (OpV.sub rfl rfl (IntWalk.i64_in _ (by omega))) rfl ?_
      refine SL.val (OpV.assign rfl) rfl ?_
      refine SL.nil ?_
      refine blockQ.nm ?_
      exact loopQ.nm (P ++ B, A2, A1, Q) (by dsimp only; omega) ⟨rfl, rfl, rfl, by show some _ = some _; congr 2; dsimp only; omega, by show some _ = some _; congr 2; dsimp only; omega, trivial⟩ (List.Perm.of_eq (by simp)) ⟨by rw [← hcat]; simp, by dsimp only; omega, by dsimp only; omega, by simp; omega, rfl⟩
    · skip
      have hij : A.length < B.length := by simp at h20; omega
      obtain ⟨B1, B2, rfl, hB2⟩ : ∃ B1 B2, B = B1 ++ B2 ∧ A.length = B2.length := ⟨B.take (B.length - A.length), B.drop (B.length - A.length), (List.take_append_drop _ _).symm, by simp; omega⟩
      have hBl : (B1 ++ B2).length = B1.length + B2.length := List.length_append
      have hre : X ++ P ++ A ++ (B1 ++ B2) ++ Q ++ Y = (X ++ P) ++ A ++ B1 ++ B2 ++ (Q ++ Y) := by simp
      rw [hre]
      refine SC.seq ?_
      refine SC.region ?_
      refine SL.val (OpV.move rfl) rfl ?_
      refine SL.val (OpV.move rfl) rfl ?_
      refine SL.val (OpV.move rfl) rfl ?_
      refine SL.val (OpV.sub rfl rfl (IntWalk.i64_in _ (by omega))) rfl ?_
      refine SL.val (OpV.move rfl) rfl ?_
      refine SL.val (OpV.move rfl) rfl ?_
      refine SL.val (OpV.add rfl rfl (IntWalk.i64_in _ (by omega))) rfl ?_
      refine SL.val (OpV.move rfl) rfl ?_
      refine SL.val (OpV.sub rfl rfl (IntWalk.i64_in _ (by omega))) rfl ?_
      refine SL.val (OpV.move rfl) rfl ?_
      refine SL.val (OpV.move rfl) rfl ?_
      refine SL.call ok95 rfl (L1 := [.row (.slice (some ⟨g, 0, none⟩) n cap) 38 9 (((X ++ P) ++ A ++ B1 ++ B2 ++ (Q ++ Y)).flatMap xc)]) (List.Perm.refl _) (swapRange_ev g n cap (X ++ P) A B1 B2 (Q ++ Y) _ _ _ f _ (by simp; omega) (by simp; omega) (by omega) hB2 (by simp; omega) (fun x hx => hmem x (by rcases List.mem_append.1 hx with h | h <;> simp [h])) hb) rfl ?_
      rintro _ _ _ hM46 ⟨rfl, rfl⟩
      refine SL.nil ?_
      refine seqQ.nm ?_
      refine SC.region ?_
      refine SL.val (OpV.move rfl) rfl ?_
      refine SL.val (OpV.move rfl) rfl ?_
      refine SL.val (OpV.sub rfl rfl (IntWalk.i64_in _ (by omega))) rfl ?_
      refine SL.val (OpV.assign rfl) rfl ?_
      refine SL.nil ?_
      refine blockQ.nm ?_
      exact loopQ.nm (P, B2, B1, A ++ Q) (by dsimp only; omega) ⟨rfl, rfl, rfl, by show some _ = some _; congr 2; dsimp only; omega, by show some _ = some _; congr 2; dsimp only; omega, trivial⟩ (List.Perm.of_eq (by simp)) ⟨by rw [← hcat]; simp, by dsimp only; omega, by dsimp only; omega, by dsimp only; omega, rfl⟩
  · skip
    have hij : A.length = B.length := by simp at h20; omega
    have hre : X ++ P ++ A ++ B ++ Q ++ Y = (X ++ P) ++ A ++ [] ++ B ++ (Q ++ Y) := by simp
    rw [hre]
    refine SC.exit ?_
    refine seqQ.e ?_
    refine loopQ.e ?_
    refine blockQ.e ?_
    refine seqQ.nm ?_
    refine SC.region ?_
    refine SL.val (OpV.move rfl) rfl ?_
    refine SL.val (OpV.move rfl) rfl ?_
    refine SL.val (OpV.move rfl) rfl ?_
    refine SL.val (OpV.sub rfl rfl (IntWalk.i64_in _ (by omega))) rfl ?_
    refine SL.val (OpV.move rfl) rfl ?_
    refine SL.val (OpV.move rfl) rfl ?_
    refine SL.val (OpV.move rfl) rfl ?_
    refine SL.call ok95 rfl (L1 := [.row (.slice (some ⟨g, 0, none⟩) n cap) 38 9 (((X ++ P) ++ A ++ [] ++ B ++ (Q ++ Y)).flatMap xc)]) (List.Perm.refl _) (swapRange_ev g n cap (X ++ P) A [] B (Q ++ Y) _ _ _ f _ (by simp; omega) (by simp; omega) (by omega) hij (by simp; omega) hmem hb) rfl ?_
    rintro _ _ _ hM57 ⟨rfl, rfl⟩
    refine SL.nil ?_
    refine retQ.none rfl  ?_ _ (.inl rfl)
    refine ⟨?_, rfl⟩
    have h2 : (X ++ P) ++ B ++ [] ++ A ++ (Q ++ Y) = X ++ V ++ U ++ Y := by
      have h3 : X ++ (P ++ B ++ A ++ Q) ++ Y = X ++ (V ++ U) ++ Y := by rw [hcat]
      simpa using h3
    rw [h2]
    rfl
end Go.Proofs.YtceabkfmjffnhaaGreatDoor
set_option linter.unusedVariables false
set_option linter.unusedSimpArgs false
namespace Go.Proofs.YtceabkfmjffnhaaGreatDoor
open Go Go.Eng

set_option maxHeartbeats 4000000 in
theorem sym_ev (g n cap : Nat) (hb : n ≤ big) : ∀ (N : Nat) (X U V Y : List Xb) (a m b : Int) (M : Mem), a = X.length → m = (X.length : Int) + U.length → b = (X.length : Int) + U.length + V.length → 0 < U.length → 0 < V.length → U.length + V.length ≤ N → X.length + U.length + V.length + Y.length = n → U.Pairwise plt → V.Pairwise plt → (∀ u ∈ U, ∀ v ∈ V, stab u v) → (∀ x ∈ U ++ V, x.1.ok M) →
    Ev Tryz.prog 80 [.slice (some ⟨g, 0, none⟩) n cap, .int .i64 a, .int .i64 m, .int .i64 b, .func (.func 52) #[] #[]].toArray [.row (.slice (some ⟨g, 0, none⟩) n cap) 38 9 ((X ++ U ++ V ++ Y).flatMap xc)] M fun v' L' M' => ∃ W, L' = [.row (.slice (some ⟨g, 0, none⟩) n cap) 38 9 ((X ++ W ++ Y).flatMap xc)] ∧ W.Perm (U ++ V) ∧ W.Pairwise plt ∧ M = M'
  | 0, _, _, _, _, _, _, _, _, _, _, _, h, _, k, _, _, _, _, _ => by omega
  | N + 1, X, U, V, Y, a, m, b, M, ha, hm, hbb, hU, hV, hN, hn, hsU, hsV, hcr, hok => by
    have hb' : n ≤ 268435456 := hb
    subst ha hm hbb
    have ih := sym_ev g n cap hb N
    refine Ev.enter Tryz.func80 rfl Tryz.ntmps80 rfl ?_
    refine SC.seq ?_
    refine SC.seq ?_
    refine SC.region ?_
    refine SL.val (OpV.move rfl) rfl ?_
    refine SL.val (OpV.move rfl) rfl ?_
    refine SL.val (OpV.sub rfl rfl (IntWalk.i64_in _ (by omega))) rfl ?_
    refine SL.val (OpV.eql rfl rfl) rfl ?_
    refine SL.nil ?_
    refine seqQ.nm ?_
    first | refine SC.ifp rfl (fun h28 => ?_) (fun h28 => ?_) | refine SC.ite rfl (fun h28 => ?_) (fun h28 => ?_)
    · skip
      obtain ⟨u, hu⟩ := List.length_eq_one_iff.1 (show U.length = 1 by omega)
      have huok := hok u (by simp [hu])
      have hVok : ∀ v ∈ V, v.1.ok M := fun v hv => hok v (by simp [hv])
      have hcu : ∀ v ∈ V, stab u v := fun v hv => hcr u (by simp [hu]) v hv
      have hrow : X ++ U ++ V ++ Y = X ++ u :: (V ++ Y) := by rw [hu]; simp
      have hUl : U.length = 1 := by rw [hu]; rfl
      rw [hrow]
      refine SC.seq ?_
      refine SC.region ?_
      refine SL.val (OpV.move rfl) rfl ?_
      refine SL.val (OpV.assign rfl) rfl ?_
      refine SL.nil ?_
      refine seqQ.nm ?_
      refine SC.seq ?_
      refine SC.region ?_
      refine SL.val (OpV.move rfl) rfl ?_
      refine SL.val (OpV.assign rfl) rfl ?_
      refine SL.nil ?_
      refine seqQ.nm ?_
      refine SC.seq ?_
      refine SC.block ?_
      refine SC.loop (ι := Nat × Nat) (fun x M' => x.1 ≤ x.2 ∧ x.2 ≤ V.length ∧ (∀ v ∈ V.take x.1, plt v u) ∧ (∀ v ∈ V.drop x.2, plt u v) ∧ M = M') (fun x => [(0, .slice (some ⟨g, 0, none⟩) n cap), (1, .int .i64 X.length), (4, .func (.func 52) #[] #[]), (10, .int .i64 ((X.length : Int) + U.length + (x.1 : Nat))), (11, .int .i64 ((X.length : Int) + U.length + (x.2 : Nat)))]) (fun x => [.row (.slice (some ⟨g, 0, none⟩) n cap) 38 9 ((X ++ u :: (V ++ Y)).flatMap xc)]) (fun x => x.2 - x.1) (0, V.length) (G := []) ⟨rfl, rfl, rfl, by show some _ = some _; congr 2 <;> (try dsimp only) <;> omega, rfl, trivial⟩ (List.Perm.refl _) ⟨Nat.zero_le _, Nat.le_refl _, (fun v hv => by simp at hv), (fun v hv => by simp at hv), rfl⟩ ?_
      rintro ⟨p, q⟩ _ _ ⟨hpq, hqV, hlo, hhi, rfl⟩
      dsimp only at hpq hqV hlo hhi ⊢
      refine SC.seq ?_
      refine SC.seq ?_
      refine SC.region ?_
      refine SL.val (OpV.move rfl) rfl ?_
      refine SL.val (OpV.move rfl) rfl ?_
      refine SL.val (OpV.lss rfl rfl) rfl ?_
      refine SL.nil ?_
      refine seqQ.nm ?_
      first | refine SC.ifp rfl (fun h33 => ?_) (fun h33 => ?_) | refine SC.ite rfl (fun h33 => ?_) (fun h33 => ?_)
      · skip
        obtain ⟨c, hc⟩ : ∃ c, c = (p + q) / 2 := ⟨_, rfl⟩
        have hc39 : Value.int .i64 (((X.length : Int) + U.length + (p : Nat) + ((X.length : Int) + U.length + (q : Nat))) / 2) = .int .i64 ((X.length : Int) + U.length + (c : Nat)) := by congr 1; omega
        obtain ⟨v, hv⟩ := getElem?_lt (l := V) (k := c) (by omega)
        have hvok := hVok v (List.mem_of_getElem? hv)
        have huA : (X ++ u :: (V ++ Y))[X.length]? = some u := at0 _ _ _
        have hvA : (X ++ u :: (V ++ Y))[X.length + 1 + c]? = some v := by
          rw [List.getElem?_append_right (by omega), show X.length + 1 + c - X.length = c + 1 by omega, List.getElem?_cons_succ, List.getElem?_append_left (by omega)]; exact hv
        have hn1 : ((X.length : Int) + U.length + (c : Nat)).toNat = X.length + 1 + c := by omega
        have hn2 : (X.length : Int).toNat = X.length := by omega
        refine SC.skip ?_
        refine seqQ.nm ?_
        refine SC.block ?_
        refine SC.seq ?_
        refine SC.region ?_
        refine SL.val (OpV.move rfl) rfl ?_
        refine SL.val (OpV.move rfl) rfl ?_
        refine SL.val (OpV.add rfl rfl (IntWalk.i64_in _ (by omega))) rfl ?_
        refine SL.val (OpV.convI Tryz.underlying3 Tryz.underlying102 rfl (IntWalk.u64_in _ (by omega))) rfl ?_
        refine SL.val (OpV.half rfl) rfl ?_
        refine SL.val (show OpV _ _ _ _ _ (.int .i64 ((X.length : Int) + U.length + (c : Nat))) by rw [← hc39]; exact (OpV.convI Tryz.underlying102 Tryz.underlying3 rfl (IntWalk.i64_in _ (by omega)))) rfl ?_
        refine SL.val (OpV.assign rfl) rfl ?_
        refine SL.nil ?_
        refine seqQ.nm ?_
        refine SC.seq ?_
        refine SC.quiet mixed (by decide +kernel) ?_
        refine SQ.val (OpV.move rfl) rfl ?_
        refine SQ.val (OpV.move rfl) rfl ?_
        refine SQ.val (OpV.move rfl) rfl ?_
        refine SQ.val (OpV.indexAddr Tryz.underlying25 sz38 rfl rfl (by omega) (by omega)) rfl ?_
        refine SQ.val (OpV.loads (cs := (xc v)) _ Tryz.underlying38 rfl rfl sz38 (Kns.row 0 rfl (by rw [hn1]; exact fl_elem xc 9 xc_len _ _ v hvA))) rfl ?_
        refine SQ.val (OpV.move rfl) rfl ?_
        refine SQ.val (OpV.move rfl) rfl ?_
        refine SQ.val (OpV.indexAddr Tryz.underlying25 sz38 rfl rfl (by omega) (by omega)) rfl ?_
        refine SQ.val (OpV.loads (cs := (xc u)) _ Tryz.underlying38 rfl rfl sz38 (Kns.row 0 rfl (by rw [hn2]; exact fl_elem xc 9 xc_len _ _ u huA))) rfl ?_
        refine SQ.callv (.inl rfl) ok52 rfl rfl (cmpv_ev v u v.1.path u.1.path M rfl rfl) rfl ?_
        refine SQ.val (OpV.lss rfl rfl) rfl ?_
        refine SQ.nil ?_
        refine seqQ.nm ?_
        first | refine SC.ifp rfl (fun h50 => ?_) (fun h50 => ?_) | refine SC.ite rfl (fun h50 => ?_) (fun h50 => ?_)
        · skip
          refine SC.region ?_
          refine SL.val (OpV.move rfl) rfl ?_
          refine SL.val (OpV.add rfl rfl (IntWalk.i64_in _ (by omega))) rfl ?_
          refine SL.val (OpV.assign rfl) rfl ?_
          refine SL.nil ?_
          refine blockQ.nm ?_
          exact loopQ.nm (c + 1, q) (by dsimp only; omega) ⟨rfl, rfl, rfl, by show some _ = some _; congr 2 <;> (try dsimp only) <;> omega, rfl, trivial⟩ (List.Perm.refl _) ⟨by dsimp only; omega, hqV, take_plt hsV hv (.inl (cmp_lt_true h50)), hhi, rfl⟩
        · skip
          refine SC.region ?_
          refine SL.val (OpV.move rfl) rfl ?_
          refine SL.val (OpV.assign rfl) rfl ?_
          refine SL.nil ?_
          refine blockQ.nm ?_
          exact loopQ.nm (p, c) (by dsimp only; omega) ⟨rfl, rfl, rfl, rfl, rfl, trivial⟩ (List.Perm.refl _) ⟨by dsimp only; omega, by dsimp only; omega, hlo, drop_plt hsV hv (plt_of (hcu v (List.mem_of_getElem? hv)) (cmp_lt_false h50)), rfl⟩
      · skip
        have hpe : p = q := by omega
        subst hpe
        have hVe : V = V.take p ++ V.drop p := (List.take_append_drop p V).symm
        have hl1 : (V.take p).length = p := by rw [List.length_take]; omega
        generalize hV1 : V.take p = V1 at *
        generalize hV2 : V.drop p = V2 at *
        refine SC.exit ?_
        refine seqQ.e ?_
        refine loopQ.e ?_
        refine blockQ.e ?_
        refine seqQ.nm ?_
        refine SC.seq ?_
        refine SC.seq ?_
        refine SC.region ?_
        refine SL.val (OpV.move rfl) rfl ?_
        refine SL.val (OpV.assign rfl) rfl ?_
        refine SL.nil ?_
        refine seqQ.nm ?_
        refine SC.block ?_
        refine SC.loop (ι := List Xb × List Xb) (fun x M' => x.1 ++ x.2 = V1 ∧ M = M') (fun x => [(0, .slice (some ⟨g, 0, none⟩) n cap), (10, .int .i64 ((X.length : Int) + U.length + (p : Nat))), (13, .int .i64 ((X.length : Int) + x.1.length))]) (fun x => [.row (.slice (some ⟨g, 0, none⟩) n cap) 38 9 (((X ++ x.1) ++ u :: (x.2 ++ (V2 ++ Y))).flatMap xc)]) (fun x => x.2.length) ([], V1) (G := []) ⟨rfl, rfl, by show some _ = some _; congr 2 <;> (try simp), trivial⟩ (List.Perm.of_eq (by dsimp only; rw [hVe]; simp)) ⟨rfl, rfl⟩ ?_
        rintro ⟨W1, W2⟩ _ _ ⟨hcat, rfl⟩
        dsimp only at hcat ⊢
        have hWl : W1.length + W2.length = p := by rw [← hl1, ← hcat, List.length_append]
        refine SC.seq ?_
        refine SC.seq ?_
        refine SC.region ?_
        refine SL.val (OpV.move rfl) rfl ?_
        refine SL.val (OpV.move rfl) rfl ?_
        refine SL.val (OpV.sub rfl rfl (IntWalk.i64_in _ (by omega))) rfl ?_
        refine SL.val (OpV.lss rfl rfl) rfl ?_
        refine SL.nil ?_
        refine seqQ.nm ?_
        first | refine SC.ifp rfl (fun h58 => ?_) (fun h58 => ?_) | refine SC.ite rfl (fun h58 => ?_) (fun h58 => ?_)
        · skip
          have hW2 : 0 < W2.length := by omega
          obtain ⟨w, W3, rfl⟩ : ∃ w W3, W2 = w :: W3 := by cases W2 with | nil => simp at hW2 | cons w W3 => exact ⟨w, W3, rfl⟩
          have hwok := hVok w (by rw [hVe, ← hcat]; simp)
          have hn1 : ((X.length : Int) + W1.length).toNat = (X ++ W1).length := by simp; omega
          have hn2 : ((X.length : Int) + W1.length + 1).toNat = (X ++ W1).length + 1 := by simp; omega
          have huA : ((X ++ W1) ++ u :: (w :: W3 ++ (V2 ++ Y)))[(X ++ W1).length]? = some u := at0 _ _ _
          have hwA : ((X ++ W1) ++ u :: (w :: W3 ++ (V2 ++ Y)))[(X ++ W1).length + 1]? = some w := at1 _ _ _ _
          have hll : ((X ++ W1) ++ u :: (w :: W3 ++ (V2 ++ Y))).length = (X ++ W1).length + 2 + (W3 ++ (V2 ++ Y)).length := by simp; omega
          have hsw : ((X ++ W1) ++ u :: w :: (W3 ++ (V2 ++ Y))) = ((X ++ W1) ++ u :: (w :: W3 ++ (V2 ++ Y))) := by simp
          refine SC.skip ?_
          refine seqQ.nm ?_
          refine SC.seq ?_
          refine SC.block ?_
          refine SC.draw [0, 1, 5, 6, 7, 8, 9, 10, 11, 12, 13, 14] [2, 3, 4] [] [] [15, 16, 17] mixed (by decide +kernel) ?_
          refine SV.val (OpV.move rfl) rfl ?_
          refine SV.val (OpV.move rfl) rfl ?_
          refine SV.val (OpV.move rfl) rfl ?_
          refine SV.val (OpV.move rfl) rfl ?_
          refine SV.val (OpV.add rfl rfl (IntWalk.i64_in _ (by omega))) rfl ?_
          refine SV.val (OpV.indexAddr Tryz.underlying25 sz38 rfl rfl (by omega) (by omega)) rfl ?_
          refine SV.val (OpV.loads (cs := (xc w)) _ Tryz.underlying38 rfl rfl sz38 (Kns.row 0 rfl (by rw [hn2]; exact fl_elem xc 9 xc_len _ _ w hwA))) rfl ?_
          refine SV.val (OpV.move rfl) rfl ?_
          refine SV.val (OpV.move rfl) rfl ?_
          refine SV.val (OpV.indexAddr Tryz.underlying25 sz38 rfl rfl (by omega) (by omega)) rfl ?_
          refine SV.val (OpV.loads (cs := (xc u)) _ Tryz.underlying38 rfl rfl sz38 (Kns.row 0 rfl (by rw [hn1]; exact fl_elem xc 9 xc_len _ _ u huA))) rfl ?_
          refine SV.val (OpV.indexAddr Tryz.underlying25 sz38 rfl rfl (by omega) (by omega)) rfl ?_
          refine SV.nil ?_
          refine SA.val (OpV.move rfl) rfl ?_
          refine SA.val (OpV.move rfl) rfl ?_
          refine SA.val (OpV.add rfl rfl (IntWalk.i64_in _ (by omega))) rfl ?_
          refine SA.nil ?_
          refine SQ.nil ?_
          refine SA.nil ?_
          refine SL.unit (OpU.storeRow 0 rfl rfl rfl sz38 (by rw [hn1, xcs_len]; simp [Value.cells, xc_len]; omega) (xones hwok)) ?_
          refine SL.val (OpV.indexAddr Tryz.underlying25 sz38 rfl rfl (by omega) (by omega)) rfl ?_
          refine SL.unit (OpU.storeRow 0 rfl rfl rfl sz38 (by rw [hn1, fl_splice xc 9 xc_len _ _ w (by rw [hll]; omega), hn2, xcs_len]; simp [Value.cells, xc_len]; omega) (xones huok)) ?_
          refine SL.nil ⟨rfl, ?_⟩
          refine blockQ.nm ?_
          refine seqQ.nm ?_
          refine SC.region ?_
          refine SL.val (OpV.move rfl) rfl ?_
          refine SL.val (OpV.add rfl rfl (IntWalk.i64_in _ (by omega))) rfl ?_
          refine SL.val (OpV.assign rfl) rfl ?_
          refine SL.nil ?_
          refine loopQ.nm (W1 ++ [w], W3) (by simp) ⟨rfl, rfl, by show some _ = some _; congr 2 <;> (try simp) <;> omega, trivial⟩ (List.Perm.of_eq ?_) ⟨by rw [← hcat]; simp, rfl⟩
          rw [hn1, hn2]
          simp only [List.set_cons_zero]
          rw [fl_splice xc 9 xc_len _ _ w (by rw [hll]; omega), fl_splice xc 9 xc_len _ _ u (by rw [List.length_set, hll]; omega), ← hsw, swap2]
          simp
        · skip
          refine SC.exit ?_
          refine seqQ.e ?_
          refine loopQ.e ?_
          refine blockQ.e ?_
          refine seqQ.nm ?_
          refine SC.ret ?_
          refine seqQ.r ?_
          refine retQ.none rfl  ?_ _ (.inr rfl)
          have hW2 : W2 = [] := List.eq_nil_of_length_eq_zero (by omega)
          subst hW2
          rw [List.append_nil] at hcat
          subst hcat
          refine ⟨W1 ++ u :: V2, by simp, ?_, pw_mid (by rw [← hVe]; exact hsV) hhi hlo, rfl⟩
          rw [hu, hVe]
          exact List.perm_middle
    · skip
      refine SC.skip ?_
      refine seqQ.nm ?_
      refine SC.seq ?_
      refine SC.seq ?_
      refine SC.region ?_
      refine SL.val (OpV.move rfl) rfl ?_
      refine SL.val (OpV.move rfl) rfl ?_
      refine SL.val (OpV.sub rfl rfl (IntWalk.i64_in _ (by omega))) rfl ?_
      refine SL.val (OpV.eql rfl rfl) rfl ?_
      refine SL.nil ?_
      refine seqQ.nm ?_
      first | refine SC.ifp rfl (fun h80 => ?_) (fun h80 => ?_) | refine SC.ite rfl (fun h80 => ?_) (fun h80 => ?_)
      · skip
        obtain ⟨v, hv⟩ := List.length_eq_one_iff.1 (show V.length = 1 by omega)
        have hvok := hok v (by simp [hv])
        have hUok : ∀ x ∈ U, x.1.ok M := fun x hx => hok x (by simp [hx])
        have hcu : ∀ x ∈ U, stab x v := fun x hx => hcr x hx v (by simp [hv])
        have hrow : X ++ U ++ V ++ Y = (X ++ U) ++ v :: Y := by rw [hv]; simp
        have hVl : V.length = 1 := by rw [hv]; rfl
        rw [hrow]
        refine SC.seq ?_
        refine SC.region ?_
        refine SL.val (OpV.move rfl) rfl ?_
        refine SL.val (OpV.assign rfl) rfl ?_
        refine SL.nil ?_
        refine seqQ.nm ?_
        refine SC.seq ?_
        refine SC.region ?_
        refine SL.val (OpV.move rfl) rfl ?_
        refine SL.val (OpV.assign rfl) rfl ?_
        refine SL.nil ?_
        refine seqQ.nm ?_
        refine SC.seq ?_
        refine SC.block ?_
        refine SC.loop (ι := Nat × Nat) (fun x M' => x.1 ≤ x.2 ∧ x.2 ≤ U.length ∧ (∀ y ∈ U.take x.1, plt y v) ∧ (∀ y ∈ U.drop x.2, plt v y) ∧ M = M') (fun x => [(0, .slice (some ⟨g, 0, none⟩) n cap), (2, .int .i64 ((X.length : Int) + U.length)), (4, .func (.func 52) #[] #[]), (14, .int .i64 ((X.length : Int) + (x.1 : Nat))), (15, .int .i64 ((X.length : Int) + (x.2 : Nat)))]) (fun x => [.row (.slice (some ⟨g, 0, none⟩) n cap) 38 9 (((X ++ U) ++ v :: Y).flatMap xc)]) (fun x => x.2 - x.1) (0, U.length) (G := []) ⟨rfl, rfl, rfl, by show some _ = some _; congr 2 <;> (try dsimp only) <;> omega, rfl, trivial⟩ (List.Perm.refl _) ⟨Nat.zero_le _, Nat.le_refl _, (fun v hv => by simp at hv), (fun v hv => by simp at hv), rfl⟩ ?_
        rintro ⟨p, q⟩ _ _ ⟨hpq, hqU, hlo, hhi, rfl⟩
        dsimp only at hpq hqU hlo hhi ⊢
        refine SC.seq ?_
        refine SC.seq ?_
        refine SC.region ?_
        refine SL.val (OpV.move rfl) rfl ?_
        refine SL.val (OpV.move rfl) rfl ?_
        refine SL.val (OpV.lss rfl rfl) rfl ?_
        refine SL.nil ?_
        refine seqQ.nm ?_
        first | refine SC.ifp rfl (fun h85 => ?_) (fun h85 => ?_) | refine SC.ite rfl (fun h85 => ?_) (fun h85 => ?_)
        · skip
          obtain ⟨c, hc⟩ : ∃ c, c = (p + q) / 2 := ⟨_, rfl⟩
          have hc91 : Value.int .i64 (((X.length : Int) + (p : Nat) + ((X.length : Int) + (q : Nat))) / 2) = .int .i64 ((X.length : Int) + (c : Nat)) := by congr 1; omega
          obtain ⟨x, hx⟩ := getElem?_lt (l := U) (k := c) (by omega)
          have hvA : ((X ++ U) ++ v :: Y)[(X ++ U).length]? = some v := at0 _ _ _
          have hxA : ((X ++ U) ++ v :: Y)[X.length + c]? = some x := by
            rw [List.getElem?_append_left (by simp; omega), List.getElem?_append_right (by omega), show X.length + c - X.length = c by omega]; exact hx
          have hn1 : ((X.length : Int) + (c : Nat)).toNat = X.length + c := by omega
          have hn2 : ((X.length : Int) + U.length).toNat = (X ++ U).length := by simp; omega
          refine SC.skip ?_
          refine seqQ.nm ?_
          refine SC.block ?_
          refine SC.seq ?_
          refine SC.region ?_
          refine SL.val (OpV.move rfl) rfl ?_
          refine SL.val (OpV.move rfl) rfl ?_
          refine SL.val (OpV.add rfl rfl (IntWalk.i64_in _ (by omega))) rfl ?_
          refine SL.val (OpV.convI Tryz.underlying3 Tryz.underlying102 rfl (IntWalk.u64_in _ (by omega))) rfl ?_
          refine SL.val (OpV.half rfl) rfl ?_
          refine SL.val (show OpV _ _ _ _ _ (.int .i64 ((X.length : Int) + (c : Nat))) by rw [← hc91]; exact (OpV.convI Tryz.underlying102 Tryz.underlying3 rfl (IntWalk.i64_in _ (by omega)))) rfl ?_
          refine SL.val (OpV.assign rfl) rfl ?_
          refine SL.nil ?_
          refine seqQ.nm ?_
          refine SC.seq ?_
          refine SC.quiet mixed (by decide +kernel) ?_
          refine SQ.val (OpV.move rfl) rfl ?_
          refine SQ.val (OpV.move rfl) rfl ?_
          refine SQ.val (OpV.move rfl) rfl ?_
          refine SQ.val (OpV.indexAddr Tryz.underlying25 sz38 rfl rfl (by omega) (by omega)) rfl ?_
          refine SQ.val (OpV.loads (cs := (xc v)) _ Tryz.underlying38 rfl rfl sz38 (Kns.row 0 rfl (by rw [hn2]; exact fl_elem xc 9 xc_len _ _ v hvA))) rfl ?_
          refine SQ.val (OpV.move rfl) rfl ?_
          refine SQ.val (OpV.move rfl) rfl ?_
          refine SQ.val (OpV.indexAddr Tryz.underlying25 sz38 rfl rfl (by omega) (by omega)) rfl ?_
          refine SQ.val (OpV.loads (cs := (xc x)) _ Tryz.underlying38 rfl rfl sz38 (Kns.row 0 rfl (by rw [hn1]; exact fl_elem xc 9 xc_len _ _ x hxA))) rfl ?_
          refine SQ.callv (.inl rfl) ok52 rfl rfl (cmpv_ev v x v.1.path x.1.path M rfl rfl) rfl ?_
          refine SQ.val (OpV.lss rfl rfl) rfl ?_
          refine SQ.val (OpV.not rfl) rfl ?_
          refine SQ.nil ?_
          refine seqQ.nm ?_
          first | refine SC.ifp rfl (fun h103 => ?_) (fun h103 => ?_) | refine SC.ite rfl (fun h103 => ?_) (fun h103 => ?_)
          · skip
            refine SC.region ?_
            refine SL.val (OpV.move rfl) rfl ?_
            refine SL.val (OpV.add rfl rfl (IntWalk.i64_in _ (by omega))) rfl ?_
            refine SL.val (OpV.assign rfl) rfl ?_
            refine SL.nil ?_
            refine blockQ.nm ?_
            exact loopQ.nm (c + 1, q) (by dsimp only; omega) ⟨rfl, rfl, rfl, by show some _ = some _; congr 2 <;> (try dsimp only) <;> omega, rfl, trivial⟩ (List.Perm.refl _) ⟨by dsimp only; omega, hqU, take_plt hsU hx (plt_of (hcu x (List.mem_of_getElem? hx)) (cmp_lt_false (by simpa using h103))), hhi, rfl⟩
          · skip
            refine SC.region ?_
            refine SL.val (OpV.move rfl) rfl ?_
            refine SL.val (OpV.assign rfl) rfl ?_
            refine SL.nil ?_
            refine blockQ.nm ?_
            exact loopQ.nm (p, c) (by dsimp only; omega) ⟨rfl, rfl, rfl, rfl, rfl, trivial⟩ (List.Perm.refl _) ⟨by dsimp only; omega, by dsimp only; omega, hlo, drop_plt hsU hx (.inl (cmp_lt_true (by simpa using h103))), rfl⟩
        · skip
          have hpe : p = q := by omega
          subst hpe
          have hUe : U = U.take p ++ U.drop p := (List.take_append_drop p U).symm
          have hl1 : (U.take p).length = p := by rw [List.length_take]; omega
          have hl2 : (U.drop p).length = U.length - p := List.length_drop
          generalize hU1 : U.take p = U1 at *
          generalize hU2 : U.drop p = U2 at *
          refine SC.exit ?_
          refine seqQ.e ?_
          refine loopQ.e ?_
          refine blockQ.e ?_
          refine seqQ.nm ?_
          refine SC.seq ?_
          refine SC.seq ?_
          refine SC.region ?_
          refine SL.val (OpV.move rfl) rfl ?_
          refine SL.val (OpV.assign rfl) rfl ?_
          refine SL.nil ?_
          refine seqQ.nm ?_
          refine SC.block ?_
          refine SC.loop (ι := List Xb × List Xb) (fun x M' => x.1 ++ x.2 = U2 ∧ M = M') (fun x => [(0, .slice (some ⟨g, 0, none⟩) n cap), (14, .int .i64 ((X.length : Int) + (p : Nat))), (17, .int .i64 ((X.length : Int) + (p : Nat) + x.1.length))]) (fun x => [.row (.slice (some ⟨g, 0, none⟩) n cap) 38 9 (((X ++ U1 ++ x.1) ++ v :: (x.2 ++ Y)).flatMap xc)]) (fun x => x.1.length) (U2, []) (G := []) ⟨rfl, rfl, by show some _ = some _; congr 2 <;> (try dsimp only) <;> omega, trivial⟩ (List.Perm.of_eq (by dsimp only; rw [hUe]; simp)) ⟨List.append_nil _, rfl⟩ ?_
          rintro ⟨W1, W2⟩ _ _ ⟨hcat, rfl⟩
          dsimp only at hcat ⊢
          have hWl : W1.length + W2.length = U2.length := by rw [← hcat, List.length_append]
          refine SC.seq ?_
          refine SC.seq ?_
          refine SC.region ?_
          refine SL.val (OpV.move rfl) rfl ?_
          refine SL.val (OpV.move rfl) rfl ?_
          refine SL.val (OpV.gtr rfl rfl) rfl ?_
          refine SL.nil ?_
          refine seqQ.nm ?_
          first | refine SC.ifp rfl (fun h110 => ?_) (fun h110 => ?_) | refine SC.ite rfl (fun h110 => ?_) (fun h110 => ?_)
          · skip
            obtain ⟨W3, s, rfl⟩ := snoc_of (l := W1) (by omega)
            have hsok := hUok s (by rw [hUe, ← hcat]; simp)
            have hre : (X ++ U1 ++ (W3 ++ [s])) ++ v :: (W2 ++ Y) = (X ++ U1 ++ W3) ++ s :: v :: (W2 ++ Y) := by simp
            have hn1 : ((X.length : Int) + (p : Nat) + (W3 ++ [s]).length).toNat = (X ++ U1 ++ W3).length + 1 := by simp; omega
            have hn2 : ((X.length : Int) + (p : Nat) + (W3 ++ [s]).length - 1).toNat = (X ++ U1 ++ W3).length := by simp; omega
            have hsA : ((X ++ U1 ++ W3) ++ s :: v :: (W2 ++ Y))[(X ++ U1 ++ W3).length]? = some s := at0 _ _ _
            have hvA : ((X ++ U1 ++ W3) ++ s :: v :: (W2 ++ Y))[(X ++ U1 ++ W3).length + 1]? = some v := at1 _ _ _ _
            have hll : ((X ++ U1 ++ W3) ++ s :: v :: (W2 ++ Y)).length = (X ++ U1 ++ W3).length + 2 + (W2 ++ Y).length := by simp; omega
            rw [hre]
            refine SC.skip ?_
            refine seqQ.nm ?_
            refine SC.seq ?_
            refine SC.block ?_
            refine SC.draw [0, 1, 5, 6, 7, 8, 9, 10, 11, 12, 13, 14] [2, 3, 4] [] [] [15, 16, 17] mixed (by decide +kernel) ?_
            refine SV.val (OpV.move rfl) rfl ?_
            refine SV.val (OpV.move rfl) rfl ?_
            refine SV.val (OpV.move rfl) rfl ?_
            refine SV.val (OpV.move rfl) rfl ?_
            refine SV.val (OpV.sub rfl rfl (IntWalk.i64_in _ (by omega))) rfl ?_
            refine SV.val (OpV.indexAddr Tryz.underlying25 sz38 rfl rfl (by omega) (by omega)) rfl ?_
            refine SV.val (OpV.loads (cs := (xc s)) _ Tryz.underlying38 rfl rfl sz38 (Kns.row 0 rfl (by rw [hn2]; exact fl_elem xc 9 xc_len _ _ s hsA))) rfl ?_
            refine SV.val (OpV.move rfl) rfl ?_
            refine SV.val (OpV.move rfl) rfl ?_
            refine SV.val (OpV.indexAddr Tryz.underlying25 sz38 rfl rfl (by omega) (by omega)) rfl ?_
            refine SV.val (OpV.loads (cs := (xc v)) _ Tryz.underlying38 rfl rfl sz38 (Kns.row 0 rfl (by rw [hn1]; exact fl_elem xc 9 xc_len _ _ v hvA))) rfl ?_
            refine SV.val (OpV.indexAddr Tryz.underlying25 sz38 rfl rfl (by omega) (by omega)) rfl ?_
            refine SV.nil ?_
            refine SA.val (OpV.move rfl) rfl ?_
            refine SA.val (OpV.move rfl) rfl ?_
            refine SA.val (OpV.sub rfl rfl (IntWalk.i64_in _ (by omega))) rfl ?_
            refine SA.nil ?_
            refine SQ.nil ?_
            refine SA.nil ?_
            refine SL.unit (OpU.storeRow 0 rfl rfl rfl sz38 (by rw [hn1, xcs_len]; simp [Value.cells, xc_len]; omega) (xones hsok)) ?_
            refine SL.val (OpV.indexAddr Tryz.underlying25 sz38 rfl rfl (by omega) (by omega)) rfl ?_
            refine SL.unit (OpU.storeRow 0 rfl rfl rfl sz38 (by rw [hn1, fl_splice xc 9 xc_len _ _ s (by rw [hll]; omega), hn2, xcs_len]; simp [Value.cells, xc_len]; omega) (xones hvok)) ?_
            refine SL.nil ⟨rfl, ?_⟩
            refine blockQ.nm ?_
            refine seqQ.nm ?_
            refine SC.region ?_
            refine SL.val (OpV.move rfl) rfl ?_
            refine SL.val (OpV.sub rfl rfl (IntWalk.i64_in _ (by omega))) rfl ?_
            refine SL.val (OpV.assign rfl) rfl ?_
            refine SL.nil ?_
            refine loopQ.nm (W3, s :: W2) (by simp) ⟨rfl, rfl, by show some _ = some _; congr 2 <;> (try simp) <;> omega, trivial⟩ (List.Perm.of_eq ?_) ⟨by rw [← hcat]; simp, rfl⟩
            rw [hn1, hn2]
            simp only [List.set_cons_zero]
            rw [fl_splice xc 9 xc_len _ _ s (by rw [hll]; omega), fl_splice xc 9 xc_len _ _ v (by rw [List.length_set, hll]; omega), swap1]
            simp
          · skip
            refine SC.exit ?_
            refine seqQ.e ?_
            refine loopQ.e ?_
            refine blockQ.e ?_
            refine seqQ.nm ?_
            refine SC.ret ?_
            refine seqQ.r ?_
            refine retQ.none rfl  ?_ _ (.inr rfl)
            have hW1 : W1 = [] := List.eq_nil_of_length_eq_zero (by omega)
            subst hW1
            rw [List.nil_append] at hcat
            subst hcat
            refine ⟨U1 ++ v :: W2, by simp, ?_, pw_mid (by rw [← hUe]; exact hsU) hhi hlo, rfl⟩
            rw [hv, hUe, List.append_assoc]
            exact (List.perm_append_comm (l₁ := [v])).append_left U1
      · skip
        obtain ⟨h, hh⟩ : ∃ h, h = (U.length + V.length) / 2 := ⟨_, rfl⟩
        obtain ⟨s0, hs0⟩ : ∃ s0, s0 = h - V.length := ⟨_, rfl⟩
        obtain ⟨r0, hr0⟩ : ∃ r0, r0 = min h U.length := ⟨_, rfl⟩
        have hmid : Value.int .i64 (((X.length : Int) + ((X.length : Int) + U.length + V.length)) / 2) = .int .i64 ((X.length : Int) + (h : Nat)) := by congr 1; omega
        refine SC.skip ?_
        refine seqQ.nm ?_
        refine SC.seq ?_
        refine SC.region ?_
        refine SL.val (OpV.move rfl) rfl ?_
        refine SL.val (OpV.move rfl) rfl ?_
        refine SL.val (OpV.add rfl rfl (IntWalk.i64_in _ (by omega))) rfl ?_
        refine SL.val (OpV.convI Tryz.underlying3 Tryz.underlying102 rfl (IntWalk.u64_in _ (by omega))) rfl ?_
        refine SL.val (OpV.half rfl) rfl ?_
        refine SL.val (show OpV _ _ _ _ _ (.int .i64 ((X.length : Int) + (h : Nat))) by rw [← hmid]; exact (OpV.convI Tryz.underlying102 Tryz.underlying3 rfl (IntWalk.i64_in _ (by omega)))) rfl ?_
        refine SL.val (OpV.assign rfl) rfl ?_
        refine SL.nil ?_
        refine seqQ.nm ?_
        refine SC.seq ?_
        refine SC.region ?_
        refine SL.val (OpV.move rfl) rfl ?_
        refine SL.val (OpV.move rfl) rfl ?_
        refine SL.val (OpV.add rfl rfl (IntWalk.i64_in _ (by omega))) rfl ?_
        refine SL.val (OpV.assign rfl) rfl ?_
        refine SL.nil ?_
        refine seqQ.nm ?_
        refine SC.seq ?_
        refine SC.region ?_
        refine SL.val (OpV.assign rfl) rfl ?_
        refine SL.val (OpV.assign rfl) rfl ?_
        refine SL.nil ?_
        refine seqQ.nm ?_
        refine SC.joins (ι := Unit) (fun _ M' => M = M') (fun _ => [(0, .slice (some ⟨g, 0, none⟩) n cap), (1, .int .i64 X.length), (2, .int .i64 ((X.length : Int) + U.length)), (3, .int .i64 ((X.length : Int) + U.length + V.length)), (4, .func (.func 52) #[] #[]), (18, .int .i64 ((X.length : Int) + (h : Nat))), (19, .int .i64 ((X.length : Int) + (h : Nat) + ((X.length : Int) + U.length))), (20, .int .i64 ((X.length : Int) + (s0 : Nat))), (21, .int .i64 ((X.length : Int) + (r0 : Nat)))]) (fun _ => [.row (.slice (some ⟨g, 0, none⟩) n cap) 38 9 ((X ++ U ++ V ++ Y).flatMap xc)]) ?_ ?_
        · skip
          refine SC.seq ?_
          refine SC.region ?_
          refine SL.val (OpV.move rfl) rfl ?_
          refine SL.val (OpV.move rfl) rfl ?_
          refine SL.val (OpV.gtr rfl rfl) rfl ?_
          refine SL.nil ?_
          refine seqQ.nm ?_
          first | refine SC.ifp rfl (fun h140 => ?_) (fun h140 => ?_) | refine SC.ite rfl (fun h140 => ?_) (fun h140 => ?_)
          · skip
            refine SC.seq ?_
            refine SC.region ?_
            refine SL.val (OpV.move rfl) rfl ?_
            refine SL.val (OpV.move rfl) rfl ?_
            refine SL.val (OpV.sub rfl rfl (IntWalk.i64_in _ (by omega))) rfl ?_
            refine SL.val (OpV.assign rfl) rfl ?_
            refine SL.nil ?_
            refine seqQ.nm ?_
            refine SC.region ?_
            refine SL.val (OpV.move rfl) rfl ?_
            refine SL.val (OpV.assign rfl) rfl ?_
            refine SL.nil ?_
            exact joinQ.nm () ⟨rfl, rfl, rfl, rfl, rfl, rfl, rfl, by show some _ = some _; congr 2 <;> omega, by show some _ = some _; congr 2 <;> omega, trivial⟩ (List.Perm.refl _) rfl
          · skip
            refine SC.seq ?_
            refine SC.region ?_
            refine SL.val (OpV.move rfl) rfl ?_
            refine SL.val (OpV.assign rfl) rfl ?_
            refine SL.nil ?_
            refine seqQ.nm ?_
            refine SC.region ?_
            refine SL.val (OpV.move rfl) rfl ?_
            refine SL.val (OpV.assign rfl) rfl ?_
            refine SL.nil ?_
            exact joinQ.nm () ⟨rfl, rfl, rfl, rfl, rfl, rfl, rfl, by show some _ = some _; congr 2 <;> omega, by show some _ = some _; congr 2 <;> omega, trivial⟩ (List.Perm.refl _) rfl
        rintro _ _ _ rfl
        refine SC.seq ?_
        refine SC.region ?_
        refine SL.val (OpV.move rfl) rfl ?_
        refine SL.val (OpV.sub rfl rfl (IntWalk.i64_in _ (by omega))) rfl ?_
        refine SL.val (OpV.assign rfl) rfl ?_
        refine SL.nil ?_
        refine seqQ.nm ?_
        refine SC.seq ?_
        refine SC.block ?_
        refine SC.loop (ι := Nat × Nat) (fun x M' => s0 ≤ x.1 ∧ x.1 ≤ x.2 ∧ x.2 ≤ r0 ∧ (x.1 = s0 ∨ ∃ u v, 0 < x.1 ∧ U[x.1 - 1]? = some u ∧ V[h - x.1]? = some v ∧ plt u v) ∧ (x.2 = r0 ∨ ∃ u v, x.2 < h ∧ U[x.2]? = some u ∧ V[h - 1 - x.2]? = some v ∧ plt v u) ∧ M = M') (fun x => [(0, .slice (some ⟨g, 0, none⟩) n cap), (1, .int .i64 X.length), (2, .int .i64 ((X.length : Int) + U.length)), (3, .int .i64 ((X.length : Int) + U.length + V.length)), (4, .func (.func 52) #[] #[]), (18, .int .i64 ((X.length : Int) + (h : Nat))), (19, .int .i64 ((X.length : Int) + (h : Nat) + ((X.length : Int) + U.length))), (20, .int .i64 ((X.length : Int) + (x.1 : Nat))), (21, .int .i64 ((X.length : Int) + (x.2 : Nat))), (22, .int .i64 ((X.length : Int) + (h : Nat) + ((X.length : Int) + U.length) - 1))]) (fun _ => [.row (.slice (some ⟨g, 0, none⟩) n cap) 38 9 ((X ++ U ++ V ++ Y).flatMap xc)]) (fun x => x.2 - x.1) (s0, r0) (G := []) ⟨rfl, rfl, rfl, rfl, rfl, rfl, rfl, rfl, rfl, rfl, trivial⟩ (List.Perm.refl _) ⟨Nat.le_refl _, by dsimp only; omega, Nat.le_refl _, .inl rfl, .inl rfl, rfl⟩ ?_
        rintro ⟨s, r⟩ _ _ ⟨hss, hsr, hrr, hlo, hhi, rfl⟩
        dsimp only at hss hsr hrr hlo hhi ⊢
        refine SC.seq ?_
        refine SC.seq ?_
        refine SC.region ?_
        refine SL.val (OpV.move rfl) rfl ?_
        refine SL.val (OpV.move rfl) rfl ?_
        refine SL.val (OpV.lss rfl rfl) rfl ?_
        refine SL.nil ?_
        refine seqQ.nm ?_
        first | refine SC.ifp rfl (fun h151 => ?_) (fun h151 => ?_) | refine SC.ite rfl (fun h151 => ?_) (fun h151 => ?_)
        · skip
          obtain ⟨c, hc⟩ : ∃ c, c = (s + r) / 2 := ⟨_, rfl⟩
          have hc157 : Value.int .i64 (((X.length : Int) + (s : Nat) + ((X.length : Int) + (r : Nat))) / 2) = .int .i64 ((X.length : Int) + (c : Nat)) := by congr 1; omega
          obtain ⟨u, hu⟩ := getElem?_lt (l := U) (k := c) (by omega)
          obtain ⟨v, hv⟩ := getElem?_lt (l := V) (k := h - 1 - c) (by omega)
          have huv := hcr u (List.mem_of_getElem? hu) v (List.mem_of_getElem? hv)
          have huA : (X ++ U ++ V ++ Y)[X.length + c]? = some u := by
            rw [List.append_assoc, List.getElem?_append_left (by simp; omega), List.getElem?_append_right (by omega), show X.length + c - X.length = c by omega]; exact hu
          have hvA : (X ++ U ++ V ++ Y)[(X ++ U).length + (h - 1 - c)]? = some v := by
            rw [List.append_assoc, List.getElem?_append_right (by omega), show (X ++ U).length + (h - 1 - c) - (X ++ U).length = h - 1 - c by omega, List.getElem?_append_left (by omega)]; exact hv
          have hn1 : ((X.length : Int) + (h : Nat) + ((X.length : Int) + U.length) - 1 - ((X.length : Int) + (c : Nat))).toNat = (X ++ U).length + (h - 1 - c) := by simp; omega
          have hn2 : ((X.length : Int) + (c : Nat)).toNat = X.length + c := by omega
          refine SC.skip ?_
          refine seqQ.nm ?_
          refine SC.block ?_
          refine SC.seq ?_
          refine SC.region ?_
          refine SL.val (OpV.move rfl) rfl ?_
          refine SL.val (OpV.move rfl) rfl ?_
          refine SL.val (OpV.add rfl rfl (IntWalk.i64_in _ (by omega))) rfl ?_
          refine SL.val (OpV.convI Tryz.underlying3 Tryz.underlying102 rfl (IntWalk.u64_in _ (by omega))) rfl ?_
          refine SL.val (OpV.half rfl) rfl ?_
          refine SL.val (show OpV _ _ _ _ _ (.int .i64 ((X.length : Int) + (c : Nat))) by rw [← hc157]; exact (OpV.convI Tryz.underlying102 Tryz.underlying3 rfl (IntWalk.i64_in _ (by omega)))) rfl ?_
          refine SL.val (OpV.assign rfl) rfl ?_
          refine SL.nil ?_
          refine seqQ.nm ?_
          refine SC.seq ?_
          refine SC.quiet mixed (by decide +kernel) ?_
          refine SQ.val (OpV.move rfl) rfl ?_
          refine SQ.val (OpV.move rfl) rfl ?_
          refine SQ.val (OpV.move rfl) rfl ?_
          refine SQ.val (OpV.move rfl) rfl ?_
          refine SQ.val (OpV.sub rfl rfl (IntWalk.i64_in _ (by omega))) rfl ?_
          refine SQ.val (OpV.indexAddr Tryz.underlying25 sz38 rfl rfl (by omega) (by omega)) rfl ?_
          refine SQ.val (OpV.loads (cs := (xc v)) _ Tryz.underlying38 rfl rfl sz38 (Kns.row 0 rfl (by rw [hn1]; exact fl_elem xc 9 xc_len _ _ v hvA))) rfl ?_
          refine SQ.val (OpV.move rfl) rfl ?_
          refine SQ.val (OpV.move rfl) rfl ?_
          refine SQ.val (OpV.indexAddr Tryz.underlying25 sz38 rfl rfl (by omega) (by omega)) rfl ?_
          refine SQ.val (OpV.loads (cs := (xc u)) _ Tryz.underlying38 rfl rfl sz38 (Kns.row 0 rfl (by rw [hn2]; exact fl_elem xc 9 xc_len _ _ u huA))) rfl ?_
          refine SQ.callv (.inl rfl) ok52 rfl rfl (cmpv_ev v u v.1.path u.1.path M rfl rfl) rfl ?_
          refine SQ.val (OpV.lss rfl rfl) rfl ?_
          refine SQ.val (OpV.not rfl) rfl ?_
          refine SQ.nil ?_
          refine seqQ.nm ?_
          first | refine SC.ifp rfl (fun h171 => ?_) (fun h171 => ?_) | refine SC.ite rfl (fun h171 => ?_) (fun h171 => ?_)
          · skip
            refine SC.region ?_
            refine SL.val (OpV.move rfl) rfl ?_
            refine SL.val (OpV.add rfl rfl (IntWalk.i64_in _ (by omega))) rfl ?_
            refine SL.val (OpV.assign rfl) rfl ?_
            refine SL.nil ?_
            refine blockQ.nm ?_
            exact loopQ.nm (c + 1, r) (by dsimp only; omega) ⟨rfl, rfl, rfl, rfl, rfl, rfl, rfl, by show some _ = some _; congr 2 <;> (try dsimp only) <;> omega, rfl, rfl, trivial⟩ (List.Perm.refl _) ⟨by dsimp only; omega, by dsimp only; omega, hrr, .inr ⟨u, v, Nat.succ_pos _, hu, by rw [← hv]; congr 1; dsimp only; omega, plt_of huv (cmp_lt_false (by simpa using h171))⟩, hhi, rfl⟩
          · skip
            refine SC.region ?_
            refine SL.val (OpV.move rfl) rfl ?_
            refine SL.val (OpV.assign rfl) rfl ?_
            refine SL.nil ?_
            refine blockQ.nm ?_
            exact loopQ.nm (s, c) (by dsimp only; omega) ⟨rfl, rfl, rfl, rfl, rfl, rfl, rfl, rfl, rfl, rfl, trivial⟩ (List.Perm.refl _) ⟨hss, by dsimp only; omega, by dsimp only; omega, hlo, .inr ⟨u, v, by dsimp only; omega, hu, hv, .inl (cmp_lt_true (by simpa using h171))⟩, rfl⟩
        · skip
          have hse : s = r := by omega
          subst hse
          obtain ⟨hAD, hBC⟩ := part_cross (h := h) (s := s) hsU hsV (by omega) (hlo.imp (fun e => e.trans hs0) id) (hhi.imp (fun e => e.trans hr0) id)
          have hUe : U = U.take s ++ U.drop s := (List.take_append_drop s U).symm
          have hVe : V = V.take (h - s) ++ V.drop (h - s) := (List.take_append_drop (h - s) V).symm
          have hAl : (U.take s).length = s := by rw [List.length_take]; omega
          have hCl : (U.drop s).length = U.length - s := List.length_drop
          have hBl : (V.take (h - s)).length = h - s := by rw [List.length_take]; omega
          have hDl : (V.drop (h - s)).length = V.length - (h - s) := List.length_drop
          generalize U.take s = A at *
          generalize U.drop s = C at *
          generalize V.take (h - s) = B at *
          generalize V.drop (h - s) = D at *
          have hsA : A.Pairwise plt := by rw [hUe] at hsU; exact (List.pairwise_append.1 hsU).1
          have hsC : C.Pairwise plt := by rw [hUe] at hsU; exact (List.pairwise_append.1 hsU).2.1
          have hAC : ∀ x ∈ A, ∀ y ∈ C, plt x y := by rw [hUe] at hsU; exact (List.pairwise_append.1 hsU).2.2
          have hsB : B.Pairwise plt := by rw [hVe] at hsV; exact (List.pairwise_append.1 hsV).1
          have hsD : D.Pairwise plt := by rw [hVe] at hsV; exact (List.pairwise_append.1 hsV).2.1
          have hBD : ∀ x ∈ B, ∀ y ∈ D, plt x y := by rw [hVe] at hsV; exact (List.pairwise_append.1 hsV).2.2
          have hrow : X ++ U ++ V ++ Y = (X ++ A) ++ C ++ B ++ (D ++ Y) := by rw [hUe, hVe]; simp
          have hcr2 : ∀ x ∈ A ++ C, ∀ y ∈ B ++ D, stab x y := fun x hx y hy => hcr x (by rw [hUe]; exact hx) y (by rw [hVe]; exact hy)
          have hok2 : ∀ x, x ∈ A ++ C ∨ x ∈ B ++ D → x.1.ok M := fun x hx => hok x (by rw [hUe, hVe]; exact List.mem_append.2 hx)
          rw [hrow]
          refine SC.exit ?_
          refine seqQ.e ?_
          refine loopQ.e ?_
          refine blockQ.e ?_
          refine seqQ.nm ?_
          refine SC.seq ?_
          refine SC.region ?_
          refine SL.val (OpV.move rfl) rfl ?_
          refine SL.val (OpV.move rfl) rfl ?_
          refine SL.val (OpV.sub rfl rfl (IntWalk.i64_in _ (by omega))) rfl ?_
          refine SL.val (OpV.assign rfl) rfl ?_
          refine SL.nil ?_
          refine seqQ.nm ?_
          refine SC.joins (ι := Unit) (fun _ M' => M = M') (fun _ => [(0, .slice (some ⟨g, 0, none⟩) n cap), (1, .int .i64 X.length), (3, .int .i64 ((X.length : Int) + U.length + V.length)), (4, .func (.func 52) #[] #[]), (18, .int .i64 ((X.length : Int) + (h : Nat))), (20, .int .i64 ((X.length : Int) + (s : Nat))), (24, .int .i64 ((X.length : Int) + (h : Nat) + ((X.length : Int) + U.length) - ((X.length : Int) + (s : Nat))))]) (fun _ => [.row (.slice (some ⟨g, 0, none⟩) n cap) 38 9 ((X ++ A ++ B ++ (C ++ D ++ Y)).flatMap xc)]) ?_ ?_
          · skip
            refine SC.seq ?_
            refine SC.region ?_
            refine SL.val (OpV.move rfl) rfl ?_
            refine SL.val (OpV.move rfl) rfl ?_
            refine SL.val (OpV.lss rfl rfl) rfl ?_
            refine SL.val (OpV.move rfl) rfl ?_
            refine SL.andcut 4 (c := 181) (d := 185) rfl (fun h181 => ?_) ?_
            · skip
              refine SL.skip rfl rfl ?_
              refine SL.skip rfl rfl ?_
              refine SL.skip rfl rfl ?_
              refine SL.val (OpV.pickF rfl rfl) rfl ?_
              exact SL.nil ⟨rfl, rfl, (by repeat first | exact Env.le_refl _ | refine Env.le_new rfl ?_), [], List.Perm.refl _⟩
            apply Exists.intro
            refine And.intro (fun h181 => ?_) ?_
            · skip
              refine SL.gval rfl (OpV.move rfl) rfl ?_
              refine SL.gval rfl (OpV.move rfl) rfl ?_
              refine SL.gval rfl (OpV.lss rfl rfl) rfl ?_
              refine SL.val (OpV.pickT rfl rfl) rfl ?_
              exact SL.nil ⟨rfl, rfl, (by repeat first | exact Env.le_refl _ | refine Env.le_new rfl ?_), [], List.Perm.refl _⟩
            refine SL.nil ?_
            refine seqQ.nm ?_
            first | refine SC.ifp rfl (fun h185 => ?_) (fun h185 => ?_) | refine SC.ite rfl (fun h185 => ?_) (fun h185 => ?_)
            · skip
              simp only [Bool.and_eq_true, decide_eq_true_eq] at h185
              refine SC.region ?_
              refine SL.val (OpV.move rfl) rfl ?_
              refine SL.val (OpV.move rfl) rfl ?_
              refine SL.val (OpV.move rfl) rfl ?_
              refine SL.val (OpV.move rfl) rfl ?_
              refine SL.val (OpV.move rfl) rfl ?_
              refine SL.call ok88 rfl (L1 := [.row (.slice (some ⟨g, 0, none⟩) n cap) 38 9 (((X ++ A) ++ C ++ B ++ (D ++ Y)).flatMap xc)]) (List.Perm.refl _) (rotate_ev g n cap (X ++ A) C B (D ++ Y) _ _ _ (.func (.func 52) #[] #[]) M (by simp; omega) (by simp; omega) (by simp; omega) (by omega) (by omega) (by simp; omega) (fun x hx => hok2 x (by rcases List.mem_append.1 hx with k | k <;> simp [k])) hb) rfl ?_
              rintro _ _ _ hM191 ⟨rfl, rfl⟩
              refine SL.nil ?_
              first
              | exact joinQ.nm () ⟨rfl, rfl, rfl, rfl, rfl, rfl, rfl, trivial⟩ (List.Perm.of_eq (by rcases hz with rfl | rfl <;> simp)) rfl
              | exact joinQ.nm () ⟨rfl, rfl, rfl, rfl, rfl, rfl, rfl, trivial⟩ (List.Perm.of_eq (by simp)) rfl
            · skip
              have hz : C = [] ∨ B = [] := by
                simp only [Bool.and_eq_false_iff, decide_eq_false_iff_not] at h185
                rcases h185 with k | k
                · exact .inl (List.eq_nil_of_length_eq_zero (by omega))
                · exact .inr (List.eq_nil_of_length_eq_zero (by omega))
              refine SC.skip ?_
              first
              | exact joinQ.nm () ⟨rfl, rfl, rfl, rfl, rfl, rfl, rfl, trivial⟩ (List.Perm.of_eq (by rcases hz with rfl | rfl <;> simp)) rfl
              | exact joinQ.nm () ⟨rfl, rfl, rfl, rfl, rfl, rfl, rfl, trivial⟩ (List.Perm.of_eq (by simp)) rfl
          rintro _ _ _ rfl
          refine SC.joins (ι := List Xb) (fun W M' => W.Perm (A ++ B) ∧ W.Pairwise plt ∧ M = M') (fun _ => [(0, .slice (some ⟨g, 0, none⟩) n cap), (3, .int .i64 ((X.length : Int) + U.length + V.length)), (4, .func (.func 52) #[] #[]), (18, .int .i64 ((X.length : Int) + (h : Nat))), (24, .int .i64 ((X.length : Int) + (h : Nat) + ((X.length : Int) + U.length) - ((X.length : Int) + (s : Nat))))]) (fun W => [.row (.slice (some ⟨g, 0, none⟩) n cap) 38 9 ((X ++ W ++ C ++ D ++ Y).flatMap xc)]) ?_ ?_
          · skip
            refine SC.seq ?_
            refine SC.region ?_
            refine SL.val (OpV.move rfl) rfl ?_
            refine SL.val (OpV.move rfl) rfl ?_
            refine SL.val (OpV.lss rfl rfl) rfl ?_
            refine SL.val (OpV.move rfl) rfl ?_
            refine SL.andcut 4 (c := 195) (d := 199) rfl (fun h195 => ?_) ?_
            · skip
              refine SL.skip rfl rfl ?_
              refine SL.skip rfl rfl ?_
              refine SL.skip rfl rfl ?_
              refine SL.val (OpV.pickF rfl rfl) rfl ?_
              exact SL.nil ⟨rfl, rfl, (by repeat first | exact Env.le_refl _ | refine Env.le_new rfl ?_), [], List.Perm.refl _⟩
            apply Exists.intro
            refine And.intro (fun h195 => ?_) ?_
            · skip
              refine SL.gval rfl (OpV.move rfl) rfl ?_
              refine SL.gval rfl (OpV.move rfl) rfl ?_
              refine SL.gval rfl (OpV.lss rfl rfl) rfl ?_
              refine SL.val (OpV.pickT rfl rfl) rfl ?_
              exact SL.nil ⟨rfl, rfl, (by repeat first | exact Env.le_refl _ | refine Env.le_new rfl ?_), [], List.Perm.refl _⟩
            refine SL.nil ?_
            refine seqQ.nm ?_
            first | refine SC.ifp rfl (fun h199 => ?_) (fun h199 => ?_) | refine SC.ite rfl (fun h199 => ?_) (fun h199 => ?_)
            · skip
              simp only [Bool.and_eq_true, decide_eq_true_eq] at h199
              refine SC.region ?_
              refine SL.val (OpV.move rfl) rfl ?_
              refine SL.val (OpV.move rfl) rfl ?_
              refine SL.val (OpV.move rfl) rfl ?_
              refine SL.val (OpV.move rfl) rfl ?_
              refine SL.val (OpV.move rfl) rfl ?_
              refine SL.call ok80 rfl (L1 := [.row (.slice (some ⟨g, 0, none⟩) n cap) 38 9 ((X ++ A ++ B ++ (C ++ D ++ Y)).flatMap xc)]) (List.Perm.refl _) (ih X A B (C ++ D ++ Y) _ _ _ M (by omega) (by omega) (by omega) (by omega) (by omega) (by omega) (by simp; omega) hsA hsB (fun x hx y hy => hcr2 x (by simp [hx]) y (by simp [hy])) (fun x hx => hok2 x (by rcases List.mem_append.1 hx with k | k <;> simp [k]))) rfl ?_
              rintro _ _ _ hM205 ⟨W, rfl, hWp, hWs, rfl⟩
              refine SL.nil ?_
              first
              | exact joinQ.nm (A ++ B) ⟨rfl, rfl, rfl, rfl, rfl, trivial⟩ (List.Perm.of_eq (by simp)) ⟨List.Perm.refl _, by rcases hz with rfl | rfl <;> simpa, rfl⟩
              | exact joinQ.nm W ⟨rfl, rfl, rfl, rfl, rfl, trivial⟩ (List.Perm.of_eq (by simp)) ⟨hWp, hWs, rfl⟩
            · skip
              have hz : A = [] ∨ B = [] := by
                simp only [Bool.and_eq_false_iff, decide_eq_false_iff_not] at h199
                rcases h199 with k | k
                · exact .inl (List.eq_nil_of_length_eq_zero (by omega))
                · exact .inr (List.eq_nil_of_length_eq_zero (by omega))
              refine SC.skip ?_
              first
              | exact joinQ.nm (A ++ B) ⟨rfl, rfl, rfl, rfl, rfl, trivial⟩ (List.Perm.of_eq (by simp)) ⟨List.Perm.refl _, by rcases hz with rfl | rfl <;> simpa, rfl⟩
              | exact joinQ.nm W ⟨rfl, rfl, rfl, rfl, rfl, trivial⟩ (List.Perm.of_eq (by simp)) ⟨hWp, hWs, rfl⟩
          rintro W _ _ ⟨hWp, hWs, rfl⟩
          have hWl : W.length = h := by rw [hWp.length_eq, List.length_append]; omega
          have hrow3 : X ++ W ++ C ++ D ++ Y = (X ++ W) ++ C ++ D ++ Y := by simp
          have hfin : ∀ Z : List Xb, Z.Perm (C ++ D) → Z.Pairwise plt → (W ++ Z).Perm (U ++ V) ∧ (W ++ Z).Pairwise plt := by
            intro Z hZp hZs
            constructor
            · rw [hUe, hVe]
              refine (hWp.append hZp).trans ?_
              rw [List.append_assoc, List.append_assoc]
              refine List.Perm.append_left A ?_
              rw [← List.append_assoc, ← List.append_assoc]
              exact List.perm_append_comm.append_right D
            · rw [List.pairwise_append]
              refine ⟨hWs, hZs, ?_⟩
              intro x hx y hy
              rcases List.mem_append.1 (hWp.mem_iff.1 hx) with k | k <;> rcases List.mem_append.1 (hZp.mem_iff.1 hy) with j | j
              · exact hAC x k y j
              · exact hAD x k y j
              · exact hBC x k y j
              · exact hBD x k y j
          refine SC.seq ?_
          refine SC.region ?_
          refine SL.val (OpV.move rfl) rfl ?_
          refine SL.val (OpV.move rfl) rfl ?_
          refine SL.val (OpV.lss rfl rfl) rfl ?_
          refine SL.val (OpV.move rfl) rfl ?_
          refine SL.andcut 4 (c := 209) (d := 213) rfl (fun h209 => ?_) ?_
          · skip
            refine SL.skip rfl rfl ?_
            refine SL.skip rfl rfl ?_
            refine SL.skip rfl rfl ?_
            refine SL.val (OpV.pickF rfl rfl) rfl ?_
            exact SL.nil ⟨rfl, rfl, (by repeat first | exact Env.le_refl _ | refine Env.le_new rfl ?_), [], List.Perm.refl _⟩
          apply Exists.intro
          refine And.intro (fun h209 => ?_) ?_
          · skip
            refine SL.gval rfl (OpV.move rfl) rfl ?_
            refine SL.gval rfl (OpV.move rfl) rfl ?_
            refine SL.gval rfl (OpV.lss rfl rfl) rfl ?_
            refine SL.val (OpV.pickT rfl rfl) rfl ?_
            exact SL.nil ⟨rfl, rfl, (by repeat first | exact Env.le_refl _ | refine Env.le_new rfl ?_), [], List.Perm.refl _⟩
          refine SL.nil ?_
          refine seqQ.nm ?_
          first | refine SC.ifp rfl (fun h213 => ?_) (fun h213 => ?_) | refine SC.ite rfl (fun h213 => ?_) (fun h213 => ?_)
          · skip
            simp only [Bool.and_eq_true, decide_eq_true_eq] at h213
            refine SC.region ?_
            refine SL.val (OpV.move rfl) rfl ?_
            refine SL.val (OpV.move rfl) rfl ?_
            refine SL.val (OpV.move rfl) rfl ?_
            refine SL.val (OpV.move rfl) rfl ?_
            refine SL.val (OpV.move rfl) rfl ?_
            refine SL.call ok80 rfl (L1 := [.row (.slice (some ⟨g, 0, none⟩) n cap) 38 9 (((X ++ W) ++ C ++ D ++ Y).flatMap xc)]) (List.Perm.refl _) (ih (X ++ W) C D Y _ _ _ M (by simp; omega) (by simp; omega) (by simp; omega) (by omega) (by omega) (by omega) (by simp; omega) hsC hsD (fun x hx y hy => hcr2 x (by simp [hx]) y (by simp [hy])) (fun x hx => hok2 x (by rcases List.mem_append.1 hx with k | k <;> simp [k]))) rfl ?_
            rintro _ _ _ hM219 ⟨Z, rfl, hZp, hZs, rfl⟩
            refine SL.nil ?_
            refine retQ.none rfl  ?_ _ (.inl rfl)
            first
            | exact ⟨W ++ (C ++ D), by simp, (hfin (C ++ D) (List.Perm.refl _) (by rcases hz with rfl | rfl <;> simpa)).1, (hfin (C ++ D) (List.Perm.refl _) (by rcases hz with rfl | rfl <;> simpa)).2, rfl⟩
            | exact ⟨W ++ Z, by simp, (hfin Z hZp hZs).1, (hfin Z hZp hZs).2, rfl⟩
          · skip
            have hz : C = [] ∨ D = [] := by
              simp only [Bool.and_eq_false_iff, decide_eq_false_iff_not] at h213
              rcases h213 with k | k
              · exact .inl (List.eq_nil_of_length_eq_zero (by omega))
              · exact .inr (List.eq_nil_of_length_eq_zero (by omega))
            refine SC.skip ?_
            refine retQ.none rfl  ?_ _ (.inl rfl)
            first
            | exact ⟨W ++ (C ++ D), by simp, (hfin (C ++ D) (List.Perm.refl _) (by rcases hz with rfl | rfl <;> simpa)).1, (hfin (C ++ D) (List.Perm.refl _) (by rcases hz with rfl | rfl <;> simpa)).2, rfl⟩
            | exact ⟨W ++ Z, by simp, (hfin Z hZp hZs).1, (hfin Z hZp hZs).2, rfl⟩
end Go.Proofs.YtceabkfmjffnhaaGreatDoor
set_option linter.unusedVariables false
set_option linter.unusedSimpArgs false
namespace Go.Proofs.YtceabkfmjffnhaaGreatDoor
open Go Go.Eng

theorem split3 {α : Type} {d : List α} {a b : Nat} (h : a + b ≤ d.length) : ∃ X S Y, d = X ++ S ++ Y ∧ X.length = a ∧ S.length = b := by
  refine ⟨d.take a, (d.drop a).take b, (d.drop a).drop b, by rw [List.append_assoc, List.take_append_drop, List.take_append_drop], by simp; omega, by simp; omega⟩
theorem stab_cross {X U V Y : List Xb} (h : (X ++ U ++ V ++ Y).Pairwise stab) : ∀ u ∈ U, ∀ v ∈ V, stab u v := by
  intro u hu v hv
  have h1 := (List.pairwise_append.1 (List.pairwise_append.1 h).1).2.2
  exact h1 u (List.mem_append_right _ hu) v hv
theorem stable_ev (g n cap : Nat) (o : List Xb) (M : Mem) (hn : o.length = n) (hst : o.Pairwise stab) (hok : ∀ x ∈ o, x.1.ok M) (hb : n ≤ big) :
    Ev Tryz.prog 70 [.slice (some ⟨g, 0, none⟩) n cap, .int .i64 n, .func (.func 52) #[] #[]].toArray [.row (.slice (some ⟨g, 0, none⟩) n cap) 38 9 ((o).flatMap xc)] M fun v' L' M' => ∃ d : List Xb, L' = [.row (.slice (some ⟨g, 0, none⟩) n cap) 38 9 ((d).flatMap xc)] ∧ d.Perm o ∧ d.Pairwise plt ∧ M = M' := by
  have hb' : n ≤ 268435456 := hb
  refine Ev.enter Tryz.func70 rfl Tryz.ntmps70 rfl ?_
  refine SC.seq ?_
  refine SC.region ?_
  refine SL.val (OpV.assign rfl) rfl ?_
  refine SL.nil ?_
  refine seqQ.nm ?_
  refine SC.seq ?_
  refine SC.region ?_
  refine SL.val (OpV.move rfl) rfl ?_
  refine SL.val (OpV.assign rfl) rfl ?_
  refine SL.val (OpV.assign rfl) rfl ?_
  refine SL.nil ?_
  refine seqQ.nm ?_
  refine SC.seq ?_
  refine SC.block ?_
  refine SC.loop (ι := Nat × Nat × List Xb) (fun x M' => x.2.1 = x.1 * 20 ∧ x.2.1 ≤ n ∧ HeadS 20 x.1 x.2.2 ∧ x.2.2.length = n ∧ x.2.2.Perm o ∧ x.2.2.Pairwise stab ∧ M = M') (fun x => [(0, .slice (some ⟨g, 0, none⟩) n cap), (1, .int .i64 n), (2, .func (.func 52) #[] #[]), (6, .int .i64 20), (7, .int .i64 (x.2.1 : Nat)), (8, .int .i64 ((x.2.1 : Nat) + 20))]) (fun x => [.row (.slice (some ⟨g, 0, none⟩) n cap) 38 9 ((x.2.2).flatMap xc)]) (fun x => n + 20 - x.2.1) (0, 0, o) (G := []) ⟨rfl, rfl, rfl, rfl, rfl, rfl, trivial⟩ (List.Perm.refl _) ⟨rfl, Nat.zero_le _, (fun k hk => absurd hk (Nat.not_lt_zero k)), hn, List.Perm.refl _, hst, rfl⟩ ?_
  rintro ⟨j, a, d⟩ _ _ ⟨haj, han, hhd, hdl, hdp, hds, rfl⟩
  dsimp only at haj han hhd hdl hdp hds ⊢
  refine SC.seq ?_
  refine SC.seq ?_
  refine SC.region ?_
  refine SL.val (OpV.move rfl) rfl ?_
  refine SL.val (OpV.move rfl) rfl ?_
  refine SL.val (OpV.leq rfl rfl) rfl ?_
  refine SL.nil ?_
  refine seqQ.nm ?_
  first | refine SC.ifp rfl (fun h13 => ?_) (fun h13 => ?_) | refine SC.ite rfl (fun h13 => ?_) (fun h13 => ?_)
  · skip
    obtain ⟨X, S, Y, rfl, hXl, hSl⟩ := split3 (d := d) (a := a) (b := 20) (by omega)
    have hll : (X ++ S ++ Y).length = X.length + S.length + Y.length := by simp; omega
    have hSs : S.Pairwise stab := (List.pairwise_append.1 (List.pairwise_append.1 hds).1).2.1
    refine SC.skip ?_
    refine seqQ.nm ?_
    refine SC.block ?_
    refine SC.seq ?_
    refine SC.region ?_
    refine SL.val (OpV.move rfl) rfl ?_
    refine SL.val (OpV.move rfl) rfl ?_
    refine SL.val (OpV.move rfl) rfl ?_
    refine SL.val (OpV.move rfl) rfl ?_
    refine SL.call ok79 rfl (L1 := [.row (.slice (some ⟨g, 0, none⟩) n cap) 38 9 ((X ++ S ++ Y).flatMap xc)]) (List.Perm.refl _) (ins_at g n cap X S Y _ _ M (by omega) (by omega) (by omega) hSs (fun x hx => hok x (hdp.mem_iff.1 (by simp [hx]))) hb) rfl ?_
    rintro _ _ _ hM18 ⟨S', rfl, hSp, hSs', rfl⟩
    refine SL.nil ?_
    refine seqQ.nm ?_
    refine SC.seq ?_
    refine SC.region ?_
    refine SL.val (OpV.move rfl) rfl ?_
    refine SL.val (OpV.assign rfl) rfl ?_
    refine SL.nil ?_
    refine seqQ.nm ?_
    refine SC.region ?_
    refine SL.val (OpV.move rfl) rfl ?_
    refine SL.val (OpV.move rfl) rfl ?_
    refine SL.val (OpV.add rfl rfl (IntWalk.i64_in _ (by omega))) rfl ?_
    refine SL.val (OpV.assign rfl) rfl ?_
    refine SL.nil ?_
    refine blockQ.nm ?_
    have hSl' : S'.length = 20 := by rw [hSp.length_eq]; exact hSl
    refine loopQ.nm (j + 1, a + 20, X ++ S' ++ Y) (by dsimp only; omega) ⟨rfl, rfl, rfl, rfl, by show some _ = some _; congr 2 <;> (try dsimp only) <;> omega, by show some _ = some _; congr 2 <;> (try dsimp only) <;> omega, trivial⟩ (List.Perm.refl _) ⟨by dsimp only; omega, by dsimp only; omega, ?_, by simp only [List.length_append] at hdl ⊢; omega, perm_mid hdp hSp, stab_mid hds hSp hSs', rfl⟩
    dsimp only
    rw [List.append_assoc] at hhd ⊢
    exact (hhd.left (by omega)).snoc (by omega) (.inl hSl') hSs'
  · skip
    obtain ⟨X, S, Y, rfl, hXl, hSl⟩ := split3 (d := d) (a := a) (b := n - a) (by omega)
    have hYn : Y = [] := by
      simp only [List.length_append] at hdl
      exact List.eq_nil_of_length_eq_zero (by omega)
    subst hYn
    have hSs : S.Pairwise stab := (List.pairwise_append.1 (List.pairwise_append.1 hds).1).2.1
    refine SC.exit ?_
    refine seqQ.e ?_
    refine loopQ.e ?_
    refine blockQ.e ?_
    refine seqQ.nm ?_
    refine SC.seq ?_
    refine SC.region ?_
    refine SL.val (OpV.move rfl) rfl ?_
    refine SL.val (OpV.move rfl) rfl ?_
    refine SL.val (OpV.move rfl) rfl ?_
    refine SL.val (OpV.move rfl) rfl ?_
    refine SL.call ok79 rfl (L1 := [.row (.slice (some ⟨g, 0, none⟩) n cap) 38 9 ((X ++ S ++ []).flatMap xc)]) (List.Perm.refl _) (ins_at g n cap X S [] _ _ M (by omega) (by omega) (by simp; omega) hSs (fun x hx => hok x (hdp.mem_iff.1 (by simp [hx]))) hb) rfl ?_
    rintro _ _ _ hM27 ⟨S', rfl, hSp, hSs', rfl⟩
    refine SL.nil ?_
    refine seqQ.nm ?_
    refine SC.block ?_
    have hSl' : S'.length = n - a := by rw [hSp.length_eq]; exact hSl
    have hblk : BlkS 20 (X ++ S' ++ []) := by
      refine HeadS.all (j := j + 1) ?_ (by simp; omega)
      rw [List.append_assoc] at hhd ⊢
      exact (hhd.left (by omega)).snoc (by omega) (.inr ⟨rfl, by omega⟩) hSs'
    replace hdl : (X ++ S' ++ []).length = n := by simp only [List.length_append] at hdl ⊢; omega
    replace hds := stab_mid hds hSp hSs'
    replace hdp := perm_mid hdp hSp
    generalize X ++ S' ++ [] = d at *
    refine SC.loop (ι := Nat × List Xb) (fun x M' => 20 ≤ x.1 ∧ x.1 ≤ 20 + 2 * n ∧ BlkS x.1 x.2 ∧ x.2.length = n ∧ x.2.Perm o ∧ x.2.Pairwise stab ∧ M = M') (fun x => [(0, .slice (some ⟨g, 0, none⟩) n cap), (1, .int .i64 n), (2, .func (.func 52) #[] #[]), (6, .int .i64 (x.1 : Nat))]) (fun x => [.row (.slice (some ⟨g, 0, none⟩) n cap) 38 9 ((x.2).flatMap xc)]) (fun x => n - x.1) (20, d) (G := []) ⟨rfl, rfl, rfl, rfl, trivial⟩ (List.Perm.refl _) ⟨Nat.le_refl _, by dsimp only; omega, hblk, hdl, hdp, hds, rfl⟩ ?_
    clear hblk hdl hds hdp hhd
    rintro ⟨s, d⟩ _ _ ⟨hs1, hs2, hblk, hdl, hdp, hds, rfl⟩
    dsimp only at hs1 hs2 hblk hdl hdp hds ⊢
    refine SC.seq ?_
    refine SC.seq ?_
    refine SC.region ?_
    refine SL.val (OpV.move rfl) rfl ?_
    refine SL.val (OpV.move rfl) rfl ?_
    refine SL.val (OpV.lss rfl rfl) rfl ?_
    refine SL.nil ?_
    refine seqQ.nm ?_
    first | refine SC.ifp rfl (fun h30 => ?_) (fun h30 => ?_) | refine SC.ite rfl (fun h30 => ?_) (fun h30 => ?_)
    · skip
      refine SC.skip ?_
      refine seqQ.nm ?_
      refine SC.block ?_
      refine SC.seq ?_
      refine SC.region ?_
      refine SL.val (OpV.move rfl) rfl ?_
      refine SL.val (OpV.mul rfl rfl (IntWalk.i64_in _ (by omega))) rfl ?_
      refine SL.val (OpV.assign rfl) rfl ?_
      refine SL.val (OpV.assign rfl) rfl ?_
      refine SL.nil ?_
      refine seqQ.nm ?_
      refine SC.seq ?_
      refine SC.block ?_
      refine SC.loop (ι := Nat × Nat × List Xb) (fun x M' => x.2.1 = x.1 * (2 * s) ∧ x.2.1 ≤ n ∧ HeadS (2 * s) x.1 x.2.2 ∧ BlkS s (x.2.2.drop x.2.1) ∧ x.2.2.length = n ∧ x.2.2.Perm o ∧ x.2.2.Pairwise stab ∧ M = M') (fun x => [(0, .slice (some ⟨g, 0, none⟩) n cap), (1, .int .i64 n), (2, .func (.func 52) #[] #[]), (6, .int .i64 (s : Nat)), (7, .int .i64 (x.2.1 : Nat)), (8, .int .i64 ((x.2.1 : Nat) + 2 * (s : Nat)))]) (fun x => [.row (.slice (some ⟨g, 0, none⟩) n cap) 38 9 ((x.2.2).flatMap xc)]) (fun x => n + 2 * s - x.2.1) (0, 0, d) (G := []) ⟨rfl, rfl, rfl, rfl, rfl, by show some _ = some _; congr 2 <;> (try dsimp only) <;> omega, trivial⟩ (List.Perm.refl _) ⟨by dsimp only; rw [Nat.zero_mul], Nat.zero_le _, (fun k hk => absurd hk (Nat.not_lt_zero k)), by dsimp only; rw [List.drop_zero]; exact hblk, hdl, hdp, hds, rfl⟩ ?_
      clear hblk hdl hds hdp
      rintro ⟨j, a, d⟩ _ _ ⟨haj, han, hhd, hblk, hdl, hdp, hds, rfl⟩
      dsimp only at haj han hhd hblk hdl hdp hds ⊢
      refine SC.seq ?_
      refine SC.seq ?_
      refine SC.region ?_
      refine SL.val (OpV.move rfl) rfl ?_
      refine SL.val (OpV.move rfl) rfl ?_
      refine SL.val (OpV.leq rfl rfl) rfl ?_
      refine SL.nil ?_
      refine seqQ.nm ?_
      first | refine SC.ifp rfl (fun h35 => ?_) (fun h35 => ?_) | refine SC.ite rfl (fun h35 => ?_) (fun h35 => ?_)
      · skip
        obtain ⟨X, S, Y, rfl, hXl, hSl⟩ := split3 (d := d) (a := a) (b := 2 * s) (by omega)
        obtain ⟨U, V, rfl, hUl, hVl⟩ : ∃ U V, S = U ++ V ∧ U.length = s ∧ V.length = s := ⟨S.take s, S.drop s, (List.take_append_drop _ _).symm, by simp; omega, by simp; omega⟩
        have hre : X ++ (U ++ V) ++ Y = X ++ U ++ V ++ Y := by simp
        have hll := hdl
        simp only [List.length_append] at hll
        have hb0 : BlkS s (U ++ (V ++ Y)) := by
          rw [← hXl, List.append_assoc, List.drop_left, List.append_assoc] at hblk
          exact hblk
        have hUs : U.Pairwise plt := by
          have := hb0 0
          rwa [Nat.zero_mul, List.drop_zero, ← hUl, List.take_left] at this
        have hb1 : BlkS s (V ++ Y) := hb0.behind (j := 1) (by omega)
        have hVs : V.Pairwise plt := by
          have := hb1 0
          rwa [Nat.zero_mul, List.drop_zero, ← hVl, List.take_left] at this
        have hb2 : BlkS s Y := hb1.behind (j := 1) (by omega)
        rw [hre]
        refine SC.skip ?_
        refine seqQ.nm ?_
        refine SC.block ?_
        refine SC.seq ?_
        refine SC.region ?_
        refine SL.val (OpV.move rfl) rfl ?_
        refine SL.val (OpV.move rfl) rfl ?_
        refine SL.val (OpV.move rfl) rfl ?_
        refine SL.val (OpV.move rfl) rfl ?_
        refine SL.val (OpV.add rfl rfl (IntWalk.i64_in _ (by omega))) rfl ?_
        refine SL.val (OpV.move rfl) rfl ?_
        refine SL.val (OpV.move rfl) rfl ?_
        refine SL.call ok80 rfl (L1 := [.row (.slice (some ⟨g, 0, none⟩) n cap) 38 9 ((X ++ U ++ V ++ Y).flatMap xc)]) (List.Perm.refl _) (sym_ev g n cap hb (U.length + V.length) X U V Y _ _ _ M (by omega) (by omega) (by omega) (by omega) (by omega) (Nat.le_refl _) (by omega) hUs hVs (stab_cross (by rw [← hre]; exact hds)) (fun x hx => hok x (hdp.mem_iff.1 (by rcases List.mem_append.1 hx with k | k <;> simp [k])))) rfl ?_
        rintro _ _ _ hM43 ⟨W, rfl, hWp, hWs, rfl⟩
        refine SL.nil ?_
        refine seqQ.nm ?_
        refine SC.seq ?_
        refine SC.region ?_
        refine SL.val (OpV.move rfl) rfl ?_
        refine SL.val (OpV.assign rfl) rfl ?_
        refine SL.nil ?_
        refine seqQ.nm ?_
        refine SC.region ?_
        refine SL.val (OpV.move rfl) rfl ?_
        refine SL.val (OpV.move rfl) rfl ?_
        refine SL.val (OpV.mul rfl rfl (IntWalk.i64_in _ (by omega))) rfl ?_
        refine SL.val (OpV.add rfl rfl (IntWalk.i64_in _ (by omega))) rfl ?_
        refine SL.val (OpV.assign rfl) rfl ?_
        refine SL.nil ?_
        refine blockQ.nm ?_
        have hWl : W.length = 2 * s := by rw [hWp.length_eq]; simp; omega
        refine loopQ.nm (j + 1, a + 2 * s, X ++ W ++ Y) (by dsimp only; omega) ⟨rfl, rfl, rfl, rfl, by show some _ = some _; congr 2 <;> (try dsimp only) <;> omega, by show some _ = some _; congr 2 <;> (try dsimp only) <;> omega, trivial⟩ (List.Perm.refl _) ⟨by dsimp only; rw [haj, Nat.add_mul j 1 (2 * s), Nat.one_mul], by dsimp only; omega, ?_, ?_, by simp only [List.length_append]; omega, perm_mid hdp hWp, stab_mid hds hWp hWs, rfl⟩
        · dsimp only
          rw [List.append_assoc] at hhd ⊢
          exact (hhd.left (by omega)).snoc (by omega) (.inl hWl) hWs
        · dsimp only
          have e : a + 2 * s = (X ++ W).length := by simp; omega
          rw [e, List.drop_left]
          exact hb2
      · skip
        obtain ⟨X, S, Y, rfl, hXl, hSl⟩ := split3 (d := d) (a := a) (b := n - a) (by omega)
        have hYn : Y = [] := by
          simp only [List.length_append] at hdl
          exact List.eq_nil_of_length_eq_zero (by omega)
        subst hYn
        have hb0 : BlkS s S := by
          rw [← hXl, List.append_assoc, List.drop_left, List.append_nil] at hblk
          exact hblk
        refine SC.exit ?_
        refine seqQ.e ?_
        refine loopQ.e ?_
        refine blockQ.e ?_
        refine seqQ.nm ?_
        refine SC.seq ?_
        refine SC.seq ?_
        refine SC.region ?_
        refine SL.val (OpV.move rfl) rfl ?_
        refine SL.val (OpV.move rfl) rfl ?_
        refine SL.val (OpV.add rfl rfl (IntWalk.i64_in _ (by omega))) rfl ?_
        refine SL.val (OpV.assign rfl) rfl ?_
        refine SL.nil ?_
        refine seqQ.nm ?_
        refine SC.seq ?_
        refine SC.region ?_
        refine SL.val (OpV.move rfl) rfl ?_
        refine SL.val (OpV.move rfl) rfl ?_
        refine SL.val (OpV.lss rfl rfl) rfl ?_
        refine SL.nil ?_
        refine seqQ.nm ?_
        first | refine SC.ifp rfl (fun h54 => ?_) (fun h54 => ?_) | refine SC.ite rfl (fun h54 => ?_) (fun h54 => ?_)
        · skip
          obtain ⟨U, V, rfl, hUl, hVl⟩ : ∃ U V, S = U ++ V ∧ U.length = s ∧ V.length = n - a - s := ⟨S.take s, S.drop s, (List.take_append_drop _ _).symm, by simp; omega, by simp; omega⟩
          have hre : X ++ (U ++ V) ++ [] = X ++ U ++ V ++ [] := by simp
          have hUs : U.Pairwise plt := by
            have := hb0 0
            rwa [Nat.zero_mul, List.drop_zero, ← hUl, List.take_left] at this
          have hb1 : BlkS s V := hb0.behind (j := 1) (by omega)
          have hVs : V.Pairwise plt := hb1.one (by omega)
          rw [hre]
          refine SC.region ?_
          refine SL.val (OpV.move rfl) rfl ?_
          refine SL.val (OpV.move rfl) rfl ?_
          refine SL.val (OpV.move rfl) rfl ?_
          refine SL.val (OpV.move rfl) rfl ?_
          refine SL.val (OpV.move rfl) rfl ?_
          refine SL.call ok80 rfl (L1 := [.row (.slice (some ⟨g, 0, none⟩) n cap) 38 9 ((X ++ U ++ V ++ []).flatMap xc)]) (List.Perm.refl _) (sym_ev g n cap hb (U.length + V.length) X U V [] _ _ _ M (by omega) (by omega) (by omega) (by omega) (by omega) (Nat.le_refl _) (by simp; omega) hUs hVs (stab_cross (by rw [← hre]; exact hds)) (fun x hx => hok x (hdp.mem_iff.1 (by rcases List.mem_append.1 hx with k | k <;> simp [k])))) rfl ?_
          rintro _ _ _ hM60 ⟨W, rfl, hWp, hWs, rfl⟩
          have hWl : W.length = n - a := by rw [hWp.length_eq]; simp; omega
          replace hdp := perm_mid hdp hWp
          replace hds := stab_mid hds hWp hWs
          refine SL.nil ?_
          refine seqQ.nm ?_
          refine SC.region ?_
          refine SL.val (OpV.move rfl) rfl ?_
          refine SL.val (OpV.mul rfl rfl (IntWalk.i64_in _ (by omega))) rfl ?_
          refine SL.val (OpV.assign rfl) rfl ?_
          refine SL.nil ?_
          refine blockQ.nm ?_
          first
            | exact loopQ.nm (2 * s, X ++ W ++ []) (by dsimp only; omega) ⟨rfl, rfl, rfl, by show some _ = some _; congr 2 <;> (try dsimp only) <;> omega, trivial⟩ (List.Perm.refl _) ⟨by dsimp only; omega, by dsimp only; omega, HeadS.all (j := j + 1) (by dsimp only; rw [List.append_assoc] at hhd ⊢; exact (hhd.left (by omega)).snoc (by omega) (.inr ⟨rfl, by omega⟩) hWs) (by simp; rw [Nat.succ_mul]; omega), by simp; omega, hdp, hds, rfl⟩
            | exact loopQ.nm (2 * s, X ++ S ++ []) (by dsimp only; omega) ⟨rfl, rfl, rfl, by show some _ = some _; congr 2 <;> (try dsimp only) <;> omega, trivial⟩ (List.Perm.refl _) ⟨by dsimp only; omega, by dsimp only; omega, HeadS.all (j := j + 1) (by dsimp only; rw [List.append_assoc] at hhd ⊢; exact (hhd.left (by omega)).snoc (by omega) (.inr ⟨rfl, by omega⟩) hWs) (by simp; rw [Nat.succ_mul]; omega), by simp; omega, hdp, hds, rfl⟩
        · skip
          have hWs : S.Pairwise plt := hb0.one (by omega)
          refine SC.skip ?_
          refine seqQ.nm ?_
          refine SC.region ?_
          refine SL.val (OpV.move rfl) rfl ?_
          refine SL.val (OpV.mul rfl rfl (IntWalk.i64_in _ (by omega))) rfl ?_
          refine SL.val (OpV.assign rfl) rfl ?_
          refine SL.nil ?_
          refine blockQ.nm ?_
          first
            | exact loopQ.nm (2 * s, X ++ W ++ []) (by dsimp only; omega) ⟨rfl, rfl, rfl, by show some _ = some _; congr 2 <;> (try dsimp only) <;> omega, trivial⟩ (List.Perm.refl _) ⟨by dsimp only; omega, by dsimp only; omega, HeadS.all (j := j + 1) (by dsimp only; rw [List.append_assoc] at hhd ⊢; exact (hhd.left (by omega)).snoc (by omega) (.inr ⟨rfl, by omega⟩) hWs) (by simp; rw [Nat.succ_mul]; omega), by simp; omega, hdp, hds, rfl⟩
            | exact loopQ.nm (2 * s, X ++ S ++ []) (by dsimp only; omega) ⟨rfl, rfl, rfl, by show some _ = some _; congr 2 <;> (try dsimp only) <;> omega, trivial⟩ (List.Perm.refl _) ⟨by dsimp only; omega, by dsimp only; omega, HeadS.all (j := j + 1) (by dsimp only; rw [List.append_assoc] at hhd ⊢; exact (hhd.left (by omega)).snoc (by omega) (.inr ⟨rfl, by omega⟩) hWs) (by simp; rw [Nat.succ_mul]; omega), by simp; omega, hdp, hds, rfl⟩
    · skip
      refine SC.exit ?_
      refine seqQ.e ?_
      refine loopQ.e ?_
      refine blockQ.e ?_
      refine retQ.none rfl  ?_ _ (.inl rfl)
      exact ⟨d, rfl, hdp, hblk.one (by omega), rfl⟩
theorem ins0_ev (v f : Value) (M : Mem) (LL : List Res) :
    Ev Tryz.prog 79 [v, .int .i64 0, .int .i64 0, f].toArray LL M fun v' L' M' => LL = L' ∧ M = M' := by
  refine Ev.enter Tryz.func79 rfl Tryz.ntmps79 rfl ?_
  refine SC.seq ?_
  refine SC.region ?_
  refine SL.val (OpV.move rfl) rfl ?_
  refine SL.val (OpV.add rfl rfl (IntWalk.i64_in _ (by omega))) rfl ?_
  refine SL.val (OpV.assign rfl) rfl ?_
  refine SL.nil ?_
  refine seqQ.nm ?_
  refine SC.block ?_
  refine SC.loop (ι := Unit) (fun _ M' => M = M') (fun _ => [(2, .int .i64 0), (8, .int .i64 1)]) (fun _ => LL) (fun _ => 0) () (G := []) ⟨rfl, rfl, trivial⟩ (List.Perm.refl _) rfl ?_
  rintro _ _ _ rfl
  refine SC.seq ?_
  refine SC.seq ?_
  refine SC.region ?_
  refine SL.val (OpV.move rfl) rfl ?_
  refine SL.val (OpV.move rfl) rfl ?_
  refine SL.val (OpV.lss rfl rfl) rfl ?_
  refine SL.nil ?_
  refine seqQ.nm ?_
  first | refine SC.ifp rfl (fun h14 => ?_) (fun h14 => ?_) | refine SC.ite rfl (fun h14 => ?_) (fun h14 => ?_)
  · skip
    exact absurd h14 (by decide) --done
  · skip
    refine SC.exit ?_
    refine seqQ.e ?_
    refine loopQ.e ?_
    refine blockQ.e ?_
    refine retQ.none rfl  ?_ _ (.inl rfl)
    exact ⟨rfl, rfl⟩
theorem stable0_ev (v f : Value) (M : Mem) (LL : List Res) :
    Ev Tryz.prog 70 [v, .int .i64 0, f].toArray LL M fun v' L' M' => LL = L' ∧ M = M' := by
  refine Ev.enter Tryz.func70 rfl Tryz.ntmps70 rfl ?_
  refine SC.seq ?_
  refine SC.region ?_
  refine SL.val (OpV.assign rfl) rfl ?_
  refine SL.nil ?_
  refine seqQ.nm ?_
  refine SC.seq ?_
  refine SC.region ?_
  refine SL.val (OpV.move rfl) rfl ?_
  refine SL.val (OpV.assign rfl) rfl ?_
  refine SL.val (OpV.assign rfl) rfl ?_
  refine SL.nil ?_
  refine seqQ.nm ?_
  refine SC.seq ?_
  refine SC.block ?_
  refine SC.loop (ι := Unit) (fun _ M' => M = M') (fun _ => [(0, v), (1, .int .i64 0), (2, f), (6, .int .i64 20), (7, .int .i64 0), (8, .int .i64 20)]) (fun _ => LL) (fun _ => 0) () (G := []) ⟨rfl, rfl, rfl, rfl, rfl, rfl, trivial⟩ (List.Perm.refl _) rfl ?_
  rintro _ _ _ rfl
  refine SC.seq ?_
  refine SC.seq ?_
  refine SC.region ?_
  refine SL.val (OpV.move rfl) rfl ?_
  refine SL.val (OpV.move rfl) rfl ?_
  refine SL.val (OpV.leq rfl rfl) rfl ?_
  refine SL.nil ?_
  refine seqQ.nm ?_
  first | refine SC.ifp rfl (fun h13 => ?_) (fun h13 => ?_) | refine SC.ite rfl (fun h13 => ?_) (fun h13 => ?_)
  · skip
    exact absurd h13 (by decide) --done
  · skip
    refine SC.exit ?_
    refine seqQ.e ?_
    refine loopQ.e ?_
    refine blockQ.e ?_
    refine seqQ.nm ?_
    refine SC.seq ?_
    refine SC.region ?_
    refine SL.val (OpV.move rfl) rfl ?_
    refine SL.val (OpV.move rfl) rfl ?_
    refine SL.val (OpV.move rfl) rfl ?_
    refine SL.val (OpV.move rfl) rfl ?_
    refine SL.call ok79 rfl (L1 := LL) (List.Perm.of_eq (List.append_nil LL).symm) (ins0_ev v f _ LL) rfl ?_
    rintro _ _ _ hM27 ⟨rfl, rfl⟩
    refine SL.nil ?_
    refine seqQ.nm ?_
    refine SC.block ?_
    refine SC.loop (ι := Unit) (fun _ M' => M = M') (fun _ => [(1, .int .i64 0), (6, .int .i64 20)]) (fun _ => LL) (fun _ => 0) () (G := []) ⟨rfl, rfl, trivial⟩ (List.Perm.of_eq (by simp)) rfl ?_
    rintro _ _ _ rfl
    refine SC.seq ?_
    refine SC.seq ?_
    refine SC.region ?_
    refine SL.val (OpV.move rfl) rfl ?_
    refine SL.val (OpV.move rfl) rfl ?_
    refine SL.val (OpV.lss rfl rfl) rfl ?_
    refine SL.nil ?_
    refine seqQ.nm ?_
    first | refine SC.ifp rfl (fun h30 => ?_) (fun h30 => ?_) | refine SC.ite rfl (fun h30 => ?_) (fun h30 => ?_)
    · skip
      exact absurd h30 (by decide) --done
    · skip
      refine SC.exit ?_
      refine seqQ.e ?_
      refine loopQ.e ?_
      refine blockQ.e ?_
      refine retQ.none rfl  ?_ _ (.inl rfl)
      exact ⟨rfl, rfl⟩
end Go.Proofs.YtceabkfmjffnhaaGreatDoor
set_option linter.unusedVariables false
set_option linter.unusedSimpArgs false
namespace Go.Proofs.YtceabkfmjffnhaaGreatDoor
open Go Go.Eng

theorem RSl.cons {L : List Res} {M : Mem} {v : Value} {sz m : Nat} {xs : List Value} (h : RSl L M v sz m xs) (r : Res) : RSl (r :: L) M v sz m xs := by
  obtain ⟨ad, cap, h1, h2, h3, h4, h5⟩ := h
  exact ⟨ad, cap, h1, h2, h3, h4, h5.imp id fun ⟨g, o, k1, k2⟩ => ⟨g, o, k1, k2.cons r⟩⟩
theorem sortS_ev (v : Value) (o : List Xb) (M : Mem) (hst : o.Pairwise stab) (hok : ∀ x ∈ o, x.1.ok M) (hb : o.length ≤ big) :
    Ev Tryz.prog 51 [v, .func (.func 52) #[] #[]].toArray [.row v 38 9 (o.flatMap xc)] M fun v' L' M' => ∃ d : List Xb, L' = [.row v 38 9 (d.flatMap xc)] ∧ d.Perm o ∧ d.Pairwise plt ∧ M = M' := by
  refine Ev.rowV 0 rfl fun hrv => ?_
  obtain ⟨ad, n, cap, rfl, hl, h3, h4, h5⟩ := hrv
  have hn : o.length = n := by rw [xcs_len] at hl; omega
  have hs : Ev Tryz.prog 70 [.slice ad n cap, .int .i64 n, .func (.func 52) #[] #[]].toArray [.row (.slice ad n cap) 38 9 (o.flatMap xc)] M fun v' L' M' => ∃ d : List Xb, L' = [.row (.slice ad n cap) 38 9 (d.flatMap xc)] ∧ d.Perm o ∧ d.Pairwise plt ∧ M = M' := by
    rcases h5 with ⟨rfl, rfl, rfl⟩ | ⟨g, rfl⟩
    · have ho : o = [] := List.eq_nil_of_length_eq_zero hn
      subst ho
      exact (stable0_ev _ _ M _).mono fun v' L' M' _ ⟨h1, h2⟩ => ⟨[], h1.symm, List.Perm.refl _, List.Pairwise.nil, h2⟩
    · exact stable_ev g n cap o M hn hst hok (by omega)
  refine Ev.enter Tryz.func51 rfl Tryz.ntmps51 rfl ?_
  refine SC.region ?_
  refine SL.val (OpV.move rfl) rfl ?_
  refine SL.val (OpV.move rfl) rfl ?_
  refine SL.val (OpV.llen Tryz.underlying25 rfl) rfl ?_
  refine SL.val (OpV.move rfl) rfl ?_
  refine SL.call ok70 rfl (L1 := [.row (.slice ad n cap) 38 9 (o.flatMap xc)]) (List.Perm.refl _) hs rfl ?_
  rintro _ _ _ hM8 ⟨d, rfl, hd1, hd2, rfl⟩
  refine SL.nil ?_
  refine retQ.none rfl  ?_ _ (.inl rfl)
  exact ⟨d, rfl, hd1, hd2, rfl⟩
theorem clone_ev (v : Value) (ms : List Mb) (LL : List Res) (M : Mem) (hv : RSlM LL M v ms) (hok : ∀ m ∈ ms, m.ok M) (hl : ms.length ≤ 16777216) :
    Ev Tryz.prog 12 [v].toArray LL M fun v' L' M' => L' = .row v' 38 9 (ms.flatMap Mb.cells) :: LL ∧ M = M' := by
  have hsrc := fun r => (RSl.cons hv r).src
  obtain ⟨ad, cap, rfl, h1, h3, h4, h5⟩ := hv
  refine Ev.enter Tryz.func12 rfl Tryz.ntmps12 rfl ?_
  refine SC.seq ?_
  refine SC.region ?_
  refine SL.val (OpV.assign rfl) rfl ?_
  refine SL.nil ?_
  refine seqQ.nm ?_
  refine SC.seq ?_
  refine SC.seq ?_
  refine SC.region ?_
  refine SL.val (OpV.move rfl) rfl ?_
  refine SL.val (OpV.slnil Tryz.underlying25 rfl) rfl ?_
  refine SL.nil ?_
  refine seqQ.nm ?_
  first | refine SC.ifp rfl (fun h4 => ?_) (fun h4 => ?_) | refine SC.ite rfl (fun h4 => ?_) (fun h4 => ?_)
  · skip
    have hms : ms = [] := by
      rcases h5 with h5 | ⟨g, o, rfl, _⟩
      · exact List.eq_nil_of_length_eq_zero h5
      · simp at h4
    subst hms
    refine SC.nilrow 38 9 ?_
    refine SC.seq ?_
    refine SC.region ?_
    refine SL.val (OpV.assign rfl) rfl ?_
    refine SL.nil ?_
    refine seqQ.nm ?_
    refine SC.ret ?_
    refine seqQ.r ?_
    refine retQ.one rfl (.tmp rfl) ?_ _ (.inr rfl)
    exact ⟨rfl, rfl⟩
  · skip
    refine SC.skip ?_
    refine seqQ.nm ?_
    refine SC.seq ?_
    refine SC.region ?_
    refine SL.act (OpH.buildSlice Tryz.underlying25 zs38 (by decide) rfl rfl rfl) rfl ?_; rintro _ _ _ hM5 ⟨b5, rfl, rfl, rfl⟩; clear hM5
    refine SL.blkRow 0 9 0 rfl rfl (Nat.zero_le _) ?_
    refine SL.val (OpV.move rfl) rfl ?_
    refine SL.act (OpH.append 0 rfl Tryz.underlying25 Tryz.underlying25 rfl ti38 rfl (by decide) (by decide) rfl rfl (hsrc _) (by
    intro u hu
    obtain ⟨m, hm, hu⟩ := List.mem_flatMap.1 hu
    exact ones_mem (hok m hm) u hu) (by rw [mbCells_len]; simp; omega)) rfl ?_; rintro v7 _ _ hM7 ⟨rfl, rfl, hn7⟩; clear hM7
    refine SL.val (OpV.assign rfl) rfl ?_
    refine SL.nil ?_
    refine seqQ.nm ?_
    refine SC.ret ?_
    refine retQ.one rfl (.tmp rfl) ?_ _ (.inr rfl)
    exact ⟨rfl, rfl⟩
theorem zip_stab (ms : List Mb) : (ms.zipIdx).Pairwise stab := by
  rw [List.pairwise_iff_getElem]
  intro i j hi hj hij _
  simpa using hij
theorem zip_cells (ms : List Mb) : (ms.zipIdx).flatMap xc = ms.flatMap Mb.cells := by
  rw [xc_map]; simp
theorem csorted_ev (v : Value) (ms : List Mb) (LL : List Res) (M : Mem) (hv : RSlM LL M v ms) (hok : ∀ m ∈ ms, m.ok M) (hl : ms.length ≤ 16777216) :
    Ev Tryz.prog 27 [v].toArray LL M fun v' L' M' => ∃ d : List Xb, L' = .row v' 38 9 (d.flatMap xc) :: LL ∧ d.Perm ms.zipIdx ∧ d.Pairwise plt ∧ M = M' := by
  refine Ev.enter Tryz.func27 rfl Tryz.ntmps27 rfl ?_
  refine SC.seq ?_
  refine SC.region ?_
  refine SL.val (OpV.assign rfl) rfl ?_
  refine SL.nil ?_
  refine seqQ.nm ?_
  refine SC.seq ?_
  refine SC.region ?_
  refine SL.val (OpV.move rfl) rfl ?_
  refine SL.call ok12 rfl (L1 := LL) (List.Perm.of_eq (List.append_nil LL).symm) (clone_ev v ms LL _ hv hok hl) rfl ?_
  rintro v5 _ _ hM5 ⟨rfl, rfl⟩
  rw [← zip_cells, List.append_nil]
  refine SL.val (OpV.assign rfl) rfl ?_
  refine SL.nil ?_
  refine seqQ.nm ?_
  refine SC.seq ?_
  refine SC.region ?_
  refine SL.val (OpV.move rfl) rfl ?_
  refine SL.call ok51 rfl (L1 := [.row v5 38 9 (ms.zipIdx.flatMap xc)]) (List.Perm.refl _) (sortS_ev v5 ms.zipIdx _ (zip_stab ms) (fun x hx => hok x.1 (List.fst_mem_of_mem_zipIdx hx)) (by simp only [List.length_zipIdx]; unfold big; omega)) rfl ?_
  rintro _ _ _ hM7 ⟨d, rfl, hd1, hd2, rfl⟩
  refine SL.nil ?_
  refine seqQ.nm ?_
  refine SC.seq ?_
  refine SC.region ?_
  refine SL.val (OpV.move rfl) rfl ?_
  refine SL.val (OpV.assign rfl) rfl ?_
  refine SL.nil ?_
  refine seqQ.nm ?_
  refine SC.ret ?_
  refine retQ.one rfl (.tmp rfl) ?_ _ (.inr rfl)
  exact ⟨d, rfl, hd1, hd2, rfl⟩
end Go.Proofs.YtceabkfmjffnhaaGreatDoor
set_option linter.unusedVariables false
set_option linter.unusedSimpArgs false
namespace Go.Proofs.YtceabkfmjffnhaaGreatDoor
open Go Go.Eng

def stepFn (k : Nat) : FuncId := if k = 0 then 120 else if k = 1 then 121 else if k = 2 then 122 else 118
theorem stepFn_ok (k : Nat) : Fn.ok Tryz.prog (stepFn k) := by
  unfold stepFn
  split
  · exact ok120
  · split
    · exact ok121
    · split
      · exact ok122
      · exact ok118
/-- What the table of steps holds. -/
def StepsTab (M : Mem) : Prop := M.cells 0 0 [.func (.func (stepFn 0)) #[] #[], .func (.func (stepFn 1)) #[] #[], .func (.func (stepFn 2)) #[] #[], .func (.func (stepFn 3)) #[] #[]]
theorem StepsTab.mono {M M' : Mem} (h : StepsTab M) (hm : M.le M') : StepsTab M' := Mem.cells.mono h hm
def stepAcc (lower upper : List Mb) (k : Nat) (acc : List Mb) : List Mb := if k = 0 then upper.foldl withM acc else if k = 1 then (plainM lower).foldl (plainAdd upper) acc else if k = 2 then lower.foldl whiteStep acc else (plainM lower).foldl (overAdd upper) acc
def accTo (lower upper : List Mb) : Nat → List Mb
  | 0 => []
  | k + 1 => stepAcc lower upper k (accTo lower upper k)
theorem step_ev (k : Nat) (b bm : Nat) (lo up : Value) (lower upper acc : List Mb) (M : Mem) (hc : ClassTab M) (hv1 : SlM M lo lower) (hv2 : SlM M up upper) (hok1 : ∀ m ∈ lower, m.ok M) (hok2 : ∀ m ∈ upper, m.ok M) (hoks : ∀ x ∈ acc, x.ok M) (hl1 : lower.length ≤ 16777216) (hl2 : upper.length ≤ 16777216) (hnd : (upper.map Mb.path).Nodup) :
    Ev Tryz.prog (stepFn k) ([Value.pointer (some ⟨b, 0, none⟩)] ++ (#[] : Array Value).toList).toArray [.blk b 66 [lo, up, .map (some bm)], .obj bm (mapObj (kvOf acc))] M fun v' L' M' => L' = [.blk b 66 [lo, up, .map (some bm)], .obj bm (mapObj (kvOf (stepAcc lower upper k acc)))] := by
  show Ev Tryz.prog (stepFn k) [Value.pointer (some ⟨b, 0, none⟩)].toArray _ M _
  unfold stepFn stepAcc
  split
  · exact (whole_ev b bm lo up upper acc M hv2 hok2 hoks hl2).mono fun _ _ _ _ h => h.1
  · split
    · exact plain_ev b bm lo up lower upper acc M hc hv1 hv2 hok1 hok2 hoks hl1 hl2
    · split
      · exact (white_ev b bm lo up lower acc M hc hv1 hok1 hoks hl1).mono fun _ _ _ _ h => h.1
      · exact over_ev b bm lo up lower upper acc M hc hv1 hv2 hok1 hok2 hoks hl1 hl2 hnd
theorem foldl_inv {α β : Type} {p : β → Prop} (f : β → α → β) : ∀ (l : List α) (b : β), p b → (∀ b x, x ∈ l → p b → p (f b x)) → p (l.foldl f b)
  | [], b, h, _ => h
  | x :: l, b, h, k => foldl_inv f l (f b x) (k b x (by simp) h) fun b y hy hb => k b y (by simp [hy]) hb
theorem stepAcc_ok {lower upper acc : List Mb} {M : Mem} (k : Nat) (h1 : ∀ m ∈ lower, m.ok M) (h2 : ∀ m ∈ upper, m.ok M) (h : ∀ x ∈ acc, x.ok M) : ∀ x ∈ stepAcc lower upper k acc, x.ok M := by
  unfold stepAcc
  split
  · exact foldl_inv (p := fun acc : List Mb => ∀ x ∈ acc, x.ok M) _ _ _ h fun b x hx hb => withM_ok hb (h2 x hx)
  · split
    · refine foldl_inv (p := fun acc : List Mb => ∀ x ∈ acc, x.ok M) _ _ _ h fun b x hx hb => ?_
      unfold plainAdd
      split
      · exact withM_ok hb (h1 x (List.mem_filter.1 hx).1)
      · exact hb
    · split
      · refine foldl_inv (p := fun acc : List Mb => ∀ x ∈ acc, x.ok M) _ _ _ h fun b x hx hb => ?_
        unfold whiteStep
        split
        · exact withM_ok hb (h1 x hx)
        · exact hb
      · refine foldl_inv (p := fun acc : List Mb => ∀ x ∈ acc, x.ok M) _ _ _ h fun b x hx hb => ?_
        unfold overAdd
        split
        · exact withM_ok hb (whiteMb_ok _ _)
        · exact hb
theorem accTo_ok {lower upper : List Mb} {M : Mem} (h1 : ∀ m ∈ lower, m.ok M) (h2 : ∀ m ∈ upper, m.ok M) : ∀ k, ∀ x ∈ accTo lower upper k, x.ok M
  | 0 => fun x hx => by cases hx
  | k + 1 => stepAcc_ok k h1 h2 (accTo_ok h1 h2 k)
theorem withM_fresh {acc : List Mb} {m : Mb} (h : m.path ∉ acc.map Mb.path) : withM acc m = acc ++ [m] := by
  unfold withM
  rw [if_neg]
  intro e
  obtain ⟨x, hx, hp⟩ := List.any_eq_true.1 e
  exact h (List.mem_map.2 ⟨x, hx, of_decide_eq_true hp⟩)
theorem withM_all : ∀ (ms acc : List Mb), ((acc ++ ms).map Mb.path).Nodup → ms.foldl withM acc = acc ++ ms
  | [], acc, _ => by simp
  | m :: ms, acc, h => by
    have h1 : m.path ∉ acc.map Mb.path := by
      intro e
      rw [List.map_append, List.nodup_append] at h
      exact h.2.2 _ e m.path (by simp) rfl
    rw [List.foldl_cons, withM_fresh h1, withM_all ms (acc ++ [m]) (by simpa using h)]
    simp
theorem accTo_two (lower upper : List Mb) (hnd : (upper.map Mb.path).Nodup) : accTo lower upper 4 = twoAcc lower upper := by
  have h1 : upper.foldl withM [] = upper := by simpa using withM_all upper [] (by simpa using hnd)
  have h2 : ∀ acc, (plainM lower).foldl (plainAdd upper) acc = lower.foldl (plainStep upper) acc := by
    intro acc
    unfold plainM
    rw [List.foldl_filter]
    congr 1
    funext out m
    unfold plainAdd plainStep
    by_cases hc : cls m = 1 <;> simp [hc]
  have h3 : ∀ acc, (plainM lower).foldl (overAdd upper) acc = lower.foldl (overStep upper) acc := by
    intro acc
    unfold plainM
    rw [List.foldl_filter]
    congr 1
    funext out m
    unfold overAdd overStep
    by_cases hc : cls m = 1 <;> simp [hc]
  simp only [accTo, stepAcc]
  simp only [h1, h2, h3, Nat.reduceEqDiff, ↓reduceIte, Nat.one_ne_zero, Nat.succ_ne_zero, twoAcc]
theorem nodup_lt_len : ∀ (n : Nat) (l : List Nat), l.Nodup → (∀ x ∈ l, x < n) → l.length ≤ n
  | 0, l, _, h => by
    cases l with
    | nil => simp
    | cons x l => exact absurd (h x (by simp)) (Nat.not_lt_zero x)
  | n + 1, l, hn, h => by
    by_cases hm : n ∈ l
    · have h1 := nodup_lt_len n (l.erase n) (hn.erase n) (fun x hx => by
        have := (List.Nodup.mem_erase_iff hn).1 hx
        have := h x this.2
        omega)
      rw [List.length_erase_of_mem hm] at h1
      omega
    · have h1 := nodup_lt_len n l hn (fun x hx => by
        have h2 := h x hx
        have h3 : x ≠ n := fun e => hm (e ▸ hx)
        omega)
      omega
/-- Each place once: a map's entries in the order of a walk over it. -/
theorem seen_perm (acc : List Mb) (seen : List Nat) (hn : seen.Nodup) (hlt : ∀ j ∈ seen, j < acc.length) (hall : ∀ j, j < acc.length → j ∈ seen) (out : List Mb) (ho : out.map some = seen.map (fun j => acc[j]?)) : out.Perm acc := by
  have h1 : seen.Perm (List.range acc.length) := (List.perm_ext_iff_of_nodup hn List.nodup_range).2 fun j => ⟨fun h => List.mem_range.2 (hlt j h), fun h => hall j (List.mem_range.1 h)⟩
  have h2 : (out.map some).Perm ((List.range acc.length).map (fun j => acc[j]?)) := by rw [ho]; exact h1.map _
  have h3 : (List.range acc.length).map (fun j => acc[j]?) = acc.map some := by
    apply List.ext_getElem
    · simp
    · intro i h1 h2
      simp
  rw [h3] at h2
  have h4 := h2.filterMap id
  simpa using h4
theorem kvOf_at {acc : List Mb} {j : Nat} {k : Bytes} {v : Value} (h : (kvOf acc)[j]? = some (k, v)) : ∃ m, acc[j]? = some m ∧ v = .agg m.cells.toArray := by
  unfold kvOf at h
  rw [List.getElem?_map] at h
  cases hm : acc[j]? with
  | none => rw [hm] at h; simp at h
  | some m => rw [hm] at h; simp at h; exact ⟨m, rfl, h.2.symm⟩
theorem kvOf_len (acc : List Mb) : (kvOf acc).length = acc.length := by simp [kvOf]
theorem foldl_len {α β : Type} (f : List β → α → List β) (hf : ∀ b x, (f b x).length ≤ b.length + 1) : ∀ (l : List α) (b : List β), (l.foldl f b).length ≤ b.length + l.length
  | [], b => by simp
  | x :: l, b => by
    have h1 := foldl_len f hf l (f b x)
    have h2 := hf b x
    simp only [List.foldl_cons, List.length_cons]
    omega
theorem twoAcc_len (lower upper : List Mb) : (twoAcc lower upper).length ≤ upper.length + 3 * lower.length := by
  unfold twoAcc
  have h1 := foldl_len (plainStep upper) (fun b x => by unfold plainStep; split; exact withM_len b x; omega) lower upper
  have h2 := foldl_len whiteStep (fun b x => by unfold whiteStep; split; exact withM_len b x; omega) lower (lower.foldl (plainStep upper) upper)
  have h3 := foldl_len (overStep upper) (fun b x => by unfold overStep; split; exact withM_len b _; omega) lower (lower.foldl whiteStep (lower.foldl (plainStep upper) upper))
  omega
theorem xb_asc {d : List Xb} (h : d.Pairwise plt) : Asc (d.map (·.1)) := by
  unfold Asc
  rw [List.pairwise_map]
  refine h.imp fun {x y} hxy => ?_
  rcases hxy with k | ⟨k, _⟩
  · exact bl_lt_ge k
  · rw [k]; exact bl_irrefl _

theorem step_at (k : Nat) (hk : k < 4) : (#[Value.func (.func (stepFn 0)) #[] #[], .func (.func (stepFn 1)) #[] #[], .func (.func (stepFn 2)) #[] #[], .func (.func (stepFn 3)) #[] #[]] : Array Value)[((k : Nat) : Int).toNat]? = some (.func (.func (stepFn k)) #[] #[]) := by
  rw [Int.toNat_natCast]
  obtain rfl | rfl | rfl | rfl : k = 0 ∨ k = 1 ∨ k = 2 ∨ k = 3 := by omega
  all_goals rfl
theorem ctwo_ev (lo up : Value) (lower upper : List Mb) (M : Mem) (ht : StepsTab M) (hc : ClassTab M) (hv1 : SlM M lo lower) (hv2 : SlM M up upper) (hok1 : ∀ m ∈ lower, m.ok M) (hok2 : ∀ m ∈ upper, m.ok M) (hl1 : lower.length ≤ 4194304) (hl2 : upper.length ≤ 4194304) (hnd : (upper.map Mb.path).Nodup) :
    Ev Tryz.prog 13 [lo, up].toArray [] M fun v' L' M' => ∃ ys G, L' = .row v' 38 9 (ys.flatMap Mb.cells) :: G ∧ ys.Perm (twoAcc lower upper) ∧ Asc ys ∧ (∀ y ∈ ys, y.ok M') := by
  obtain ⟨ad1, cap1, rfl, hcap1, hmax1⟩ := hv1.len
  obtain ⟨ad2, cap2, rfl, hcap2, hmax2⟩ := hv2.len
  refine Ev.enter Tryz.func13 rfl Tryz.ntmps13 rfl ?_
  refine SC.seq ?_
  refine SC.region ?_
  refine SL.val (OpV.assign rfl) rfl ?_
  refine SL.nil ?_
  refine seqQ.nm ?_
  refine SC.seq ?_
  refine SC.region ?_
  refine SL.val (OpV.move rfl) rfl ?_
  refine SL.val (OpV.move rfl) rfl ?_
  refine SL.act OpH.makeMap rfl ?_; rintro _ _ _ hM13 ⟨b13, rfl, rfl, rfl⟩; clear hM13
  refine SL.val (show OpV _ _ _ _ _ (.agg #[.slice ad1 lower.length cap1, .slice ad2 upper.length cap2, .map (some b13)]) from OpV.bld bl66 rfl rfl) rfl ?_
  refine SL.act (OpH.box rfl) rfl ?_; rintro _ _ _ hM15 ⟨b15, rfl, rfl, rfl⟩; clear hM15
  refine SL.val (OpV.assign rfl) rfl ?_
  refine SL.nil ?_
  refine seqQ.nm ?_
  refine SC.seq ?_
  refine SC.seq ?_
  refine SC.region ?_
  refine SL.val (OpV.loads (cs := [.func (.func (stepFn 0)) #[] #[], .func (.func (stepFn 1)) #[] #[], .func (.func (stepFn 2)) #[] #[], .func (.func (stepFn 3)) #[] #[]]) _ Tryz.underlying68 rfl rfl sz68 (Kns.mem ht)) rfl ?_
  refine SL.val (OpV.move rfl) rfl ?_
  refine SL.nil ?_
  refine seqQ.nm ?_
  refine SC.block ?_
  refine SC.loop (ι := Nat) (fun k M' => k ≤ 4 ∧ M.le M') (fun k => [(5, .pointer (some ⟨b15, 0, none⟩)), (16, .agg #[.func (.func (stepFn 0)) #[] #[], .func (.func (stepFn 1)) #[] #[], .func (.func (stepFn 2)) #[] #[], .func (.func (stepFn 3)) #[] #[]]), (17, .int .i64 (k : Nat))]) (fun k => [.blk b15 66 [.slice ad1 lower.length cap1, .slice ad2 upper.length cap2, .map (some b13)], .obj b13 (mapObj (kvOf (accTo lower upper k)))]) (fun k => 4 - k) 0 (G := []) ⟨rfl, rfl, rfl, trivial⟩ (List.Perm.refl _) ⟨Nat.zero_le _, Mem.le_refl _⟩ ?_
  rintro k M1 _ ⟨hk, hM1⟩
  refine SC.seq ?_
  refine SC.region ?_
  refine SL.val (OpV.lss rfl rfl) rfl ?_
  refine SL.nil ?_
  refine seqQ.nm ?_
  refine SC.seq ?_
  first | refine SC.ifp rfl (fun h18 => ?_) (fun h18 => ?_) | refine SC.ite rfl (fun h18 => ?_) (fun h18 => ?_)
  · skip
    have hlt : k < 4 := by omega
    refine SC.skip ?_
    refine seqQ.nm ?_
    refine SC.seq ?_
    refine SC.block ?_
    refine SC.seq ?_
    refine SC.region ?_
    refine SL.val (OpV.aidx (v := .func (.func (stepFn k)) #[] #[]) Tryz.underlying68 Tryz.underlying67 rfl sz67 rfl rfl (by omega) (by omega) (step_at k hlt)) rfl ?_
    refine SL.val (OpV.assign rfl) rfl ?_
    refine SL.nil ?_
    refine seqQ.nm ?_
    refine SC.region ?_
    refine SL.val (OpV.move rfl) rfl ?_
    refine SL.val (OpV.move rfl) rfl ?_
    refine SL.callv (.inl rfl) (stepFn_ok k) rfl rfl (L1 := [.blk b15 66 [.slice ad1 lower.length cap1, .slice ad2 upper.length cap2, .map (some b13)], .obj b13 (mapObj (kvOf (accTo lower upper k)))]) (List.Perm.refl _) (step_ev k b15 b13 _ _ lower upper (accTo lower upper k) M1 (hc.mono hM1) (hv1.mono hM1) (hv2.mono hM1) (fun m hm => (hok1 m hm).mono hM1) (fun m hm => (hok2 m hm).mono hM1) (fun x hx => (accTo_ok hok1 hok2 k x hx).mono hM1) (by omega) (by omega) hnd) rfl ?_
    rintro _ _ M2 hM22 rfl
    refine SL.nil ?_
    refine blockQ.nm ?_
    refine seqQ.nm ?_
    refine SC.region ?_
    refine SL.val (OpV.add rfl rfl (IntWalk.i64_in _ (by omega))) rfl ?_
    refine SL.val (OpV.move rfl) rfl ?_
    refine SL.nil ?_
    exact loopQ.nm (k + 1) (by omega) ⟨rfl, rfl, rfl, trivial⟩ (List.Perm.refl _) ⟨by omega, Mem.le_trans hM1 hM22⟩
  · skip
    have hk4 : k = 4 := by omega
    subst hk4
    rw [accTo_two lower upper hnd]
    have hacl := twoAcc_len lower upper
    have hacok : ∀ x ∈ twoAcc lower upper, x.ok M1 := by
      rw [← accTo_two lower upper hnd]
      exact fun x hx => (accTo_ok hok1 hok2 4 x hx).mono hM1
    generalize twoAcc lower upper = acc at *
    refine SC.nilrow 38 9 ?_
    refine SC.exit ?_
    refine seqQ.e ?_
    refine loopQ.e ?_
    refine blockQ.e ?_
    refine seqQ.nm ?_
    refine SC.seq ?_
    refine SC.region ?_
    refine SL.val (OpV.assign rfl) rfl ?_
    refine SL.nil ?_
    refine seqQ.nm ?_
    refine SC.seq ?_
    refine SC.seq ?_
    refine SC.region ?_
    refine SL.val (OpV.move rfl) rfl ?_
    refine SL.val (OpV.nilCheck rfl) rfl ?_
    refine SL.val (OpV.fld fa66_2 rfl) rfl ?_
    refine SL.val (OpV.load _ Tryz.underlying64 rfl rfl (Kn.blk 1 rfl rfl)) rfl ?_
    refine SL.act (OpH.rangeM Tryz.underlying64 rfl (Ko.obj 2 rfl)) rfl ?_; rintro _ _ _ hM28 ⟨b28, rfl, rfl, rfl⟩; clear hM28
    refine SL.nil ?_
    refine seqQ.nm ?_
    refine SC.block ?_
    refine SC.loop (ι := Array Nat × Value × List Mb) (fun x M' => x.1.toList.Nodup ∧ (∀ j ∈ x.1.toList, j < acc.length) ∧ x.2.2.map some = x.1.toList.map (fun j => acc[j]?) ∧ M1 = M') (fun x => [(8, x.2.1), (28, .pointer (some ⟨b28, 0, none⟩))]) (fun x => [.obj b28 (.mapIter (some b13) (kvOf acc).length x.1 (kvOf acc).length), .row x.2.1 38 9 (x.2.2.flatMap Mb.cells), .obj b13 (mapObj (kvOf acc))]) (fun x => acc.length - x.1.size) (#[], .slice none 0 0, []) (G := [.blk b15 66 [.slice ad1 lower.length cap1, .slice ad2 upper.length cap2, .map (some b13)]]) ⟨rfl, rfl, trivial⟩ (List.perm_append_comm (l₁ := [_, _]) (l₂ := [_]) |>.append_right [_]) ⟨List.nodup_nil, (fun j hj => by cases hj), rfl, rfl⟩ ?_
    rintro ⟨seen, v, out⟩ _ _ ⟨hsn, hslt, hout, rfl⟩
    dsimp only at hsn hslt hout ⊢
    have hol : out.length = seen.size := by
      have := congrArg List.length hout
      simpa using this
    have hsl : seen.size ≤ acc.length := by simpa using nodup_lt_len acc.length seen.toList hsn hslt
    refine SC.seq ?_
    refine SC.region ?_
    refine SL.act (OpH.nextMap 0 rfl (Ko.obj 2 rfl) rfl) rfl ?_; rintro _ _ _ hM29 ⟨more29, j29, k29, v29, rfl, rfl, rfl, hmore29, hdone29⟩; clear hM29
    refine SL.val (OpV.extract rfl (nextM_0 _ _ _)) rfl ?_
    refine SL.nil ?_
    refine seqQ.nm ?_
    refine SC.seq ?_
    first | refine SC.ifp rfl (fun h30 => ?_) (fun h30 => ?_) | refine SC.ite rfl (fun h30 => ?_) (fun h30 => ?_)
    · skip
      obtain rfl : more29 = true := h30
      obtain ⟨hj1, hj2, hj3⟩ := hmore29 rfl
      obtain ⟨m, hm, rfl⟩ := kvOf_at hj3
      rw [kvOf_len] at hj1
      have hmok := hacok m (List.mem_of_getElem? hm)
      have hsn2 : (seen.push j29).toList.Nodup := by
        rw [Array.toList_push, List.nodup_append]
        refine ⟨hsn, by simp, ?_⟩
        intro a ha b hb
        simp at hb
        subst hb
        rintro rfl
        exact hj2 (by simpa using ha)
      have hslt2 : ∀ j ∈ (seen.push j29).toList, j < acc.length := by
        intro j hj
        rw [Array.toList_push, List.mem_append] at hj
        rcases hj with hj | hj
        · exact hslt j hj
        · simp at hj; omega
      have hsl2 : (seen.push j29).size ≤ acc.length := by simpa using nodup_lt_len acc.length (seen.push j29).toList hsn2 hslt2
      rw [Array.size_push] at hsl2
      refine SC.skip ?_
      refine seqQ.nm ?_
      refine SC.block ?_
      refine SC.seq ?_
      refine SC.region ?_
      refine SL.val (OpV.entry (Ko.obj 0 rfl) (Ko.obj 2 rfl) rfl hj3) rfl ?_
      refine SL.val (OpV.extract rfl rfl) rfl ?_
      refine SL.act (OpH.alloc zr38) rfl ?_; rintro _ _ _ hM10 ⟨b10, rfl, rfl, rfl⟩; clear hM10
      first
        | refine SL.unit (OpU.store 0 rfl rfl rfl sz38 (by first | exact Nat.le_of_ble_eq_true rfl | (simp; done) | (simp; omega) | omega) (cells_ones hmok)) ?_
        | refine SL.unit (OpU.storeRow 0 rfl rfl rfl sz38 (by first | exact Nat.le_of_ble_eq_true rfl | (simp; done) | (simp; omega) | omega) (cells_ones hmok)) ?_
        | refine SL.unit (OpU.store 1 rfl rfl rfl sz38 (by first | exact Nat.le_of_ble_eq_true rfl | (simp; done) | (simp; omega) | omega) (cells_ones hmok)) ?_
        | refine SL.unit (OpU.storeRow 1 rfl rfl rfl sz38 (by first | exact Nat.le_of_ble_eq_true rfl | (simp; done) | (simp; omega) | omega) (cells_ones hmok)) ?_
        | refine SL.unit (OpU.store 2 rfl rfl rfl sz38 (by first | exact Nat.le_of_ble_eq_true rfl | (simp; done) | (simp; omega) | omega) (cells_ones hmok)) ?_
        | refine SL.unit (OpU.storeRow 2 rfl rfl rfl sz38 (by first | exact Nat.le_of_ble_eq_true rfl | (simp; done) | (simp; omega) | omega) (cells_ones hmok)) ?_
        | refine SL.unit (OpU.store 3 rfl rfl rfl sz38 (by first | exact Nat.le_of_ble_eq_true rfl | (simp; done) | (simp; omega) | omega) (cells_ones hmok)) ?_
        | refine SL.unit (OpU.storeRow 3 rfl rfl rfl sz38 (by first | exact Nat.le_of_ble_eq_true rfl | (simp; done) | (simp; omega) | omega) (cells_ones hmok)) ?_
      refine SL.nil ?_
      refine seqQ.nm ?_
      refine SC.region ?_
      refine SL.val (OpV.move rfl) rfl ?_
      first
        | refine SL.val (OpV.loads (cs := m.cells) _ Tryz.underlying38 rfl rfl sz38 (Kns.blk 0 rfl rfl)) rfl ?_
        | refine SL.val (OpV.loads (cs := m.cells) _ Tryz.underlying38 rfl rfl sz38 (Kns.blk 1 rfl rfl)) rfl ?_
        | refine SL.val (OpV.loads (cs := m.cells) _ Tryz.underlying38 rfl rfl sz38 (Kns.blk 2 rfl rfl)) rfl ?_
        | refine SL.val (OpV.loads (cs := m.cells) _ Tryz.underlying38 rfl rfl sz38 (Kns.blk 3 rfl rfl)) rfl ?_
        | refine SL.val (OpV.loads (cs := m.cells) _ Tryz.underlying38 rfl rfl sz38 (Kns.mem (by assumption))) rfl ?_
      refine SL.act (OpH.oneAgg Tryz.underlying25 zs38 rfl rfl rfl) rfl ?_; rintro _ _ _ hM35 ⟨b35, rfl, rfl, rfl⟩; clear hM35
      refine SL.act (OpH.append 3 rfl Tryz.underlying25 Tryz.underlying25 rfl ti38 rfl (by decide) (by decide) rfl rfl (Src.blk 0 rfl (m := 1) rfl) (ones_mem hmok) (by rw [mbCells_len]; simp [Mb.cells]; omega)) rfl ?_; rintro v36 _ _ hM36 ⟨rfl, rfl, hn36⟩; clear hM36
      refine SL.drop 0 rfl (SL.drop 0 rfl ?_)
      refine SL.val (OpV.assign rfl) rfl ?_
      refine SL.nil ?_
      refine blockQ.nm ?_
      exact loopQ.nm (seen.push j29, v36, out ++ [m]) (by dsimp only; rw [Array.size_push]; omega) ⟨rfl, rfl, trivial⟩ (List.Perm.of_eq (by dsimp only; rw [flat_snoc]; rfl)) ⟨hsn2, hslt2, by simp [hout, hm], rfl⟩
    · skip
      obtain rfl : more29 = false := h30
      have hall := hdone29 rfl
      rw [kvOf_len] at hall
      have hperm := seen_perm acc seen.toList hsn hslt (fun j hj => by simpa using hall j hj) out hout
      have hook : ∀ x ∈ out, x.ok M1 := fun x hx => hacok x (hperm.mem_iff.1 hx)
      refine SC.drop 2 rfl (SC.drop 0 rfl ?_)
      refine SC.rowV 0 rfl fun hrv => ?_
      have hrs : RSlM [.row v 38 9 (out.flatMap Mb.cells)] M1 v out := hrv.rsl (mbCells_len out) (by decide) 0 rfl
      refine SC.exit ?_
      refine seqQ.e ?_
      refine loopQ.e ?_
      refine blockQ.e ?_
      refine seqQ.nm ?_
      refine SC.seq ?_
      refine SC.region ?_
      refine SL.val (OpV.move rfl) rfl ?_
      refine SL.call ok27 rfl (L1 := [.row v 38 9 (out.flatMap Mb.cells)]) (List.Perm.refl _) (csorted_ev v out _ M1 hrs hook (by rw [hol]; omega)) rfl ?_
      rintro v38 _ _ hM38 ⟨d, rfl, hd1, hd2, rfl⟩
      refine SL.val (OpV.assign rfl) rfl ?_
      refine SL.nil ?_
      refine seqQ.nm ?_
      refine SC.ret ?_
      refine retQ.one rfl (.tmp rfl) ?_ _ (.inr rfl)
      refine ⟨d.map (·.1), _, by rw [xc_map]; rfl, ?_, xb_asc hd2, ?_⟩
      · have h1 := hd1.map (·.1)
        rw [List.zipIdx_map_fst] at h1
        exact h1.trans hperm
      · intro y hy
        have h1 := hd1.map (·.1)
        rw [List.zipIdx_map_fst] at h1
        exact hook y (h1.mem_iff.1 hy)
end Go.Proofs.YtceabkfmjffnhaaGreatDoor
set_option linter.unusedVariables false
set_option linter.unusedSimpArgs false
namespace Go.Proofs.YtceabkfmjffnhaaGreatDoor
open Go Go.Eng

theorem firstErr_zero {l : List Core} {k n : Nat} (hk : k ≤ n) (h : firstErr l n = 0) : firstErr l k = 0 := by
  cases hc : firstErr l k with
  | zero => rfl
  | succ e =>
    have := firstErr_stay (l := l) (k := k) (by rw [hc]; exact Nat.succ_ne_zero e) (n - k)
    rw [show k + (n - k) = n by omega, h, hc] at this
    cases this
theorem errAt_asc {l : List Core} {i : Nat} {m : Core} (h : errAt l i m = 0) (hi : 0 < i) : Op.bytesLess (cp l (i - 1)) m.path = true := by
  unfold errAt at h
  cases hb : Op.bytesLess (cp l (i - 1)) m.path with
  | true => rfl
  | false =>
    rw [hb] at h
    simp [hi] at h
theorem maySet_zero {l : List Core} (h : maySet l = 0) : l.length ≤ 4096 ∧ l.Pairwise fun a b => Op.bytesLess a.path b.path = true := by
  unfold maySet at h
  split at h
  · rename_i h0; exact absurd h h0
  rename_i h0
  have h0' : firstErr l l.length = 0 := by simpa using h0
  split at h
  · cases h
  refine ⟨by omega, ?_⟩
  have hstep : ∀ k (hk : k + 1 < l.length), Op.bytesLess (l[k]'(by omega)).path (l[k + 1]'hk).path = true := by
    intro k hk
    have hm : l[k + 1]? = some (l[k + 1]'hk) := List.getElem?_eq_getElem hk
    have h1 := firstErr_succ (firstErr_zero (Nat.le_of_lt hk) h0') hm
    rw [firstErr_zero (Nat.succ_le_of_lt hk) h0'] at h1
    have h2 := errAt_asc h1.symm (Nat.succ_pos k)
    rw [Nat.add_sub_cancel, cp_some (List.getElem?_eq_getElem (show k < l.length by omega))] at h2
    exact h2
  rw [List.pairwise_iff_getElem]
  intro i j hi hj hij
  obtain ⟨d, rfl⟩ : ∃ d, j = i + 1 + d := ⟨j - (i + 1), by omega⟩
  clear hij
  induction d with
  | zero => exact hstep i hj
  | succ d ih => exact bl_trans (ih (by omega)) (hstep (i + 1 + d) hj)
theorem maySet_nodup {ms : List Mb} (h : maySet (cores ms) = 0) : (ms.map Mb.path).Nodup := by
  have h1 := (maySet_zero h).2
  unfold List.Nodup
  rw [List.pairwise_map]
  unfold cores at h1
  rw [List.pairwise_map] at h1
  refine h1.imp fun {a b} hab => ?_
  exact bl_ne hab
theorem setErr_zero {ss : List (List Mb)} {k n : Nat} (hk : k ≤ n) (h : setErr ss n = 0) : setErr ss k = 0 := by
  cases hc : setErr ss k with
  | zero => rfl
  | succ e =>
    have := setErr_stay (ss := ss) (k := k) (by rw [hc]; exact Nat.succ_ne_zero e) (n - k)
    rw [show k + (n - k) = n by omega, h, hc] at this
    cases this
theorem setErr_at {ss : List (List Mb)} {k : Nat} {ms : List Mb} (h : setErr ss ss.length = 0) (hm : ss[k]? = some ms) : maySet (cores ms) = 0 := by
  have hk := (List.getElem?_eq_some_iff.1 hm).1
  have := setErr_succ (setErr_zero (Nat.le_of_lt hk) h) hm
  rw [setErr_zero hk h] at this
  exact this.symm
theorem cores_length (ms : List Mb) : (cores ms).length = ms.length := by simp [cores]

theorem cmerge_ev (v : Value) (vs : List Value) (ss : List (List Mb)) (M : Mem) (hst : StepsTab M) (hc : ClassTab M) (ht : TypeTab M) (hs : SetsOk M v vs ss) :
    Ev Tryz.prog 5 [v].toArray [] M fun v' L' M' => L' = [] ∧ MergeOut M' ss v' := by
  refine Ev.laxR ?_
  obtain ⟨ad, cap, rfl, hcap, hmax⟩ := hs.outer.len
  have hsame := hs.same
  have hfew := hs.few
  refine Ev.enter Tryz.func5 rfl Tryz.ntmps5 rfl ?_
  refine SC.seq ?_
  refine SC.region ?_
  refine SL.val (OpV.assign rfl) rfl ?_
  refine SL.val (OpV.assign rfl) rfl ?_
  refine SL.nil ?_
  refine seqQ.nm ?_
  refine SC.seq ?_
  refine SC.region ?_
  refine SL.val (OpV.assign rfl) rfl ?_
  refine SL.nil ?_
  refine seqQ.nm ?_
  refine SC.seq ?_
  refine SC.seq ?_
  refine SC.region ?_
  refine SL.val (OpV.move rfl) rfl ?_
  refine SL.val (OpV.llen Tryz.underlying23 rfl) rfl ?_
  refine SL.val (OpV.move rfl) rfl ?_
  refine SL.nil ?_
  refine seqQ.nm ?_
  refine SC.block ?_
  refine SC.loop (ι := Nat) (fun k M' => k ≤ ss.length ∧ setErr ss k = 0 ∧ M = M') (fun k => [(0, .slice ad vs.length cap), (4, .slice none 0 0), (10, .slice ad vs.length cap), (11, .int .i64 vs.length), (12, .int .i64 k)]) (fun _ => []) (fun k => ss.length - k) 0 (G := []) ⟨rfl, rfl, rfl, rfl, rfl, trivial⟩ (List.Perm.refl _) ⟨Nat.zero_le _, rfl, rfl⟩ ?_
  rintro k _ _ ⟨hk, herr, rfl⟩
  refine SC.seq ?_
  refine SC.region ?_
  refine SL.val (OpV.lss rfl rfl) rfl ?_
  refine SL.nil ?_
  refine seqQ.nm ?_
  refine SC.seq ?_
  first | refine SC.ifp rfl (fun h13 => ?_) (fun h13 => ?_) | refine SC.ite rfl (fun h13 => ?_) (fun h13 => ?_)
  · skip
    have hlt : k < ss.length := by omega
    obtain ⟨g, o, cap', he, hcs, _⟩ := hs.outer.at_ (by omega)
    cases he
    obtain ⟨ms, hms⟩ := getElem?_lt hlt
    obtain ⟨u, hu⟩ := getElem?_lt (l := vs) (k := k) (by omega)
    obtain ⟨hsl, hok, hml⟩ := hs.each k u ms hu hms
    refine SC.skip ?_
    refine seqQ.nm ?_
    refine SC.seq ?_
    refine SC.block ?_
    refine SC.seq ?_
    refine SC.region ?_
    refine SL.val (OpV.indexAddr1 Tryz.underlying23 sz25 rfl rfl (by omega) (by omega)) rfl ?_
    refine SL.val (OpV.load _ Tryz.underlying25 rfl rfl (Kn.mem (hcs.at_ k hu))) rfl ?_
    refine SL.val (OpV.assign rfl) rfl ?_
    refine SL.nil ?_
    refine seqQ.nm ?_
    refine SC.seq ?_
    refine SC.region ?_
    refine SL.val (OpV.move rfl) rfl ?_
    refine SL.call ok11 rfl (L1 := []) (List.Perm.refl _) (cmay_ev u ms _ hc ht hsl hok (show ms.length ≤ 268435456 by omega)) rfl ?_
    rintro _ _ _ hM17 ⟨rfl, rfl, rfl⟩
    refine SL.val (OpV.assign rfl) rfl ?_
    refine SL.nil ?_
    refine seqQ.nm ?_
    refine SC.seq ?_
    refine SC.region ?_
    refine SL.val (OpV.move rfl) rfl ?_
    refine SL.val (OpV.neq rfl rfl) rfl ?_
    refine SL.nil ?_
    refine seqQ.nm ?_
    first | refine SC.ifp rfl (fun h19 => ?_) (fun h19 => ?_) | refine SC.ite rfl (fun h19 => ?_) (fun h19 => ?_)
    · skip
      have hbad : setErr ss ss.length = maySet (cores ms) := by
        have h1 := setErr_succ herr hms
        have h2 := setErr_stay (ss := ss) (k := k + 1) (by rw [h1]; intro e; apply h19; rw [e]; rfl) (ss.length - (k + 1))
        rw [show k + 1 + (ss.length - (k + 1)) = ss.length by omega, h1] at h2
        exact h2
      refine SC.seq ?_
      refine SC.region ?_
      refine SL.val (OpV.move rfl) rfl ?_
      refine SL.val (OpV.assign rfl) rfl ?_
      refine SL.val (OpV.assign rfl) rfl ?_
      refine SL.nil ?_
      refine seqQ.nm ?_
      refine SC.ret ?_
      refine blockQ.r ?_
      refine seqQ.r ?_
      refine loopQ.r ?_
      refine blockQ.r ?_
      refine seqQ.r ?_
      refine retQ.two rfl (.tmp rfl) (.tmp rfl) ?_ _ (.inr rfl)
      exact .inl ⟨by rw [hbad]; intro e; apply h19; rw [e]; rfl, by rw [hbad]⟩
    · skip
      refine SC.skip ?_
      refine blockQ.nm ?_
      refine seqQ.nm ?_
      refine SC.region ?_
      refine SL.val (OpV.add rfl rfl (IntWalk.i64_in _ (by omega))) rfl ?_
      refine SL.val (OpV.move rfl) rfl ?_
      refine SL.nil ?_
      refine loopQ.nm (k + 1) (by omega) ⟨rfl, rfl, rfl, rfl, rfl, trivial⟩ (List.Perm.refl _) ⟨by omega, ?_, rfl⟩
      rw [setErr_succ herr hms]
      have : (maySet (cores ms) : Int) = 0 := by simpa using h19
      omega
  · skip
    have hke : k = ss.length := by omega
    rw [hke] at herr
    refine SC.exit ?_
    refine seqQ.e ?_
    refine loopQ.e ?_
    refine blockQ.e ?_
    refine seqQ.nm ?_
    refine SC.seq ?_
    refine SC.seq ?_
    refine SC.region ?_
    refine SL.val (OpV.move rfl) rfl ?_
    refine SL.val (OpV.llen Tryz.underlying23 rfl) rfl ?_
    refine SL.val (OpV.move rfl) rfl ?_
    refine SL.nil ?_
    refine seqQ.nm ?_
    refine SC.block ?_
    refine SC.loop (ι := Nat × Value × List Mb) (fun x M' => x.1 ≤ ss.length ∧ Mrg ss x.1 x.2.2 ∧ (x.1 ≤ 1 ∨ x.2.2.length ≤ 4096) ∧ x.2.2.length ≤ 4096 ∧ SlM M' x.2.1 x.2.2 ∧ (∀ m ∈ x.2.2, m.ok M') ∧ M.le M') (fun x => [(4, x.2.1), (22, .slice ad vs.length cap), (23, .int .i64 vs.length), (24, .int .i64 x.1)]) (fun _ => []) (fun x => ss.length - x.1) (0, .slice none 0 0, []) (G := []) ⟨rfl, rfl, rfl, rfl, trivial⟩ (List.Perm.refl _) ⟨Nat.zero_le _, rfl, .inl (Nat.zero_le _), Nat.zero_le _, nil_isl _ _, (fun m hm => by cases hm), Mem.le_refl _⟩ ?_
    rintro ⟨q, w, out⟩ M1 hM1 ⟨hq, hmrg, hlim, hol, hsl, hok, hMM⟩
    dsimp only at hq hmrg hlim hol hsl hok ⊢
    refine SC.seq ?_
    refine SC.region ?_
    refine SL.val (OpV.lss rfl rfl) rfl ?_
    refine SL.nil ?_
    refine seqQ.nm ?_
    refine SC.seq ?_
    first | refine SC.ifp rfl (fun h25 => ?_) (fun h25 => ?_) | refine SC.ite rfl (fun h25 => ?_) (fun h25 => ?_)
    · skip
      have hlt : q < ss.length := by omega
      obtain ⟨g, o, cap', he, hcs, _⟩ := hs.outer.at_ (by omega)
      cases he
      obtain ⟨ms, hms⟩ := getElem?_lt hlt
      obtain ⟨u, hu⟩ := getElem?_lt (l := vs) (k := q) (by omega)
      obtain ⟨hsl2, hok2, hml⟩ := hs.each q u ms hu hms
      have hmay := setErr_at herr hms
      have hml2 : ms.length ≤ 4096 := by have := (maySet_zero hmay).1; rwa [cores_length] at this
      replace hcs := hcs.mono hMM
      replace hsl2 := hsl2.mono hMM
      replace hok2 : ∀ m ∈ ms, m.ok M1 := fun m hm => (hok2 m hm).mono hMM
      refine SC.skip ?_
      refine seqQ.nm ?_
      refine SC.seq ?_
      refine SC.block ?_
      refine SC.seq ?_
      refine SC.region ?_
      refine SL.val (OpV.move rfl) rfl ?_
      refine SL.val (OpV.indexAddr1 Tryz.underlying23 sz25 rfl rfl (by omega) (by omega)) rfl ?_
      refine SL.val (OpV.load _ Tryz.underlying25 rfl rfl (Kn.mem (hcs.at_ q hu))) rfl ?_
      refine SL.val (OpV.assign rfl) rfl ?_
      refine SL.val (OpV.assign rfl) rfl ?_
      refine SL.nil ?_
      refine seqQ.nm ?_
      refine SC.seq ?_
      refine SC.seq ?_
      refine SC.region ?_
      refine SL.val (OpV.move rfl) rfl ?_
      refine SL.val (OpV.eql rfl rfl) rfl ?_
      refine SL.nil ?_
      refine seqQ.nm ?_
      first | refine SC.ifp rfl (fun h30 => ?_) (fun h30 => ?_) | refine SC.ite rfl (fun h30 => ?_) (fun h30 => ?_)
      · skip
        have hq0 : q = 0 := by omega
        subst hq0
        refine SC.seq ?_
        refine SC.region ?_
        refine SL.val (OpV.move rfl) rfl ?_
        refine SL.call ok12 rfl (L1 := []) (List.Perm.refl _) (clone_ev u ms [] M1 hsl2.rsl hok2 (by omega)) rfl ?_
        rintro v32 _ _ hM32 ⟨rfl, rfl⟩
        refine SL.fixRow (m := ms.length) (xs := ms.flatMap Mb.cells) 0 rfl (mbCells_len ms) (by decide) ?_
        intro M2 hM2 hisl
        refine SL.val (OpV.assign rfl) rfl ?_
        refine SL.nil ?_
        refine seqQ.nm ?_
        refine SC.exit ?_
        refine seqQ.e ?_
        refine blockQ.e ?_
        refine seqQ.nm ?_
        refine SC.region ?_
        refine SL.val (OpV.add rfl rfl (IntWalk.i64_in _ (by omega))) rfl ?_
        refine SL.val (OpV.move rfl) rfl ?_
        refine SL.nil ?_
        first
          | exact loopQ.nm (1, v32, ms) (by dsimp only; omega) ⟨rfl, rfl, rfl, rfl, trivial⟩ (List.Perm.refl _) ⟨by dsimp only; omega, hms, .inl (Nat.le_refl _), hml2, hisl, fun m hm => (hok2 m hm).mono hM2, Mem.le_trans hMM hM2⟩
          | exact loopQ.nm (q' + 2, .slice ad8 ys.length cap8, ys) (by dsimp only; omega) ⟨rfl, rfl, rfl, by show some _ = some _; congr 2, trivial⟩ (List.Perm.refl _) ⟨by dsimp only; omega, hmrg2, .inr (by dsimp only; omega), by dsimp only; omega, hisl, fun m hm => (hyok m hm).mono hM2, Mem.le_trans hMM (Mem.le_trans hM35 hM2)⟩
      · skip
        have hq0 : 0 < q := by omega
        obtain ⟨q', rfl⟩ : ∃ q', q = q' + 1 := ⟨q - 1, by omega⟩
        refine SC.skip ?_
        refine seqQ.nm ?_
        refine SC.seq ?_
        refine SC.region ?_
        refine SL.val (OpV.move rfl) rfl ?_
        refine SL.val (OpV.move rfl) rfl ?_
        refine SL.call ok13 rfl (L1 := []) (List.Perm.refl _) (ctwo_ev w u out ms M1 (hst.mono hMM) (hc.mono hMM) hsl hsl2 hok hok2 (by omega) (by omega) (maySet_nodup hmay)) rfl ?_
        rintro v35 _ M35 hM35 ⟨ys, G, rfl, hys, hasc, hyok⟩
        refine SL.perm (L1 := [.row v35 38 9 (ys.flatMap Mb.cells)]) (L2 := G ++ []) (by simpa using List.perm_append_comm (l₁ := [_]) (l₂ := G)) ?_
        refine SL.fixRow (m := ys.length) 0 rfl (mbCells_len ys) (by decide) ?_
        intro M2 hM2 hisl
        obtain ⟨ad8, cap8, rfl, hcap8, _⟩ := hisl.len
        have hmrg2 : Mrg ss (q' + 2) ys := ⟨out, ms, hmrg, hlim.imp (fun h => by omega) id, hms, hys, hasc⟩
        refine SL.val (OpV.assign rfl) rfl ?_
        refine SL.nil ?_
        refine seqQ.nm ?_
        refine SC.seq ?_
        refine SC.region ?_
        refine SL.val (OpV.move rfl) rfl ?_
        refine SL.val (OpV.llen Tryz.underlying25 rfl) rfl ?_
        refine SL.val (OpV.gtr rfl rfl) rfl ?_
        refine SL.nil ?_
        refine seqQ.nm ?_
        first | refine SC.ifp rfl (fun h38 => ?_) (fun h38 => ?_) | refine SC.ite rfl (fun h38 => ?_) (fun h38 => ?_)
        · skip
          refine SC.seq ?_
          refine SC.region ?_
          refine SL.val (OpV.assign rfl) rfl ?_
          refine SL.val (OpV.assign rfl) rfl ?_
          refine SL.nil ?_
          refine seqQ.nm ?_
          refine SC.ret ?_
          refine blockQ.r ?_
          refine seqQ.r ?_
          refine loopQ.r ?_
          refine blockQ.r ?_
          refine seqQ.r ?_
          refine retQ.two rfl (.tmp rfl) (.tmp rfl) ?_ _ (.inr rfl)
          exact .inr ⟨herr, .inl ⟨q' + 2, ys, by omega, by omega, hmrg2, by omega, rfl⟩⟩
        · skip
          refine SC.skip ?_
          refine blockQ.nm ?_
          refine seqQ.nm ?_
          refine SC.region ?_
          refine SL.val (OpV.add rfl rfl (IntWalk.i64_in _ (by omega))) rfl ?_
          refine SL.val (OpV.move rfl) rfl ?_
          refine SL.nil ?_
          first
            | exact loopQ.nm (1, v32, ms) (by dsimp only; omega) ⟨rfl, rfl, rfl, rfl, trivial⟩ (List.Perm.refl _) ⟨by dsimp only; omega, hms, .inl (Nat.le_refl _), hml2, hisl, fun m hm => (hok2 m hm).mono hM2, Mem.le_trans hMM hM2⟩
            | exact loopQ.nm (q' + 2, .slice ad8 ys.length cap8, ys) (by dsimp only; omega) ⟨rfl, rfl, rfl, by show some _ = some _; congr 2, trivial⟩ (List.Perm.refl _) ⟨by dsimp only; omega, hmrg2, .inr (by dsimp only; omega), by dsimp only; omega, hisl, fun m hm => (hyok m hm).mono hM2, Mem.le_trans hMM (Mem.le_trans hM35 hM2)⟩
    · skip
      have hqe : q = ss.length := by omega
      rw [hqe] at hmrg hlim
      refine SC.exit ?_
      refine seqQ.e ?_
      refine loopQ.e ?_
      refine blockQ.e ?_
      refine seqQ.nm ?_
      refine SC.seq ?_
      refine SC.region ?_
      refine SL.val (OpV.move rfl) rfl ?_
      refine SL.val (OpV.assign rfl) rfl ?_
      refine SL.val (OpV.assign rfl) rfl ?_
      refine SL.nil ?_
      refine seqQ.nm ?_
      refine SC.ret ?_
      refine retQ.two rfl (.tmp rfl) (.tmp rfl) ?_ _ (.inr rfl)
      exact .inr ⟨herr, .inr ⟨out, w, hmrg, hlim, rfl, hsl, hok⟩⟩
end Go.Proofs.YtceabkfmjffnhaaGreatDoor
set_option linter.unusedVariables false
set_option linter.unusedSimpArgs false
namespace Go.Proofs.YtceabkfmjffnhaaGreatDoor
open Go Go.Eng

/-! ### what a merge comes to hangs on what the Members say alone -/
def withC (cs : List Core) (c : Core) : List Core := if cs.any (fun x => decide (x.path = c.path)) then cs else cs ++ [c]
def kindC (cs : List Core) (p : Bytes) : Int := ((cs.find? (fun m => decide (m.path = p))).map (·.kind)).getD 0
def clsC (c : Core) : Nat := (classRef c.path).1
def plainC (upper : List Core) (out : List Core) (m : Core) : List Core := if decide (clsC m = 1) && staysP upper m.path then withC out m else out
def whiteC (out : List Core) (m : Core) : List Core := if decide (clsC m ≠ 1) && (decide (parent m.path = []) || decide (kindC out (parent m.path) = 1)) then withC out m else out
def overC (upper : List Core) (out : List Core) (m : Core) : List Core := if decide (clsC m = 1) && decide (m.kind ≠ 1) && decide (kindC upper m.path = 1) then withC out (whiteMb m.path).core else out
def twoC (lower upper : List Core) : List Core := lower.foldl (overC upper) (lower.foldl whiteC (lower.foldl (plainC upper) upper))
theorem cores_append (a b : List Mb) : cores (a ++ b) = cores a ++ cores b := by simp [cores]
theorem cores_withM (ms : List Mb) (m : Mb) : cores (withM ms m) = withC (cores ms) m.core := by
  have h : (cores ms).any (fun x => decide (x.path = m.core.path)) = ms.any (fun x => decide (x.path = m.path)) := by
    unfold cores
    rw [List.any_map]
    rfl
  unfold withM withC
  rw [h]
  split
  · rfl
  · rw [cores_append]; rfl
theorem cores_kind (ms : List Mb) (p : Bytes) : kindC (cores ms) p = kindOf ms p := by
  unfold kindC kindOf cores
  rw [List.find?_map, Option.map_map]
  rfl
theorem cores_fold (f : List Mb → Mb → List Mb) (g : List Core → Core → List Core) (h : ∀ b m, cores (f b m) = g (cores b) m.core) : ∀ (l b : List Mb), cores (l.foldl f b) = (cores l).foldl g (cores b)
  | [], b => rfl
  | m :: l, b => by
    have := cores_fold f g h l (f b m)
    rw [h] at this
    simpa [cores] using this
theorem cores_two (lower upper : List Mb) : cores (twoAcc lower upper) = twoC (cores lower) (cores upper) := by
  unfold twoAcc twoC
  rw [cores_fold (overStep upper) (overC (cores upper)), cores_fold whiteStep whiteC, cores_fold (plainStep upper) (plainC (cores upper))]
  · intro b m
    unfold plainStep plainC
    have e : clsC m.core = cls m := rfl
    have e2 : m.core.path = m.path := rfl
    rw [e, e2]
    split
    · exact cores_withM b m
    · rfl
  · intro b m
    unfold whiteStep whiteC
    have e : clsC m.core = cls m := rfl
    have e2 : m.core.path = m.path := rfl
    rw [e, e2, cores_kind]
    split
    · exact cores_withM b m
    · rfl
  · intro b m
    unfold overStep overC
    have e : clsC m.core = cls m := rfl
    have e2 : m.core.path = m.path := rfl
    have e3 : m.core.kind = m.kind := rfl
    rw [e, e2, e3, cores_kind]
    split
    · exact cores_withM b _
    · rfl
theorem withC_nodup {cs : List Core} {c : Core} (h : (cs.map Core.path).Nodup) : ((withC cs c).map Core.path).Nodup := by
  unfold withC
  split
  · exact h
  · rename_i hn
    rw [List.map_append, List.nodup_append]
    refine ⟨h, by simp, ?_⟩
    intro a ha b hb
    simp at hb
    subst hb
    rintro rfl
    obtain ⟨x, hx, hp⟩ := List.mem_map.1 ha
    exact hn (List.any_eq_true.2 ⟨x, hx, by simp [hp]⟩)
theorem twoC_nodup {lower upper : List Core} (h : (upper.map Core.path).Nodup) : ((twoC lower upper).map Core.path).Nodup := by
  unfold twoC
  refine foldl_inv (p := fun cs : List Core => (cs.map Core.path).Nodup) _ _ _ ?_ fun b x hx hb => ?_
  · refine foldl_inv (p := fun cs : List Core => (cs.map Core.path).Nodup) _ _ _ ?_ fun b x hx hb => ?_
    · refine foldl_inv (p := fun cs : List Core => (cs.map Core.path).Nodup) _ _ _ h fun b x hx hb => ?_
      unfold plainC; split
      · exact withC_nodup hb
      · exact hb
    · unfold whiteC; split
      · exact withC_nodup hb
      · exact hb
  · unfold overC; split
    · exact withC_nodup hb
    · exact hb
def AscC (l : List Core) : Prop := l.Pairwise fun a b => Op.bytesLess b.path a.path = false
theorem asc_cores {l : List Mb} (h : Asc l) : AscC (cores l) := by
  unfold AscC cores
  rw [List.pairwise_map]
  exact h
theorem nodup_inj {l : List Core} (h : (l.map Core.path).Nodup) {a b : Core} (ha : a ∈ l) (hb : b ∈ l) (hp : a.path = b.path) : a = b := by
  obtain ⟨i, hi, rfl⟩ := List.mem_iff_getElem.1 ha
  obtain ⟨j, hj, rfl⟩ := List.mem_iff_getElem.1 hb
  unfold List.Nodup at h
  rw [List.pairwise_map, List.pairwise_iff_getElem] at h
  rcases Nat.lt_trichotomy i j with hij | rfl | hij
  · exact absurd hp (h i j hi hj hij)
  · rfl
  · exact absurd hp.symm (h j i hj hi hij)
theorem asc_unique {a b t : List Core} (hn : (t.map Core.path).Nodup) (ha : a.Perm t) (hb : b.Perm t) (sa : AscC a) (sb : AscC b) : a = b := by
  refine List.Perm.eq_of_pairwise (le := fun a b : Core => Op.bytesLess b.path a.path = false) ?_ sa sb (ha.trans hb.symm)
  intro x y hx hy h1 h2
  have hp : x.path = y.path := by
    have := bl_leq x.path y.path
    rw [h1, h2] at this
    simpa using this
  exact nodup_inj hn (ha.mem_iff.1 hx) (hb.mem_iff.1 hy) hp
theorem core_nodup {ms : List Mb} (h : (ms.map Mb.path).Nodup) : ((cores ms).map Core.path).Nodup := by
  have : (cores ms).map Core.path = ms.map Mb.path := by simp [cores]; intro a _; rfl
  rw [this]; exact h
theorem cores_at {ss ss' : List (List Mb)} (h : ss.map cores = ss'.map cores) {k : Nat} {a b : List Mb} (ha : ss[k]? = some a) (hb : ss'[k]? = some b) : cores a = cores b := by
  have := congrArg (·[k]?) h
  simpa [ha, hb] using this
theorem mrg_unique {ss ss' : List (List Mb)} (h : ss.map cores = ss'.map cores) (hnd : ∀ (k : Nat) (ms : List Mb), ss[k]? = some ms → (ms.map Mb.path).Nodup) : ∀ (k : Nat) (out out' : List Mb), Mrg ss k out → Mrg ss' k out' → cores out = cores out'
  | 0, out, out', h1, h2 => by
    have e1 : out = [] := h1
    have e2 : out' = [] := h2
    rw [e1, e2]
  | 1, out, out', h1, h2 => cores_at h h1 h2
  | k + 2, out, out', h1, h2 => by
    obtain ⟨p, u, hp, _, hu, hperm, hasc⟩ := h1
    obtain ⟨p', u', hp', _, hu', hperm', hasc'⟩ := h2
    have e1 := mrg_unique h hnd (k + 1) p p' hp hp'
    have e2 := cores_at h hu hu'
    have q1 : (cores out).Perm (twoC (cores p) (cores u)) := by
      have := hperm.map Mb.core
      rw [← cores_two]; exact this
    have q2 : (cores out').Perm (twoC (cores p) (cores u)) := by
      have := hperm'.map Mb.core
      rw [e1, e2, ← cores_two]; exact this
    exact asc_unique (twoC_nodup (core_nodup (hnd _ _ hu))) q1 q2 (asc_cores hasc) (asc_cores hasc')
theorem setErr_cores {ss ss' : List (List Mb)} (h : ss.map cores = ss'.map cores) : ∀ k, setErr ss k = setErr ss' k
  | 0 => rfl
  | k + 1 => by
    have ih := setErr_cores h k
    unfold setErr
    rw [ih]
    split
    · rfl
    · have := congrArg (·[k]?) h
      simp only [List.getElem?_map] at this
      cases h1 : ss[k]? <;> cases h2 : ss'[k]? <;> simp [h1, h2] at this ⊢
      rw [this]
theorem mrg_down {ss : List (List Mb)} {k : Nat} : ∀ (d : Nat) (out : List Mb), Mrg ss (k + 1 + d) out → 0 < d → ∃ p, Mrg ss (k + 1) p ∧ (k = 0 ∨ p.length ≤ 4096)
  | 0, _, _, h => absurd h (Nat.lt_irrefl 0)
  | d + 1, out, h, _ => by
    have h' : Mrg ss (k + d + 2) out := by
      have e : k + 1 + (d + 1) = k + d + 2 := by omega
      rw [e] at h; exact h
    obtain ⟨p, u, hp, hl, _⟩ := h'
    rcases Nat.eq_zero_or_pos d with rfl | hd
    · exact ⟨p, hp, hl⟩
    · exact mrg_down d p (by rw [show k + 1 + d = k + d + 1 by omega]; exact hp) hd
theorem core_len {a b : List Mb} (h : cores a = cores b) : a.length = b.length := by
  have := congrArg List.length h
  simpa [cores] using this
theorem not_both {ss ss' : List (List Mb)} (h : ss.map cores = ss'.map cores) (hnd : ∀ (k : Nat) (ms : List Mb), ss[k]? = some ms → (ms.map Mb.path).Nodup) {k : Nat} {out out' : List Mb} (hk2 : 2 ≤ k) (hkl : k ≤ ss.length) (h1 : Mrg ss k out) (hl : 4096 < out.length) (h2 : Mrg ss' ss'.length out') (hl2 : ss'.length ≤ 1 ∨ out'.length ≤ 4096) : False := by
  have hsl : ss.length = ss'.length := by have := congrArg List.length h; simpa using this
  obtain ⟨k', rfl⟩ : ∃ k', k = k' + 1 := ⟨k - 1, by omega⟩
  rcases Nat.lt_or_ge (k' + 1) ss'.length with hlt | hge
  · obtain ⟨p, hp, hpl⟩ := mrg_down (ss := ss') (k := k') (ss'.length - (k' + 1)) out' (by rw [show k' + 1 + (ss'.length - (k' + 1)) = ss'.length by omega]; exact h2) (by omega)
    have := core_len (mrg_unique h hnd _ _ _ h1 hp)
    omega
  · have e : k' + 1 = ss'.length := by omega
    rw [e] at h1
    have := core_len (mrg_unique h hnd _ _ _ h1 h2)
    omega
/-- Two merges of sets that say the same come to the same. -/
theorem merge_same {M M' : Mem} {ss ss' : List (List Mb)} {v v' : Value} (h : ss.map cores = ss'.map cores) (h1 : MergeOut M ss v) (h2 : MergeOut M' ss' v') :
    ∃ (a b : Value) (e : Nat) (outA outB : List Mb), v = .tuple #[a, .int .i64 e] ∧ v' = .tuple #[b, .int .i64 e] ∧ SlM M a outA ∧ (∀ m ∈ outA, m.ok M) ∧ SlM M' b outB ∧ (∀ m ∈ outB, m.ok M') ∧ cores outA = cores outB ∧ outA.length ≤ 16777216 := by
  have hse : setErr ss ss.length = setErr ss' ss'.length := by
    have hsl : ss.length = ss'.length := by have := congrArg List.length h; simpa using this
    rw [setErr_cores h, hsl]
  have nil_of : ∀ (M : Mem), SlM M (.slice none 0 0) [] := fun M => nil_isl M 9
  rcases h1 with ⟨e1, rfl⟩ | ⟨e1, h1⟩
  · rcases h2 with ⟨e2, rfl⟩ | ⟨e2, h2⟩
    · exact ⟨_, _, setErr ss ss.length, [], [], rfl, by rw [hse], nil_of M, (fun m hm => by cases hm), nil_of M', (fun m hm => by cases hm), rfl, Nat.zero_le _⟩
    · exact absurd (hse.trans e2) e1
  · rcases h2 with ⟨e2, rfl⟩ | ⟨e2, h2⟩
    · exact absurd (hse.symm.trans e1) e2
    · have hnd : ∀ (k : Nat) (ms : List Mb), ss[k]? = some ms → (ms.map Mb.path).Nodup := fun k ms hm => maySet_nodup (setErr_at e1 hm)
      have hnd' : ∀ (k : Nat) (ms : List Mb), ss'[k]? = some ms → (ms.map Mb.path).Nodup := fun k ms hm => maySet_nodup (setErr_at e2 hm)
      rcases h1 with ⟨k, out, k2, kl, m1, l1, rfl⟩ | ⟨out, u, m1, l1, rfl, s1, o1⟩
      · rcases h2 with ⟨k', out', k2', kl', m2, l2, rfl⟩ | ⟨out', u', m2, l2, rfl, s2, o2⟩
        · exact ⟨_, _, 42, [], [], rfl, rfl, nil_of M, (fun m hm => by cases hm), nil_of M', (fun m hm => by cases hm), rfl, Nat.zero_le _⟩
        · exact absurd (not_both h hnd k2 kl m1 l1 m2 l2) id
      · rcases h2 with ⟨k', out', k2', kl', m2, l2, rfl⟩ | ⟨out', u', m2, l2, rfl, s2, o2⟩
        · exact absurd (not_both h.symm hnd' k2' kl' m2 l2 m1 l1) id
        · have hsl : ss'.length = ss.length := by have := congrArg List.length h; simpa using this.symm
          rw [hsl] at m2
          refine ⟨u, u', 0, out, out', rfl, rfl, s1, o1, s2, o2, mrg_unique h hnd _ _ _ m1 m2, ?_⟩
          rcases l1 with l1 | l1
          · rcases Nat.lt_or_ge 0 ss.length with h0 | h0
            · have e : ss.length = 1 := by omega
              rw [e] at m1
              have := (maySet_zero (setErr_at e1 (show ss[0]? = some out from m1))).1
              rw [cores_length] at this
              omega
            · have e : ss.length = 0 := by omega
              rw [e] at m1
              have : out = [] := m1
              rw [this]
              exact Nat.zero_le _
          · omega
end Go.Proofs.YtceabkfmjffnhaaGreatDoor
set_option linter.unusedVariables false
set_option linter.unusedSimpArgs false
namespace Go.Proofs.YtceabkfmjffnhaaGreatDoor
open Go Go.Eng

def shortP (p : Bytes) : Bytes := match (List.range (p.take 300).length).find? (fun i => decide (((p.take 300).take (i + 1)).count 47 = 20)) with
  | some i => (p.take 300).take i
  | none => p.take 300
theorem shortP_len (p : Bytes) : (shortP p).length ≤ 300 := by
  unfold shortP
  split
  · rw [List.length_take, List.length_take]; omega
  · rw [List.length_take]; omega
theorem count_step {q : Bytes} {k : Nat} (hk : k < q.length) : (q.take (k + 1)).count 47 = (q.take k).count 47 + (if q.getD k 0 = 47 then 1 else 0) := by
  rw [List.take_add_one, List.getElem?_eq_getElem hk, List.count_append]
  simp only [Option.toList_some, List.count_singleton, List.getD_eq_getElem?_getD, List.getElem?_eq_getElem hk, Option.getD_some]
  by_cases h : q[k] = 47 <;> simp [h]
theorem shortP_at {p : Bytes} {k : Nat} (hk : k < (p.take 300).length) (hno : ∀ i, i < k → ((p.take 300).take (i + 1)).count 47 ≠ 20) (h : ((p.take 300).take (k + 1)).count 47 = 20) : shortP p = (p.take 300).take k := by
  unfold shortP
  have : (List.range (p.take 300).length).find? (fun i => decide (((p.take 300).take (i + 1)).count 47 = 20)) = some k := by
    rw [List.find?_range_eq_some]
    exact ⟨by simpa using h, by simpa using hk, fun j hj => by simpa using hno j hj⟩
  rw [this]
theorem shortP_none {p : Bytes} (hno : ∀ i, i < (p.take 300).length → ((p.take 300).take (i + 1)).count 47 ≠ 20) : shortP p = p.take 300 := by
  unfold shortP
  have : (List.range (p.take 300).length).find? (fun i => decide (((p.take 300).take (i + 1)).count 47 = 20)) = none := by
    rw [List.find?_range_eq_none]
    intro i hi
    simpa using hno i hi
  rw [this]
theorem take_min (p : Bytes) (n : Nat) : p.take (min (p.length : Int) (n : Int)).toNat = p.take n := by
  rw [List.take_eq_take_iff]
  omega
theorem str_take_min (p : Bytes) (n : Nat) : str (p.take (min (p.length : Int) (n : Int)).toNat) = str (p.take n) := congrArg (fun l => Value.string (bs l)) (take_min p n)
theorem short_ev (p : Bytes) (M : Mem) (hp : p.length ≤ big) : Ev Tryz.prog 41 [str p].toArray [] M (Pu M (str (shortP p))) := by
  have hp' : p.length ≤ 268435456 := hp
  refine Ev.enter Tryz.func41 rfl Tryz.ntmps41 rfl ?_
  refine SC.seq ?_
  refine SC.region ?_
  refine SL.val (OpV.assign rfl) rfl ?_
  refine SL.nil ?_
  refine seqQ.nm ?_
  refine SC.seq ?_
  refine SC.region ?_
  refine SL.val (OpV.move rfl) rfl ?_
  refine SL.val (OpV.move rfl) rfl ?_
  refine SL.val (OpV.slen Tryz.underlying9 rfl) rfl ?_
  refine SL.val (OpV.bmin rfl rfl) rfl ?_
  refine SL.val (show OpV _ _ _ _ _ (str (p.take 300)) by rw [← (str_take_min p 300)]; exact (OpV.ssliceH Tryz.underlying9 rfl rfl (by omega) (by omega))) rfl ?_
  refine SL.val (OpV.assign rfl) rfl ?_
  refine SL.nil ?_
  refine seqQ.nm ?_
  refine SC.seq ?_
  have hql : (p.take 300).length ≤ 300 := List.length_take_le _ _
  refine SC.region ?_
  refine SL.val (OpV.assign rfl) rfl ?_
  refine SL.nil ?_
  refine seqQ.nm ?_
  refine SC.seq ?_
  refine SC.seq ?_
  refine SC.region ?_
  refine SL.val (OpV.assign rfl) rfl ?_
  refine SL.nil ?_
  refine seqQ.nm ?_
  refine SC.block ?_
  refine SC.loop (ι := Nat) (fun k M' => k ≤ (p.take 300).length ∧ (∀ i, i < k → ((p.take 300).take (i + 1)).count 47 ≠ 20) ∧ ((p.take 300).take k).count 47 < 20 ∧ M = M') (fun k => [(0, str (p.take 300)), (3, .int .i64 (((p.take 300).take k).count 47 : Nat)), (4, .int .i64 (k : Nat))]) (fun _ => []) (fun k => (p.take 300).length - k) 0 (G := []) ⟨rfl, by show some _ = some _; simp, rfl, trivial⟩ (List.Perm.refl _) ⟨Nat.zero_le _, (fun i hi => absurd hi (Nat.not_lt_zero i)), by simp, rfl⟩ ?_
  rintro k _ _ ⟨hk, hno, hlt20, rfl⟩
  refine SC.seq ?_
  refine SC.seq ?_
  refine SC.region ?_
  refine SL.val (OpV.move rfl) rfl ?_
  refine SL.val (OpV.move rfl) rfl ?_
  refine SL.val (OpV.slen Tryz.underlying9 rfl) rfl ?_
  refine SL.val (OpV.lss rfl rfl) rfl ?_
  refine SL.nil ?_
  refine seqQ.nm ?_
  first | refine SC.ifp rfl (fun h13 => ?_) (fun h13 => ?_) | refine SC.ite rfl (fun h13 => ?_) (fun h13 => ?_)
  · skip
    have hlt : k < (p.take 300).length := by omega
    have hcs := count_step hlt
    refine SC.skip ?_
    refine seqQ.nm ?_
    refine SC.seq ?_
    refine SC.block ?_
    refine SC.seq ?_
    refine SC.seq ?_
    refine SC.region ?_
    refine SL.val (OpV.move rfl) rfl ?_
    refine SL.val (OpV.move rfl) rfl ?_
    refine SL.val (OpV.sindexG Tryz.underlying9 rfl rfl (by omega) (by omega)) rfl ?_
    refine SL.val (OpV.eql rfl rfl) rfl ?_
    refine SL.nil ?_
    refine seqQ.nm ?_
    first | refine SC.ifp rfl (fun h19 => ?_) (fun h19 => ?_) | refine SC.ite rfl (fun h19 => ?_) (fun h19 => ?_)
    · skip
      have h47 : (p.take 300).getD k 0 = 47 := (u8_47 _).1 (by simpa using h19)
      rw [if_pos h47] at hcs
      refine SC.region ?_
      refine SL.val (OpV.move rfl) rfl ?_
      refine SL.val (OpV.add rfl rfl (IntWalk.i64_in _ (by omega))) rfl ?_
      refine SL.val (OpV.assign rfl) rfl ?_
      refine SL.nil ?_
      refine seqQ.nm ?_
      refine SC.seq ?_
      refine SC.region ?_
      refine SL.val (OpV.move rfl) rfl ?_
      refine SL.val (OpV.eql rfl rfl) rfl ?_
      refine SL.nil ?_
      refine seqQ.nm ?_
      first | refine SC.ifp rfl (fun h23 => ?_) (fun h23 => ?_) | refine SC.ite rfl (fun h23 => ?_) (fun h23 => ?_)
      · skip
        refine SC.seq ?_
        refine SC.region ?_
        refine SL.val (OpV.move rfl) rfl ?_
        refine SL.val (OpV.move rfl) rfl ?_
        refine SL.val (OpV.ssliceH Tryz.underlying9 rfl rfl (by omega) (by omega)) rfl ?_
        refine SL.val (OpV.assign rfl) rfl ?_
        refine SL.nil ?_
        refine seqQ.nm ?_
        refine SC.ret ?_
        refine blockQ.r ?_
        refine seqQ.r ?_
        refine loopQ.r ?_
        refine blockQ.r ?_
        refine seqQ.r ?_
        refine retQ.one rfl (.tmp rfl) ?_ _ (.inr rfl)
        first
          | exact absurd h23 (by omega)
          | exact ⟨by rw [shortP_at hlt hno (by omega)]; rfl, rfl, rfl⟩
      · skip
        refine SC.skip ?_
        refine blockQ.nm ?_
        refine seqQ.nm ?_
        refine SC.region ?_
        refine SL.val (OpV.move rfl) rfl ?_
        refine SL.val (OpV.add rfl rfl (IntWalk.i64_in _ (by omega))) rfl ?_
        refine SL.val (OpV.assign rfl) rfl ?_
        refine SL.nil ?_
        refine loopQ.nm (k + 1) (by omega) ⟨rfl, by show some _ = some _; congr 2; rw [hcs]; first | rfl | (push_cast; rfl) | omega, rfl, trivial⟩ (List.Perm.refl _) ⟨by omega, ?_, by omega, rfl⟩
        intro i hi
        rcases Nat.lt_or_ge i k with h | h
        · exact hno i h
        · obtain rfl : i = k := by omega
          omega
    · skip
      have h47 : ¬ (p.take 300).getD k 0 = 47 := fun e => h19 (by simpa using (u8_47 _).2 e)
      rw [if_neg h47] at hcs
      refine SC.skip ?_
      refine seqQ.nm ?_
      refine SC.seq ?_
      refine SC.region ?_
      refine SL.val (OpV.move rfl) rfl ?_
      refine SL.val (OpV.eql rfl rfl) rfl ?_
      refine SL.nil ?_
      refine seqQ.nm ?_
      first | refine SC.ifp rfl (fun h23 => ?_) (fun h23 => ?_) | refine SC.ite rfl (fun h23 => ?_) (fun h23 => ?_)
      · skip
        refine SC.seq ?_
        refine SC.region ?_
        refine SL.val (OpV.move rfl) rfl ?_
        refine SL.val (OpV.move rfl) rfl ?_
        refine SL.val (OpV.ssliceH Tryz.underlying9 rfl rfl (by omega) (by omega)) rfl ?_
        refine SL.val (OpV.assign rfl) rfl ?_
        refine SL.nil ?_
        refine seqQ.nm ?_
        refine SC.ret ?_
        refine blockQ.r ?_
        refine seqQ.r ?_
        refine loopQ.r ?_
        refine blockQ.r ?_
        refine seqQ.r ?_
        refine retQ.one rfl (.tmp rfl) ?_ _ (.inr rfl)
        first
          | exact absurd h23 (by omega)
          | exact ⟨by rw [shortP_at hlt hno (by omega)]; rfl, rfl, rfl⟩
      · skip
        refine SC.skip ?_
        refine blockQ.nm ?_
        refine seqQ.nm ?_
        refine SC.region ?_
        refine SL.val (OpV.move rfl) rfl ?_
        refine SL.val (OpV.add rfl rfl (IntWalk.i64_in _ (by omega))) rfl ?_
        refine SL.val (OpV.assign rfl) rfl ?_
        refine SL.nil ?_
        refine loopQ.nm (k + 1) (by omega) ⟨rfl, by show some _ = some _; congr 2; rw [hcs]; first | rfl | (push_cast; rfl) | omega, rfl, trivial⟩ (List.Perm.refl _) ⟨by omega, ?_, by omega, rfl⟩
        intro i hi
        rcases Nat.lt_or_ge i k with h | h
        · exact hno i h
        · obtain rfl : i = k := by omega
          omega
  · skip
    have hke : k = (p.take 300).length := by omega
    rw [hke] at hno
    refine SC.exit ?_
    refine seqQ.e ?_
    refine loopQ.e ?_
    refine blockQ.e ?_
    refine seqQ.nm ?_
    refine SC.seq ?_
    refine SC.region ?_
    refine SL.val (OpV.move rfl) rfl ?_
    refine SL.val (OpV.assign rfl) rfl ?_
    refine SL.nil ?_
    refine seqQ.nm ?_
    refine SC.ret ?_
    refine retQ.one rfl (.tmp rfl) ?_ _ (.inr rfl)
    exact ⟨by rw [shortP_none hno], rfl, rfl⟩
def dirMb (p : Bytes) (mode : Int) : Mb := ⟨p, 1, mode, 0, 0, 0, .slice none 0 0, [], .slice none 0 0, [], []⟩
theorem dirMb_ok (p : Bytes) (mode : Int) (M : Mem) (hp : p.length ≤ big) : (dirMb p mode).ok M :=
  ⟨nil_isl M 2, nil_isl M 1, hp, Nat.zero_le _, (fun q hq => by cases hq), Nat.zero_le _, Nat.zero_le _⟩
theorem dir19_ev (p : Bytes) (mode : Int) (M : Mem) : Ev Tryz.prog 38 [str p, .int .u32 mode].toArray [] M (Pu M (.agg (dirMb p mode).cells.toArray)) := by
  refine Ev.lax ?_
  refine Ev.enter Tryz.func38 rfl Tryz.ntmps38 rfl ?_
  refine SC.seq ?_
  refine SC.region ?_
  refine SL.act (OpH.alloc zr38) rfl ?_; rintro _ _ _ hM4 ⟨b4, rfl, rfl, rfl⟩; clear hM4
  refine SL.nil ?_
  refine seqQ.nm ?_
  refine SC.seq ?_
  refine SC.region ?_
  refine SL.val (OpV.move rfl) rfl ?_
  refine SL.val (OpV.move rfl) rfl ?_
  refine SL.val (show OpV _ _ _ _ _ (.agg ((dirMb p mode).node.toArray)) from OpV.bld bl36 rfl rfl) rfl ?_
  refine SL.val (show OpV _ _ _ _ _ (.agg ((dirMb p mode).cells.toArray)) from OpV.bld bl38 rfl rfl) rfl ?_
  first
    | refine SL.unit (OpU.store 0 rfl rfl rfl sz38 (by first | exact Nat.le_of_ble_eq_true rfl | (simp; done) | (simp; omega) | omega) (by simp [Value.cells, Value.oneCell', dirMb, Mb.cells])) ?_
    | refine SL.unit (OpU.storeRow 0 rfl rfl rfl sz38 (by first | exact Nat.le_of_ble_eq_true rfl | (simp; done) | (simp; omega) | omega) (by simp [Value.cells, Value.oneCell', dirMb, Mb.cells])) ?_
    | refine SL.unit (OpU.store 1 rfl rfl rfl sz38 (by first | exact Nat.le_of_ble_eq_true rfl | (simp; done) | (simp; omega) | omega) (by simp [Value.cells, Value.oneCell', dirMb, Mb.cells])) ?_
    | refine SL.unit (OpU.storeRow 1 rfl rfl rfl sz38 (by first | exact Nat.le_of_ble_eq_true rfl | (simp; done) | (simp; omega) | omega) (by simp [Value.cells, Value.oneCell', dirMb, Mb.cells])) ?_
    | refine SL.unit (OpU.store 2 rfl rfl rfl sz38 (by first | exact Nat.le_of_ble_eq_true rfl | (simp; done) | (simp; omega) | omega) (by simp [Value.cells, Value.oneCell', dirMb, Mb.cells])) ?_
    | refine SL.unit (OpU.storeRow 2 rfl rfl rfl sz38 (by first | exact Nat.le_of_ble_eq_true rfl | (simp; done) | (simp; omega) | omega) (by simp [Value.cells, Value.oneCell', dirMb, Mb.cells])) ?_
    | refine SL.unit (OpU.store 3 rfl rfl rfl sz38 (by first | exact Nat.le_of_ble_eq_true rfl | (simp; done) | (simp; omega) | omega) (by simp [Value.cells, Value.oneCell', dirMb, Mb.cells])) ?_
    | refine SL.unit (OpU.storeRow 3 rfl rfl rfl sz38 (by first | exact Nat.le_of_ble_eq_true rfl | (simp; done) | (simp; omega) | omega) (by simp [Value.cells, Value.oneCell', dirMb, Mb.cells])) ?_
  refine SL.nil ?_
  refine seqQ.nm ?_
  refine SC.ret ?_
  refine retQ.one rfl (.cells (cs := (dirMb p mode).cells) _ Tryz.underlying38 rfl rfl sz38 (Kns.blk 0 rfl rfl)) ?_ _ (.inr rfl)
  exact rfl
theorem dir25_ev (p : Bytes) (mode : Int) (M : Mem) : Ev Tryz.prog 18 [str p, .int .u32 mode].toArray [] M (Pu M (.agg (dirMb p mode).cells.toArray)) := by
  refine Ev.lax ?_
  refine Ev.enter Tryz.func18 rfl Tryz.ntmps18 rfl ?_
  refine SC.seq ?_
  refine SC.region ?_
  refine SL.act (OpH.alloc zr38) rfl ?_; rintro _ _ _ hM4 ⟨b4, rfl, rfl, rfl⟩; clear hM4
  refine SL.nil ?_
  refine seqQ.nm ?_
  refine SC.seq ?_
  refine SC.region ?_
  refine SL.val (OpV.move rfl) rfl ?_
  refine SL.val (OpV.move rfl) rfl ?_
  refine SL.val (show OpV _ _ _ _ _ (.agg ((dirMb p mode).node.toArray)) from OpV.bld bl36 rfl rfl) rfl ?_
  refine SL.val (show OpV _ _ _ _ _ (.agg ((dirMb p mode).cells.toArray)) from OpV.bld bl38 rfl rfl) rfl ?_
  first
    | refine SL.unit (OpU.store 0 rfl rfl rfl sz38 (by first | exact Nat.le_of_ble_eq_true rfl | (simp; done) | (simp; omega) | omega) (by simp [Value.cells, Value.oneCell', dirMb, Mb.cells])) ?_
    | refine SL.unit (OpU.storeRow 0 rfl rfl rfl sz38 (by first | exact Nat.le_of_ble_eq_true rfl | (simp; done) | (simp; omega) | omega) (by simp [Value.cells, Value.oneCell', dirMb, Mb.cells])) ?_
    | refine SL.unit (OpU.store 1 rfl rfl rfl sz38 (by first | exact Nat.le_of_ble_eq_true rfl | (simp; done) | (simp; omega) | omega) (by simp [Value.cells, Value.oneCell', dirMb, Mb.cells])) ?_
    | refine SL.unit (OpU.storeRow 1 rfl rfl rfl sz38 (by first | exact Nat.le_of_ble_eq_true rfl | (simp; done) | (simp; omega) | omega) (by simp [Value.cells, Value.oneCell', dirMb, Mb.cells])) ?_
    | refine SL.unit (OpU.store 2 rfl rfl rfl sz38 (by first | exact Nat.le_of_ble_eq_true rfl | (simp; done) | (simp; omega) | omega) (by simp [Value.cells, Value.oneCell', dirMb, Mb.cells])) ?_
    | refine SL.unit (OpU.storeRow 2 rfl rfl rfl sz38 (by first | exact Nat.le_of_ble_eq_true rfl | (simp; done) | (simp; omega) | omega) (by simp [Value.cells, Value.oneCell', dirMb, Mb.cells])) ?_
    | refine SL.unit (OpU.store 3 rfl rfl rfl sz38 (by first | exact Nat.le_of_ble_eq_true rfl | (simp; done) | (simp; omega) | omega) (by simp [Value.cells, Value.oneCell', dirMb, Mb.cells])) ?_
    | refine SL.unit (OpU.storeRow 3 rfl rfl rfl sz38 (by first | exact Nat.le_of_ble_eq_true rfl | (simp; done) | (simp; omega) | omega) (by simp [Value.cells, Value.oneCell', dirMb, Mb.cells])) ?_
  refine SL.nil ?_
  refine seqQ.nm ?_
  refine SC.ret ?_
  refine retQ.one rfl (.cells (cs := (dirMb p mode).cells) _ Tryz.underlying38 rfl rfl sz38 (Kns.blk 0 rfl rfl)) ?_ _ (.inr rfl)
  exact rfl
def fileMb (p d : Bytes) (v : Value) : Mb := ⟨p, 2, 0, 0, 0, 0, .slice none 0 0, [], v, d, []⟩
theorem file25_ev (p d : Bytes) (M : Mem) (hp : p.length ≤ big) (hd : d.length ≤ big) : Ev Tryz.prog 17 [str p, str d].toArray [] M fun v' L' M' => L' = [] ∧ ∃ v, v' = .agg (fileMb p d v).cells.toArray ∧ (fileMb p d v).ok M' := by
  have hd' : d.length ≤ 268435456 := hd
  refine Ev.laxR ?_
  refine Ev.enter Tryz.func17 rfl Tryz.ntmps17 rfl ?_
  refine SC.seq ?_
  refine SC.region ?_
  refine SL.act (OpH.alloc zr38) rfl ?_; rintro _ _ _ hM4 ⟨b4, rfl, rfl, rfl⟩; clear hM4
  refine SL.nil ?_
  refine seqQ.nm ?_
  refine SC.seq ?_
  refine SC.region ?_
  refine SL.val (OpV.move rfl) rfl ?_
  refine SL.val (OpV.move rfl) rfl ?_
  refine SL.act (OpH.toBytes Tryz.underlying9 Tryz.underlying34 Tryz.underlying5 rfl (by unfold maxLen; omega)) rfl ?_
  rintro v7 _ _ hM7 ⟨rfl, rfl, g7, c7, rfl⟩
  refine SL.fixRow (m := d.length) (xs := d.map fun c => .int .u8 c.toNat) 0 rfl (by simp) (by decide) ?_
  intro M2 hM2 hisl
  refine SL.val (show OpV _ _ _ _ _ (.agg ((fileMb p d (.slice (some ⟨g7, 0, none⟩) d.length c7)).node.toArray)) from OpV.bld bl36 rfl rfl) rfl ?_
  refine SL.val (show OpV _ _ _ _ _ (.agg ((fileMb p d (.slice (some ⟨g7, 0, none⟩) d.length c7)).cells.toArray)) from OpV.bld bl38 rfl rfl) rfl ?_
  first
    | refine SL.unit (OpU.store 0 rfl rfl rfl sz38 (by first | exact Nat.le_of_ble_eq_true rfl | (simp; done) | (simp; omega) | omega) (by simp [Value.cells, Value.oneCell', fileMb, Mb.cells])) ?_
    | refine SL.unit (OpU.storeRow 0 rfl rfl rfl sz38 (by first | exact Nat.le_of_ble_eq_true rfl | (simp; done) | (simp; omega) | omega) (by simp [Value.cells, Value.oneCell', fileMb, Mb.cells])) ?_
    | refine SL.unit (OpU.store 1 rfl rfl rfl sz38 (by first | exact Nat.le_of_ble_eq_true rfl | (simp; done) | (simp; omega) | omega) (by simp [Value.cells, Value.oneCell', fileMb, Mb.cells])) ?_
    | refine SL.unit (OpU.storeRow 1 rfl rfl rfl sz38 (by first | exact Nat.le_of_ble_eq_true rfl | (simp; done) | (simp; omega) | omega) (by simp [Value.cells, Value.oneCell', fileMb, Mb.cells])) ?_
    | refine SL.unit (OpU.store 2 rfl rfl rfl sz38 (by first | exact Nat.le_of_ble_eq_true rfl | (simp; done) | (simp; omega) | omega) (by simp [Value.cells, Value.oneCell', fileMb, Mb.cells])) ?_
    | refine SL.unit (OpU.storeRow 2 rfl rfl rfl sz38 (by first | exact Nat.le_of_ble_eq_true rfl | (simp; done) | (simp; omega) | omega) (by simp [Value.cells, Value.oneCell', fileMb, Mb.cells])) ?_
    | refine SL.unit (OpU.store 3 rfl rfl rfl sz38 (by first | exact Nat.le_of_ble_eq_true rfl | (simp; done) | (simp; omega) | omega) (by simp [Value.cells, Value.oneCell', fileMb, Mb.cells])) ?_
    | refine SL.unit (OpU.storeRow 3 rfl rfl rfl sz38 (by first | exact Nat.le_of_ble_eq_true rfl | (simp; done) | (simp; omega) | omega) (by simp [Value.cells, Value.oneCell', fileMb, Mb.cells])) ?_
  refine SL.nil ?_
  refine seqQ.nm ?_
  refine SC.ret ?_
  refine retQ.one rfl (.cells (cs := (fileMb p d (.slice (some ⟨g7, 0, none⟩) d.length c7)).cells) _ Tryz.underlying38 rfl rfl sz38 (Kns.blk 0 rfl rfl)) ?_ _ (.inr rfl)
  exact ⟨_, rfl, nil_isl _ 2, hisl, hp, Nat.zero_le _, (fun q hq => by cases hq), Nat.zero_le _, hd⟩
theorem av_ones (av : List (Bytes × Bytes)) : ∀ u ∈ avCells av, u.oneCell' = true := by
  intro u hu
  obtain ⟨p, hp, hu⟩ := List.mem_flatMap.1 hu
  simp at hu
  rcases hu with rfl | rfl <;> rfl
theorem clone2_ev (v : Value) (av : List (Bytes × Bytes)) (LL : List Res) (M : Mem) (hv : RSl LL M v 2 av.length (avCells av)) (hl : av.length ≤ 16777216) :
    Ev Tryz.prog 42 [v].toArray LL M fun v' L' M' => L' = .row v' 50 2 (avCells av) :: LL ∧ M = M' := by
  have hsrc := fun r => (RSl.cons hv r).src
  obtain ⟨ad, cap, rfl, h1, h3, h4, h5⟩ := hv
  refine Ev.enter Tryz.func42 rfl Tryz.ntmps42 rfl ?_
  refine SC.seq ?_
  refine SC.region ?_
  refine SL.val (OpV.assign rfl) rfl ?_
  refine SL.nil ?_
  refine seqQ.nm ?_
  refine SC.seq ?_
  refine SC.seq ?_
  refine SC.region ?_
  refine SL.val (OpV.move rfl) rfl ?_
  refine SL.val (OpV.slnil Tryz.underlying33 rfl) rfl ?_
  refine SL.nil ?_
  refine seqQ.nm ?_
  first | refine SC.ifp rfl (fun h4 => ?_) (fun h4 => ?_) | refine SC.ite rfl (fun h4 => ?_) (fun h4 => ?_)
  · skip
    have hms : av = [] := by
      rcases h5 with h5 | ⟨g, o, rfl, _⟩
      · exact List.eq_nil_of_length_eq_zero h5
      · simp at h4
    subst hms
    refine SC.nilrow 50 2 ?_
    refine SC.seq ?_
    refine SC.region ?_
    refine SL.val (OpV.assign rfl) rfl ?_
    refine SL.nil ?_
    refine seqQ.nm ?_
    refine SC.ret ?_
    refine seqQ.r ?_
    refine retQ.one rfl (.tmp rfl) ?_ _ (.inr rfl)
    exact ⟨rfl, rfl⟩
  · skip
    refine SC.skip ?_
    refine seqQ.nm ?_
    refine SC.seq ?_
    refine SC.region ?_
    refine SL.act (OpH.buildSlice Tryz.underlying33 zs50 (by decide) rfl rfl rfl) rfl ?_; rintro _ _ _ hM5 ⟨b5, rfl, rfl, rfl⟩; clear hM5
    refine SL.blkRow 0 2 0 rfl rfl (Nat.zero_le _) ?_
    refine SL.val (OpV.move rfl) rfl ?_
    refine SL.act (OpH.append 0 rfl Tryz.underlying33 Tryz.underlying33 rfl ti50 rfl (by decide) (by decide) rfl rfl (hsrc _) (av_ones av) (by rw [avCells_len]; simp; omega)) rfl ?_; rintro v7 _ _ hM7 ⟨rfl, rfl, hn7⟩; clear hM7
    refine SL.val (OpV.assign rfl) rfl ?_
    refine SL.nil ?_
    refine seqQ.nm ?_
    refine SC.ret ?_
    refine retQ.one rfl (.tmp rfl) ?_ _ (.inr rfl)
    exact ⟨rfl, rfl⟩
end Go.Proofs.YtceabkfmjffnhaaGreatDoor
set_option linter.unusedVariables false
set_option linter.unusedSimpArgs false
namespace Go.Proofs.YtceabkfmjffnhaaGreatDoor
open Go Go.Eng

def cutA (p : Bytes × Bytes) : Bytes × Bytes := (p.1.take 40, p.2.take 200)
def fewCore (c : Core) : Core := { c with path := shortP c.path, av := (c.av.take 4).map cutA, dv := c.dv.take 40, link := c.link.take 40 }
def fewC (cs : List Core) : List Core := (cs.take 14).map fewCore
def fewMb (m : Mb) (a d : Value) : Mb := { m with path := shortP m.path, attrs := a, av := (m.av.take 4).map cutA, data := d, dv := m.dv.take 40, link := m.link.take 40 }
theorem fewMb_core (m : Mb) (a d : Value) : (fewMb m a d).core = fewCore m.core := rfl
def avF (p : Bytes × Bytes) : List Value := [str p.1, str p.2]
theorem avF_len (p : Bytes × Bytes) : (avF p).length = 2 := rfl
theorem avCells_take (av : List (Bytes × Bytes)) (k : Nat) (hk : k ≤ av.length) : (avCells av).take (k * 2) = avCells (av.take k) := by
  have e : avCells av = avCells (av.take k) ++ avCells (av.drop k) := by unfold avCells; rw [← List.flatMap_append, List.take_append_drop]
  rw [e, List.take_left']
  rw [avCells_len, List.length_take, Nat.min_eq_left hk]
theorem byteCells_take (l : Bytes) (k : Nat) : (byteCells l).take k = byteCells (l.take k) := by
  unfold byteCells; rw [List.map_take]
theorem min_len {α : Type} (l : List α) (n : Nat) : (min (l.length : Int) (n : Int)).toNat = (l.take n).length := by
  rw [List.length_take]; omega
theorem few_short {cs : List Core} {ys : List Mb} (h : cores ys = fewC cs) : ∀ y ∈ ys, y.path.length ≤ 300 := by
  intro y hy
  have h1 : y.core ∈ cores ys := List.mem_map.2 ⟨y, hy, rfl⟩
  rw [h, fewC] at h1
  obtain ⟨c, hc, he⟩ := List.mem_map.1 h1
  have : y.path = shortP c.path := congrArg Core.path he.symm
  rw [this]
  exact shortP_len _
theorem few_ev (v : Value) (ms : List Mb) (LL : List Res) (M : Mem) (hv : RSlM LL M v ms) (hok : ∀ m ∈ ms, m.ok M) (hl : ms.length ≤ big) :
    Ev Tryz.prog 20 [v].toArray LL M fun v' L' M' => ∃ ys, L' = .row v' 38 9 (ys.flatMap Mb.cells) :: LL ∧ cores ys = fewC (cores ms) ∧ (∀ y ∈ ys, y.ok M') ∧ ys.length ≤ 14 := by
  obtain ⟨ad, cap, rfl, hcap, hmax⟩ := hv.len
  have hl' : ms.length ≤ 268435456 := hl
  refine Ev.enter Tryz.func20 rfl Tryz.ntmps20 rfl ?_
  refine SC.nilrow 38 9 ?_
  refine SC.seq ?_
  refine SC.region ?_
  refine SL.val (OpV.assign rfl) rfl ?_
  refine SL.nil ?_
  refine seqQ.nm ?_
  refine SC.seq ?_
  refine SC.region ?_
  refine SL.val (OpV.assign rfl) rfl ?_
  refine SL.nil ?_
  refine seqQ.nm ?_
  refine SC.seq ?_
  refine SC.seq ?_
  refine SC.region ?_
  refine SL.val (OpV.move rfl) rfl ?_
  refine SL.val (OpV.llen Tryz.underlying25 rfl) rfl ?_
  refine SL.val (OpV.move rfl) rfl ?_
  refine SL.nil ?_
  refine seqQ.nm ?_
  refine SC.block ?_
  refine SC.loop (ι := Nat × Value × List Mb) (fun x M' => x.1 ≤ 14 ∧ x.1 ≤ ms.length ∧ x.2.2.length = x.1 ∧ cores x.2.2 = ((cores ms).take x.1).map fewCore ∧ (∀ y ∈ x.2.2, y.ok M') ∧ M.le M') (fun x => [(3, x.2.1), (8, .slice ad ms.length cap), (9, .int .i64 ms.length), (10, .int .i64 (x.1 : Nat))]) (fun x => .row x.2.1 38 9 (x.2.2.flatMap Mb.cells) :: LL) (fun x => ms.length - x.1) (0, .slice none 0 0, []) (G := []) ⟨rfl, rfl, rfl, rfl, trivial⟩ (List.Perm.refl _) ⟨Nat.zero_le _, Nat.zero_le _, rfl, rfl, (fun y hy => by cases hy), Mem.le_refl _⟩ ?_
  rintro ⟨k, vo, ys⟩ M1 hM1 ⟨hk14, hk, hyl, hcy, hyok, hMM⟩
  dsimp only at hk14 hk hyl hcy hyok ⊢
  refine SC.seq ?_
  refine SC.region ?_
  refine SL.val (OpV.lss rfl rfl) rfl ?_
  refine SL.nil ?_
  refine seqQ.nm ?_
  refine SC.seq ?_
  first | refine SC.ifp rfl (fun h11 => ?_) (fun h11 => ?_) | refine SC.ite rfl (fun h11 => ?_) (fun h11 => ?_)
  · skip
    have hlt : k < ms.length := by omega
    obtain ⟨g, o, cap', he, hcs, _⟩ := (hv.mono hMM).at_ (by omega)
    cases he
    obtain ⟨m, hm⟩ := getElem?_lt hlt
    have hmok := (hok m (List.mem_of_getElem? hm)).mono hMM
    have hmc := kns_at hcs hm
    obtain ⟨dad, dcap, hdd, hdc, hdm⟩ := hmok.data.len
    obtain ⟨aad, acap, haa, hac, ham⟩ := hmok.attrs.len
    have hcm := core_at hm
    refine SC.skip ?_
    refine seqQ.nm ?_
    refine SC.seq ?_
    refine SC.block ?_
    refine SC.seq ?_
    refine SC.region ?_
    refine SL.val (OpV.move rfl) rfl ?_
    refine SL.val (OpV.indexAddr Tryz.underlying25 sz38 rfl rfl (by omega) (by omega)) rfl ?_
    refine SL.val (OpV.loads (cs := m.cells) _ Tryz.underlying38 rfl rfl sz38 (hmc.cons _)) rfl ?_
    refine SL.act (OpH.alloc zr38) rfl ?_; rintro _ _ _ hM5 ⟨b5, rfl, rfl, rfl⟩; clear hM5
    refine SL.val (OpV.assign rfl) rfl ?_
    first
      | refine SL.unit (OpU.store 0 rfl rfl rfl sz38 (by first | exact Nat.le_of_ble_eq_true rfl | (simp; done) | (simp; omega) | omega) (cells_ones hmok)) ?_
      | refine SL.unit (OpU.storeRow 0 rfl rfl rfl sz38 (by first | exact Nat.le_of_ble_eq_true rfl | (simp; done) | (simp; omega) | omega) (cells_ones hmok)) ?_
      | refine SL.unit (OpU.store 1 rfl rfl rfl sz38 (by first | exact Nat.le_of_ble_eq_true rfl | (simp; done) | (simp; omega) | omega) (cells_ones hmok)) ?_
      | refine SL.unit (OpU.storeRow 1 rfl rfl rfl sz38 (by first | exact Nat.le_of_ble_eq_true rfl | (simp; done) | (simp; omega) | omega) (cells_ones hmok)) ?_
      | refine SL.unit (OpU.store 2 rfl rfl rfl sz38 (by first | exact Nat.le_of_ble_eq_true rfl | (simp; done) | (simp; omega) | omega) (cells_ones hmok)) ?_
      | refine SL.unit (OpU.storeRow 2 rfl rfl rfl sz38 (by first | exact Nat.le_of_ble_eq_true rfl | (simp; done) | (simp; omega) | omega) (cells_ones hmok)) ?_
      | refine SL.unit (OpU.store 3 rfl rfl rfl sz38 (by first | exact Nat.le_of_ble_eq_true rfl | (simp; done) | (simp; omega) | omega) (cells_ones hmok)) ?_
      | refine SL.unit (OpU.storeRow 3 rfl rfl rfl sz38 (by first | exact Nat.le_of_ble_eq_true rfl | (simp; done) | (simp; omega) | omega) (cells_ones hmok)) ?_
    refine SL.nil ?_
    refine seqQ.nm ?_
    refine SC.seq ?_
    refine SC.seq ?_
    refine SC.region ?_
    refine SL.val (OpV.move rfl) rfl ?_
    refine SL.val (OpV.eql rfl rfl) rfl ?_
    refine SL.nil ?_
    refine seqQ.nm ?_
    first | refine SC.ifp rfl (fun h16 => ?_) (fun h16 => ?_) | refine SC.ite rfl (fun h16 => ?_) (fun h16 => ?_)
    · skip
      refine SC.drop 0 rfl ?_
      refine SC.exit ?_
      refine seqQ.e ?_
      refine blockQ.o rfl ?_
      refine seqQ.e ?_
      refine loopQ.e ?_
      refine blockQ.e ?_
      refine seqQ.nm ?_
      refine SC.seq ?_
      refine SC.region ?_
      refine SL.val (OpV.move rfl) rfl ?_
      refine SL.val (OpV.assign rfl) rfl ?_
      refine SL.nil ?_
      refine seqQ.nm ?_
      refine SC.ret ?_
      refine retQ.one rfl (.tmp rfl) ?_ _ (.inr rfl)
      refine ⟨ys, rfl, ?_, hyok, by omega⟩
      first
        | (rw [hcy, fewC, show k = 14 by omega]; done)
        | (rw [hcy, fewC, List.take_of_length_le (i := 14) (by rw [cores_length]; omega), List.take_of_length_le (i := k) (by rw [cores_length]; omega)])
    · skip
      refine SC.skip ?_
      refine seqQ.nm ?_
      refine SC.seq ?_
      refine SC.draw [0, 1, 3, 4, 5, 6, 7, 8, 12, 13, 14, 15, 16, 17] [9, 10, 11, 18, 19, 20] [2] [21] [22, 23, 24, 25, 26, 27, 28] mixed (by decide +kernel) ?_
      refine SV.val (OpV.fld fa38_0 rfl) rfl ?_
      first
        | refine SV.val (OpV.load _ Tryz.underlying9 rfl rfl (Kn.blk 0 rfl rfl)) rfl ?_
        | refine SV.val (OpV.load _ Tryz.underlying9 rfl rfl (Kn.blk 1 rfl rfl)) rfl ?_
        | refine SV.val (OpV.load _ Tryz.underlying9 rfl rfl (Kn.blk 2 rfl rfl)) rfl ?_
        | refine SV.val (OpV.load _ Tryz.underlying9 rfl rfl (Kn.blk 3 rfl rfl)) rfl ?_
        | refine SV.val (OpV.load _ Tryz.underlying9 rfl rfl (Kn.mem (by assumption))) rfl ?_
      refine SV.val (OpV.fld fa38_1 rfl) rfl ?_
      refine SV.val (OpV.fld fa36_7 rfl) rfl ?_
      first
        | refine SV.val (OpV.load _ Tryz.underlying9 rfl rfl (Kn.blk 0 rfl rfl)) rfl ?_
        | refine SV.val (OpV.load _ Tryz.underlying9 rfl rfl (Kn.blk 1 rfl rfl)) rfl ?_
        | refine SV.val (OpV.load _ Tryz.underlying9 rfl rfl (Kn.blk 2 rfl rfl)) rfl ?_
        | refine SV.val (OpV.load _ Tryz.underlying9 rfl rfl (Kn.blk 3 rfl rfl)) rfl ?_
        | refine SV.val (OpV.load _ Tryz.underlying9 rfl rfl (Kn.mem (by assumption))) rfl ?_
      refine SV.val (OpV.fld fa38_1 rfl) rfl ?_
      refine SV.val (OpV.fld fa36_7 rfl) rfl ?_
      first
        | refine SV.val (OpV.load _ Tryz.underlying9 rfl rfl (Kn.blk 0 rfl rfl)) rfl ?_
        | refine SV.val (OpV.load _ Tryz.underlying9 rfl rfl (Kn.blk 1 rfl rfl)) rfl ?_
        | refine SV.val (OpV.load _ Tryz.underlying9 rfl rfl (Kn.blk 2 rfl rfl)) rfl ?_
        | refine SV.val (OpV.load _ Tryz.underlying9 rfl rfl (Kn.blk 3 rfl rfl)) rfl ?_
        | refine SV.val (OpV.load _ Tryz.underlying9 rfl rfl (Kn.mem (by assumption))) rfl ?_
      refine SV.val (OpV.fld fa38_1 rfl) rfl ?_
      refine SV.val (OpV.fld fa36_6 rfl) rfl ?_
      first
        | refine SV.val (show OpV _ _ _ _ _ (.slice dad m.dv.length dcap) by rw [← hdd]; exact (OpV.load _ Tryz.underlying34 rfl rfl (Kn.blk 0 rfl rfl))) rfl ?_
        | refine SV.val (show OpV _ _ _ _ _ (.slice dad m.dv.length dcap) by rw [← hdd]; exact (OpV.load _ Tryz.underlying34 rfl rfl (Kn.blk 1 rfl rfl))) rfl ?_
        | refine SV.val (show OpV _ _ _ _ _ (.slice dad m.dv.length dcap) by rw [← hdd]; exact (OpV.load _ Tryz.underlying34 rfl rfl (Kn.blk 2 rfl rfl))) rfl ?_
        | refine SV.val (show OpV _ _ _ _ _ (.slice dad m.dv.length dcap) by rw [← hdd]; exact (OpV.load _ Tryz.underlying34 rfl rfl (Kn.blk 3 rfl rfl))) rfl ?_
        | refine SV.val (show OpV _ _ _ _ _ (.slice dad m.dv.length dcap) by rw [← hdd]; exact (OpV.load _ Tryz.underlying34 rfl rfl (Kn.mem (by assumption)))) rfl ?_
      refine SV.val (OpV.fld fa38_1 rfl) rfl ?_
      refine SV.val (OpV.fld fa36_6 rfl) rfl ?_
      first
        | refine SV.val (show OpV _ _ _ _ _ (.slice dad m.dv.length dcap) by rw [← hdd]; exact (OpV.load _ Tryz.underlying34 rfl rfl (Kn.blk 0 rfl rfl))) rfl ?_
        | refine SV.val (show OpV _ _ _ _ _ (.slice dad m.dv.length dcap) by rw [← hdd]; exact (OpV.load _ Tryz.underlying34 rfl rfl (Kn.blk 1 rfl rfl))) rfl ?_
        | refine SV.val (show OpV _ _ _ _ _ (.slice dad m.dv.length dcap) by rw [← hdd]; exact (OpV.load _ Tryz.underlying34 rfl rfl (Kn.blk 2 rfl rfl))) rfl ?_
        | refine SV.val (show OpV _ _ _ _ _ (.slice dad m.dv.length dcap) by rw [← hdd]; exact (OpV.load _ Tryz.underlying34 rfl rfl (Kn.blk 3 rfl rfl))) rfl ?_
        | refine SV.val (show OpV _ _ _ _ _ (.slice dad m.dv.length dcap) by rw [← hdd]; exact (OpV.load _ Tryz.underlying34 rfl rfl (Kn.mem (by assumption)))) rfl ?_
      refine SV.nil ?_
      refine SA.val (OpV.slen Tryz.underlying9 rfl) rfl ?_
      refine SA.val (OpV.bmin rfl rfl) rfl ?_
      refine SA.val (show OpV _ _ _ _ _ (str (m.link.take 40)) by rw [← (str_take_min m.link 40)]; exact (OpV.ssliceH Tryz.underlying9 rfl rfl (by omega) (by omega))) rfl ?_
      refine SA.val (OpV.llen Tryz.underlying34 rfl) rfl ?_
      refine SA.val (OpV.bmin rfl rfl) rfl ?_
      refine SA.val (show OpV _ _ _ _ _ (.slice dad (m.dv.take 40).length dcap) by rw [← (congrArg (fun n => Value.slice dad n dcap) (min_len m.dv 40))]; exact (OpV.lsliceH Tryz.underlying34 sz5 rfl rfl (by omega) (by omega))) rfl ?_
      refine SA.nil ?_
      refine SQ.call ok41 rfl (short_ev m.path _ hmok.path) rfl ?_
      refine SQ.nil ?_
      refine SA.val (OpV.fld fa38_0 rfl) rfl ?_
      refine SA.nil ?_
      first
        | refine SL.unit (OpU.store1 0 rfl rfl rfl sz9 (by first | exact Nat.le_of_ble_eq_true rfl | (simp; done) | (simp; omega) | omega) rfl) ?_
        | refine SL.unit (OpU.storeRow1 0 rfl rfl rfl sz9 (by first | exact Nat.le_of_ble_eq_true rfl | (simp; done) | (simp; omega) | omega) rfl) ?_
        | refine SL.unit (OpU.store1 1 rfl rfl rfl sz9 (by first | exact Nat.le_of_ble_eq_true rfl | (simp; done) | (simp; omega) | omega) rfl) ?_
        | refine SL.unit (OpU.storeRow1 1 rfl rfl rfl sz9 (by first | exact Nat.le_of_ble_eq_true rfl | (simp; done) | (simp; omega) | omega) rfl) ?_
        | refine SL.unit (OpU.store1 2 rfl rfl rfl sz9 (by first | exact Nat.le_of_ble_eq_true rfl | (simp; done) | (simp; omega) | omega) rfl) ?_
        | refine SL.unit (OpU.storeRow1 2 rfl rfl rfl sz9 (by first | exact Nat.le_of_ble_eq_true rfl | (simp; done) | (simp; omega) | omega) rfl) ?_
        | refine SL.unit (OpU.store1 3 rfl rfl rfl sz9 (by first | exact Nat.le_of_ble_eq_true rfl | (simp; done) | (simp; omega) | omega) rfl) ?_
        | refine SL.unit (OpU.storeRow1 3 rfl rfl rfl sz9 (by first | exact Nat.le_of_ble_eq_true rfl | (simp; done) | (simp; omega) | omega) rfl) ?_
      refine SL.val (OpV.fld fa38_1 rfl) rfl ?_
      refine SL.val (OpV.fld fa36_7 rfl) rfl ?_
      first
        | refine SL.unit (OpU.store1 0 rfl rfl rfl sz9 (by first | exact Nat.le_of_ble_eq_true rfl | (simp; done) | (simp; omega) | omega) rfl) ?_
        | refine SL.unit (OpU.storeRow1 0 rfl rfl rfl sz9 (by first | exact Nat.le_of_ble_eq_true rfl | (simp; done) | (simp; omega) | omega) rfl) ?_
        | refine SL.unit (OpU.store1 1 rfl rfl rfl sz9 (by first | exact Nat.le_of_ble_eq_true rfl | (simp; done) | (simp; omega) | omega) rfl) ?_
        | refine SL.unit (OpU.storeRow1 1 rfl rfl rfl sz9 (by first | exact Nat.le_of_ble_eq_true rfl | (simp; done) | (simp; omega) | omega) rfl) ?_
        | refine SL.unit (OpU.store1 2 rfl rfl rfl sz9 (by first | exact Nat.le_of_ble_eq_true rfl | (simp; done) | (simp; omega) | omega) rfl) ?_
        | refine SL.unit (OpU.storeRow1 2 rfl rfl rfl sz9 (by first | exact Nat.le_of_ble_eq_true rfl | (simp; done) | (simp; omega) | omega) rfl) ?_
        | refine SL.unit (OpU.store1 3 rfl rfl rfl sz9 (by first | exact Nat.le_of_ble_eq_true rfl | (simp; done) | (simp; omega) | omega) rfl) ?_
        | refine SL.unit (OpU.storeRow1 3 rfl rfl rfl sz9 (by first | exact Nat.le_of_ble_eq_true rfl | (simp; done) | (simp; omega) | omega) rfl) ?_
      refine SL.val (OpV.fld fa38_1 rfl) rfl ?_
      refine SL.val (OpV.fld fa36_6 rfl) rfl ?_
      first
        | refine SL.unit (OpU.store1 0 rfl rfl rfl sz34 (by first | exact Nat.le_of_ble_eq_true rfl | (simp; done) | (simp; omega) | omega) rfl) ?_
        | refine SL.unit (OpU.storeRow1 0 rfl rfl rfl sz34 (by first | exact Nat.le_of_ble_eq_true rfl | (simp; done) | (simp; omega) | omega) rfl) ?_
        | refine SL.unit (OpU.store1 1 rfl rfl rfl sz34 (by first | exact Nat.le_of_ble_eq_true rfl | (simp; done) | (simp; omega) | omega) rfl) ?_
        | refine SL.unit (OpU.storeRow1 1 rfl rfl rfl sz34 (by first | exact Nat.le_of_ble_eq_true rfl | (simp; done) | (simp; omega) | omega) rfl) ?_
        | refine SL.unit (OpU.store1 2 rfl rfl rfl sz34 (by first | exact Nat.le_of_ble_eq_true rfl | (simp; done) | (simp; omega) | omega) rfl) ?_
        | refine SL.unit (OpU.storeRow1 2 rfl rfl rfl sz34 (by first | exact Nat.le_of_ble_eq_true rfl | (simp; done) | (simp; omega) | omega) rfl) ?_
        | refine SL.unit (OpU.store1 3 rfl rfl rfl sz34 (by first | exact Nat.le_of_ble_eq_true rfl | (simp; done) | (simp; omega) | omega) rfl) ?_
        | refine SL.unit (OpU.storeRow1 3 rfl rfl rfl sz34 (by first | exact Nat.le_of_ble_eq_true rfl | (simp; done) | (simp; omega) | omega) rfl) ?_
      refine SL.nil ⟨rfl, ?_⟩
      have hasl : ISl M1 (.slice aad (m.av.take 4).length acap) 2 (m.av.take 4).length (avCells (m.av.take 4)) := by
        have h1 := hmok.attrs
        rw [haa] at h1
        have h2 := h1.take (k := (m.av.take 4).length) (List.length_take_le' _ _)
        have e : m.av.take (m.av.take 4).length = m.av.take 4 := by
          rw [List.take_eq_take_iff, List.length_take]; omega
        rwa [avCells_take _ _ (List.length_take_le' _ _), e] at h2
      have hdsl : ISl M1 (.slice dad (m.dv.take 40).length dcap) 1 (m.dv.take 40).length (byteCells (m.dv.take 40)) := by
        have h1 := hmok.data
        rw [hdd] at h1
        have h2 := h1.take (k := (m.dv.take 40).length) (List.length_take_le' _ _)
        rw [Nat.mul_one, byteCells_take] at h2
        have e : m.dv.take (m.dv.take 40).length = m.dv.take 40 := by
          rw [List.take_eq_take_iff, List.length_take]; omega
        rwa [e] at h2
      have ha4 : (m.av.take 4).length ≤ 4 := List.length_take_le _ _
      refine seqQ.nm ?_
      refine SC.seq ?_
      refine SC.region ?_
      refine SL.val (OpV.fld fa38_1 rfl) rfl ?_
      refine SL.val (OpV.fld fa36_5 rfl) rfl ?_
      first
        | refine SL.val (show OpV _ _ _ _ _ (.slice aad m.av.length acap) by rw [← haa]; exact (OpV.load _ Tryz.underlying33 rfl rfl (Kn.blk 0 rfl rfl))) rfl ?_
        | refine SL.val (show OpV _ _ _ _ _ (.slice aad m.av.length acap) by rw [← haa]; exact (OpV.load _ Tryz.underlying33 rfl rfl (Kn.blk 1 rfl rfl))) rfl ?_
        | refine SL.val (show OpV _ _ _ _ _ (.slice aad m.av.length acap) by rw [← haa]; exact (OpV.load _ Tryz.underlying33 rfl rfl (Kn.blk 2 rfl rfl))) rfl ?_
        | refine SL.val (show OpV _ _ _ _ _ (.slice aad m.av.length acap) by rw [← haa]; exact (OpV.load _ Tryz.underlying33 rfl rfl (Kn.blk 3 rfl rfl))) rfl ?_
        | refine SL.val (show OpV _ _ _ _ _ (.slice aad m.av.length acap) by rw [← haa]; exact (OpV.load _ Tryz.underlying33 rfl rfl (Kn.mem (by assumption)))) rfl ?_
      refine SL.val (OpV.fld fa38_1 rfl) rfl ?_
      refine SL.val (OpV.fld fa36_5 rfl) rfl ?_
      first
        | refine SL.val (show OpV _ _ _ _ _ (.slice aad m.av.length acap) by rw [← haa]; exact (OpV.load _ Tryz.underlying33 rfl rfl (Kn.blk 0 rfl rfl))) rfl ?_
        | refine SL.val (show OpV _ _ _ _ _ (.slice aad m.av.length acap) by rw [← haa]; exact (OpV.load _ Tryz.underlying33 rfl rfl (Kn.blk 1 rfl rfl))) rfl ?_
        | refine SL.val (show OpV _ _ _ _ _ (.slice aad m.av.length acap) by rw [← haa]; exact (OpV.load _ Tryz.underlying33 rfl rfl (Kn.blk 2 rfl rfl))) rfl ?_
        | refine SL.val (show OpV _ _ _ _ _ (.slice aad m.av.length acap) by rw [← haa]; exact (OpV.load _ Tryz.underlying33 rfl rfl (Kn.blk 3 rfl rfl))) rfl ?_
        | refine SL.val (show OpV _ _ _ _ _ (.slice aad m.av.length acap) by rw [← haa]; exact (OpV.load _ Tryz.underlying33 rfl rfl (Kn.mem (by assumption)))) rfl ?_
      refine SL.val (OpV.llen Tryz.underlying33 rfl) rfl ?_
      refine SL.val (OpV.bmin rfl rfl) rfl ?_
      refine SL.val (show OpV _ _ _ _ _ (.slice aad (m.av.take 4).length acap) by rw [← (congrArg (fun n => Value.slice aad n acap) (min_len m.av 4))]; exact (OpV.lsliceH Tryz.underlying33 sz50 rfl rfl (by omega) (by omega))) rfl ?_
      refine SL.call ok42 rfl (L1 := []) (List.Perm.refl _) (clone2_ev _ (m.av.take 4) [] M1 hasl.rsl (by omega)) rfl ?_
      rintro v52 _ _ hM52 ⟨rfl, rfl⟩
      refine SL.rowV 0 rfl fun hrv => ?_
      obtain ⟨ad2, n2, cap2, rfl, hn2, hc2, hm2, hd2⟩ := hrv
      have hn2' : n2 = (m.av.take 4).length := by rw [avCells_len] at hn2; omega
      generalize hA : m.av.take 4 = A at *
      refine SL.val (OpV.fld fa38_1 rfl) rfl ?_
      refine SL.val (OpV.fld fa36_5 rfl) rfl ?_
      first
        | refine SL.unit (OpU.store1 0 rfl rfl rfl sz33 (by first | exact Nat.le_of_ble_eq_true rfl | (simp; done) | (simp; omega) | omega) rfl) ?_
        | refine SL.unit (OpU.storeRow1 0 rfl rfl rfl sz33 (by first | exact Nat.le_of_ble_eq_true rfl | (simp; done) | (simp; omega) | omega) rfl) ?_
        | refine SL.unit (OpU.store1 1 rfl rfl rfl sz33 (by first | exact Nat.le_of_ble_eq_true rfl | (simp; done) | (simp; omega) | omega) rfl) ?_
        | refine SL.unit (OpU.storeRow1 1 rfl rfl rfl sz33 (by first | exact Nat.le_of_ble_eq_true rfl | (simp; done) | (simp; omega) | omega) rfl) ?_
        | refine SL.unit (OpU.store1 2 rfl rfl rfl sz33 (by first | exact Nat.le_of_ble_eq_true rfl | (simp; done) | (simp; omega) | omega) rfl) ?_
        | refine SL.unit (OpU.storeRow1 2 rfl rfl rfl sz33 (by first | exact Nat.le_of_ble_eq_true rfl | (simp; done) | (simp; omega) | omega) rfl) ?_
        | refine SL.unit (OpU.store1 3 rfl rfl rfl sz33 (by first | exact Nat.le_of_ble_eq_true rfl | (simp; done) | (simp; omega) | omega) rfl) ?_
        | refine SL.unit (OpU.storeRow1 3 rfl rfl rfl sz33 (by first | exact Nat.le_of_ble_eq_true rfl | (simp; done) | (simp; omega) | omega) rfl) ?_
      refine SL.nil ?_
      refine seqQ.nm ?_
      refine SC.seq ?_
      refine SC.seq ?_
      refine SC.region ?_
      refine SL.val (OpV.fld fa38_1 rfl) rfl ?_
      refine SL.val (OpV.fld fa36_5 rfl) rfl ?_
      first
        | refine SL.val (OpV.load _ Tryz.underlying33 rfl rfl (Kn.blk 0 rfl rfl)) rfl ?_
        | refine SL.val (OpV.load _ Tryz.underlying33 rfl rfl (Kn.blk 1 rfl rfl)) rfl ?_
        | refine SL.val (OpV.load _ Tryz.underlying33 rfl rfl (Kn.blk 2 rfl rfl)) rfl ?_
        | refine SL.val (OpV.load _ Tryz.underlying33 rfl rfl (Kn.blk 3 rfl rfl)) rfl ?_
        | refine SL.val (OpV.load _ Tryz.underlying33 rfl rfl (Kn.mem (by assumption))) rfl ?_
      refine SL.val (OpV.llen Tryz.underlying33 rfl) rfl ?_
      refine SL.val (OpV.move rfl) rfl ?_
      refine SL.nil ?_
      refine seqQ.nm ?_
      refine SC.block ?_
      refine SC.loop (ι := Nat) (fun j M' => j ≤ A.length ∧ M1 = M') (fun j => [(3, vo), (5, .pointer (some ⟨b5, 0, none⟩)), (8, .slice (some ⟨g, o, none⟩) ms.length cap), (9, .int .i64 ms.length), (10, .int .i64 (k : Nat)), (57, .slice ad2 n2 cap2), (58, .int .i64 n2), (59, .int .i64 (j : Nat))]) (fun j => [.row (.slice ad2 n2 cap2) 50 2 (((A.take j).map cutA ++ A.drop j).flatMap avF), .blk b5 38 (fewMb m (.slice ad2 n2 cap2) (.slice dad (m.dv.take 40).length dcap)).cells, .row vo 38 9 (ys.flatMap Mb.cells)] ++ LL) (fun j => A.length - j) 0 (G := []) ⟨rfl, rfl, rfl, rfl, rfl, rfl, rfl, rfl, trivial⟩ (List.Perm.refl _) ⟨Nat.zero_le _, rfl⟩ ?_
      rintro j _ _ ⟨hj, rfl⟩
      refine SC.seq ?_
      refine SC.region ?_
      refine SL.val (OpV.lss rfl rfl) rfl ?_
      refine SL.nil ?_
      refine seqQ.nm ?_
      refine SC.seq ?_
      first | refine SC.ifp rfl (fun h60 => ?_) (fun h60 => ?_) | refine SC.ite rfl (fun h60 => ?_) (fun h60 => ?_)
      · skip
        have hjl : j < A.length := by omega
        rcases hd2 with ⟨_, h0, _⟩ | ⟨g2, rfl⟩
        · omega
        obtain ⟨a, ha⟩ := getElem?_lt hjl
        have hjn : (j : Int).toNat = j := by omega
        have hxl : ((A.take j).map cutA).length = j := by simp; omega
        have hxe : (A.take j).map cutA ++ A.drop j = (A.take j).map cutA ++ a :: A.drop (j + 1) := by rw [drop_at ha]
        have hxa : ((A.take j).map cutA ++ A.drop j)[j]? = some a := by
          rw [hxe]; have := at0 ((A.take j).map cutA) (A.drop (j + 1)) a; rwa [hxl] at this
        have hxs : ((A.take j).map cutA ++ A.drop j).set j (cutA a) = (A.take (j + 1)).map cutA ++ A.drop (j + 1) := by
          rw [hxe, List.take_add_one, ha, List.set_append_right _ _ (by omega), hxl]
          simp
        have hxn : ((A.take j).map cutA ++ A.drop j).length = A.length := by simp; omega
        refine SC.skip ?_
        refine seqQ.nm ?_
        refine SC.seq ?_
        refine SC.block ?_
        refine SC.seq ?_
        refine SC.region ?_
        refine SL.val (OpV.move rfl) rfl ?_
        refine SL.val (OpV.indexAddr Tryz.underlying33 sz50 rfl rfl (by omega) (by omega)) rfl ?_
        refine SL.val (OpV.loads (cs := (avF a)) _ Tryz.underlying50 rfl rfl sz50 (Kns.row 0 rfl (by rw [hjn]; exact fl_elem avF 2 avF_len _ _ a hxa))) rfl ?_
        refine SL.act (OpH.alloc zr50) rfl ?_; rintro _ _ _ hM7 ⟨b7, rfl, rfl, rfl⟩; clear hM7
        refine SL.val (OpV.assign rfl) rfl ?_
        first
          | refine SL.unit (OpU.store 0 rfl rfl rfl sz50 (by first | exact Nat.le_of_ble_eq_true rfl | (simp; done) | (simp; omega) | omega) (by simp [Value.cells, Value.oneCell', avF])) ?_
          | refine SL.unit (OpU.storeRow 0 rfl rfl rfl sz50 (by first | exact Nat.le_of_ble_eq_true rfl | (simp; done) | (simp; omega) | omega) (by simp [Value.cells, Value.oneCell', avF])) ?_
          | refine SL.unit (OpU.store 1 rfl rfl rfl sz50 (by first | exact Nat.le_of_ble_eq_true rfl | (simp; done) | (simp; omega) | omega) (by simp [Value.cells, Value.oneCell', avF])) ?_
          | refine SL.unit (OpU.storeRow 1 rfl rfl rfl sz50 (by first | exact Nat.le_of_ble_eq_true rfl | (simp; done) | (simp; omega) | omega) (by simp [Value.cells, Value.oneCell', avF])) ?_
          | refine SL.unit (OpU.store 2 rfl rfl rfl sz50 (by first | exact Nat.le_of_ble_eq_true rfl | (simp; done) | (simp; omega) | omega) (by simp [Value.cells, Value.oneCell', avF])) ?_
          | refine SL.unit (OpU.storeRow 2 rfl rfl rfl sz50 (by first | exact Nat.le_of_ble_eq_true rfl | (simp; done) | (simp; omega) | omega) (by simp [Value.cells, Value.oneCell', avF])) ?_
          | refine SL.unit (OpU.store 3 rfl rfl rfl sz50 (by first | exact Nat.le_of_ble_eq_true rfl | (simp; done) | (simp; omega) | omega) (by simp [Value.cells, Value.oneCell', avF])) ?_
          | refine SL.unit (OpU.storeRow 3 rfl rfl rfl sz50 (by first | exact Nat.le_of_ble_eq_true rfl | (simp; done) | (simp; omega) | omega) (by simp [Value.cells, Value.oneCell', avF])) ?_
        refine SL.nil ?_
        refine seqQ.nm ?_
        refine SC.draw [0, 1, 2, 3, 4, 5, 6, 7, 8, 9, 10, 11, 12, 13, 14, 15, 16, 17, 18, 19] [] [] [] [20] mixed (by decide +kernel) ?_
        refine SV.val (OpV.fld fa38_1 rfl) rfl ?_
        refine SV.val (OpV.fld fa36_5 rfl) rfl ?_
        first
          | refine SV.val (OpV.load _ Tryz.underlying33 rfl rfl (Kn.blk 0 rfl rfl)) rfl ?_
          | refine SV.val (OpV.load _ Tryz.underlying33 rfl rfl (Kn.blk 1 rfl rfl)) rfl ?_
          | refine SV.val (OpV.load _ Tryz.underlying33 rfl rfl (Kn.blk 2 rfl rfl)) rfl ?_
          | refine SV.val (OpV.load _ Tryz.underlying33 rfl rfl (Kn.blk 3 rfl rfl)) rfl ?_
          | refine SV.val (OpV.load _ Tryz.underlying33 rfl rfl (Kn.mem (by assumption))) rfl ?_
        refine SV.val (OpV.move rfl) rfl ?_
        refine SV.val (OpV.fld fa50_0 rfl) rfl ?_
        first
          | refine SV.val (OpV.load _ Tryz.underlying9 rfl rfl (Kn.blk 0 rfl rfl)) rfl ?_
          | refine SV.val (OpV.load _ Tryz.underlying9 rfl rfl (Kn.blk 1 rfl rfl)) rfl ?_
          | refine SV.val (OpV.load _ Tryz.underlying9 rfl rfl (Kn.blk 2 rfl rfl)) rfl ?_
          | refine SV.val (OpV.load _ Tryz.underlying9 rfl rfl (Kn.blk 3 rfl rfl)) rfl ?_
          | refine SV.val (OpV.load _ Tryz.underlying9 rfl rfl (Kn.mem (by assumption))) rfl ?_
        refine SV.val (OpV.fld fa50_0 rfl) rfl ?_
        first
          | refine SV.val (OpV.load _ Tryz.underlying9 rfl rfl (Kn.blk 0 rfl rfl)) rfl ?_
          | refine SV.val (OpV.load _ Tryz.underlying9 rfl rfl (Kn.blk 1 rfl rfl)) rfl ?_
          | refine SV.val (OpV.load _ Tryz.underlying9 rfl rfl (Kn.blk 2 rfl rfl)) rfl ?_
          | refine SV.val (OpV.load _ Tryz.underlying9 rfl rfl (Kn.blk 3 rfl rfl)) rfl ?_
          | refine SV.val (OpV.load _ Tryz.underlying9 rfl rfl (Kn.mem (by assumption))) rfl ?_
        refine SV.val (OpV.slen Tryz.underlying9 rfl) rfl ?_
        refine SV.val (OpV.bmin rfl rfl) rfl ?_
        refine SV.val (show OpV _ _ _ _ _ (str (a.1.take 40)) by rw [← (str_take_min a.1 40)]; exact (OpV.ssliceH Tryz.underlying9 rfl rfl (by omega) (by omega))) rfl ?_
        refine SV.val (OpV.fld fa50_1 rfl) rfl ?_
        first
          | refine SV.val (OpV.load _ Tryz.underlying9 rfl rfl (Kn.blk 0 rfl rfl)) rfl ?_
          | refine SV.val (OpV.load _ Tryz.underlying9 rfl rfl (Kn.blk 1 rfl rfl)) rfl ?_
          | refine SV.val (OpV.load _ Tryz.underlying9 rfl rfl (Kn.blk 2 rfl rfl)) rfl ?_
          | refine SV.val (OpV.load _ Tryz.underlying9 rfl rfl (Kn.blk 3 rfl rfl)) rfl ?_
          | refine SV.val (OpV.load _ Tryz.underlying9 rfl rfl (Kn.mem (by assumption))) rfl ?_
        refine SV.val (OpV.fld fa50_1 rfl) rfl ?_
        first
          | refine SV.val (OpV.load _ Tryz.underlying9 rfl rfl (Kn.blk 0 rfl rfl)) rfl ?_
          | refine SV.val (OpV.load _ Tryz.underlying9 rfl rfl (Kn.blk 1 rfl rfl)) rfl ?_
          | refine SV.val (OpV.load _ Tryz.underlying9 rfl rfl (Kn.blk 2 rfl rfl)) rfl ?_
          | refine SV.val (OpV.load _ Tryz.underlying9 rfl rfl (Kn.blk 3 rfl rfl)) rfl ?_
          | refine SV.val (OpV.load _ Tryz.underlying9 rfl rfl (Kn.mem (by assumption))) rfl ?_
        refine SV.val (OpV.slen Tryz.underlying9 rfl) rfl ?_
        refine SV.val (OpV.bmin rfl rfl) rfl ?_
        refine SV.val (show OpV _ _ _ _ _ (str (a.2.take 200)) by rw [← (str_take_min a.2 200)]; exact (OpV.ssliceH Tryz.underlying9 rfl rfl (by omega) (by omega))) rfl ?_
        refine SV.val (show OpV _ _ _ _ _ (.agg ((avF (cutA a)).toArray)) from OpV.bld bl50 rfl rfl) rfl ?_
        refine SV.val (OpV.indexAddr Tryz.underlying33 sz50 rfl rfl (by omega) (by omega)) rfl ?_
        refine SV.nil ?_
        refine SA.nil ?_
        refine SQ.nil ?_
        refine SA.nil ?_
        refine SL.unit (OpU.storeRow 1 rfl rfl rfl sz50 (by rw [hjn, flat_len avF 2 avF_len, hxn]; simp [Value.cells, avF_len]; omega) (by simp [Value.cells, Value.oneCell', avF])) ?_
        refine SL.drop 0 rfl ?_
        refine SL.nil ⟨rfl, ?_⟩
        refine blockQ.nm ?_
        refine seqQ.nm ?_
        refine SC.region ?_
        refine SL.val (OpV.add rfl rfl (IntWalk.i64_in _ (by omega))) rfl ?_
        refine SL.val (OpV.move rfl) rfl ?_
        refine SL.nil ?_
        refine loopQ.nm (j + 1) (by omega) ⟨rfl, rfl, rfl, rfl, rfl, rfl, rfl, rfl, trivial⟩ (List.Perm.of_eq ?_) ⟨by omega, rfl⟩
        rw [hjn]
        simp only [List.set_cons_zero, List.set_cons_succ, List.eraseIdx_cons_zero]
        rw [fl_splice avF 2 avF_len _ _ (cutA a) (by rw [hxn]; exact hjl), hxs]
        rfl
      · skip
        have hje : j = A.length := by omega
        subst hje
        rw [List.take_length, List.drop_length, List.append_nil]
        refine SC.fixRow (m := n2) 0 rfl (by rw [flat_len avF 2 avF_len, List.length_map, hn2']) (by decide) ?_
        intro M2 hM2 hisl
        have hnok : (fewMb m (.slice ad2 n2 cap2) (.slice dad (m.dv.take 40).length dcap)).ok M2 := by
          refine ⟨?_, hdsl.mono hM2, ?_, ?_, ?_, ?_, ?_⟩
          · have e : ((m.av.take 4).map cutA).length = n2 := by rw [hA, List.length_map, hn2']
            show ISl M2 _ 2 ((m.av.take 4).map cutA).length (avCells ((m.av.take 4).map cutA))
            rw [e, hA]
            exact hisl
          · have := shortP_len m.path
            show (shortP m.path).length ≤ 268435456
            omega
          · have := hmok.link
            show (m.link.take 40).length ≤ big
            rw [List.length_take]; omega
          · intro p hp
            obtain ⟨q, hq, rfl⟩ := List.mem_map.1 (show p ∈ (m.av.take 4).map cutA from hp)
            have := hmok.names q (List.mem_of_mem_take hq)
            simp only [cutA, List.length_take]
            omega
          · show ((m.av.take 4).map cutA).length ≤ 268435456
            rw [List.length_map, hA]; omega
          · show (m.dv.take 40).length ≤ 268435456
            rw [List.length_take]; omega
        generalize hnm : fewMb m (.slice ad2 n2 cap2) (.slice dad (m.dv.take 40).length dcap) = nm at *
        have hnc : nm.core = fewCore m.core := by rw [← hnm]; rfl
        refine SC.exit ?_
        refine seqQ.e ?_
        refine loopQ.e ?_
        refine blockQ.e ?_
        refine seqQ.nm ?_
        refine SC.region ?_
        refine SL.val (OpV.move rfl) rfl ?_
        first
          | refine SL.val (OpV.loads (cs := nm.cells) _ Tryz.underlying38 rfl rfl sz38 (Kns.blk 0 rfl rfl)) rfl ?_
          | refine SL.val (OpV.loads (cs := nm.cells) _ Tryz.underlying38 rfl rfl sz38 (Kns.blk 1 rfl rfl)) rfl ?_
          | refine SL.val (OpV.loads (cs := nm.cells) _ Tryz.underlying38 rfl rfl sz38 (Kns.blk 2 rfl rfl)) rfl ?_
          | refine SL.val (OpV.loads (cs := nm.cells) _ Tryz.underlying38 rfl rfl sz38 (Kns.blk 3 rfl rfl)) rfl ?_
          | refine SL.val (OpV.loads (cs := nm.cells) _ Tryz.underlying38 rfl rfl sz38 (Kns.mem (by assumption))) rfl ?_
        refine SL.act (OpH.oneAgg Tryz.underlying25 zs38 rfl rfl rfl) rfl ?_; rintro _ _ _ hM87 ⟨b87, rfl, rfl, rfl⟩; clear hM87
        refine SL.act (OpH.append 2 rfl Tryz.underlying25 Tryz.underlying25 rfl ti38 rfl (by decide) (by decide) rfl rfl (Src.blk 0 rfl (m := 1) rfl) (ones_mem hnok) (by rw [mbCells_len]; simp [Mb.cells]; omega)) rfl ?_; rintro v88 _ _ hM88 ⟨rfl, rfl, hn88⟩; clear hM88
        refine SL.drop 0 rfl (SL.drop 0 rfl ?_)
        refine SL.val (OpV.assign rfl) rfl ?_
        refine SL.nil ?_
        refine blockQ.nm ?_
        refine seqQ.nm ?_
        refine SC.region ?_
        refine SL.val (OpV.add rfl rfl (IntWalk.i64_in _ (by omega))) rfl ?_
        refine SL.val (OpV.move rfl) rfl ?_
        refine SL.nil ?_
        refine loopQ.nm (k + 1, v88, ys ++ [nm]) (by dsimp only; omega) ⟨rfl, rfl, rfl, rfl, trivial⟩ (List.Perm.of_eq (by dsimp only; rw [flat_snoc]; rfl)) ⟨by dsimp only; have hk0 : k ≠ 14 := (by omega); omega, by dsimp only; omega, by simp [hyl], ?_, ?_, Mem.le_trans hMM hM2⟩
        · dsimp only
          rw [cores_append, hcy, List.take_add_one, hcm, List.map_append]
          simp [cores, hnc]
        · intro y hy
          rcases List.mem_append.1 hy with h | h
          · exact (hyok y h).mono hM2
          · rw [List.mem_singleton] at h; rw [h]; exact hnok
  · skip
    refine SC.exit ?_
    refine seqQ.e ?_
    refine loopQ.e ?_
    refine blockQ.e ?_
    refine seqQ.nm ?_
    refine SC.seq ?_
    refine SC.region ?_
    refine SL.val (OpV.move rfl) rfl ?_
    refine SL.val (OpV.assign rfl) rfl ?_
    refine SL.nil ?_
    refine seqQ.nm ?_
    refine SC.ret ?_
    refine retQ.one rfl (.tmp rfl) ?_ _ (.inr rfl)
    refine ⟨ys, rfl, ?_, hyok, by omega⟩
    first
      | (rw [hcy, fewC, show k = 14 by omega]; done)
      | (rw [hcy, fewC, List.take_of_length_le (i := 14) (by rw [cores_length]; omega), List.take_of_length_le (i := k) (by rw [cores_length]; omega)])
end Go.Proofs.YtceabkfmjffnhaaGreatDoor
set_option linter.unusedVariables false
set_option linter.unusedSimpArgs false
namespace Go.Proofs.YtceabkfmjffnhaaGreatDoor
open Go Go.Eng

/-- Of neighbours of one path the first one stays. -/
def compG : Option Bytes → List Mb → List Mb
  | _, [] => []
  | p, x :: r => if p = some x.path then compG (some x.path) r else x :: compG (some x.path) r
def lastP (p : Option Bytes) (l : List Mb) : Option Bytes := match l.getLast? with
  | some y => some y.path
  | none => p
theorem lastP_cons (p : Option Bytes) (y : Mb) (l : List Mb) : lastP p (y :: l) = lastP (some y.path) l := by
  unfold lastP
  rw [List.getLast?_cons]
  cases h : l.getLast? <;> simp
theorem compG_snoc : ∀ (l : List Mb) (p : Option Bytes) (x : Mb), compG p (l ++ [x]) = compG p l ++ (if lastP p l = some x.path then [] else [x])
  | [], p, x => by
    show (if p = some x.path then compG (some x.path) [] else x :: compG (some x.path) []) = [] ++ (if p = some x.path then [] else [x])
    rw [List.nil_append]
    rfl
  | y :: l, p, x => by
    have ih := compG_snoc l (some y.path) x
    rw [lastP_cons]
    simp only [List.cons_append, compG]
    split
    · exact ih
    · rw [ih]; rfl
def compM (o : List Mb) : List Mb := compG none o
theorem compM_step {o : List Mb} {k : Nat} {x p : Mb} (hk : 0 < k) (hx : o[k]? = some x) (hp : o[k - 1]? = some p) : compM (o.take (k + 1)) = compM (o.take k) ++ (if p.path = x.path then [] else [x]) := by
  have e : o.take (k + 1) = o.take k ++ [x] := by rw [List.take_add_one, hx]; rfl
  have hl : (o.take k).getLast? = some p := by
    have hkl := (List.getElem?_eq_some_iff.1 hx).1
    rw [List.getLast?_eq_getElem?, List.length_take, Nat.min_eq_left (by omega), List.getElem?_take, if_pos (by omega), hp]
  rw [compM, e, compG_snoc, lastP, hl]
  simp only [Option.some.injEq]
  rfl
theorem compM_one : ∀ o : List Mb, compM (o.take 1) = o.take 1
  | [] => rfl
  | _ :: _ => rfl
theorem row_mid {o : List Mb} {k : Nat} {x : Mb} (hx : o[k]? = some x) : o.take k ++ [x] ++ o.drop (k + 1) = o := by
  have h := List.take_append_drop k o
  rw [drop_at hx] at h
  simpa using h
theorem compG_le : ∀ (l : List Mb) (p : Option Bytes), (compG p l).length ≤ l.length
  | [], p => Nat.le_refl _
  | x :: l, p => by
    have := compG_le l (some x.path)
    unfold compG
    split <;> simp <;> omega
theorem compG_mem : ∀ (l : List Mb) (p : Option Bytes), ∀ x ∈ compG p l, x ∈ l
  | [], p => fun x h => h
  | y :: l, p => by
    intro x hx
    unfold compG at hx
    split at hx
    · exact List.mem_cons_of_mem _ (compG_mem l _ x hx)
    · rcases List.mem_cons.1 hx with rfl | hx
      · simp
      · exact List.mem_cons_of_mem _ (compG_mem l _ x hx)
theorem eqp_ev (x y : Mb) (M : Mem) : Ev Tryz.prog 40 ([Value.agg x.cells.toArray, Value.agg y.cells.toArray] ++ (#[] : Array Value).toList).toArray [] M (Pu M (.bool (decide (x.path = y.path)))) := by
  show Ev Tryz.prog 40 [Value.agg x.cells.toArray, Value.agg y.cells.toArray].toArray [] M (Pu M (.bool (decide (x.path = y.path))))
  refine Ev.lax ?_
  refine Ev.enter Tryz.func40 rfl Tryz.ntmps40 rfl ?_
  refine SC.seq ?_
  refine SC.region ?_
  refine SL.act (OpH.box rfl) rfl ?_; rintro _ _ _ hM2 ⟨b2, rfl, rfl, rfl⟩; clear hM2
  refine SL.act (OpH.box rfl) rfl ?_; rintro _ _ _ hM3 ⟨b3, rfl, rfl, rfl⟩; clear hM3
  refine SL.val (OpV.assign rfl) rfl ?_
  refine SL.nil ?_
  refine seqQ.nm ?_
  refine SC.seq ?_
  refine SC.region ?_
  refine SL.val (OpV.fld fa38_0 rfl) rfl ?_
  first
    | refine SL.val (OpV.load _ Tryz.underlying9 rfl rfl (Kn.blk 0 rfl rfl)) rfl ?_
    | refine SL.val (OpV.load _ Tryz.underlying9 rfl rfl (Kn.blk 1 rfl rfl)) rfl ?_
    | refine SL.val (OpV.load _ Tryz.underlying9 rfl rfl (Kn.blk 2 rfl rfl)) rfl ?_
    | refine SL.val (OpV.load _ Tryz.underlying9 rfl rfl (Kn.blk 3 rfl rfl)) rfl ?_
    | refine SL.val (OpV.load _ Tryz.underlying9 rfl rfl (Kn.mem (by assumption))) rfl ?_
  refine SL.val (OpV.fld fa38_0 rfl) rfl ?_
  first
    | refine SL.val (OpV.load _ Tryz.underlying9 rfl rfl (Kn.blk 0 rfl rfl)) rfl ?_
    | refine SL.val (OpV.load _ Tryz.underlying9 rfl rfl (Kn.blk 1 rfl rfl)) rfl ?_
    | refine SL.val (OpV.load _ Tryz.underlying9 rfl rfl (Kn.blk 2 rfl rfl)) rfl ?_
    | refine SL.val (OpV.load _ Tryz.underlying9 rfl rfl (Kn.blk 3 rfl rfl)) rfl ?_
    | refine SL.val (OpV.load _ Tryz.underlying9 rfl rfl (Kn.mem (by assumption))) rfl ?_
  refine SL.val (OpV.seql rfl rfl) rfl ?_
  refine SL.val (OpV.assign rfl) rfl ?_
  refine SL.nil ?_
  refine seqQ.nm ?_
  refine SC.ret ?_
  refine retQ.one rfl (.tmp rfl) ?_ _ (.inr rfl)
  exact rfl
set_option maxHeartbeats 2000000 in
theorem compact_ev (v : Value) (o : List Mb) (M : Mem) (hok : ∀ m ∈ o, m.ok M) (hb : o.length ≤ big) :
    Ev Tryz.prog 39 [v, .func (.func 40) #[] #[]].toArray [.row v 38 9 (o.flatMap Mb.cells)] M fun v' L' M' => L' = [.row v' 38 9 ((compM o).flatMap Mb.cells)] ∧ M = M' := by
  refine Ev.rowV 0 rfl fun hrv => ?_
  obtain ⟨ad, n, cap, rfl, hl, h3, h4, h5⟩ := hrv
  have hn : o.length = n := by rw [mbCells_len] at hl; omega
  have hb' : o.length ≤ 268435456 := hb
  refine Ev.enter Tryz.func39 rfl Tryz.ntmps39 rfl ?_
  refine SC.seq ?_
  refine SC.region ?_
  refine SL.val (OpV.assign rfl) rfl ?_
  refine SL.nil ?_
  refine seqQ.nm ?_
  refine SC.seq ?_
  refine SC.seq ?_
  refine SC.region ?_
  refine SL.val (OpV.move rfl) rfl ?_
  refine SL.val (OpV.llen Tryz.underlying25 rfl) rfl ?_
  refine SL.val (OpV.lss rfl rfl) rfl ?_
  refine SL.nil ?_
  refine seqQ.nm ?_
  first | refine SC.ifp rfl (fun h10 => ?_) (fun h10 => ?_) | refine SC.ite rfl (fun h10 => ?_) (fun h10 => ?_)
  · skip
    refine SC.seq ?_
    refine SC.region ?_
    refine SL.val (OpV.move rfl) rfl ?_
    refine SL.val (OpV.assign rfl) rfl ?_
    refine SL.nil ?_
    refine seqQ.nm ?_
    refine SC.ret ?_
    refine seqQ.r ?_
    refine retQ.one rfl (.tmp rfl) ?_ _ (.inr rfl)
    refine ⟨?_, rfl⟩
    have : compM o = o := by
      match o, hn, h10 with
      | [], _, _ => rfl
      | [x], _, _ => rfl
      | x :: y :: r, hn, h10 => simp at hn; omega
    rw [this]
  · skip
    rcases h5 with ⟨_, h0, _⟩ | ⟨g, rfl⟩
    · omega
    refine SC.skip ?_
    refine seqQ.nm ?_
    refine SC.seq ?_
    refine SC.seq ?_
    refine SC.region ?_
    refine SL.val (OpV.assign rfl) rfl ?_
    refine SL.nil ?_
    refine seqQ.nm ?_
    refine SC.block ?_
    refine SC.loop (ι := Nat) (fun k M' => 1 ≤ k ∧ k ≤ n ∧ compM (o.take k) = o.take k ∧ M = M') (fun k => [(0, .slice (some ⟨g, 0, none⟩) n cap), (1, .func (.func 40) #[] #[]), (5, .int .i64 (k : Nat))]) (fun _ => [.row (.slice (some ⟨g, 0, none⟩) n cap) 38 9 (o.flatMap Mb.cells)]) (fun k => n - k) 1 (G := []) ⟨rfl, rfl, rfl, trivial⟩ (List.Perm.refl _) ⟨Nat.le_refl _, by omega, compM_one o, rfl⟩ ?_
    rintro k _ _ ⟨hk1, hkn, hcm, rfl⟩
    refine SC.seq ?_
    refine SC.seq ?_
    refine SC.region ?_
    refine SL.val (OpV.move rfl) rfl ?_
    refine SL.val (OpV.move rfl) rfl ?_
    refine SL.val (OpV.llen Tryz.underlying25 rfl) rfl ?_
    refine SL.val (OpV.lss rfl rfl) rfl ?_
    refine SL.nil ?_
    refine seqQ.nm ?_
    first | refine SC.ifp rfl (fun h15 => ?_) (fun h15 => ?_) | refine SC.ite rfl (fun h15 => ?_) (fun h15 => ?_)
    · skip
      have hlt : k < o.length := by omega
      obtain ⟨x, hx⟩ := getElem?_lt hlt
      obtain ⟨p, hp⟩ := getElem?_lt (l := o) (k := k - 1) (by omega)
      have hstep := compM_step (by omega) hx hp
      have hn1 : ((k : Nat) : Int).toNat = k := by omega
      have hn2 : (((k : Nat) : Int) - 1).toNat = k - 1 := by omega
      refine SC.skip ?_
      refine seqQ.nm ?_
      refine SC.seq ?_
      refine SC.block ?_
      refine SC.seq ?_
      refine SC.quiet mixed (by decide +kernel) ?_
      refine SQ.val (OpV.move rfl) rfl ?_
      refine SQ.val (OpV.move rfl) rfl ?_
      refine SQ.val (OpV.move rfl) rfl ?_
      refine SQ.val (OpV.indexAddr Tryz.underlying25 sz38 rfl rfl (by omega) (by omega)) rfl ?_
      refine SQ.val (OpV.loads (cs := x.cells) _ Tryz.underlying38 rfl rfl sz38 (Kns.row 0 rfl (by rw [hn1]; exact row_elem _ _ x hx))) rfl ?_
      refine SQ.val (OpV.move rfl) rfl ?_
      refine SQ.val (OpV.move rfl) rfl ?_
      refine SQ.val (OpV.sub rfl rfl (IntWalk.i64_in _ (by omega))) rfl ?_
      refine SQ.val (OpV.indexAddr Tryz.underlying25 sz38 rfl rfl (by omega) (by omega)) rfl ?_
      refine SQ.val (OpV.loads (cs := p.cells) _ Tryz.underlying38 rfl rfl sz38 (Kns.row 0 rfl (by rw [hn2]; exact row_elem _ _ p hp))) rfl ?_
      refine SQ.callv (.inl rfl) ok40 rfl rfl (eqp_ev x p M) rfl ?_
      refine SQ.nil ?_
      refine seqQ.nm ?_
      first | refine SC.ifp rfl (fun h28 => ?_) (fun h28 => ?_) | refine SC.ite rfl (fun h28 => ?_) (fun h28 => ?_)
      · skip
        have hc0 : compM (o.take (k + 1)) = o.take k := by rw [hstep, if_pos h28.symm, List.append_nil, hcm]
        have hs31 : Value.slice (some (if cap = ((k : Nat) : Int).toNat then ⟨g, 0, none⟩ else ⟨g, 0 + ((k : Nat) : Int).toNat * 9, none⟩)) (n - ((k : Nat) : Int).toNat) (cap - ((k : Nat) : Int).toNat) = .slice (some ⟨g, k * 9, none⟩) (n - k) (cap - k) := by
          rw [hn1, if_neg (by omega), Nat.zero_add]
        refine SC.seq ?_
        refine SC.region ?_
        refine SL.val (OpV.move rfl) rfl ?_
        refine SL.val (OpV.move rfl) rfl ?_
        refine SL.val (show OpV _ _ _ _ _ (.slice (some ⟨g, k * 9, none⟩) (n - k) (cap - k)) by rw [← hs31]; exact (OpV.lsliceL Tryz.underlying25 sz38 rfl rfl (by omega) (by omega))) rfl ?_
        refine SL.val (OpV.assign rfl) rfl ?_
        refine SL.nil ?_
        refine seqQ.nm ?_
        refine SC.seq ?_
        refine SC.seq ?_
        refine SC.region ?_
        refine SL.val (OpV.assign rfl) rfl ?_
        refine SL.nil ?_
        refine seqQ.nm ?_
        refine SC.block ?_
        refine SC.loop (ι := List Mb × List Mb × Nat) (fun x M' => 1 ≤ x.2.2 ∧ x.2.2 ≤ n - k ∧ x.1 = compM (o.take (k + x.2.2)) ∧ x.1.length + x.2.1.length = k + x.2.2 ∧ x.2.1.getLast? = o[k + x.2.2 - 1]? ∧ M = M') (fun x => [(0, .slice (some ⟨g, 0, none⟩) n cap), (1, .func (.func 40) #[] #[]), (5, .int .i64 (x.1.length : Nat)), (6, .slice (some ⟨g, k * 9, none⟩) (n - k) (cap - k)), (7, .int .i64 (x.2.2 : Nat))]) (fun x => [.row (.slice (some ⟨g, 0, none⟩) n cap) 38 9 ((x.1 ++ x.2.1 ++ o.drop (k + x.2.2)).flatMap Mb.cells)]) (fun x => n - k - x.2.2) (o.take k, [x], 1) (G := []) ⟨rfl, rfl, by show some _ = some _; congr 3; dsimp only; rw [List.length_take]; omega, rfl, rfl, trivial⟩ (List.Perm.of_eq (by dsimp only; rw [row_mid hx]; rfl)) ⟨Nat.le_refl _, by dsimp only; omega, hc0.symm, by dsimp only; rw [List.length_take, List.length_singleton]; omega, by dsimp only; rw [Nat.add_sub_cancel, hx]; rfl, rfl⟩ ?_
        rintro ⟨C, J, q⟩ _ _ ⟨hq1, hqn, hC, hCJ, hJl, rfl⟩
        dsimp only at hq1 hqn hC hCJ hJl ⊢
        have hJe : ∃ J' w, J = J' ++ [w] ∧ o[k + q - 1]? = some w := by
          obtain ⟨w, hw⟩ := getElem?_lt (l := o) (k := k + q - 1) (by omega)
          rw [hw] at hJl
          obtain ⟨J', rfl⟩ := List.getLast?_eq_some_iff.1 hJl
          exact ⟨J', w, rfl, hw⟩
        obtain ⟨J', w, rfl, hw⟩ := hJe
        have hJ' : (J' ++ [w]).length = J'.length + 1 := by simp
        refine SC.seq ?_
        refine SC.seq ?_
        refine SC.region ?_
        refine SL.val (OpV.move rfl) rfl ?_
        refine SL.val (OpV.move rfl) rfl ?_
        refine SL.val (OpV.llen Tryz.underlying25 rfl) rfl ?_
        refine SL.val (OpV.lss rfl rfl) rfl ?_
        refine SL.nil ?_
        refine seqQ.nm ?_
        first | refine SC.ifp rfl (fun h35 => ?_) (fun h35 => ?_) | refine SC.ite rfl (fun h35 => ?_) (fun h35 => ?_)
        · skip
          have hql : k + q < o.length := by omega
          obtain ⟨r, hr⟩ := getElem?_lt hql
          have hrok := hok r (List.mem_of_getElem? hr)
          have hst2 := compM_step (by omega) hr hw
          have hdr := drop_at hr
          have hi1 : k * 9 + ((q : Nat) : Int).toNat * 9 = 0 + (k + q) * 9 := by omega
          have hi2 : k * 9 + (((q : Nat) : Int) - 1).toNat * 9 = 0 + (k + q - 1) * 9 := by omega
          have hrA : (C ++ (J' ++ [w]) ++ o.drop (k + q))[k + q]? = some r := by
            rw [hdr]
            have := at0 (C ++ (J' ++ [w])) (o.drop (k + q + 1)) r
            rwa [List.length_append, hCJ] at this
          have hwA : (C ++ (J' ++ [w]) ++ o.drop (k + q))[k + q - 1]? = some w := by
            have := at0 (C ++ J') (o.drop (k + q)) w
            rw [← this, List.length_append]
            have e : C ++ (J' ++ [w]) ++ o.drop (k + q) = C ++ J' ++ w :: o.drop (k + q) := by simp
            rw [e]
            congr 1
            omega
          refine SC.skip ?_
          refine seqQ.nm ?_
          refine SC.seq ?_
          refine SC.block ?_
          refine SC.seq ?_
          refine SC.quiet mixed (by decide +kernel) ?_
          refine SQ.val (OpV.move rfl) rfl ?_
          refine SQ.val (OpV.move rfl) rfl ?_
          refine SQ.val (OpV.move rfl) rfl ?_
          refine SQ.val (OpV.indexAddr Tryz.underlying25 sz38 rfl rfl (by omega) (by omega)) rfl ?_
          refine SQ.val (OpV.loads (cs := r.cells) _ Tryz.underlying38 rfl rfl sz38 (Kns.row 0 rfl (by rw [hi1]; exact row_elem _ _ r hrA))) rfl ?_
          refine SQ.val (OpV.move rfl) rfl ?_
          refine SQ.val (OpV.move rfl) rfl ?_
          refine SQ.val (OpV.sub rfl rfl (IntWalk.i64_in _ (by omega))) rfl ?_
          refine SQ.val (OpV.indexAddr Tryz.underlying25 sz38 rfl rfl (by omega) (by omega)) rfl ?_
          refine SQ.val (OpV.loads (cs := w.cells) _ Tryz.underlying38 rfl rfl sz38 (Kns.row 0 rfl (by rw [hi2]; exact row_elem _ _ w hwA))) rfl ?_
          refine SQ.callv (.inl rfl) ok40 rfl rfl (eqp_ev r w M) rfl ?_
          refine SQ.val (OpV.not rfl) rfl ?_
          refine SQ.nil ?_
          refine seqQ.nm ?_
          first | refine SC.ifp rfl (fun h49 => ?_) (fun h49 => ?_) | refine SC.ite rfl (fun h49 => ?_) (fun h49 => ?_)
          · skip
            have hne : ¬ w.path = r.path := fun e => by simp [e] at h49
            have hcl : ((C.length : Nat) : Int).toNat = C.length := by omega
            obtain ⟨j, J2, hJ2⟩ : ∃ j J2, J' ++ [w] = j :: J2 := by cases J' with | nil => exact ⟨w, [], rfl⟩ | cons a b => exact ⟨a, b ++ [w], rfl⟩
            have hJ2l : J2.length = J'.length := by have := congrArg List.length hJ2; simpa using this.symm
            have hset : (C ++ (J' ++ [w]) ++ o.drop (k + q)).set C.length r = (C ++ [r]) ++ (J2 ++ [r]) ++ o.drop (k + q + 1) := by
              rw [hJ2, hdr]
              simp [List.set_append]
            refine SC.seq ?_
            refine SC.region ?_
            refine SL.val (OpV.move rfl) rfl ?_
            refine SL.val (OpV.move rfl) rfl ?_
            refine SL.val (OpV.move rfl) rfl ?_
            refine SL.val (OpV.move rfl) rfl ?_
            refine SL.val (OpV.indexAddr Tryz.underlying25 sz38 rfl rfl (by omega) (by omega)) rfl ?_
            refine SL.val (OpV.loads (cs := r.cells) _ Tryz.underlying38 rfl rfl sz38 (Kns.row 0 rfl (by rw [hi1]; exact row_elem _ _ r hrA))) rfl ?_
            refine SL.val (OpV.indexAddr Tryz.underlying25 sz38 rfl rfl (by omega) (by omega)) rfl ?_
            refine SL.unit (OpU.storeRow 0 rfl rfl rfl sz38 (by rw [hcl, mbCells_len]; simp [Value.cells, Mb.cells]; omega) (cells_ones hrok)) ?_
            refine SL.nil ?_
            refine seqQ.nm ?_
            refine SC.region ?_
            refine SL.val (OpV.move rfl) rfl ?_
            refine SL.val (OpV.add rfl rfl (IntWalk.i64_in _ (by omega))) rfl ?_
            refine SL.val (OpV.assign rfl) rfl ?_
            refine SL.nil ?_
            refine blockQ.nm ?_
            refine seqQ.nm ?_
            refine SC.region ?_
            refine SL.val (OpV.move rfl) rfl ?_
            refine SL.val (OpV.add rfl rfl (IntWalk.i64_in _ (by omega))) rfl ?_
            refine SL.val (OpV.assign rfl) rfl ?_
            refine SL.nil ?_
            first
              | (refine loopQ.nm (C ++ [r], J2 ++ [r], q + 1) (by dsimp only; omega) ⟨rfl, rfl, by show some _ = some _; congr 2; simp, rfl, by show some _ = some _; congr 2, trivial⟩ (List.Perm.of_eq ?_) ⟨by dsimp only; omega, by dsimp only; omega, ?_, by simp; omega, ?_, rfl⟩
                 · rw [hcl]
                   simp only [List.set_cons_zero]
                   rw [splice_flat _ _ r (by simp; omega), hset]
                   rfl
                 · dsimp only
                   rw [← Nat.add_assoc, hst2, if_neg hne, ← hC]
                 · dsimp only
                   rw [List.getLast?_append, show k + (q + 1) - 1 = k + q by omega, hr]
                   rfl)
              | (refine loopQ.nm (C, (J' ++ [w]) ++ [r], q + 1) (by dsimp only; omega) ⟨rfl, rfl, rfl, rfl, by show some _ = some _; congr 2, trivial⟩ (List.Perm.of_eq ?_) ⟨by dsimp only; omega, by dsimp only; omega, ?_, by simp; omega, ?_, rfl⟩
                 · dsimp only
                   rw [hdr, ← Nat.add_assoc]
                   simp
                 · dsimp only
                   have he : w.path = r.path := by simp at h49; exact h49.symm
                   rw [← Nat.add_assoc, hst2, if_pos he, List.append_nil, ← hC]
                 · dsimp only
                   rw [List.getLast?_append, show k + (q + 1) - 1 = k + q by omega, hr]
                   rfl)
          · skip
            refine SC.skip ?_
            refine blockQ.nm ?_
            refine seqQ.nm ?_
            refine SC.region ?_
            refine SL.val (OpV.move rfl) rfl ?_
            refine SL.val (OpV.add rfl rfl (IntWalk.i64_in _ (by omega))) rfl ?_
            refine SL.val (OpV.assign rfl) rfl ?_
            refine SL.nil ?_
            first
              | (refine loopQ.nm (C ++ [r], J2 ++ [r], q + 1) (by dsimp only; omega) ⟨rfl, rfl, by show some _ = some _; congr 2; simp, rfl, by show some _ = some _; congr 2, trivial⟩ (List.Perm.of_eq ?_) ⟨by dsimp only; omega, by dsimp only; omega, ?_, by simp; omega, ?_, rfl⟩
                 · rw [hcl]
                   simp only [List.set_cons_zero]
                   rw [splice_flat _ _ r (by simp; omega), hset]
                   rfl
                 · dsimp only
                   rw [← Nat.add_assoc, hst2, if_neg hne, ← hC]
                 · dsimp only
                   rw [List.getLast?_append, show k + (q + 1) - 1 = k + q by omega, hr]
                   rfl)
              | (refine loopQ.nm (C, (J' ++ [w]) ++ [r], q + 1) (by dsimp only; omega) ⟨rfl, rfl, rfl, rfl, by show some _ = some _; congr 2, trivial⟩ (List.Perm.of_eq ?_) ⟨by dsimp only; omega, by dsimp only; omega, ?_, by simp; omega, ?_, rfl⟩
                 · dsimp only
                   rw [hdr, ← Nat.add_assoc]
                   simp
                 · dsimp only
                   have he : w.path = r.path := by simp at h49; exact h49.symm
                   rw [← Nat.add_assoc, hst2, if_pos he, List.append_nil, ← hC]
                 · dsimp only
                   rw [List.getLast?_append, show k + (q + 1) - 1 = k + q by omega, hr]
                   rfl)
        · skip
          have hqe : k + q = n := by omega
          have hcl : ((C.length : Nat) : Int).toNat = C.length := by omega
          have hCn : C.length < n := by omega
          have hs61 : Value.slice (some (if cap = ((C.length : Nat) : Int).toNat then ⟨g, 0, none⟩ else ⟨g, 0 + ((C.length : Nat) : Int).toNat * 9, none⟩)) (n - ((C.length : Nat) : Int).toNat) (cap - ((C.length : Nat) : Int).toNat) = .slice (some ⟨g, C.length * 9, none⟩) (n - C.length - 1 + 1) (cap - C.length) := by
            rw [hcl, if_neg (by omega), Nat.zero_add, show n - C.length - 1 + 1 = n - C.length by omega]
          have hxl : ((C ++ (J' ++ [w]) ++ o.drop (k + q)).flatMap Mb.cells).length = n * 9 := by rw [mbCells_len]; simp; omega
          refine SC.exit ?_
          refine seqQ.e ?_
          refine loopQ.e ?_
          refine blockQ.e ?_
          refine seqQ.nm ?_
          refine SC.seq ?_
          refine SC.region ?_
          refine SL.val (OpV.move rfl) rfl ?_
          refine SL.val (OpV.move rfl) rfl ?_
          refine SL.val (show OpV _ _ _ _ _ (.slice (some ⟨g, C.length * 9, none⟩) (n - C.length - 1 + 1) (cap - C.length)) by rw [← hs61]; exact (OpV.lsliceL Tryz.underlying25 sz38 rfl rfl (by omega) (by omega))) rfl ?_
          refine SL.gone (OpN.clear 0 rfl Tryz.underlying25 zr38 rfl rfl (by simp [Value.cells, Value.oneCell']) (by rw [hxl]; omega)) ?_
          refine SL.nil ?_
          refine seqQ.nm ?_
          refine SC.seq ?_
          refine SC.region ?_
          refine SL.val (OpV.move rfl) rfl ?_
          refine SL.val (OpV.move rfl) rfl ?_
          refine SL.val (OpV.lsliceH Tryz.underlying25 sz38 rfl rfl (by omega) (by omega)) rfl ?_
          have hfin : (splice ((C ++ (J' ++ [w]) ++ o.drop (k + q)).flatMap Mb.cells) (C.length * 9) (Builtin.zeroCells (Value.agg zeroMb.toArray).cells (n - C.length - 1 + 1)).toList).take (C.length * 9) = (compM o).flatMap Mb.cells := by
            unfold splice
            have e1 : ((C ++ (J' ++ [w]) ++ o.drop (k + q)).flatMap Mb.cells).take (C.length * 9) = C.flatMap Mb.cells := by
              rw [List.append_assoc, List.flatMap_append, ← mbCells_len C, List.take_left]
            rw [e1, List.append_assoc, ← mbCells_len C, List.take_left, hC, hqe, ← hn, List.take_length]
          refine SL.cutRow 0 C.length rfl (by omega) ?_
          refine SL.val (OpV.assign rfl) rfl ?_
          refine SL.nil ?_
          refine seqQ.nm ?_
          refine SC.ret ?_
          refine blockQ.r ?_
          refine seqQ.r ?_
          refine loopQ.r ?_
          refine blockQ.r ?_
          refine seqQ.r ?_
          refine retQ.one rfl (.tmp rfl) ?_ _ (.inr rfl)
          refine ⟨?_, rfl⟩
          rw [hcl, ← hfin]
          rfl
      · skip
        refine SC.skip ?_
        refine blockQ.nm ?_
        refine seqQ.nm ?_
        refine SC.region ?_
        refine SL.val (OpV.move rfl) rfl ?_
        refine SL.val (OpV.add rfl rfl (IntWalk.i64_in _ (by omega))) rfl ?_
        refine SL.val (OpV.assign rfl) rfl ?_
        refine SL.nil ?_
        refine loopQ.nm (k + 1) (by omega) ⟨rfl, rfl, rfl, trivial⟩ (List.Perm.refl _) ⟨by omega, by omega, ?_, rfl⟩
        have hne : ¬ p.path = x.path := fun e => h28 e.symm
        rw [hstep, if_neg hne, hcm, List.take_add_one, hx]
        rfl
    · skip
      refine SC.exit ?_
      refine seqQ.e ?_
      refine loopQ.e ?_
      refine blockQ.e ?_
      refine seqQ.nm ?_
      refine SC.seq ?_
      refine SC.region ?_
      refine SL.val (OpV.move rfl) rfl ?_
      refine SL.val (OpV.assign rfl) rfl ?_
      refine SL.nil ?_
      refine seqQ.nm ?_
      refine SC.ret ?_
      refine retQ.one rfl (.tmp rfl) ?_ _ (.inr rfl)
      have hke : k = n := by omega
      rw [hke, ← hn, List.take_length] at hcm
      exact ⟨by rw [hcm], rfl⟩
end Go.Proofs.YtceabkfmjffnhaaGreatDoor
set_option linter.unusedVariables false
set_option linter.unusedSimpArgs false
namespace Go.Proofs.YtceabkfmjffnhaaGreatDoor
open Go Go.Eng

/-! ### grown sets, by what Members say alone -/
def compCG : Option Bytes → List Core → List Core
  | _, [] => []
  | p, x :: r => if p = some x.path then compCG (some x.path) r else x :: compCG (some x.path) r
theorem cores_comp : ∀ (l : List Mb) (p : Option Bytes), cores (compG p l) = compCG p (cores l)
  | [], p => rfl
  | x :: l, p => by
    have ih := cores_comp l (some x.path)
    show cores (compG p (x :: l)) = compCG p (x.core :: cores l)
    unfold compG compCG
    have e : x.core.path = x.path := rfl
    rw [e]
    split
    · exact ih
    · show x.core :: cores (compG (some x.path) l) = _
      rw [ih]
def growC (cs : List Core) : List Core := fewC cs ++ (fewC (fewC cs)).flatMap fun m => (above m.path).map fun p => (dirMb p 493).core
def pltC (x y : Core × Nat) : Prop := Op.bytesLess x.1.path y.1.path = true ∨ (x.1.path = y.1.path ∧ x.2 < y.2)
theorem pltC_asymm {x y : Core × Nat} (h : pltC x y) (k : pltC y x) : False := by
  rcases h with h | ⟨h1, h2⟩ <;> rcases k with k | ⟨k1, k2⟩
  · have := bl_trans h k
    rw [bl_irrefl] at this; cases this
  · rw [k1, bl_irrefl] at h; cases h
  · rw [h1, bl_irrefl] at k; cases k
  · omega
def GrownR (cs r : List Core) : Prop := ∃ d : List (Core × Nat), d.Perm (growC cs).zipIdx ∧ d.Pairwise pltC ∧ r = compCG none (d.map (·.1))
theorem grown_unique {cs r r' : List Core} (h : GrownR cs r) (h' : GrownR cs r') : r = r' := by
  obtain ⟨d, h1, h2, rfl⟩ := h
  obtain ⟨d', h1', h2', rfl⟩ := h'
  have : d = d' := List.Perm.eq_of_pairwise (le := pltC) (fun a b _ _ p q => absurd (pltC_asymm p q) id) h2 h2' (h1.trans h1'.symm)
  rw [this]
theorem grown_of {cs : List Core} {zs : List Mb} {d : List Xb} (hz : cores zs = growC cs) (h1 : d.Perm zs.zipIdx) (h2 : d.Pairwise plt) : GrownR cs (cores (compM (d.map (·.1)))) := by
  refine ⟨d.map fun x => (x.1.core, x.2), ?_, ?_, ?_⟩
  · have h3 := h1.map fun x : Xb => (x.1.core, x.2)
    have e : (zs.zipIdx).map (fun x : Xb => (x.1.core, x.2)) = (growC cs).zipIdx := by
      rw [← hz]
      unfold cores
      rw [List.zipIdx_map]
      rfl
    rw [e] at h3
    exact h3
  · rw [List.pairwise_map]
    exact h2
  · rw [compM, cores_comp]
    congr 1
    simp [cores]
theorem above_mem_len (p : Bytes) : ∀ t ∈ above p, t.length ≤ p.length := by
  intro t ht
  unfold above at ht
  rw [mem_aboveTo p t _ (Nat.le_refl _)] at ht
  obtain ⟨j, hj, _, rfl⟩ := ht
  exact List.length_take_le' _ _
theorem flat_take_succ {α β : Type} (f : α → List β) (l : List α) (k : Nat) (x : α) (h : l[k]? = some x) : (l.take (k + 1)).flatMap f = (l.take k).flatMap f ++ f x := by
  rw [List.take_add_one, h]; simp
theorem flat_le {α β : Type} (f : α → List β) (c : Nat) : ∀ (l : List α), (∀ x ∈ l, (f x).length ≤ c) → (l.flatMap f).length ≤ l.length * c
  | [], _ => by simp
  | x :: l, h => by
    have h1 := flat_le f c l fun y hy => h y (by simp [hy])
    have h2 := h x (by simp)
    rw [List.flatMap_cons, List.length_append, List.length_cons, Nat.add_mul]
    omega
def upDirs (m : Mb) : List Mb := (above m.path).map fun p => dirMb p 493
theorem grown_ev (v : Value) (ms : List Mb) (M : Mem) (hv : SlM M v ms) (hok : ∀ m ∈ ms, m.ok M) (hl : ms.length ≤ big) :
    Ev Tryz.prog 19 [v].toArray [] M fun v' L' M' => ∃ ys, L' = [.row v' 38 9 (ys.flatMap Mb.cells)] ∧ GrownR (cores ms) (cores ys) ∧ (∀ y ∈ ys, y.ok M') ∧ ys.length ≤ 16384 := by
  refine Ev.enter Tryz.func19 rfl Tryz.ntmps19 rfl ?_
  refine SC.seq ?_
  refine SC.region ?_
  refine SL.val (OpV.assign rfl) rfl ?_
  refine SL.nil ?_
  refine seqQ.nm ?_
  refine SC.seq ?_
  refine SC.region ?_
  refine SL.val (OpV.move rfl) rfl ?_
  refine SL.call ok20 rfl (L1 := []) (List.Perm.refl _) (few_ev v ms [] M hv.rsl hok hl) rfl ?_
  rintro v8 _ M8 hM8 ⟨ys1, rfl, hc1, ho1, hl1⟩
  refine SL.val (OpV.assign rfl) rfl ?_
  refine SL.nil ?_
  refine seqQ.nm ?_
  refine SC.seq ?_
  refine SC.seq ?_
  refine SC.rowV 0 rfl fun hrv => ?_
  have hrs : RSlM [.row v8 38 9 (ys1.flatMap Mb.cells)] M8 v8 ys1 := hrv.rsl (mbCells_len ys1) (by decide) 0 rfl
  refine SC.region ?_
  refine SL.val (OpV.move rfl) rfl ?_
  refine SL.call ok20 rfl (L1 := [.row v8 38 9 (ys1.flatMap Mb.cells)]) (List.Perm.refl _) (few_ev v8 ys1 _ M8 hrs ho1 (by unfold big; omega)) rfl ?_
  rintro v10 _ M10 hM10 ⟨ys2, rfl, hc2, ho2, hl2⟩
  refine SL.fixRow (m := ys2.length) (xs := ys2.flatMap Mb.cells) 0 rfl (mbCells_len ys2) (by decide) ?_
  intro M2 hM2 hisl
  replace ho1 : ∀ y ∈ ys1, y.ok M2 := fun y hy => ((ho1 y hy).mono hM10).mono hM2
  replace ho2 : ∀ y ∈ ys2, y.ok M2 := fun y hy => (ho2 y hy).mono hM2
  have hsh2 := few_short hc2
  obtain ⟨ad, cap, rfl, hcap, hmax⟩ := hisl.len
  refine SL.val (OpV.llen Tryz.underlying25 rfl) rfl ?_
  refine SL.val (OpV.move rfl) rfl ?_
  refine SL.nil ?_
  refine seqQ.nm ?_
  refine SC.block ?_
  refine SC.loop (ι := Nat × Value × List Mb) (fun x M' => x.1 ≤ ys2.length ∧ x.2.2 = ys1 ++ (ys2.take x.1).flatMap upDirs ∧ (∀ y ∈ x.2.2, y.ok M') ∧ M2.le M') (fun x => [(0, x.2.1), (10, .slice ad ys2.length cap), (11, .int .i64 ys2.length), (12, .int .i64 (x.1 : Nat))]) (fun x => [.row x.2.1 38 9 (x.2.2.flatMap Mb.cells)]) (fun x => ys2.length - x.1) (0, v8, ys1) (G := []) ⟨rfl, rfl, rfl, rfl, trivial⟩ (List.Perm.refl _) ⟨Nat.zero_le _, by simp, ho1, Mem.le_refl _⟩ ?_
  rintro ⟨k, vl, zs⟩ M3 hM3 ⟨hk, hzs, hzo, hMM⟩
  dsimp only at hk hzs hzo ⊢
  refine SC.seq ?_
  refine SC.region ?_
  refine SL.val (OpV.lss rfl rfl) rfl ?_
  refine SL.nil ?_
  refine seqQ.nm ?_
  refine SC.seq ?_
  first | refine SC.ifp rfl (fun h13 => ?_) (fun h13 => ?_) | refine SC.ite rfl (fun h13 => ?_) (fun h13 => ?_)
  · skip
    have hlt : k < ys2.length := by omega
    obtain ⟨g, o, cap', he, hcs, _⟩ := (hisl.mono hMM).at_ (by omega)
    cases he
    obtain ⟨m, hm⟩ := getElem?_lt hlt
    have hmok := (ho2 m (List.mem_of_getElem? hm)).mono hMM
    have hmp := hsh2 m (List.mem_of_getElem? hm)
    have hmc := mbCells_at hcs hm
    have hal := above_len m.path
    have hfs := flat_take_succ upDirs ys2 k m hm
    have hzl : zs.length ≤ 14 + 14 * 300 := by
      rw [hzs, List.length_append]
      have := flat_le upDirs 300 (ys2.take k) (fun x hx => by
        have h1 := above_len x.path
        have h2 := hsh2 x (List.mem_of_mem_take hx)
        unfold upDirs; rw [List.length_map]; omega)
      rw [List.length_take] at this
      have h3 : min k ys2.length * 300 ≤ 14 * 300 := Nat.mul_le_mul_right _ (by omega)
      omega
    refine SC.skip ?_
    refine seqQ.nm ?_
    refine SC.seq ?_
    refine SC.block ?_
    refine SC.seq ?_
    refine SC.region ?_
    refine SL.val (OpV.indexAddr Tryz.underlying25 sz38 rfl rfl (by omega) (by omega)) rfl ?_
    refine SL.val (OpV.loads (cs := m.cells) _ Tryz.underlying38 rfl rfl sz38 (Kns.mem hmc)) rfl ?_
    refine SL.act (OpH.alloc zr38) rfl ?_; rintro _ _ _ hM4 ⟨b4, rfl, rfl, rfl⟩; clear hM4
    first
      | refine SL.unit (OpU.store 0 rfl rfl rfl sz38 (by first | exact Nat.le_of_ble_eq_true rfl | (simp; done) | (simp; omega) | omega) (cells_ones hmok)) ?_
      | refine SL.unit (OpU.storeRow 0 rfl rfl rfl sz38 (by first | exact Nat.le_of_ble_eq_true rfl | (simp; done) | (simp; omega) | omega) (cells_ones hmok)) ?_
      | refine SL.unit (OpU.store 1 rfl rfl rfl sz38 (by first | exact Nat.le_of_ble_eq_true rfl | (simp; done) | (simp; omega) | omega) (cells_ones hmok)) ?_
      | refine SL.unit (OpU.storeRow 1 rfl rfl rfl sz38 (by first | exact Nat.le_of_ble_eq_true rfl | (simp; done) | (simp; omega) | omega) (cells_ones hmok)) ?_
      | refine SL.unit (OpU.store 2 rfl rfl rfl sz38 (by first | exact Nat.le_of_ble_eq_true rfl | (simp; done) | (simp; omega) | omega) (cells_ones hmok)) ?_
      | refine SL.unit (OpU.storeRow 2 rfl rfl rfl sz38 (by first | exact Nat.le_of_ble_eq_true rfl | (simp; done) | (simp; omega) | omega) (cells_ones hmok)) ?_
      | refine SL.unit (OpU.store 3 rfl rfl rfl sz38 (by first | exact Nat.le_of_ble_eq_true rfl | (simp; done) | (simp; omega) | omega) (cells_ones hmok)) ?_
      | refine SL.unit (OpU.storeRow 3 rfl rfl rfl sz38 (by first | exact Nat.le_of_ble_eq_true rfl | (simp; done) | (simp; omega) | omega) (cells_ones hmok)) ?_
    refine SL.nil ?_
    refine seqQ.nm ?_
    refine SC.seq ?_
    refine SC.region ?_
    refine SL.val (OpV.fld fa38_0 rfl) rfl ?_
    first
      | refine SL.val (OpV.load _ Tryz.underlying9 rfl rfl (Kn.blk 0 rfl rfl)) rfl ?_
      | refine SL.val (OpV.load _ Tryz.underlying9 rfl rfl (Kn.blk 1 rfl rfl)) rfl ?_
      | refine SL.val (OpV.load _ Tryz.underlying9 rfl rfl (Kn.blk 2 rfl rfl)) rfl ?_
      | refine SL.val (OpV.load _ Tryz.underlying9 rfl rfl (Kn.blk 3 rfl rfl)) rfl ?_
      | refine SL.val (OpV.load _ Tryz.underlying9 rfl rfl (Kn.mem (by assumption))) rfl ?_
    refine SL.call ok26 rfl (L1 := []) (List.Perm.refl _) (above_ev m.path M3 (by omega)) rfl ?_
    rintro v18 _ M4 hM4 ⟨rfl, hab⟩
    obtain ⟨aad, acap, rfl, hac, ham⟩ := hab.len
    replace hzo : ∀ y ∈ zs, y.ok M4 := fun y hy => (hzo y hy).mono hM4
    refine SL.drop 0 rfl ?_
    refine SL.val (OpV.llen Tryz.underlying52 rfl) rfl ?_
    refine SL.val (OpV.move rfl) rfl ?_
    refine SL.nil ?_
    refine seqQ.nm ?_
    refine SC.block ?_
    refine SC.loop (ι := Nat × Value × List Mb) (fun x M' => x.1 ≤ (above m.path).length ∧ x.2.2 = zs ++ ((above m.path).take x.1).map (fun p => dirMb p 493) ∧ (∀ y ∈ x.2.2, y.ok M') ∧ M4 = M') (fun x => [(0, x.2.1), (10, .slice (some ⟨g, o, none⟩) ys2.length cap), (11, .int .i64 ys2.length), (12, .int .i64 (k : Nat)), (18, .slice aad (above m.path).length acap), (19, .int .i64 (above m.path).length), (20, .int .i64 (x.1 : Nat))]) (fun x => [.row x.2.1 38 9 (x.2.2.flatMap Mb.cells)]) (fun x => (above m.path).length - x.1) (0, vl, zs) (G := []) ⟨rfl, rfl, rfl, rfl, rfl, rfl, rfl, trivial⟩ (List.Perm.refl _) ⟨Nat.zero_le _, by simp, hzo, rfl⟩ ?_
    rintro ⟨j, vj, ws⟩ _ _ ⟨hj, hws, hwo, rfl⟩
    dsimp only at hj hws hwo ⊢
    refine SC.seq ?_
    refine SC.region ?_
    refine SL.val (OpV.lss rfl rfl) rfl ?_
    refine SL.nil ?_
    refine seqQ.nm ?_
    refine SC.seq ?_
    first | refine SC.ifp rfl (fun h21 => ?_) (fun h21 => ?_) | refine SC.ite rfl (fun h21 => ?_) (fun h21 => ?_)
    · skip
      have hjl : j < (above m.path).length := by omega
      obtain ⟨g2, o2, cap2, he2, hcs2, _⟩ := hab.at_ (by omega)
      cases he2
      obtain ⟨p, hp⟩ := getElem?_lt hjl
      have hpm := List.mem_of_getElem? hp
      have hpl := above_mem_len m.path p hpm
      have hpok := dirMb_ok p 493 M4 (show p.length ≤ 268435456 by omega)
      have hwl : ws.length ≤ 14 + 14 * 300 + 300 := by
        rw [hws, List.length_append, List.length_map, List.length_take]; omega
      refine SC.skip ?_
      refine seqQ.nm ?_
      refine SC.seq ?_
      refine SC.block ?_
      refine SC.seq ?_
      refine SC.region ?_
      refine SL.val (OpV.indexAddr1 Tryz.underlying52 sz9 rfl rfl (by omega) (by omega)) rfl ?_
      refine SL.val (OpV.load _ Tryz.underlying9 rfl rfl (Kn.mem (hcs2.at_ j (v := str p) (by simp [hp])))) rfl ?_
      refine SL.val (OpV.assign rfl) rfl ?_
      refine SL.nil ?_
      refine seqQ.nm ?_
      refine SC.region ?_
      refine SL.val (OpV.move rfl) rfl ?_
      refine SL.val (OpV.move rfl) rfl ?_
      refine SL.call ok38 rfl (L1 := []) (List.Perm.refl _) (dir19_ev p 493 M4) rfl ?_
      rintro _ _ _ hM26 ⟨rfl, rfl, rfl⟩
      refine SL.act (OpH.oneAgg Tryz.underlying25 zs38 rfl rfl rfl) rfl ?_; rintro _ _ _ hM27 ⟨b27, rfl, rfl, rfl⟩; clear hM27
      refine SL.act (OpH.append 1 rfl Tryz.underlying25 Tryz.underlying25 rfl ti38 rfl (by decide) (by decide) rfl rfl (Src.blk 0 rfl (m := 1) rfl) (ones_mem hpok) (by rw [mbCells_len]; simp [Mb.cells]; omega)) rfl ?_; rintro v28 _ _ hM28 ⟨rfl, rfl, hn28⟩; clear hM28
      refine SL.drop 0 rfl ?_
      refine SL.val (OpV.assign rfl) rfl ?_
      refine SL.nil ?_
      refine blockQ.nm ?_
      refine seqQ.nm ?_
      refine SC.region ?_
      refine SL.val (OpV.add rfl rfl (IntWalk.i64_in _ (by omega))) rfl ?_
      refine SL.val (OpV.move rfl) rfl ?_
      refine SL.nil ?_
      refine loopQ.nm (j + 1, v28, ws ++ [dirMb p 493]) (by dsimp only; omega) ⟨rfl, rfl, rfl, rfl, rfl, rfl, rfl, trivial⟩ (List.Perm.of_eq (by dsimp only; rw [flat_snoc]; rfl)) ⟨by dsimp only; omega, ?_, ?_, rfl⟩
      · dsimp only
        rw [hws, List.take_add_one, hp]
        simp
      · intro y hy
        rcases List.mem_append.1 hy with h | h
        · exact hwo y h
        · rw [List.mem_singleton] at h; rw [h]; exact hpok
    · skip
      have hje : j = (above m.path).length := by omega
      rw [hje, List.take_length] at hws
      refine SC.exit ?_
      refine seqQ.e ?_
      refine loopQ.e ?_
      refine blockQ.e ?_
      refine blockQ.nm ?_
      refine seqQ.nm ?_
      refine SC.region ?_
      refine SL.val (OpV.add rfl rfl (IntWalk.i64_in _ (by omega))) rfl ?_
      refine SL.val (OpV.move rfl) rfl ?_
      refine SL.nil ?_
      refine loopQ.nm (k + 1, vj, ws) (by dsimp only; omega) ⟨rfl, rfl, rfl, rfl, trivial⟩ (List.Perm.refl _) ⟨by dsimp only; omega, ?_, hwo, Mem.le_trans hMM hM4⟩
      dsimp only
      rw [hfs, hws, hzs, List.append_assoc]
      rfl
  · skip
    have hke : k = ys2.length := by omega
    rw [hke, List.take_length] at hzs
    have hzl : zs.length ≤ 14 + 14 * 300 := by
      rw [hzs, List.length_append]
      have := flat_le upDirs 300 ys2 (fun x hx => by
        have h1 := above_len x.path
        have h2 := hsh2 x hx
        unfold upDirs; rw [List.length_map]; omega)
      have h3 : ys2.length * 300 ≤ 14 * 300 := Nat.mul_le_mul_right _ (by omega)
      omega
    have hzc : cores zs = growC (cores ms) := by
      rw [hzs, cores_append, hc1, growC, ← hc1, ← hc2]
      congr 1
      unfold cores
      rw [List.map_flatMap, List.flatMap_map]
      congr 1
      funext m
      unfold upDirs
      rw [List.map_map]
      rfl
    refine SC.rowV 0 rfl fun hrv2 => ?_
    have hrs2 : RSlM [.row vl 38 9 (zs.flatMap Mb.cells)] M3 vl zs := hrv2.rsl (mbCells_len zs) (by decide) 0 rfl
    refine SC.exit ?_
    refine seqQ.e ?_
    refine loopQ.e ?_
    refine blockQ.e ?_
    refine seqQ.nm ?_
    refine SC.seq ?_
    refine SC.region ?_
    refine SL.val (OpV.move rfl) rfl ?_
    refine SL.call ok27 rfl (L1 := [.row vl 38 9 (zs.flatMap Mb.cells)]) (List.Perm.refl _) (csorted_ev vl zs _ M3 hrs2 hzo (by omega)) rfl ?_
    rintro v32 _ _ hM32 ⟨d, rfl, hd1, hd2, rfl⟩
    have hdo : ∀ y ∈ d.map (·.1), y.ok M3 := by
      intro y hy
      have h1 := hd1.map (·.1)
      rw [List.zipIdx_map_fst] at h1
      exact hzo y (h1.mem_iff.1 hy)
    have hdl : (d.map (·.1)).length = zs.length := by rw [List.length_map, hd1.length_eq, List.length_zipIdx]
    have hgr := grown_of hzc hd1 hd2
    rw [xc_map]
    generalize d.map (·.1) = ds at *
    refine SL.drop 1 rfl ?_
    refine SL.val (OpV.assign rfl) rfl ?_
    refine SL.nil ?_
    refine seqQ.nm ?_
    refine SC.seq ?_
    refine SC.region ?_
    refine SL.val (OpV.move rfl) rfl ?_
    refine SL.call ok39 rfl (L1 := [.row v32 38 9 (ds.flatMap Mb.cells)]) (List.Perm.refl _) (compact_ev v32 ds M3 hdo (by unfold big; omega)) rfl ?_
    rintro v34 _ _ hM34 ⟨rfl, rfl⟩
    refine SL.val (OpV.assign rfl) rfl ?_
    refine SL.nil ?_
    refine seqQ.nm ?_
    refine SC.ret ?_
    refine retQ.one rfl (.tmp rfl) ?_ _ (.inr rfl)
    exact ⟨compM ds, rfl, hgr, fun y hy => hdo y (compG_mem _ _ y hy), by have := compG_le ds none; unfold compM; omega⟩
end Go.Proofs.YtceabkfmjffnhaaGreatDoor
set_option linter.unusedVariables false
set_option linter.unusedSimpArgs false
namespace Go.Proofs.YtceabkfmjffnhaaGreatDoor
open Go Go.Eng

def SetR (cs : List Core) (g : Bool) (r : List Core) : Prop := if g then GrownR cs r else r = fewC cs
theorem set_unique {cs r r' : List Core} {g : Bool} (h : SetR cs g r) (h' : SetR cs g r') : r = r' := by
  cases g with
  | true => exact grown_unique h h'
  | false =>
    have e : r = fewC cs := h
    have e' : r' = fewC cs := h'
    rw [e, e']
theorem set_ev (v : Value) (ms : List Mb) (g : Bool) (M : Mem) (hv : SlM M v ms) (hok : ∀ m ∈ ms, m.ok M) (hl : ms.length ≤ big) :
    Ev Tryz.prog 10 [v, .bool g].toArray [] M fun v' L' M' => ∃ ys, L' = [.row v' 38 9 (ys.flatMap Mb.cells)] ∧ SetR (cores ms) g (cores ys) ∧ (∀ y ∈ ys, y.ok M') ∧ ys.length ≤ 16384 := by
  refine Ev.enter Tryz.func10 rfl Tryz.ntmps10 rfl ?_
  refine SC.seq ?_
  refine SC.region ?_
  refine SL.val (OpV.assign rfl) rfl ?_
  refine SL.nil ?_
  refine seqQ.nm ?_
  refine SC.seq ?_
  refine SC.seq ?_
  refine SC.region ?_
  refine SL.val (OpV.move rfl) rfl ?_
  refine SL.nil ?_
  refine seqQ.nm ?_
  first | refine SC.ifp rfl (fun h5 => ?_) (fun h5 => ?_) | refine SC.ite rfl (fun h5 => ?_) (fun h5 => ?_)
  · skip
    refine SC.seq ?_
    refine SC.region ?_
    refine SL.val (OpV.move rfl) rfl ?_
    refine SL.call ok19 rfl (L1 := []) (List.Perm.refl _) (grown_ev v ms M hv hok hl) rfl ?_
    rintro v7 _ M7 hM7 ⟨ys, rfl, hr, ho, hyl⟩
    refine SL.val (OpV.assign rfl) rfl ?_
    refine SL.nil ?_
    refine seqQ.nm ?_
    refine SC.ret ?_
    refine seqQ.r ?_
    refine retQ.one rfl (.tmp rfl) ?_ _ (.inr rfl)
    exact ⟨ys, rfl, by rw [SetR, if_pos h5]; exact hr, ho, hyl⟩
  · skip
    refine SC.skip ?_
    refine seqQ.nm ?_
    refine SC.seq ?_
    refine SC.region ?_
    refine SL.val (OpV.move rfl) rfl ?_
    refine SL.call ok20 rfl (L1 := []) (List.Perm.refl _) (few_ev v ms [] M hv.rsl hok hl) rfl ?_
    rintro v9 _ M9 hM9 ⟨ys, rfl, hr, ho, hyl⟩
    refine SL.val (OpV.assign rfl) rfl ?_
    refine SL.nil ?_
    refine seqQ.nm ?_
    refine SC.ret ?_
    refine retQ.one rfl (.tmp rfl) ?_ _ (.inr rfl)
    exact ⟨ys, rfl, by rw [SetR, if_neg (by rw [h5]; decide)]; exact hr, ho, by omega⟩
/-- A layer: Members, and whether they are grown. -/
structure Ly where
  l : Value
  ms : List Mb
  grown : Bool
def Ly.cells (x : Ly) : List Value := [x.l, .bool x.grown]
theorem ly_len (x : Ly) : x.cells.length = 2 := rfl
structure LayersOk (M : Mem) (v : Value) (ls : List Ly) : Prop where
  outer : ISl M v 2 ls.length (ls.flatMap Ly.cells)
  each : ∀ x ∈ ls, SlM M x.l x.ms ∧ (∀ m ∈ x.ms, m.ok M) ∧ x.ms.length ≤ big
  few : ls.length ≤ big
def SetsR (ls : List Ly) (ss : List (List Mb)) : Prop := ss.length = min 4 ls.length ∧ ∀ (i : Nat) (x : Ly) (ms : List Mb), ls[i]? = some x → ss[i]? = some ms → SetR (cores x.ms) x.grown (cores ms)
theorem sets_unique {ls : List Ly} {ss ss' : List (List Mb)} (h : SetsR ls ss) (h' : SetsR ls ss') : ss.map cores = ss'.map cores := by
  apply List.ext_getElem?
  intro i
  rw [List.getElem?_map, List.getElem?_map]
  rcases Nat.lt_or_ge i ss.length with hi | hi
  · have h1 := h.1
    have h2 := h'.1
    obtain ⟨ms, hm⟩ := getElem?_lt hi
    obtain ⟨ms', hm'⟩ := getElem?_lt (l := ss') (k := i) (by omega)
    obtain ⟨x, hx⟩ := getElem?_lt (l := ls) (k := i) (by omega)
    rw [hm, hm']
    simp only [Option.map_some, Option.some.injEq]
    exact set_unique (h.2 i x ms hx hm) (h'.2 i x ms' hx hm')
  · have h1 := h.1
    have h2 := h'.1
    rw [List.getElem?_eq_none hi, List.getElem?_eq_none (by omega)]
theorem sets_ev (v : Value) (ls : List Ly) (M : Mem) (hv : LayersOk M v ls) :
    Ev Tryz.prog 4 [v, .int .i64 4].toArray [] M fun v' L' M' => L' = [] ∧ ∃ vs ss, SetsOk M' v' vs ss ∧ SetsR ls ss := by
  refine Ev.laxR ?_
  obtain ⟨ad, cap, rfl, hcap, hmax⟩ := hv.outer.len
  have hfew : ls.length ≤ 268435456 := hv.few
  refine Ev.enter Tryz.func4 rfl Tryz.ntmps4 rfl ?_
  refine SC.nilrow 25 1 ?_
  refine SC.seq ?_
  refine SC.region ?_
  refine SL.val (OpV.assign rfl) rfl ?_
  refine SL.nil ?_
  refine seqQ.nm ?_
  refine SC.seq ?_
  refine SC.region ?_
  refine SL.val (OpV.assign rfl) rfl ?_
  refine SL.nil ?_
  refine seqQ.nm ?_
  refine SC.seq ?_
  refine SC.seq ?_
  refine SC.region ?_
  refine SL.val (OpV.move rfl) rfl ?_
  refine SL.val (OpV.llen Tryz.underlying22 rfl) rfl ?_
  refine SL.val (OpV.move rfl) rfl ?_
  refine SL.nil ?_
  refine seqQ.nm ?_
  refine SC.block ?_
  refine SC.loop (ι := Nat × Value × List Value × List (List Mb)) (fun x M' => x.1 ≤ ls.length ∧ x.2.2.1.length = x.2.2.2.length ∧ x.2.2.2.length = min 4 x.1 ∧ (∀ (i : Nat) (u : Value) (ms : List Mb), x.2.2.1[i]? = some u → x.2.2.2[i]? = some ms → SlM M' u ms ∧ (∀ m ∈ ms, m.ok M') ∧ ms.length ≤ 16777216) ∧ (∀ (i : Nat) (y : Ly) (ms : List Mb), ls[i]? = some y → x.2.2.2[i]? = some ms → SetR (cores y.ms) y.grown (cores ms)) ∧ M.le M') (fun x => [(1, .int .i64 4), (5, x.2.1), (8, .slice ad ls.length cap), (9, .int .i64 ls.length), (10, .int .i64 (x.1 : Nat))]) (fun x => [.row x.2.1 25 1 x.2.2.1]) (fun x => ls.length - x.1) (0, .slice none 0 0, [], []) (G := []) ⟨rfl, rfl, rfl, rfl, rfl, trivial⟩ (List.Perm.refl _) ⟨Nat.zero_le _, rfl, rfl, (fun i u ms h => by simp at h), (fun i y ms _ h => by simp at h), Mem.le_refl _⟩ ?_
  rintro ⟨k, vo, vs, ss⟩ M1 hM1 ⟨hk, hvs, hsl, hsa, hsr, hMM⟩
  dsimp only at hk hvs hsl hsa hsr ⊢
  refine SC.seq ?_
  refine SC.region ?_
  refine SL.val (OpV.lss rfl rfl) rfl ?_
  refine SL.nil ?_
  refine seqQ.nm ?_
  refine SC.seq ?_
  first | refine SC.ifp rfl (fun h11 => ?_) (fun h11 => ?_) | refine SC.ite rfl (fun h11 => ?_) (fun h11 => ?_)
  · skip
    have hlt : k < ls.length := by omega
    obtain ⟨g, o, cap', he, hcs, _⟩ := (hv.outer.mono hMM).at_ (by omega)
    cases he
    obtain ⟨x, hx⟩ := getElem?_lt hlt
    obtain ⟨hx1, hx2, hx3⟩ := hv.each x (List.mem_of_getElem? hx)
    obtain ⟨lad, lcap, hle, _, _⟩ := hx1.len
    have hxc : M1.cells g (o + k * 2) x.cells := Mem.cells.flat hcs 2 ly_len hx
    refine SC.skip ?_
    refine seqQ.nm ?_
    refine SC.seq ?_
    refine SC.block ?_
    refine SC.seq ?_
    refine SC.region ?_
    refine SL.val (OpV.move rfl) rfl ?_
    refine SL.val (OpV.indexAddr Tryz.underlying22 sz43 rfl rfl (by omega) (by omega)) rfl ?_
    refine SL.val (OpV.loads (cs := x.cells) _ Tryz.underlying43 rfl rfl sz43 (Kns.mem hxc)) rfl ?_
    refine SL.act (OpH.alloc zr43) rfl ?_; rintro _ _ _ hM7 ⟨b7, rfl, rfl, rfl⟩; clear hM7
    refine SL.val (OpV.assign rfl) rfl ?_
    first
      | refine SL.unit (OpU.store 0 rfl rfl rfl sz43 (by first | exact Nat.le_of_ble_eq_true rfl | (simp; done) | (simp; omega) | omega) (by simp [Value.cells, Ly.cells, hle, Value.oneCell'])) ?_
      | refine SL.unit (OpU.storeRow 0 rfl rfl rfl sz43 (by first | exact Nat.le_of_ble_eq_true rfl | (simp; done) | (simp; omega) | omega) (by simp [Value.cells, Ly.cells, hle, Value.oneCell'])) ?_
      | refine SL.unit (OpU.store 1 rfl rfl rfl sz43 (by first | exact Nat.le_of_ble_eq_true rfl | (simp; done) | (simp; omega) | omega) (by simp [Value.cells, Ly.cells, hle, Value.oneCell'])) ?_
      | refine SL.unit (OpU.storeRow 1 rfl rfl rfl sz43 (by first | exact Nat.le_of_ble_eq_true rfl | (simp; done) | (simp; omega) | omega) (by simp [Value.cells, Ly.cells, hle, Value.oneCell'])) ?_
      | refine SL.unit (OpU.store 2 rfl rfl rfl sz43 (by first | exact Nat.le_of_ble_eq_true rfl | (simp; done) | (simp; omega) | omega) (by simp [Value.cells, Ly.cells, hle, Value.oneCell'])) ?_
      | refine SL.unit (OpU.storeRow 2 rfl rfl rfl sz43 (by first | exact Nat.le_of_ble_eq_true rfl | (simp; done) | (simp; omega) | omega) (by simp [Value.cells, Ly.cells, hle, Value.oneCell'])) ?_
      | refine SL.unit (OpU.store 3 rfl rfl rfl sz43 (by first | exact Nat.le_of_ble_eq_true rfl | (simp; done) | (simp; omega) | omega) (by simp [Value.cells, Ly.cells, hle, Value.oneCell'])) ?_
      | refine SL.unit (OpU.storeRow 3 rfl rfl rfl sz43 (by first | exact Nat.le_of_ble_eq_true rfl | (simp; done) | (simp; omega) | omega) (by simp [Value.cells, Ly.cells, hle, Value.oneCell'])) ?_
    refine SL.nil ?_
    refine seqQ.nm ?_
    refine SC.seq ?_
    refine SC.region ?_
    refine SL.val (OpV.move rfl) rfl ?_
    refine SL.val (OpV.move rfl) rfl ?_
    refine SL.val (OpV.lss rfl rfl) rfl ?_
    refine SL.nil ?_
    refine seqQ.nm ?_
    first | refine SC.ifp rfl (fun h17 => ?_) (fun h17 => ?_) | refine SC.ite rfl (fun h17 => ?_) (fun h17 => ?_)
    · skip
      have hk4 : k < 4 := by omega
      have hsk : ss.length = k := by omega
      refine SC.region ?_
      refine SL.val (OpV.move rfl) rfl ?_
      refine SL.val (OpV.fld fa43_0 rfl) rfl ?_
      first
        | refine SL.val (OpV.load _ Tryz.underlying25 rfl rfl (Kn.blk 0 rfl rfl)) rfl ?_
        | refine SL.val (OpV.load _ Tryz.underlying25 rfl rfl (Kn.blk 1 rfl rfl)) rfl ?_
        | refine SL.val (OpV.load _ Tryz.underlying25 rfl rfl (Kn.blk 2 rfl rfl)) rfl ?_
        | refine SL.val (OpV.load _ Tryz.underlying25 rfl rfl (Kn.blk 3 rfl rfl)) rfl ?_
        | refine SL.val (OpV.load _ Tryz.underlying25 rfl rfl (Kn.mem (by assumption))) rfl ?_
      refine SL.val (OpV.fld fa43_1 rfl) rfl ?_
      first
        | refine SL.val (OpV.load _ Tryz.underlying4 rfl rfl (Kn.blk 0 rfl rfl)) rfl ?_
        | refine SL.val (OpV.load _ Tryz.underlying4 rfl rfl (Kn.blk 1 rfl rfl)) rfl ?_
        | refine SL.val (OpV.load _ Tryz.underlying4 rfl rfl (Kn.blk 2 rfl rfl)) rfl ?_
        | refine SL.val (OpV.load _ Tryz.underlying4 rfl rfl (Kn.blk 3 rfl rfl)) rfl ?_
        | refine SL.val (OpV.load _ Tryz.underlying4 rfl rfl (Kn.mem (by assumption))) rfl ?_
      refine SL.call ok10 rfl (L1 := []) (List.Perm.refl _) (set_ev x.l x.ms x.grown M1 (hx1.mono hMM) (fun m hm => (hx2 m hm).mono hMM) hx3) rfl ?_
      rintro v23 _ M2 hM2 ⟨ys, rfl, hyr, hyo, hyl⟩
      refine SL.fixRow (m := ys.length) (xs := ys.flatMap Mb.cells) 0 rfl (mbCells_len ys) (by decide) ?_
      intro M3 hM3 hisl
      obtain ⟨yad, ycap, rfl, hyc, _⟩ := hisl.len
      replace hyo : ∀ m ∈ ys, m.ok M3 := fun m hm => (hyo m hm).mono hM3
      refine SL.act (OpH.one Tryz.underlying23 zs25 rfl rfl) rfl ?_; rintro _ _ _ hM24 ⟨b24, rfl, rfl, rfl⟩; clear hM24
      refine SL.act (OpH.append 2 rfl Tryz.underlying23 Tryz.underlying23 rfl ti25 rfl (by decide) (by decide) rfl rfl (Src.blk 0 rfl (m := 1) rfl) (by intro u hu; rw [List.mem_singleton] at hu; rw [hu]; rfl) (by simp; omega)) rfl ?_; rintro v25 _ _ hM25 ⟨rfl, rfl, hn25⟩; clear hM25
      refine SL.drop 0 rfl (SL.drop 0 rfl ?_)
      refine SL.val (OpV.assign rfl) rfl ?_
      refine SL.nil ?_
      refine blockQ.nm ?_
      refine seqQ.nm ?_
      refine SC.region ?_
      refine SL.val (OpV.add rfl rfl (IntWalk.i64_in _ (by omega))) rfl ?_
      refine SL.val (OpV.move rfl) rfl ?_
      refine SL.nil ?_
      first
        | (refine loopQ.nm (k + 1, v25, vs ++ [.slice yad ys.length ycap], ss ++ [ys]) (by dsimp only; omega) ⟨rfl, rfl, rfl, rfl, rfl, trivial⟩ (List.Perm.refl _) ⟨by dsimp only; omega, by simp [hvs], by simp; omega, ?_, ?_, Mem.le_trans hMM (Mem.le_trans hM2 hM3)⟩
           · intro i u ms hu hm
             dsimp only at hu hm
             rcases Nat.lt_or_ge i ss.length with hi | hi
             · rw [List.getElem?_append_left (by omega)] at hu hm
               obtain ⟨a, b, c⟩ := hsa i u ms hu hm
               exact ⟨a.mono (Mem.le_trans hM2 hM3), fun m hm => (b m hm).mono (Mem.le_trans hM2 hM3), c⟩
             · rw [List.getElem?_append_right (by omega)] at hu hm
               obtain rfl : i = ss.length := by
                 have := (List.getElem?_eq_some_iff.1 hm).1
                 simp at this; omega
               rw [Nat.sub_self] at hm
               rw [hvs, Nat.sub_self] at hu
               simp at hu hm
               subst hu hm
               exact ⟨hisl, hyo, by omega⟩
           · intro i y ms hy hm
             dsimp only at hm
             rcases Nat.lt_or_ge i ss.length with hi | hi
             · rw [List.getElem?_append_left (by omega)] at hm
               exact hsr i y ms hy hm
             · rw [List.getElem?_append_right (by omega)] at hm
               obtain rfl : i = ss.length := by
                 have := (List.getElem?_eq_some_iff.1 hm).1
                 simp at this; omega
               rw [Nat.sub_self] at hm
               simp at hm
               subst hm
               rw [hsk, hx] at hy
               cases hy
               exact hyr)
        | exact loopQ.nm (k + 1, vo, vs, ss) (by dsimp only; omega) ⟨rfl, rfl, rfl, rfl, rfl, trivial⟩ (List.Perm.refl _) ⟨by dsimp only; omega, hvs, by dsimp only; omega, hsa, hsr, hMM⟩
    · skip
      have hk4 : 4 ≤ k := by omega
      refine SC.drop 0 rfl ?_
      refine SC.skip ?_
      refine blockQ.nm ?_
      refine seqQ.nm ?_
      refine SC.region ?_
      refine SL.val (OpV.add rfl rfl (IntWalk.i64_in _ (by omega))) rfl ?_
      refine SL.val (OpV.move rfl) rfl ?_
      refine SL.nil ?_
      first
        | (refine loopQ.nm (k + 1, v25, vs ++ [.slice yad ys.length ycap], ss ++ [ys]) (by dsimp only; omega) ⟨rfl, rfl, rfl, rfl, rfl, trivial⟩ (List.Perm.refl _) ⟨by dsimp only; omega, by simp [hvs], by simp; omega, ?_, ?_, Mem.le_trans hMM (Mem.le_trans hM2 hM3)⟩
           · intro i u ms hu hm
             dsimp only at hu hm
             rcases Nat.lt_or_ge i ss.length with hi | hi
             · rw [List.getElem?_append_left (by omega)] at hu hm
               obtain ⟨a, b, c⟩ := hsa i u ms hu hm
               exact ⟨a.mono (Mem.le_trans hM2 hM3), fun m hm => (b m hm).mono (Mem.le_trans hM2 hM3), c⟩
             · rw [List.getElem?_append_right (by omega)] at hu hm
               obtain rfl : i = ss.length := by
                 have := (List.getElem?_eq_some_iff.1 hm).1
                 simp at this; omega
               rw [Nat.sub_self] at hm
               rw [hvs, Nat.sub_self] at hu
               simp at hu hm
               subst hu hm
               exact ⟨hisl, hyo, by omega⟩
           · intro i y ms hy hm
             dsimp only at hm
             rcases Nat.lt_or_ge i ss.length with hi | hi
             · rw [List.getElem?_append_left (by omega)] at hm
               exact hsr i y ms hy hm
             · rw [List.getElem?_append_right (by omega)] at hm
               obtain rfl : i = ss.length := by
                 have := (List.getElem?_eq_some_iff.1 hm).1
                 simp at this; omega
               rw [Nat.sub_self] at hm
               simp at hm
               subst hm
               rw [hsk, hx] at hy
               cases hy
               exact hyr)
        | exact loopQ.nm (k + 1, vo, vs, ss) (by dsimp only; omega) ⟨rfl, rfl, rfl, rfl, rfl, trivial⟩ (List.Perm.refl _) ⟨by dsimp only; omega, hvs, by dsimp only; omega, hsa, hsr, hMM⟩
  · skip
    have hke : k = ls.length := by omega
    rw [hke] at hsl
    refine SC.fixRow (m := vs.length) (xs := vs) 0 rfl (by omega) (by decide) ?_
    intro M4 hM4 hisl
    refine SC.exit ?_
    refine seqQ.e ?_
    refine loopQ.e ?_
    refine blockQ.e ?_
    refine seqQ.nm ?_
    refine SC.seq ?_
    refine SC.region ?_
    refine SL.val (OpV.move rfl) rfl ?_
    refine SL.val (OpV.assign rfl) rfl ?_
    refine SL.nil ?_
    refine seqQ.nm ?_
    refine SC.ret ?_
    refine retQ.one rfl (.tmp rfl) ?_ _ (.inr rfl)
    exact ⟨vs, ss, ⟨hisl, hvs, fun i u ms hu hm => by obtain ⟨a, b, c⟩ := hsa i u ms hu hm; exact ⟨a.mono hM4, fun m hm => (b m hm).mono hM4, c⟩, by omega⟩, hsl, hsr⟩
end Go.Proofs.YtceabkfmjffnhaaGreatDoor
