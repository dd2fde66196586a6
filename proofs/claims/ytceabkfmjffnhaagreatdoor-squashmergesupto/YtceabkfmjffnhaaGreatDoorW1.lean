/- SquashMerges answers true for every input of bulk at most 1048576, and its input reads as it did; the listed variables start as the program's text lays them (walks and laws) -/
import Derived.Test.YtceabkfmjffnhaaGreatDoorW0
import Derived.Test.YtceabkfmjffnhaaGreatDoorE
set_option linter.unusedVariables false
set_option linter.unusedSimpArgs false
namespace Go.Proofs.YtceabkfmjffnhaaGreatDoor
open Go Go.Eng

theorem rcmay_ev (v : Value) (ms : List Mb) (M : Mem) (hv : SlM M v ms) (hok : ∀ m ∈ ms, m.ok M) (hl : ms.length ≤ big) :
    Ev Tryz.prog 14 [v].toArray [] M (Pu M (.int .i64 (maySet (cores ms)))) := by
  obtain ⟨ad, cap, rfl, hcap, hmax⟩ := hv.len
  refine Ev.lax ?_
  refine Ev.enter Tryz.func14 rfl Tryz.ntmps14 rfl ?_
  have hl' : ms.length ≤ 268435456 := hl
  refine SC.seq ?_
  refine SC.region ?_
  refine SL.val (OpV.assign rfl) rfl ?_
  refine SL.nil ?_
  refine seqQ.nm ?_
  refine SC.seq ?_
  refine SC.seq ?_
  refine SC.region ?_
  refine SL.val (OpV.assign rfl) rfl ?_
  refine SL.nil ?_
  refine seqQ.nm ?_
  refine SC.block ?_
  refine SC.loop (ι := Nat) (fun k M' => k ≤ ms.length ∧ firstErr (cores ms) k = 0 ∧ M.le M')
    (fun k => [(0, .slice ad ms.length cap), (3, .int .i64 k)]) (fun _ => []) (fun k => ms.length - k) 0 (G := []) ⟨rfl, rfl, trivial⟩ (List.Perm.refl _) ⟨Nat.zero_le _, rfl, Mem.le_refl _⟩ ?_
  rintro k M1 hM1 ⟨hk, herr, hMM⟩
  replace hv := hv.mono hMM
  replace hok : ∀ m ∈ ms, m.ok M1 := fun m hm => (hok m hm).mono hMM
  refine SC.seq ?_
  refine SC.seq ?_
  refine SC.region ?_
  refine SL.val (OpV.move rfl) rfl ?_
  refine SL.val (OpV.move rfl) rfl ?_
  refine SL.val (OpV.llen Tryz.underlying25 rfl) rfl ?_
  refine SL.val (OpV.lss rfl rfl) rfl ?_
  refine SL.nil ?_
  refine seqQ.nm ?_
  first | refine SC.ifp rfl (fun h16 => ?_) (fun h16 => ?_) | refine SC.ite rfl (fun h16 => ?_) (fun h16 => ?_)
  · skip
    have hlt : k < ms.length := by omega
    obtain ⟨g, o, cap', he, hcs, _⟩ := hv.at_ (by omega)
    cases he
    obtain ⟨m, hm⟩ := getElem?_lt hlt
    have hmok := hok m (List.mem_of_getElem? hm)
    have hmc := mbCells_at hcs hm
    have hmp : m.path.length ≤ 268435456 := hmok.path
    have hmok2 : Mb.ok M1 { m with path := [97] } := ⟨hmok.attrs, hmok.data, (show ([97] : Bytes).length ≤ big by decide), hmok.link, hmok.names, hmok.attrsLen, hmok.dataLen⟩
    have hcm := core_at hm
    have hcl := classRef_lt m.path
    obtain ⟨dad, dcap, hde, _⟩ := hmok.data.len
    obtain ⟨aad, acap, hae, _⟩ := hmok.attrs.len
    refine SC.skip ?_
    refine seqQ.nm ?_
    refine SC.seq ?_
    refine SC.block ?_
    refine SC.seq ?_
    refine SC.region ?_
    refine SL.val (OpV.move rfl) rfl ?_
    refine SL.val (OpV.move rfl) rfl ?_
    refine SL.val (OpV.indexAddr Tryz.underlying25 sz38 rfl rfl (by omega) (by omega)) rfl ?_
    refine SL.val (OpV.loads (cs := m.cells) _ Tryz.underlying38 rfl rfl sz38 (Kns.mem hmc)) rfl ?_
    refine SL.act (OpH.alloc zr38) rfl ?_; rintro _ _ _ hM4 ⟨b4, rfl, rfl, rfl⟩; clear hM4
    first
      | refine SL.unit (OpU.store 0 rfl rfl rfl sz38 (by first | exact Nat.le_of_ble_eq_true rfl | (simp; done) | (simp; omega) | omega) (cells_ones hmok)) ?_
      | refine SL.unit (OpU.storeRow 0 rfl rfl rfl sz38 (by first | exact Nat.le_of_ble_eq_true rfl | (simp; done) | (simp; omega) | omega) (cells_ones hmok)) ?_
      | refine SL.unit (OpU.store 1 rfl rfl rfl sz38 (by first | exact Nat.le_of_ble_eq_true rfl | (simp; done) | (simp; omega) | omega) (cells_ones hmok)) ?_
      | refine SL.unit (OpU.storeRow 1 rfl rfl rfl sz38 (by first | exact Nat.le_of_ble_eq_true rfl | (simp; done) | (simp; omega) | omega) (cells_ones hmok)) ?_
      | refine SL.unit (OpU.store 2 rfl rfl rfl sz38 (by first | exact Nat.le_of_ble_eq_true rfl | (simp; done) | (simp; omega) | omega) (cells_ones hmok)) ?_
      | refine SL.unit (OpU.storeRow 2 rfl rfl rfl sz38 (by first | exact Nat.le_of_ble_eq_true rfl | (simp; done) | (simp; omega) | omega) (cells_ones hmok)) ?_
      | refine SL.unit (OpU.store 3 rfl rfl rfl sz38 (by first | exact Nat.le_of_ble_eq_true rfl | (simp; done) | (simp; omega) | omega) (cells_ones hmok)) ?_
      | refine SL.unit (OpU.storeRow 3 rfl rfl rfl sz38 (by first | exact Nat.le_of_ble_eq_true rfl | (simp; done) | (simp; omega) | omega) (cells_ones hmok)) ?_
    refine SL.nil ?_
    refine seqQ.nm ?_
    refine SC.seq ?_
    refine SC.region ?_
    refine SL.val (OpV.loads (cs := m.cells) _ Tryz.underlying38 rfl rfl sz38 (Kns.blk 0 rfl rfl)) rfl ?_
    refine SL.act (OpH.alloc zr38) rfl ?_; rintro _ _ _ hM5 ⟨b5, rfl, rfl, rfl⟩; clear hM5
    first
      | refine SL.unit (OpU.store 0 rfl rfl rfl sz38 (by first | exact Nat.le_of_ble_eq_true rfl | (simp; done) | (simp; omega) | omega) (cells_ones hmok)) ?_
      | refine SL.unit (OpU.storeRow 0 rfl rfl rfl sz38 (by first | exact Nat.le_of_ble_eq_true rfl | (simp; done) | (simp; omega) | omega) (cells_ones hmok)) ?_
      | refine SL.unit (OpU.store 1 rfl rfl rfl sz38 (by first | exact Nat.le_of_ble_eq_true rfl | (simp; done) | (simp; omega) | omega) (cells_ones hmok)) ?_
      | refine SL.unit (OpU.storeRow 1 rfl rfl rfl sz38 (by first | exact Nat.le_of_ble_eq_true rfl | (simp; done) | (simp; omega) | omega) (cells_ones hmok)) ?_
      | refine SL.unit (OpU.store 2 rfl rfl rfl sz38 (by first | exact Nat.le_of_ble_eq_true rfl | (simp; done) | (simp; omega) | omega) (cells_ones hmok)) ?_
      | refine SL.unit (OpU.storeRow 2 rfl rfl rfl sz38 (by first | exact Nat.le_of_ble_eq_true rfl | (simp; done) | (simp; omega) | omega) (cells_ones hmok)) ?_
      | refine SL.unit (OpU.store 3 rfl rfl rfl sz38 (by first | exact Nat.le_of_ble_eq_true rfl | (simp; done) | (simp; omega) | omega) (cells_ones hmok)) ?_
      | refine SL.unit (OpU.storeRow 3 rfl rfl rfl sz38 (by first | exact Nat.le_of_ble_eq_true rfl | (simp; done) | (simp; omega) | omega) (cells_ones hmok)) ?_
    refine SL.nil ?_
    refine seqQ.nm ?_
    refine SC.seq ?_
    refine SC.region ?_
    refine SL.val (OpV.fld fa38_0 rfl) rfl ?_
    first
      | refine SL.unit (OpU.store1 0 rfl rfl rfl sz9 (by first | exact Nat.le_of_ble_eq_true rfl | (simp; done) | (simp; omega) | omega) rfl) ?_
      | refine SL.unit (OpU.storeRow1 0 rfl rfl rfl sz9 (by first | exact Nat.le_of_ble_eq_true rfl | (simp; done) | (simp; omega) | omega) rfl) ?_
      | refine SL.unit (OpU.store1 1 rfl rfl rfl sz9 (by first | exact Nat.le_of_ble_eq_true rfl | (simp; done) | (simp; omega) | omega) rfl) ?_
      | refine SL.unit (OpU.storeRow1 1 rfl rfl rfl sz9 (by first | exact Nat.le_of_ble_eq_true rfl | (simp; done) | (simp; omega) | omega) rfl) ?_
      | refine SL.unit (OpU.store1 2 rfl rfl rfl sz9 (by first | exact Nat.le_of_ble_eq_true rfl | (simp; done) | (simp; omega) | omega) rfl) ?_
      | refine SL.unit (OpU.storeRow1 2 rfl rfl rfl sz9 (by first | exact Nat.le_of_ble_eq_true rfl | (simp; done) | (simp; omega) | omega) rfl) ?_
      | refine SL.unit (OpU.store1 3 rfl rfl rfl sz9 (by first | exact Nat.le_of_ble_eq_true rfl | (simp; done) | (simp; omega) | omega) rfl) ?_
      | refine SL.unit (OpU.storeRow1 3 rfl rfl rfl sz9 (by first | exact Nat.le_of_ble_eq_true rfl | (simp; done) | (simp; omega) | omega) rfl) ?_
    refine SL.nil ?_
    refine seqQ.nm ?_
    refine SC.seq ?_
    refine SC.seq ?_
    refine SC.quiet mixed (by decide +kernel) ?_
    refine SQ.val (OpV.loads (cs := ({ m with path := [97] } : Mb).cells) _ Tryz.underlying38 rfl rfl sz38 (Kns.blk 0 rfl rfl)) rfl ?_
    refine SQ.call ok28 rfl (rtmay_ev { m with path := [97] } _ hmok2) rfl ?_
    refine SQ.val (OpV.not rfl) rfl ?_
    refine SQ.val (OpV.move rfl) rfl ?_
    refine SQ.orcut 14 (c := 28) (d := 42) rfl (fun h28 => ?_) ?_
    · skip
      refine SQ.skip rfl rfl ?_
      refine SQ.skip rfl rfl ?_
      refine SQ.skip rfl rfl ?_
      refine SQ.skip rfl rfl ?_
      refine SQ.skip rfl rfl ?_
      refine SQ.skip rfl rfl ?_
      refine SQ.skip rfl rfl ?_
      refine SQ.skip rfl rfl ?_
      refine SQ.skip rfl rfl ?_
      refine SQ.skip rfl rfl ?_
      refine SQ.skip rfl rfl ?_
      refine SQ.skip rfl rfl ?_
      refine SQ.skip rfl rfl ?_
      refine SQ.val (OpV.pickT rfl rfl) rfl ?_
      exact SQ.nil ⟨rfl, rfl, (by repeat first | exact Env.le_refl _ | refine Env.le_new rfl ?_), [], List.Perm.refl _⟩
    apply Exists.intro
    refine And.intro (fun h28 => ?_) ?_
    · skip
      refine SQ.gval rfl (OpV.move rfl) rfl ?_
      refine SQ.gval rfl (OpV.gtr rfl rfl) rfl ?_
      refine SQ.gval rfl (OpV.move rfl) rfl ?_
      refine SQ.andcut 10 (c := 31) (d := 41) rfl (fun h31 => ?_) ?_
      · skip
        refine SQ.skip rfl rfl ?_
        refine SQ.skip rfl rfl ?_
        refine SQ.skip rfl rfl ?_
        refine SQ.skip rfl rfl ?_
        refine SQ.skip rfl rfl ?_
        refine SQ.skip rfl rfl ?_
        refine SQ.skip rfl rfl ?_
        refine SQ.skip rfl rfl ?_
        refine SQ.skip rfl rfl ?_
        refine SQ.gval rfl (OpV.pickF rfl rfl) rfl ?_
        exact SQ.nil ⟨rfl, rfl, (by repeat first | exact Env.le_refl _ | refine Env.le_new rfl ?_), [], List.Perm.refl _⟩
      apply Exists.intro
      refine And.intro (fun h31 => ?_) ?_
      · skip
        have hk0 : 0 < k := by simpa using h31
        have hn1 : ((k : Int) - 1).toNat = k - 1 := by omega
        obtain ⟨q, hq⟩ := getElem?_lt (l := ms) (k := k - 1) (by omega)
        have hqc := mbCells_at hcs hq
        refine SQ.gval rfl (OpV.fld fa38_0 rfl) rfl ?_
        first
          | refine SQ.gval rfl (OpV.load _ Tryz.underlying9 rfl rfl (Kn.blk 0 rfl rfl)) rfl ?_
          | refine SQ.gval rfl (OpV.load _ Tryz.underlying9 rfl rfl (Kn.blk 1 rfl rfl)) rfl ?_
          | refine SQ.gval rfl (OpV.load _ Tryz.underlying9 rfl rfl (Kn.blk 2 rfl rfl)) rfl ?_
          | refine SQ.gval rfl (OpV.load _ Tryz.underlying9 rfl rfl (Kn.blk 3 rfl rfl)) rfl ?_
          | refine SQ.gval rfl (OpV.load _ Tryz.underlying9 rfl rfl (Kn.mem (by assumption))) rfl ?_
        refine SQ.gval rfl (OpV.move rfl) rfl ?_
        refine SQ.gval rfl (OpV.move rfl) rfl ?_
        refine SQ.gval rfl (OpV.sub rfl rfl (IntWalk.i64_in _ (by omega))) rfl ?_
        refine SQ.gval rfl (OpV.indexAddr Tryz.underlying25 sz38 rfl rfl (by omega) (by omega)) rfl ?_
        refine SQ.gval rfl (OpV.fld fa38_0 rfl) rfl ?_
        refine SQ.gval rfl (OpV.load _ Tryz.underlying9 rfl rfl (Kn.mem (v := str (cp (cores ms) (k - 1))) (by rw [hn1]; exact hqc 0 _ (by rw [cp_core hq]; rfl)))) rfl ?_
        refine SQ.gval rfl (OpV.sleq rfl rfl) rfl ?_
        refine SQ.gval rfl (OpV.pickT rfl rfl) rfl ?_
        exact SQ.nil ⟨rfl, rfl, (by repeat first | exact Env.le_refl _ | refine Env.le_new rfl ?_), [], List.Perm.refl _⟩
      refine SQ.val (OpV.pickF rfl rfl) rfl ?_
      exact SQ.nil ⟨rfl, rfl, (by repeat first | exact Env.le_refl _ | refine Env.le_new rfl ?_), [], List.Perm.refl _⟩
    refine SQ.nil ?_
    refine seqQ.nm ?_
    first | refine SC.ifp rfl (fun h42 => ?_) (fun h42 => ?_) | refine SC.ite rfl (fun h42 => ?_) (fun h42 => ?_)
    · skip
      have hbad : errAt (cores ms) k m.core = 1 := by
        unfold errAt
        rw [if_pos]
        have e : decide (0 < (k : Int)) = decide (0 < k) := dec_eq (by omega)
        rw [e, bl_leq] at h42
        exact h42
      refine SC.seq ?_
      refine SC.region ?_
      refine SL.val (OpV.assign rfl) rfl ?_
      refine SL.nil ?_
      refine seqQ.nm ?_
      refine SC.ret ?_
      refine seqQ.r ?_
      refine blockQ.r ?_
      refine seqQ.r ?_
      refine loopQ.r ?_
      refine blockQ.r ?_
      refine seqQ.r ?_
      refine retQ.one rfl (.tmp rfl) ?_ _ (.inr rfl)
      exact (by rw [maySet_err herr hcm (by rw [hbad]; decide), hbad]; rfl)
    · skip
      have hgood1 : (!aloneOk m.core || (decide (0 < k) && !Op.bytesLess (cp (cores ms) (k - 1)) m.path)) = false := by
        have e : decide (0 < (k : Int)) = decide (0 < k) := dec_eq (by omega)
        rw [e, bl_leq] at h42
        exact h42
      refine SC.skip ?_
      refine seqQ.nm ?_
      refine SC.seq ?_
      refine SC.region ?_
      refine SL.val (OpV.fld fa38_0 rfl) rfl ?_
      refine SL.val (OpV.load _ Tryz.underlying9 rfl rfl (Kn.blk 1 rfl rfl)) rfl ?_
      refine SL.call ok29 rfl (L1 := []) (List.Perm.refl _) (rclass_ev m.path M1 (by omega)) rfl ?_
      rintro _ _ _ hM46 ⟨rfl, rfl, rfl⟩
      refine SL.val (OpV.move rfl) rfl ?_
      refine SL.val (OpV.extract rfl rfl) rfl ?_
      refine SL.val (OpV.extract rfl rfl) rfl ?_
      refine SL.val (OpV.assign rfl) rfl ?_
      refine SL.val (OpV.assign rfl) rfl ?_
      refine SL.nil ?_
      refine seqQ.nm ?_
      refine SC.seq ?_
      refine SC.seq ?_
      refine SC.region ?_
      refine SL.val (OpV.move rfl) rfl ?_
      refine SL.val (OpV.eql rfl rfl) rfl ?_
      refine SL.val (OpV.move rfl) rfl ?_
      refine SL.orcut 3 (c := 51) (d := 54) rfl (fun h51 => ?_) ?_
      · skip
        refine SL.skip rfl rfl ?_
        refine SL.skip rfl rfl ?_
        refine SL.val (OpV.pickT rfl rfl) rfl ?_
        exact SL.nil ⟨rfl, rfl, (by repeat first | exact Env.le_refl _ | refine Env.le_new rfl ?_), [], List.Perm.refl _⟩
      apply Exists.intro
      refine And.intro (fun h51 => ?_) ?_
      · skip
        refine SL.gval rfl (OpV.move rfl) rfl ?_
        refine SL.gval rfl (OpV.eql rfl rfl) rfl ?_
        refine SL.val (OpV.pickF rfl rfl) rfl ?_
        exact SL.nil ⟨rfl, rfl, (by repeat first | exact Env.le_refl _ | refine Env.le_new rfl ?_), [], List.Perm.refl _⟩
      refine SL.nil ?_
      refine seqQ.nm ?_
      first | refine SC.ifp rfl (fun h54 => ?_) (fun h54 => ?_) | refine SC.ite rfl (fun h54 => ?_) (fun h54 => ?_)
      · skip
        have hbad : errAt (cores ms) k m.core = 32 := by
          unfold errAt
          rw [if_neg (by rw [show (!aloneOk m.core || (decide (0 < k) && !Op.bytesLess (cp (cores ms) (k - 1)) m.core.path)) = false from hgood1]; decide), if_pos]
          simp only [Bool.or_eq_true, decide_eq_true_eq] at h54 ⊢
          rcases h54 with h | h
          · exact .inl (by show (classRef m.path).1 < 1; omega)
          · exact .inr (by show 3 < (classRef m.path).1; omega)
        refine SC.seq ?_
        refine SC.region ?_
        refine SL.val (OpV.assign rfl) rfl ?_
        refine SL.nil ?_
        refine seqQ.nm ?_
        refine SC.ret ?_
        refine seqQ.r ?_
        refine blockQ.r ?_
        refine seqQ.r ?_
        refine loopQ.r ?_
        refine blockQ.r ?_
        refine seqQ.r ?_
        refine retQ.one rfl (.tmp rfl) ?_ _ (.inr rfl)
        exact (by rw [maySet_err herr hcm (by rw [hbad]; decide), hbad]; rfl)
      · skip
        have hgood2 : (decide ((classRef m.core.path).1 < 1) || decide (3 < (classRef m.core.path).1)) = false := by
          simp only [Bool.or_eq_false_iff, decide_eq_false_iff_not] at h54 ⊢
          exact ⟨by show ¬ (classRef m.path).1 < 1; omega, by show ¬ 3 < (classRef m.path).1; omega⟩
        have hstep : errAt (cores ms) k m.core = if decide ((classRef m.core.path).1 ≠ 1) && !bare m.core then 31 else if (above m.core.path).any (fun x => !isDir ((cores ms).take k) x) then 33 else 0 := by
          unfold errAt
          rw [if_neg (by rw [show (!aloneOk m.core || (decide (0 < k) && !Op.bytesLess (cp (cores ms) (k - 1)) m.core.path)) = false from hgood1]; decide), if_neg (by rw [hgood2]; decide)]
        have e1 : decide (((classRef m.path).1 : Int) ≠ 1) = decide ((classRef m.core.path).1 ≠ 1) := dec_eq (by show _ ↔ (classRef m.path).1 ≠ 1; omega)
        refine SC.skip ?_
        refine seqQ.nm ?_
        refine SC.seq ?_
        refine SC.region ?_
        refine SL.val (OpV.fld fa38_1 rfl) rfl ?_
        refine SL.val (OpV.loads (cs := m.node) _ Tryz.underlying36 rfl rfl sz36 (Kns.blk 1 rfl rfl)) rfl ?_
        refine SL.act (OpH.alloc zr36) rfl ?_; rintro _ _ _ hM8 ⟨b8, rfl, rfl, rfl⟩; clear hM8
        first
          | refine SL.unit (OpU.store 0 rfl rfl rfl sz36 (by first | exact Nat.le_of_ble_eq_true rfl | (simp; done) | (simp; omega) | omega) (node_ones hmok)) ?_
          | refine SL.unit (OpU.storeRow 0 rfl rfl rfl sz36 (by first | exact Nat.le_of_ble_eq_true rfl | (simp; done) | (simp; omega) | omega) (node_ones hmok)) ?_
          | refine SL.unit (OpU.store 1 rfl rfl rfl sz36 (by first | exact Nat.le_of_ble_eq_true rfl | (simp; done) | (simp; omega) | omega) (node_ones hmok)) ?_
          | refine SL.unit (OpU.storeRow 1 rfl rfl rfl sz36 (by first | exact Nat.le_of_ble_eq_true rfl | (simp; done) | (simp; omega) | omega) (node_ones hmok)) ?_
          | refine SL.unit (OpU.store 2 rfl rfl rfl sz36 (by first | exact Nat.le_of_ble_eq_true rfl | (simp; done) | (simp; omega) | omega) (node_ones hmok)) ?_
          | refine SL.unit (OpU.storeRow 2 rfl rfl rfl sz36 (by first | exact Nat.le_of_ble_eq_true rfl | (simp; done) | (simp; omega) | omega) (node_ones hmok)) ?_
          | refine SL.unit (OpU.store 3 rfl rfl rfl sz36 (by first | exact Nat.le_of_ble_eq_true rfl | (simp; done) | (simp; omega) | omega) (node_ones hmok)) ?_
          | refine SL.unit (OpU.storeRow 3 rfl rfl rfl sz36 (by first | exact Nat.le_of_ble_eq_true rfl | (simp; done) | (simp; omega) | omega) (node_ones hmok)) ?_
        refine SL.nil ?_
        refine seqQ.nm ?_
        refine SC.seq ?_
        refine SC.seq ?_
        refine SC.region ?_
        refine SL.val (OpV.move rfl) rfl ?_
        refine SL.val (OpV.neq rfl rfl) rfl ?_
        refine SL.val (OpV.move rfl) rfl ?_
        refine SL.andcut 41 (c := 59) (d := 100) rfl (fun h59 => ?_) ?_
        · skip
          refine SL.skip rfl rfl ?_
          refine SL.skip rfl rfl ?_
          refine SL.skip rfl rfl ?_
          refine SL.skip rfl rfl ?_
          refine SL.skip rfl rfl ?_
          refine SL.skip rfl rfl ?_
          refine SL.skip rfl rfl ?_
          refine SL.skip rfl rfl ?_
          refine SL.skip rfl rfl ?_
          refine SL.skip rfl rfl ?_
          refine SL.skip rfl rfl ?_
          refine SL.skip rfl rfl ?_
          refine SL.skip rfl rfl ?_
          refine SL.skip rfl rfl ?_
          refine SL.skip rfl rfl ?_
          refine SL.skip rfl rfl ?_
          refine SL.skip rfl rfl ?_
          refine SL.skip rfl rfl ?_
          refine SL.skip rfl rfl ?_
          refine SL.skip rfl rfl ?_
          refine SL.skip rfl rfl ?_
          refine SL.skip rfl rfl ?_
          refine SL.skip rfl rfl ?_
          refine SL.skip rfl rfl ?_
          refine SL.skip rfl rfl ?_
          refine SL.skip rfl rfl ?_
          refine SL.skip rfl rfl ?_
          refine SL.skip rfl rfl ?_
          refine SL.skip rfl rfl ?_
          refine SL.skip rfl rfl ?_
          refine SL.skip rfl rfl ?_
          refine SL.skip rfl rfl ?_
          refine SL.skip rfl rfl ?_
          refine SL.skip rfl rfl ?_
          refine SL.skip rfl rfl ?_
          refine SL.skip rfl rfl ?_
          refine SL.skip rfl rfl ?_
          refine SL.skip rfl rfl ?_
          refine SL.skip rfl rfl ?_
          refine SL.skip rfl rfl ?_
          refine SL.val (OpV.pickF rfl rfl) rfl ?_
          exact SL.nil ⟨rfl, rfl, (by repeat first | exact Env.le_refl _ | refine Env.le_new rfl ?_), [], List.Perm.refl _⟩
        apply Exists.intro
        refine And.intro (fun h59 => ?_) ?_
        · skip
          refine SL.gval rfl (OpV.fld fa36_0 rfl) rfl ?_
          first
            | refine SL.gval rfl (OpV.load _ Tryz.underlying3 rfl rfl (Kn.blk 0 rfl rfl)) rfl ?_
            | refine SL.gval rfl (OpV.load _ Tryz.underlying3 rfl rfl (Kn.blk 1 rfl rfl)) rfl ?_
            | refine SL.gval rfl (OpV.load _ Tryz.underlying3 rfl rfl (Kn.blk 2 rfl rfl)) rfl ?_
            | refine SL.gval rfl (OpV.load _ Tryz.underlying3 rfl rfl (Kn.blk 3 rfl rfl)) rfl ?_
            | refine SL.gval rfl (OpV.load _ Tryz.underlying3 rfl rfl (Kn.mem (by assumption))) rfl ?_
          refine SL.gval rfl (OpV.neq rfl rfl) rfl ?_
          refine SL.gval rfl (OpV.move rfl) rfl ?_
          refine SL.orcut 4 (c := 63) (d := 67) rfl (fun h63 => ?_) ?_
          · skip
            refine SL.skip rfl rfl ?_
            refine SL.skip rfl rfl ?_
            refine SL.skip rfl rfl ?_
            refine SL.gval rfl (OpV.pickT rfl rfl) rfl ?_
            exact SL.nil ⟨rfl, rfl, (by repeat first | exact Env.le_refl _ | refine Env.le_new rfl ?_), [], List.Perm.refl _⟩
          apply Exists.intro
          refine And.intro (fun h63 => ?_) ?_
          · skip
            refine SL.gval rfl (OpV.fld fa36_1 rfl) rfl ?_
            first
              | refine SL.gval rfl (OpV.load _ Tryz.underlying32 rfl rfl (Kn.blk 0 rfl rfl)) rfl ?_
              | refine SL.gval rfl (OpV.load _ Tryz.underlying32 rfl rfl (Kn.blk 1 rfl rfl)) rfl ?_
              | refine SL.gval rfl (OpV.load _ Tryz.underlying32 rfl rfl (Kn.blk 2 rfl rfl)) rfl ?_
              | refine SL.gval rfl (OpV.load _ Tryz.underlying32 rfl rfl (Kn.blk 3 rfl rfl)) rfl ?_
              | refine SL.gval rfl (OpV.load _ Tryz.underlying32 rfl rfl (Kn.mem (by assumption))) rfl ?_
            refine SL.gval rfl (OpV.neq rfl rfl) rfl ?_
            refine SL.gval rfl (OpV.pickF rfl rfl) rfl ?_
            exact SL.nil ⟨rfl, rfl, (by repeat first | exact Env.le_refl _ | refine Env.le_new rfl ?_), [], List.Perm.refl _⟩
          refine SL.gval rfl (OpV.move rfl) rfl ?_
          refine SL.orcut 4 (c := 68) (d := 72) rfl (fun h68 => ?_) ?_
          · skip
            refine SL.skip rfl rfl ?_
            refine SL.skip rfl rfl ?_
            refine SL.skip rfl rfl ?_
            refine SL.gval rfl (OpV.pickT rfl rfl) rfl ?_
            exact SL.nil ⟨rfl, rfl, (by repeat first | exact Env.le_refl _ | refine Env.le_new rfl ?_), [], List.Perm.refl _⟩
          apply Exists.intro
          refine And.intro (fun h68 => ?_) ?_
          · skip
            refine SL.gval rfl (OpV.fld fa36_2 rfl) rfl ?_
            first
              | refine SL.gval rfl (OpV.load _ Tryz.underlying32 rfl rfl (Kn.blk 0 rfl rfl)) rfl ?_
              | refine SL.gval rfl (OpV.load _ Tryz.underlying32 rfl rfl (Kn.blk 1 rfl rfl)) rfl ?_
              | refine SL.gval rfl (OpV.load _ Tryz.underlying32 rfl rfl (Kn.blk 2 rfl rfl)) rfl ?_
              | refine SL.gval rfl (OpV.load _ Tryz.underlying32 rfl rfl (Kn.blk 3 rfl rfl)) rfl ?_
              | refine SL.gval rfl (OpV.load _ Tryz.underlying32 rfl rfl (Kn.mem (by assumption))) rfl ?_
            refine SL.gval rfl (OpV.neq rfl rfl) rfl ?_
            refine SL.gval rfl (OpV.pickF rfl rfl) rfl ?_
            exact SL.nil ⟨rfl, rfl, (by repeat first | exact Env.le_refl _ | refine Env.le_new rfl ?_), [], List.Perm.refl _⟩
          refine SL.gval rfl (OpV.move rfl) rfl ?_
          refine SL.orcut 4 (c := 73) (d := 77) rfl (fun h73 => ?_) ?_
          · skip
            refine SL.skip rfl rfl ?_
            refine SL.skip rfl rfl ?_
            refine SL.skip rfl rfl ?_
            refine SL.gval rfl (OpV.pickT rfl rfl) rfl ?_
            exact SL.nil ⟨rfl, rfl, (by repeat first | exact Env.le_refl _ | refine Env.le_new rfl ?_), [], List.Perm.refl _⟩
          apply Exists.intro
          refine And.intro (fun h73 => ?_) ?_
          · skip
            refine SL.gval rfl (OpV.fld fa36_3 rfl) rfl ?_
            first
              | refine SL.gval rfl (OpV.load _ Tryz.underlying32 rfl rfl (Kn.blk 0 rfl rfl)) rfl ?_
              | refine SL.gval rfl (OpV.load _ Tryz.underlying32 rfl rfl (Kn.blk 1 rfl rfl)) rfl ?_
              | refine SL.gval rfl (OpV.load _ Tryz.underlying32 rfl rfl (Kn.blk 2 rfl rfl)) rfl ?_
              | refine SL.gval rfl (OpV.load _ Tryz.underlying32 rfl rfl (Kn.blk 3 rfl rfl)) rfl ?_
              | refine SL.gval rfl (OpV.load _ Tryz.underlying32 rfl rfl (Kn.mem (by assumption))) rfl ?_
            refine SL.gval rfl (OpV.neq rfl rfl) rfl ?_
            refine SL.gval rfl (OpV.pickF rfl rfl) rfl ?_
            exact SL.nil ⟨rfl, rfl, (by repeat first | exact Env.le_refl _ | refine Env.le_new rfl ?_), [], List.Perm.refl _⟩
          refine SL.gval rfl (OpV.move rfl) rfl ?_
          refine SL.orcut 4 (c := 78) (d := 82) rfl (fun h78 => ?_) ?_
          · skip
            refine SL.skip rfl rfl ?_
            refine SL.skip rfl rfl ?_
            refine SL.skip rfl rfl ?_
            refine SL.gval rfl (OpV.pickT rfl rfl) rfl ?_
            exact SL.nil ⟨rfl, rfl, (by repeat first | exact Env.le_refl _ | refine Env.le_new rfl ?_), [], List.Perm.refl _⟩
          apply Exists.intro
          refine And.intro (fun h78 => ?_) ?_
          · skip
            refine SL.gval rfl (OpV.fld fa36_4 rfl) rfl ?_
            first
              | refine SL.gval rfl (OpV.load _ Tryz.underlying2 rfl rfl (Kn.blk 0 rfl rfl)) rfl ?_
              | refine SL.gval rfl (OpV.load _ Tryz.underlying2 rfl rfl (Kn.blk 1 rfl rfl)) rfl ?_
              | refine SL.gval rfl (OpV.load _ Tryz.underlying2 rfl rfl (Kn.blk 2 rfl rfl)) rfl ?_
              | refine SL.gval rfl (OpV.load _ Tryz.underlying2 rfl rfl (Kn.blk 3 rfl rfl)) rfl ?_
              | refine SL.gval rfl (OpV.load _ Tryz.underlying2 rfl rfl (Kn.mem (by assumption))) rfl ?_
            refine SL.gval rfl (OpV.neq rfl rfl) rfl ?_
            refine SL.gval rfl (OpV.pickF rfl rfl) rfl ?_
            exact SL.nil ⟨rfl, rfl, (by repeat first | exact Env.le_refl _ | refine Env.le_new rfl ?_), [], List.Perm.refl _⟩
          refine SL.gval rfl (OpV.move rfl) rfl ?_
          refine SL.orcut 5 (c := 83) (d := 88) rfl (fun h83 => ?_) ?_
          · skip
            refine SL.skip rfl rfl ?_
            refine SL.skip rfl rfl ?_
            refine SL.skip rfl rfl ?_
            refine SL.skip rfl rfl ?_
            refine SL.gval rfl (OpV.pickT rfl rfl) rfl ?_
            exact SL.nil ⟨rfl, rfl, (by repeat first | exact Env.le_refl _ | refine Env.le_new rfl ?_), [], List.Perm.refl _⟩
          apply Exists.intro
          refine And.intro (fun h83 => ?_) ?_
          · skip
            refine SL.gval rfl (OpV.fld fa36_5 rfl) rfl ?_
            first
              | refine SL.gval rfl (show OpV _ _ _ _ _ (.slice aad m.av.length acap) by rw [← hae]; exact (OpV.load _ Tryz.underlying33 rfl rfl (Kn.blk 0 rfl rfl))) rfl ?_
              | refine SL.gval rfl (show OpV _ _ _ _ _ (.slice aad m.av.length acap) by rw [← hae]; exact (OpV.load _ Tryz.underlying33 rfl rfl (Kn.blk 1 rfl rfl))) rfl ?_
              | refine SL.gval rfl (show OpV _ _ _ _ _ (.slice aad m.av.length acap) by rw [← hae]; exact (OpV.load _ Tryz.underlying33 rfl rfl (Kn.blk 2 rfl rfl))) rfl ?_
              | refine SL.gval rfl (show OpV _ _ _ _ _ (.slice aad m.av.length acap) by rw [← hae]; exact (OpV.load _ Tryz.underlying33 rfl rfl (Kn.blk 3 rfl rfl))) rfl ?_
              | refine SL.gval rfl (show OpV _ _ _ _ _ (.slice aad m.av.length acap) by rw [← hae]; exact (OpV.load _ Tryz.underlying33 rfl rfl (Kn.mem (by assumption)))) rfl ?_
            refine SL.gval rfl (OpV.llen Tryz.underlying33 rfl) rfl ?_
            refine SL.gval rfl (OpV.gtr rfl rfl) rfl ?_
            refine SL.gval rfl (OpV.pickF rfl rfl) rfl ?_
            exact SL.nil ⟨rfl, rfl, (by repeat first | exact Env.le_refl _ | refine Env.le_new rfl ?_), [], List.Perm.refl _⟩
          refine SL.gval rfl (OpV.move rfl) rfl ?_
          refine SL.orcut 5 (c := 89) (d := 94) rfl (fun h89 => ?_) ?_
          · skip
            refine SL.skip rfl rfl ?_
            refine SL.skip rfl rfl ?_
            refine SL.skip rfl rfl ?_
            refine SL.skip rfl rfl ?_
            refine SL.gval rfl (OpV.pickT rfl rfl) rfl ?_
            exact SL.nil ⟨rfl, rfl, (by repeat first | exact Env.le_refl _ | refine Env.le_new rfl ?_), [], List.Perm.refl _⟩
          apply Exists.intro
          refine And.intro (fun h89 => ?_) ?_
          · skip
            refine SL.gval rfl (OpV.fld fa36_6 rfl) rfl ?_
            first
              | refine SL.gval rfl (show OpV _ _ _ _ _ (.slice dad m.dv.length dcap) by rw [← hde]; exact (OpV.load _ Tryz.underlying34 rfl rfl (Kn.blk 0 rfl rfl))) rfl ?_
              | refine SL.gval rfl (show OpV _ _ _ _ _ (.slice dad m.dv.length dcap) by rw [← hde]; exact (OpV.load _ Tryz.underlying34 rfl rfl (Kn.blk 1 rfl rfl))) rfl ?_
              | refine SL.gval rfl (show OpV _ _ _ _ _ (.slice dad m.dv.length dcap) by rw [← hde]; exact (OpV.load _ Tryz.underlying34 rfl rfl (Kn.blk 2 rfl rfl))) rfl ?_
              | refine SL.gval rfl (show OpV _ _ _ _ _ (.slice dad m.dv.length dcap) by rw [← hde]; exact (OpV.load _ Tryz.underlying34 rfl rfl (Kn.blk 3 rfl rfl))) rfl ?_
              | refine SL.gval rfl (show OpV _ _ _ _ _ (.slice dad m.dv.length dcap) by rw [← hde]; exact (OpV.load _ Tryz.underlying34 rfl rfl (Kn.mem (by assumption)))) rfl ?_
            refine SL.gval rfl (OpV.llen Tryz.underlying34 rfl) rfl ?_
            refine SL.gval rfl (OpV.gtr rfl rfl) rfl ?_
            refine SL.gval rfl (OpV.pickF rfl rfl) rfl ?_
            exact SL.nil ⟨rfl, rfl, (by repeat first | exact Env.le_refl _ | refine Env.le_new rfl ?_), [], List.Perm.refl _⟩
          refine SL.gval rfl (OpV.move rfl) rfl ?_
          refine SL.orcut 4 (c := 95) (d := 99) rfl (fun h95 => ?_) ?_
          · skip
            refine SL.skip rfl rfl ?_
            refine SL.skip rfl rfl ?_
            refine SL.skip rfl rfl ?_
            refine SL.gval rfl (OpV.pickT rfl rfl) rfl ?_
            exact SL.nil ⟨rfl, rfl, (by repeat first | exact Env.le_refl _ | refine Env.le_new rfl ?_), [], List.Perm.refl _⟩
          apply Exists.intro
          refine And.intro (fun h95 => ?_) ?_
          · skip
            refine SL.gval rfl (OpV.fld fa36_7 rfl) rfl ?_
            first
              | refine SL.gval rfl (OpV.load _ Tryz.underlying9 rfl rfl (Kn.blk 0 rfl rfl)) rfl ?_
              | refine SL.gval rfl (OpV.load _ Tryz.underlying9 rfl rfl (Kn.blk 1 rfl rfl)) rfl ?_
              | refine SL.gval rfl (OpV.load _ Tryz.underlying9 rfl rfl (Kn.blk 2 rfl rfl)) rfl ?_
              | refine SL.gval rfl (OpV.load _ Tryz.underlying9 rfl rfl (Kn.blk 3 rfl rfl)) rfl ?_
              | refine SL.gval rfl (OpV.load _ Tryz.underlying9 rfl rfl (Kn.mem (by assumption))) rfl ?_
            refine SL.gval rfl (OpV.sneq rfl rfl) rfl ?_
            refine SL.gval rfl (OpV.pickF rfl rfl) rfl ?_
            exact SL.nil ⟨rfl, rfl, (by repeat first | exact Env.le_refl _ | refine Env.le_new rfl ?_), [], List.Perm.refl _⟩
          refine SL.val (OpV.pickT rfl rfl) rfl ?_
          exact SL.nil ⟨rfl, rfl, (by repeat first | exact Env.le_refl _ | refine Env.le_new rfl ?_), [], List.Perm.refl _⟩
        refine SL.nil ?_
        have hbare : (decide (((classRef m.path).1 : Int) ≠ 1) && (decide (m.kind ≠ 2) || decide (m.mode ≠ 0) || decide (m.uid ≠ 0) || decide (m.gid ≠ 0) || decide (m.time ≠ 0) || decide (0 < (m.av.length : Int)) || decide (0 < (m.dv.length : Int)) || decide (m.link ≠ []))) = (decide ((classRef m.core.path).1 ≠ 1) && !bare m.core) := by
          rw [e1, bare]
          congr 1
          have e4 : decide (0 < (m.av.length : Int)) = !decide (m.av.length = 0) := by rw [← decide_not]; exact dec_eq (by omega)
          have e5 : decide (0 < (m.dv.length : Int)) = !decide (m.dv.length = 0) := by rw [← decide_not]; exact dec_eq (by omega)
          rw [e4, e5]
          simp only [decide_not, ne_eq, Bool.not_and]
          rfl
        refine seqQ.nm ?_
        first | refine SC.ifp rfl (fun h100 => ?_) (fun h100 => ?_) | refine SC.ite rfl (fun h100 => ?_) (fun h100 => ?_)
        · skip
          have hbad : errAt (cores ms) k m.core = 31 := by
            rw [hstep, ← hbare, if_pos h100]
          refine SC.seq ?_
          refine SC.region ?_
          refine SL.val (OpV.assign rfl) rfl ?_
          refine SL.nil ?_
          refine seqQ.nm ?_
          refine SC.ret ?_
          refine seqQ.r ?_
          refine blockQ.r ?_
          refine seqQ.r ?_
          refine loopQ.r ?_
          refine blockQ.r ?_
          refine seqQ.r ?_
          refine retQ.one rfl (.tmp rfl) ?_ _ (.inr rfl)
          exact (by rw [maySet_err herr hcm (by rw [hbad]; decide), hbad]; rfl)
        · skip
          have hstep2 : errAt (cores ms) k m.core = if (above m.core.path).any (fun x => !isDir ((cores ms).take k) x) then 33 else 0 := by
            rw [hstep, ← hbare, if_neg (by rw [h100]; decide)]
          have hal := above_len m.path
          refine SC.skip ?_
          refine seqQ.nm ?_
          refine SC.seq ?_
          refine SC.region ?_
          refine SL.val (OpV.fld fa38_0 rfl) rfl ?_
          refine SL.val (OpV.load _ Tryz.underlying9 rfl rfl (Kn.blk 2 rfl rfl)) rfl ?_
          refine SL.call ok30 rfl (L1 := []) (List.Perm.refl _) (rabove_ev m.path _ (by omega)) rfl ?_
          rintro va _ M2 hM2 ⟨rfl, hva⟩
          obtain ⟨bad, bcap, rfl, hbcap, hbmax⟩ := hva.len
          replace hcs := hcs.mono hM2
          generalize habv : above m.path = abv at *
          refine SL.val (OpV.assign rfl) rfl ?_
          refine SL.nil ?_
          refine seqQ.nm ?_
          refine SC.seq ?_
          refine SC.region ?_
          refine SL.val (OpV.assign rfl) rfl ?_
          refine SL.nil ?_
          refine seqQ.nm ?_
          refine SC.block ?_
          refine SC.loop (ι := Nat) (fun q M' => q ≤ abv.length ∧ (abv.take q).any (fun x => !isDir ((cores ms).take k) x) = false ∧ M2 = M')
            (fun q => [(0, .slice (some ⟨g, o, none⟩) ms.length cap), (3, .int .i64 k), (9, .slice bad abv.length bcap), (10, .int .i64 q)]) (fun _ => []) (fun q => abv.length - q) 0 (G := [.blk b8 36 _, .blk b5 38 _, .blk b4 38 _]) ⟨rfl, rfl, rfl, rfl, trivial⟩ (List.Perm.refl _) ⟨Nat.zero_le _, rfl, rfl⟩ ?_
          rintro q _ _ ⟨hq, hno, rfl⟩
          refine SC.seq ?_
          refine SC.seq ?_
          refine SC.region ?_
          refine SL.val (OpV.move rfl) rfl ?_
          refine SL.val (OpV.move rfl) rfl ?_
          refine SL.val (OpV.llen Tryz.underlying52 rfl) rfl ?_
          refine SL.val (OpV.lss rfl rfl) rfl ?_
          refine SL.nil ?_
          refine seqQ.nm ?_
          first | refine SC.ifp rfl (fun h107 => ?_) (fun h107 => ?_) | refine SC.ite rfl (fun h107 => ?_) (fun h107 => ?_)
          · skip
            have hqlt : q < abv.length := by omega
            obtain ⟨g2, o2, cap2, he2, hc2, _⟩ := hva.at_ (by omega)
            cases he2
            obtain ⟨x, hx⟩ := getElem?_lt hqlt
            refine SC.skip ?_
            refine seqQ.nm ?_
            refine SC.seq ?_
            refine SC.block ?_
            refine SC.seq ?_
            refine SC.region ?_
            refine SL.val (OpV.assign rfl) rfl ?_
            refine SL.nil ?_
            refine seqQ.nm ?_
            refine SC.seq ?_
            refine SC.seq ?_
            refine SC.region ?_
            refine SL.val (OpV.assign rfl) rfl ?_
            refine SL.nil ?_
            refine seqQ.nm ?_
            refine SC.block ?_
            refine SC.loop (ι := Nat) (fun j M' => j ≤ k ∧ M2 = M')
              (fun j => [(0, .slice (some ⟨g, o, none⟩) ms.length cap), (3, .int .i64 k), (9, .slice (some ⟨g2, o2, none⟩) abv.length bcap), (10, .int .i64 q), (11, .bool (isDir ((cores ms).take j) x)), (12, .int .i64 j)]) (fun _ => []) (fun j => k - j) 0 (G := []) ⟨rfl, rfl, rfl, rfl, rfl, rfl, trivial⟩ (List.Perm.refl _) ⟨Nat.zero_le _, rfl⟩ ?_
            rintro j _ _ ⟨hj, rfl⟩
            refine SC.seq ?_
            refine SC.seq ?_
            refine SC.region ?_
            refine SL.val (OpV.move rfl) rfl ?_
            refine SL.val (OpV.move rfl) rfl ?_
            refine SL.val (OpV.lss rfl rfl) rfl ?_
            refine SL.nil ?_
            refine seqQ.nm ?_
            first | refine SC.ifp rfl (fun h112 => ?_) (fun h112 => ?_) | refine SC.ite rfl (fun h112 => ?_) (fun h112 => ?_)
            · skip
              have hjlt : j < k := by omega
              obtain ⟨mj, hmj⟩ := getElem?_lt (l := ms) (k := j) (by omega)
              have hjc := mbCells_at hcs hmj
              have hst := isDir_succ (core_at hmj) x
              refine SC.skip ?_
              refine seqQ.nm ?_
              refine SC.seq ?_
              refine SC.block ?_
              refine SC.seq ?_
              refine SC.quiet mixed (by decide +kernel) ?_
              refine SQ.val (OpV.move rfl) rfl ?_
              refine SQ.val (OpV.move rfl) rfl ?_
              refine SQ.val (OpV.indexAddr Tryz.underlying25 sz38 rfl rfl (by omega) (by omega)) rfl ?_
              refine SQ.val (OpV.fld fa38_0 rfl) rfl ?_
              refine SQ.val (OpV.load _ Tryz.underlying9 rfl rfl (Kn.mem (v := str mj.path) (hjc 0 _ rfl))) rfl ?_
              refine SQ.val (OpV.move rfl) rfl ?_
              refine SQ.val (OpV.move rfl) rfl ?_
              refine SQ.val (OpV.indexAddr1 Tryz.underlying52 sz9 rfl rfl (by omega) (by omega)) rfl ?_
              refine SQ.val (OpV.load _ Tryz.underlying9 rfl rfl (Kn.mem (hc2.at_ q (v := str x) (by simp [hx])))) rfl ?_
              refine SQ.val (OpV.seql rfl rfl) rfl ?_
              refine SQ.val (OpV.move rfl) rfl ?_
              refine SQ.andcut 8 (c := 125) (d := 133) rfl (fun h125 => ?_) ?_
              · skip
                refine SQ.skip rfl rfl ?_
                refine SQ.skip rfl rfl ?_
                refine SQ.skip rfl rfl ?_
                refine SQ.skip rfl rfl ?_
                refine SQ.skip rfl rfl ?_
                refine SQ.skip rfl rfl ?_
                refine SQ.skip rfl rfl ?_
                refine SQ.val (OpV.pickF rfl rfl) rfl ?_
                exact SQ.nil ⟨rfl, rfl, (by repeat first | exact Env.le_refl _ | refine Env.le_new rfl ?_), [], List.Perm.refl _⟩
              apply Exists.intro
              refine And.intro (fun h125 => ?_) ?_
              · skip
                refine SQ.gval rfl (OpV.move rfl) rfl ?_
                refine SQ.gval rfl (OpV.move rfl) rfl ?_
                refine SQ.gval rfl (OpV.indexAddr Tryz.underlying25 sz38 rfl rfl (by omega) (by omega)) rfl ?_
                refine SQ.gval rfl (OpV.fld fa38_1 rfl) rfl ?_
                refine SQ.gval rfl (OpV.fld fa36_0 rfl) rfl ?_
                refine SQ.gval rfl (OpV.load _ Tryz.underlying3 rfl rfl (Kn.mem (v := .int .i64 mj.kind) (hjc 1 _ rfl))) rfl ?_
                refine SQ.gval rfl (OpV.eql rfl rfl) rfl ?_
                refine SQ.val (OpV.pickT rfl rfl) rfl ?_
                exact SQ.nil ⟨rfl, rfl, (by repeat first | exact Env.le_refl _ | refine Env.le_new rfl ?_), [], List.Perm.refl _⟩
              refine SQ.nil ?_
              refine seqQ.nm ?_
              first | refine SC.ifp rfl (fun h133 => ?_) (fun h133 => ?_) | refine SC.ite rfl (fun h133 => ?_) (fun h133 => ?_)
              · skip
                refine SC.region ?_
                refine SL.val (OpV.assign rfl) rfl ?_
                refine SL.nil ?_
                refine blockQ.nm ?_
                refine seqQ.nm ?_
                refine SC.region ?_
                refine SL.val (OpV.move rfl) rfl ?_
                refine SL.val (OpV.add rfl rfl (IntWalk.i64_in _ (by omega))) rfl ?_
                refine SL.val (OpV.assign rfl) rfl ?_
                refine SL.nil ?_
                refine loopQ.nm (j + 1) (by omega) ⟨rfl, rfl, rfl, rfl, ?_, rfl, trivial⟩ (List.Perm.refl _) ⟨by omega, rfl⟩
                rw [hst, show (decide (mj.core.path = x) && decide (mj.core.kind = 1)) = _ from h133]
                simp
                try rfl
              · skip
                refine SC.skip ?_
                refine blockQ.nm ?_
                refine seqQ.nm ?_
                refine SC.region ?_
                refine SL.val (OpV.move rfl) rfl ?_
                refine SL.val (OpV.add rfl rfl (IntWalk.i64_in _ (by omega))) rfl ?_
                refine SL.val (OpV.assign rfl) rfl ?_
                refine SL.nil ?_
                refine loopQ.nm (j + 1) (by omega) ⟨rfl, rfl, rfl, rfl, ?_, rfl, trivial⟩ (List.Perm.refl _) ⟨by omega, rfl⟩
                rw [hst, show (decide (mj.core.path = x) && decide (mj.core.kind = 1)) = _ from h133]
                simp
                try rfl
            · skip
              have hje : j = k := by omega
              rw [hje]
              refine SC.exit ?_
              refine seqQ.e ?_
              refine loopQ.e ?_
              refine blockQ.e ?_
              refine seqQ.nm ?_
              refine SC.seq ?_
              refine SC.region ?_
              refine SL.val (OpV.move rfl) rfl ?_
              refine SL.val (OpV.not rfl) rfl ?_
              refine SL.nil ?_
              refine seqQ.nm ?_
              first | refine SC.ifp rfl (fun h135 => ?_) (fun h135 => ?_) | refine SC.ite rfl (fun h135 => ?_) (fun h135 => ?_)
              · skip
                have hany : abv.any (fun x => !isDir ((cores ms).take k) x) = true := List.any_eq_true.2 ⟨x, List.mem_of_getElem? hx, by simpa using h135⟩
                have hbad : errAt (cores ms) k m.core = 33 := by
                  rw [hstep2, show above m.core.path = abv from habv, if_pos hany]
                refine SC.seq ?_
                refine SC.region ?_
                refine SL.val (OpV.assign rfl) rfl ?_
                refine SL.nil ?_
                refine seqQ.nm ?_
                refine SC.ret ?_
                refine blockQ.r ?_
                refine seqQ.r ?_
                refine loopQ.r ?_
                refine blockQ.r ?_
                refine blockQ.r ?_
                refine seqQ.r ?_
                refine loopQ.r ?_
                refine blockQ.r ?_
                refine seqQ.r ?_
                refine retQ.one rfl (.tmp rfl) ?_ _ (.inr rfl)
                exact (by rw [maySet_err herr hcm (by rw [hbad]; decide), hbad]; rfl)
              · skip
                refine SC.skip ?_
                refine blockQ.nm ?_
                refine seqQ.nm ?_
                refine SC.region ?_
                refine SL.val (OpV.move rfl) rfl ?_
                refine SL.val (OpV.add rfl rfl (IntWalk.i64_in _ (by omega))) rfl ?_
                refine SL.val (OpV.assign rfl) rfl ?_
                refine SL.nil ?_
                refine loopQ.nm (q + 1) (by omega) ⟨rfl, rfl, rfl, rfl, trivial⟩ (List.Perm.refl _) ⟨by omega, ?_, rfl⟩
                rw [List.take_add_one, hx]
                simp only [Option.toList_some, List.any_append, hno, Bool.false_or, List.any_cons, List.any_nil, Bool.or_false]
                exact h135
          · skip
            have hqe : q = abv.length := by omega
            rw [hqe, List.take_length] at hno
            have hgood : firstErr (cores ms) (k + 1) = 0 := by
              rw [firstErr_succ herr hcm, hstep2, show above m.core.path = abv from habv, if_neg (by rw [hno]; decide)]
            refine SC.exit ?_
            refine seqQ.e ?_
            refine loopQ.e ?_
            refine blockQ.e ?_
            refine blockQ.nm ?_
            refine seqQ.nm ?_
            refine SC.region ?_
            refine SL.val (OpV.move rfl) rfl ?_
            refine SL.val (OpV.add rfl rfl (IntWalk.i64_in _ (by omega))) rfl ?_
            refine SL.val (OpV.assign rfl) rfl ?_
            refine SL.nil ?_
            exact loopQ.nm (k + 1) (by omega) ⟨rfl, rfl, trivial⟩ (List.Perm.refl _) ⟨by omega, hgood, Mem.le_trans hMM hM2⟩
  · skip
    have hke : k = (cores ms).length := by simp; omega
    rw [hke] at herr
    have hce : (cores ms).length = ms.length := by simp
    refine SC.exit ?_
    refine seqQ.e ?_
    refine loopQ.e ?_
    refine blockQ.e ?_
    refine seqQ.nm ?_
    refine SC.seq ?_
    refine SC.seq ?_
    refine SC.region ?_
    refine SL.val (OpV.move rfl) rfl ?_
    refine SL.val (OpV.llen Tryz.underlying25 rfl) rfl ?_
    refine SL.val (OpV.gtr rfl rfl) rfl ?_
    refine SL.nil ?_
    refine seqQ.nm ?_
    first | refine SC.ifp rfl (fun h138 => ?_) (fun h138 => ?_) | refine SC.ite rfl (fun h138 => ?_) (fun h138 => ?_)
    · skip
      refine SC.seq ?_
      refine SC.region ?_
      refine SL.val (OpV.assign rfl) rfl ?_
      refine SL.nil ?_
      refine seqQ.nm ?_
      refine SC.ret ?_
      refine seqQ.r ?_
      refine retQ.one rfl (.tmp rfl) ?_ _ (.inr rfl)
      exact (by rw [maySet, herr, if_neg (by simp), if_pos (by omega)]; rfl)
    · skip
      refine SC.skip ?_
      refine seqQ.nm ?_
      refine SC.seq ?_
      refine SC.region ?_
      refine SL.val (OpV.assign rfl) rfl ?_
      refine SL.nil ?_
      refine seqQ.nm ?_
      refine SC.ret ?_
      refine retQ.one rfl (.tmp rfl) ?_ _ (.inr rfl)
      exact (by rw [maySet, herr, if_neg (by simp), if_neg (by omega)]; rfl)
end Go.Proofs.YtceabkfmjffnhaaGreatDoor
set_option linter.unusedVariables false
set_option linter.unusedSimpArgs false
namespace Go.Proofs.YtceabkfmjffnhaaGreatDoor
open Go Go.Eng

abbrev RSlM (L : List Res) (M : Mem) (v : Value) (ms : List Mb) : Prop := RSl L M v 9 ms.length (ms.flatMap Mb.cells)
theorem kns_at {L : List Res} {M : Mem} {g o : Nat} {ms : List Mb} {k : Nat} {m : Mb} (h : Kns L M g o (ms.flatMap Mb.cells)) (hk : ms[k]? = some m) : Kns L M g (o + k * 9) m.cells := by
  intro j v hj
  have hlt : j < 9 := by have := (List.getElem?_eq_some_iff.1 hj).1; simpa [Mb.cells] using this
  have := h (k * 9 + j) v (by rw [flat_at Mb.cells 9 (fun _ => rfl) ms k m hk j hlt]; exact hj)
  rwa [← Nat.add_assoc] at this

/-- The place of a path; -1 without one. -/
def hasP (ms : List Mb) (p : Bytes) : Int := match ms.findIdx? (fun m => decide (m.path = p)) with
  | some i => i
  | none => -1
theorem hasP_at {ms : List Mb} {p : Bytes} {k : Nat} {m : Mb} (hno : (ms.take k).any (fun m => decide (m.path = p)) = false) (hm : ms[k]? = some m) (hp : m.path = p) : hasP ms p = k := by
  have hk := (List.getElem?_eq_some_iff.1 hm).1
  have : ms.findIdx? (fun m => decide (m.path = p)) = some k := by
    rw [List.findIdx?_eq_some_iff_getElem]
    refine ⟨hk, ?_, ?_⟩
    · have := (List.getElem?_eq_some_iff.1 hm).2
      rw [this]; simpa using hp
    · intro j hj
      rw [List.any_eq_false] at hno
      have hjm : ms[j] ∈ ms.take k := List.mem_take_iff_getElem.2 ⟨j, by omega, rfl⟩
      exact hno _ hjm
  simp [hasP, this]
theorem hasP_none {ms : List Mb} {p : Bytes} (hno : ms.any (fun m => decide (m.path = p)) = false) : hasP ms p = -1 := by
  have : ms.findIdx? (fun m => decide (m.path = p)) = none := by
    rw [List.findIdx?_eq_none_iff]
    intro x hx
    rw [List.any_eq_false] at hno
    simpa using hno x hx
  simp [hasP, this]
theorem has_ev (v : Value) (ms : List Mb) (p : Bytes) (LL : List Res) (M : Mem) (hv : RSlM LL M v ms) (hl : ms.length ≤ big) :
    Ev Tryz.prog 34 [v, str p].toArray LL M fun v' L' M' => v' = .int .i64 (hasP ms p) ∧ L' = LL ∧ M = M' := by
  obtain ⟨ad, cap, rfl, hcap, hmax⟩ := hv.len
  refine Ev.enter Tryz.func34 rfl Tryz.ntmps34 rfl ?_
  have hl' : ms.length ≤ 268435456 := hl
  refine SC.seq ?_
  refine SC.region ?_
  refine SL.val (OpV.assign rfl) rfl ?_
  refine SL.nil ?_
  refine seqQ.nm ?_
  refine SC.seq ?_
  refine SC.seq ?_
  refine SC.region ?_
  refine SL.val (OpV.assign rfl) rfl ?_
  refine SL.nil ?_
  refine seqQ.nm ?_
  refine SC.block ?_
  refine SC.loop (ι := Nat) (fun k M' => k ≤ ms.length ∧ (ms.take k).any (fun m => decide (m.path = p)) = false ∧ M = M') (fun k => [(0, .slice ad ms.length cap), (1, str p), (5, .int .i64 k)]) (fun _ => LL) (fun k => ms.length - k) 0 (G := []) ⟨rfl, rfl, rfl, trivial⟩ (List.Perm.refl _) ⟨Nat.zero_le _, rfl, rfl⟩ ?_
  rintro k _ _ ⟨hk, hno, rfl⟩
  refine SC.seq ?_
  refine SC.seq ?_
  refine SC.region ?_
  refine SL.val (OpV.move rfl) rfl ?_
  refine SL.val (OpV.move rfl) rfl ?_
  refine SL.val (OpV.llen Tryz.underlying25 rfl) rfl ?_
  refine SL.val (OpV.lss rfl rfl) rfl ?_
  refine SL.nil ?_
  refine seqQ.nm ?_
  first | refine SC.ifp rfl (fun h9 => ?_) (fun h9 => ?_) | refine SC.ite rfl (fun h9 => ?_) (fun h9 => ?_)
  · skip
    have hlt : k < ms.length := by omega
    obtain ⟨g, o, cap', he, hc, _⟩ := hv.at_ (by omega)
    cases he
    obtain ⟨m, hm⟩ := getElem?_lt hlt
    have hmc := kns_at hc hm
    refine SC.skip ?_
    refine seqQ.nm ?_
    refine SC.seq ?_
    refine SC.block ?_
    refine SC.seq ?_
    refine SC.region ?_
    refine SL.val (OpV.move rfl) rfl ?_
    refine SL.val (OpV.move rfl) rfl ?_
    refine SL.val (OpV.indexAddr Tryz.underlying25 sz38 rfl rfl (by omega) (by omega)) rfl ?_
    refine SL.val (OpV.fld fa38_0 rfl) rfl ?_
    refine SL.val (OpV.load _ Tryz.underlying9 rfl rfl (hmc 0 (str m.path) rfl)) rfl ?_
    refine SL.val (OpV.move rfl) rfl ?_
    refine SL.val (OpV.seql rfl rfl) rfl ?_
    refine SL.nil ?_
    refine seqQ.nm ?_
    first | refine SC.ifp rfl (fun h18 => ?_) (fun h18 => ?_) | refine SC.ite rfl (fun h18 => ?_) (fun h18 => ?_)
    · skip
      refine SC.seq ?_
      refine SC.region ?_
      refine SL.val (OpV.move rfl) rfl ?_
      refine SL.val (OpV.assign rfl) rfl ?_
      refine SL.nil ?_
      refine seqQ.nm ?_
      refine SC.ret ?_
      refine blockQ.r ?_
      refine seqQ.r ?_
      refine loopQ.r ?_
      refine blockQ.r ?_
      refine seqQ.r ?_
      refine retQ.one rfl (.tmp rfl) ?_ _ (.inr rfl)
      exact ⟨by rw [hasP_at hno hm h18], rfl, rfl⟩
    · skip
      refine SC.skip ?_
      refine blockQ.nm ?_
      refine seqQ.nm ?_
      refine SC.region ?_
      refine SL.val (OpV.move rfl) rfl ?_
      refine SL.val (OpV.add rfl rfl (IntWalk.i64_in _ (by omega))) rfl ?_
      refine SL.val (OpV.assign rfl) rfl ?_
      refine SL.nil ?_
      refine loopQ.nm (k + 1) (by omega) ⟨rfl, rfl, rfl, trivial⟩ (List.Perm.refl _) ⟨by omega, ?_, rfl⟩
      rw [List.take_add_one, hm]
      simp [hno, show ¬ m.path = p from h18]
  · skip
    have hke : k = ms.length := by omega
    rw [hke, List.take_length] at hno
    refine SC.exit ?_
    refine seqQ.e ?_
    refine loopQ.e ?_
    refine blockQ.e ?_
    refine seqQ.nm ?_
    refine SC.seq ?_
    refine SC.region ?_
    refine SL.val (OpV.assign rfl) rfl ?_
    refine SL.nil ?_
    refine seqQ.nm ?_
    refine SC.ret ?_
    refine retQ.one rfl (.tmp rfl) ?_ _ (.inr rfl)
    exact ⟨by rw [hasP_none hno], rfl, rfl⟩

/-- A set with a Member more, if its path has none. -/
def withM (ms : List Mb) (m : Mb) : List Mb := if ms.any (fun x => decide (x.path = m.path)) then ms else ms ++ [m]
theorem hasP_ge (ms : List Mb) (p : Bytes) : (0 ≤ hasP ms p) ↔ ms.any (fun x => decide (x.path = p)) = true := by
  unfold hasP
  cases h : ms.findIdx? (fun m => decide (m.path = p)) with
  | none =>
    rw [List.findIdx?_eq_none_iff] at h
    constructor
    · intro e; simp at e
    · intro e
      obtain ⟨x, hx, hp⟩ := List.any_eq_true.1 e
      have := h x hx
      rw [hp] at this; cases this
  | some i =>
    obtain ⟨hi, hp, _⟩ := List.findIdx?_eq_some_iff_getElem.1 h
    exact ⟨fun _ => List.any_eq_true.2 ⟨_, List.getElem_mem hi, hp⟩, fun _ => by simp⟩
end Go.Proofs.YtceabkfmjffnhaaGreatDoor
set_option linter.unusedVariables false
set_option linter.unusedSimpArgs false
namespace Go.Proofs.YtceabkfmjffnhaaGreatDoor
open Go Go.Eng

theorem ones_mem {M : Mem} {m : Mb} (h : m.ok M) : ∀ u ∈ m.cells, u.oneCell' = true := by
  have := cells_ones h
  intro u hu
  obtain ⟨j, hj, rfl⟩ := List.mem_iff_getElem.1 hu
  have h2 := Array.all_eq_true.1 this j (by simpa [Value.cells] using hj)
  simpa [Value.cells] using h2
theorem flat_snoc (ms : List Mb) (m : Mb) : (ms ++ [m]).flatMap Mb.cells = ms.flatMap Mb.cells ++ m.cells := by simp [List.flatMap_append]

theorem with_ev (v : Value) (ms : List Mb) (m : Mb) (M : Mem) (hok : m.ok M) (hl : ms.length < big) :
    Ev Tryz.prog 32 [v, .agg m.cells.toArray].toArray [.row v 38 9 (ms.flatMap Mb.cells)] M fun v' L' M' => L' = [.row v' 38 9 ((withM ms m).flatMap Mb.cells)] ∧ M = M' := by
  refine Ev.rowV 0 rfl fun hrv => ?_
  have hrs : RSlM [.row v 38 9 (ms.flatMap Mb.cells)] M v ms := hrv.rsl (mbCells_len ms) (by decide) 0 rfl
  refine Ev.enter Tryz.func32 rfl Tryz.ntmps32 rfl ?_
  have hl' : ms.length < 268435456 := hl
  refine SC.seq ?_
  refine SC.region ?_
  refine SL.act (OpH.box rfl) rfl ?_; rintro _ _ _ hM3 ⟨b3, rfl, rfl, rfl⟩; clear hM3
  refine SL.val (OpV.assign rfl) rfl ?_
  refine SL.nil ?_
  refine seqQ.nm ?_
  refine SC.seq ?_
  refine SC.seq ?_
  refine SC.region ?_
  refine SL.val (OpV.move rfl) rfl ?_
  refine SL.val (OpV.fld fa38_0 rfl) rfl ?_
  first
    | refine SL.val (OpV.load _ Tryz.underlying9 rfl rfl (Kn.blk 0 rfl rfl)) rfl ?_
    | refine SL.val (OpV.load _ Tryz.underlying9 rfl rfl (Kn.blk 1 rfl rfl)) rfl ?_
    | refine SL.val (OpV.load _ Tryz.underlying9 rfl rfl (Kn.blk 2 rfl rfl)) rfl ?_
    | refine SL.val (OpV.load _ Tryz.underlying9 rfl rfl (Kn.blk 3 rfl rfl)) rfl ?_
    | refine SL.val (OpV.load _ Tryz.underlying9 rfl rfl (Kn.mem (by assumption))) rfl ?_
  refine SL.call ok34 rfl (L1 := [.row v 38 9 (ms.flatMap Mb.cells)]) (List.perm_append_comm (l₁ := [_])) (has_ev v ms m.path _ _ hrs (by omega)) rfl ?_
  rintro _ _ _ hM8 ⟨rfl, rfl, rfl⟩
  refine SL.val (OpV.geq rfl rfl) rfl ?_
  refine SL.nil ?_
  refine seqQ.nm ?_
  first | refine SC.ifp rfl (fun h9 => ?_) (fun h9 => ?_) | refine SC.ite rfl (fun h9 => ?_) (fun h9 => ?_)
  · skip
    refine SC.drop 1 rfl ?_
    have hw : withM ms m = ms := by rw [withM, if_pos ((hasP_ge ms m.path).1 h9)]
    refine SC.seq ?_
    refine SC.region ?_
    refine SL.val (OpV.move rfl) rfl ?_
    refine SL.val (OpV.assign rfl) rfl ?_
    refine SL.nil ?_
    refine seqQ.nm ?_
    refine SC.ret ?_
    refine seqQ.r ?_
    refine retQ.one rfl (.tmp rfl) ?_ _ (.inr rfl)
    exact ⟨by rw [hw]; rfl, rfl⟩
  · skip
    have hw : withM ms m = ms ++ [m] := by rw [withM, if_neg (fun e => h9 ((hasP_ge ms m.path).2 e))]
    have hlen := mbCells_len ms
    refine SC.skip ?_
    refine seqQ.nm ?_
    refine SC.seq ?_
    refine SC.region ?_
    refine SL.val (OpV.move rfl) rfl ?_
    refine SL.val (OpV.loads (cs := m.cells) _ Tryz.underlying38 rfl rfl sz38 (Kns.blk 1 rfl rfl)) rfl ?_
    refine SL.act (OpH.oneAgg Tryz.underlying25 zs38 rfl rfl rfl) rfl ?_; rintro _ _ _ hM13 ⟨b13, rfl, rfl, rfl⟩; clear hM13
    refine SL.act (OpH.append 1 rfl Tryz.underlying25 Tryz.underlying25 rfl ti38 rfl (by decide) (by decide) rfl rfl (Src.blk 0 rfl (m := 1) rfl) (ones_mem hok) (by rw [hlen]; simp [Mb.cells]; omega)) rfl ?_; rintro v14 _ _ hM14 ⟨rfl, rfl, hn14⟩; clear hM14
    refine SL.drop 0 rfl (SL.drop 1 rfl ?_)
    refine SL.val (OpV.assign rfl) rfl ?_
    refine SL.nil ?_
    refine seqQ.nm ?_
    refine SC.ret ?_
    refine retQ.one rfl (.tmp rfl) ?_ _ (.inr rfl)
    exact ⟨by rw [hw, flat_snoc]; rfl, rfl⟩
end Go.Proofs.YtceabkfmjffnhaaGreatDoor
set_option linter.unusedVariables false
set_option linter.unusedSimpArgs false
namespace Go.Proofs.YtceabkfmjffnhaaGreatDoor
open Go Go.Eng

theorem joinStep_len (a b : Bytes) : (join [a, b]).length ≤ a.length + b.length + 2 := by
  have := joinGo_length [a, b] []
  simp [total] at this
  unfold join; omega
theorem sjoin_ev (l : List Bytes) (v : Value) (M : Mem) (hv : Sl1 M v l) (hl : l.length ≤ 140737488355328) (ht : (Lib.join l [47]).length ≤ 140737488355328) : Ev Tryz.prog 132 [v, str [47]].toArray [] M (Pu M (str (Lib.join l [47]))) := by
  intro F w hs
  cases l with
  | nil =>
    obtain ⟨ad, cap, rfl, hcap, hmax⟩ := hv.len
    refine (Tryz.strings_Join_none ad cap (bs [47]) w).mono ?_
    rintro e w' ⟨rfl, rfl⟩
    exact ⟨_, [], M, rfl, St.refl _, hs, Mem.le_refl _, rfl, rfl, rfl⟩
  | cons x r =>
    obtain ⟨g, o, cap, rfl, hc, hlen, hcap, hmax⟩ := hv.at_ (by simp)
    have hce : ∀ (j : Nat) y, ((x :: r).map bs)[j]? = some y → w.cell? ⟨g, o + j, none⟩ = some (.string y) := by
      intro j y hy
      rw [cell_hcell]
      refine Kn.mem (L := []) (hc.at_ j ?_) _ _ hs
      rw [List.getElem?_map] at hy ⊢
      cases hj : (x :: r)[j]? with
      | none => rw [hj] at hy; simp at hy
      | some z => rw [hj] at hy; simp at hy; simp [hy]
    have hg : g < w.heap.size := by
      have := hce 0 (bs x) rfl
      rw [cell_hcell] at this
      unfold hcell at this
      split at this
      · rename_i h; exact (Array.getElem?_eq_some_iff.1 h).1
      · cases this
    have hmm : ((x :: r).map bs).map (·.data.toList) = x :: r := by
      rw [List.map_map]
      have : ((fun b : ByteArray => b.data.toList) ∘ bs) = id := by funext z; simp
      rw [this, List.map_id]
    have := Tryz.strings_Join g o cap ((x :: r).map bs) (bs [47]) w hce hg (by simpa using hl) (by simpa using hcap) (by rw [hmm]; simpa using ht)
    rw [hmm] at this
    simp only [List.length_map] at this
    refine this.mono ?_
    rintro e w' ⟨rfl, hb⟩
    refine ⟨_, [], M, rfl, ⟨hb.os, hb.tape, hb.output⟩, hs.keep hb.size hb.block, Mem.le_refl _, ?_, rfl, rfl⟩
    simp
theorem joinTail_go (l : List Bytes) : ∀ out : Bytes, out ≠ [] → (∀ x ∈ l, x ≠ []) → joinGo out l = out ++ Lib.joinTail [47] l := by
  induction l with
  | nil => intro out _ _; simp [joinGo, Lib.joinTail]
  | cons x r ih =>
    intro out ho h
    have hx : x ≠ [] := h x (by simp)
    have e : joinGo out (x :: r) = joinGo (joinStep out x) r := rfl
    have hs : joinStep out x = out ++ [47] ++ x := by unfold joinStep; rw [if_neg hx, if_neg ho]
    rw [e, hs, ih _ (by simp) (fun y hy => h y (by simp [hy]))]
    simp [Lib.joinTail]
theorem join_lib (l : List Bytes) : join l = Lib.join (l.filter (fun x => decide (x ≠ []))) [47] := by
  have hf : ∀ (l : List Bytes) out, joinGo out l = joinGo out (l.filter (fun x => decide (x ≠ []))) := by
    intro l
    induction l with
    | nil => intro out; rfl
    | cons x r ih =>
      intro out
      by_cases hx : x = []
      · subst hx
        have : joinStep out [] = out := by simp [joinStep]
        show joinGo (joinStep out []) r = _
        rw [this, ih]; simp
      · show joinGo (joinStep out x) r = _
        rw [ih]
        simp [hx]; rfl
  have key : ∀ l : List Bytes, (∀ x ∈ l, x ≠ []) → joinGo [] l = Lib.join l [47] := by
    intro l h
    cases l with
    | nil => rfl
    | cons x r =>
      have hx : x ≠ [] := h x (by simp)
      have hs : joinStep [] x = x := by simp [joinStep, hx]
      show joinGo (joinStep [] x) r = _
      rw [hs, joinTail_go r x hx (fun y hy => h y (by simp [hy])), Lib.join_cons]
  unfold join
  rw [hf]
  exact key _ (fun x hx => by simpa using (List.mem_filter.1 hx).2)

theorem pjoin_ev (l : List Bytes) (v : Value) (M : Mem) (hv : Sl1 M v l) (hl : l.length ≤ 1099511627776) (ht : total l ≤ 1099511627776) : Ev Tryz.prog 129 [v].toArray [] M (Pu M (str (join l))) := by
  obtain ⟨ad, cap, rfl, hcap, hmax⟩ := hv.len
  refine Ev.lax ?_
  refine Ev.enter Tryz.func129 rfl Tryz.ntmps129 rfl ?_
  have hjl := joinGo_length l []
  rw [List.length_nil] at hjl
  refine SC.nilrow 9 1 ?_
  refine SC.seq ?_
  refine SC.region ?_
  refine SL.val (OpV.assign rfl) rfl ?_
  refine SL.nil ?_
  refine seqQ.nm ?_
  refine SC.seq ?_
  refine SC.region ?_
  refine SL.val (OpV.assign rfl) rfl ?_
  refine SL.nil ?_
  refine seqQ.nm ?_
  refine SC.seq ?_
  refine SC.seq ?_
  refine SC.region ?_
  refine SL.val (OpV.move rfl) rfl ?_
  refine SL.val (OpV.llen Tryz.underlying52 rfl) rfl ?_
  refine SL.val (OpV.move rfl) rfl ?_
  refine SL.nil ?_
  refine seqQ.nm ?_
  refine SC.block ?_
  refine SC.loop (ι := Nat × Value) (fun x M' => x.1 ≤ l.length ∧ M = M') (fun x => [(3, x.2), (6, .slice ad l.length cap), (7, .int .i64 l.length), (8, .int .i64 x.1)]) (fun x => [.row x.2 9 1 (((l.take x.1).filter (fun y => decide (y ≠ []))).map str)]) (fun x => l.length - x.1) (0, .slice none 0 0) (G := []) ⟨rfl, rfl, rfl, rfl, trivial⟩ (List.Perm.refl _) ⟨Nat.zero_le _, rfl⟩ ?_
  rintro ⟨k, v⟩ _ _ ⟨hk, rfl⟩
  have hfl : ((l.take k).filter (fun y => decide (y ≠ []))).length ≤ k := Nat.le_trans (List.length_filter_le _ _) (List.length_take_le _ _)
  dsimp only at hk hfl ⊢
  refine SC.seq ?_
  refine SC.region ?_
  refine SL.val (OpV.lss rfl rfl) rfl ?_
  refine SL.nil ?_
  refine seqQ.nm ?_
  refine SC.seq ?_
  first | refine SC.ifp rfl (fun h9 => ?_) (fun h9 => ?_) | refine SC.ite rfl (fun h9 => ?_) (fun h9 => ?_)
  · skip
    have hlt : k < l.length := by omega
    obtain ⟨g, o, cap', he, hc, _⟩ := hv.at_ (by omega)
    cases he
    obtain ⟨x, hx⟩ := getElem?_lt hlt
    refine SC.skip ?_
    refine seqQ.nm ?_
    refine SC.seq ?_
    refine SC.block ?_
    refine SC.seq ?_
    refine SC.region ?_
    refine SL.val (OpV.indexAddr1 Tryz.underlying52 sz9 rfl rfl (by omega) (by omega)) rfl ?_
    refine SL.val (OpV.load _ Tryz.underlying9 rfl rfl (Kn.mem (hc.at_ k (v := str x) (by simp [hx])))) rfl ?_
    refine SL.val (OpV.assign rfl) rfl ?_
    refine SL.nil ?_
    refine seqQ.nm ?_
    refine SC.seq ?_
    refine SC.region ?_
    refine SL.val (OpV.move rfl) rfl ?_
    refine SL.val (OpV.sneq rfl rfl) rfl ?_
    refine SL.nil ?_
    refine seqQ.nm ?_
    first | refine SC.ifp rfl (fun h13 => ?_) (fun h13 => ?_) | refine SC.ite rfl (fun h13 => ?_) (fun h13 => ?_)
    · skip
      refine SC.region ?_
      refine SL.val (OpV.move rfl) rfl ?_
      refine SL.val (OpV.move rfl) rfl ?_
      refine SL.act (OpH.one Tryz.underlying52 zs9 rfl rfl) rfl ?_; rintro _ _ _ hM16 ⟨b16, rfl, rfl, rfl⟩; clear hM16
      refine SL.act (OpH.append 1 rfl Tryz.underlying52 Tryz.underlying52 rfl ti9 rfl (by decide) (by decide) rfl rfl (Src.blk 0 rfl rfl) (by simp [Value.oneCell']) (by simp only [List.length_map, List.length_cons, List.length_nil]; omega)) rfl ?_; rintro v17 _ _ hM17 ⟨rfl, rfl, hn17⟩; clear hM17
      refine SL.drop 0 rfl ?_
      refine SL.val (OpV.assign rfl) rfl ?_
      refine SL.nil ?_
      refine blockQ.nm ?_
      refine seqQ.nm ?_
      refine SC.region ?_
      refine SL.val (OpV.add rfl rfl (IntWalk.i64_in _ (by omega))) rfl ?_
      refine SL.val (OpV.move rfl) rfl ?_
      refine SL.nil ?_
      first
        | exact loopQ.nm (k + 1, v17) (by dsimp only; omega) ⟨rfl, rfl, rfl, rfl, trivial⟩ (by rw [List.take_add_one, hx, List.filter_append]; simp [show ¬ x = [] from h13]) ⟨by dsimp only; omega, rfl⟩
        | exact loopQ.nm (k + 1, v) (by dsimp only; omega) ⟨rfl, rfl, rfl, rfl, trivial⟩ (by rw [List.take_add_one, hx, List.filter_append]; simp [show x = [] from Decidable.not_not.1 h13]) ⟨by dsimp only; omega, rfl⟩
    · skip
      refine SC.skip ?_
      refine blockQ.nm ?_
      refine seqQ.nm ?_
      refine SC.region ?_
      refine SL.val (OpV.add rfl rfl (IntWalk.i64_in _ (by omega))) rfl ?_
      refine SL.val (OpV.move rfl) rfl ?_
      refine SL.nil ?_
      first
        | exact loopQ.nm (k + 1, v17) (by dsimp only; omega) ⟨rfl, rfl, rfl, rfl, trivial⟩ (by rw [List.take_add_one, hx, List.filter_append]; simp [show ¬ x = [] from h13]) ⟨by dsimp only; omega, rfl⟩
        | exact loopQ.nm (k + 1, v) (by dsimp only; omega) ⟨rfl, rfl, rfl, rfl, trivial⟩ (by rw [List.take_add_one, hx, List.filter_append]; simp [show x = [] from Decidable.not_not.1 h13]) ⟨by dsimp only; omega, rfl⟩
  · skip
    have hke : k = l.length := by omega
    rw [hke, List.take_length] at hfl ⊢
    have hjeq := join_lib l
    refine SC.fixRow (m := (l.filter (fun y => decide (y ≠ []))).length) 0 rfl (by simp) (by decide) ?_
    intro M1 hM1 hisl
    refine SC.exit ?_
    refine seqQ.e ?_
    refine loopQ.e ?_
    refine blockQ.e ?_
    refine seqQ.nm ?_
    refine SC.seq ?_
    refine SC.region ?_
    refine SL.val (OpV.move rfl) rfl ?_
    refine SL.call ok132 rfl (L1 := []) (List.Perm.refl _) (sjoin_ev (l.filter (fun y => decide (y ≠ []))) v _ hisl (Nat.le_trans (List.length_filter_le _ _) (by omega)) (by rw [← hjeq]; unfold join; omega)) rfl ?_
    rintro _ _ _ hM20 ⟨rfl, rfl, rfl⟩
    refine SL.val (OpV.assign rfl) rfl ?_
    refine SL.nil ?_
    refine seqQ.nm ?_
    refine SC.ret ?_
    refine retQ.one rfl (.tmp rfl) ?_ _ (.inr rfl)
    exact (by rw [hjeq])
end Go.Proofs.YtceabkfmjffnhaaGreatDoor
set_option linter.unusedVariables false
set_option linter.unusedSimpArgs false
namespace Go.Proofs.YtceabkfmjffnhaaGreatDoor
open Go Go.Eng

theorem parent_length (p : Bytes) : (parent p).length ≤ p.length := by unfold parent; simp; omega
theorem whiteout_length (p : Bytes) : (whiteout p).length ≤ 2 * p.length + 6 := by
  unfold whiteout
  split
  · simp
  · have h1 := joinStep_len (parent p) (white ++ base p)
    have h2 := parent_length p
    have h3 := base_length p
    simp [white] at h1 ⊢
    omega
theorem rwhiteout_ev (p : Bytes) (M : Mem) (hp : p.length ≤ 1073741824) : Ev Tryz.prog 35 [str p].toArray [] M (Pu M (str (whiteout p))) := by
  refine Ev.lax ?_
  refine Ev.enter Tryz.func35 rfl Tryz.ntmps35 rfl ?_
  have hpl := parent_length p
  have hbl := base_length p
  refine SC.seq ?_
  refine SC.region ?_
  refine SL.val (OpV.assign rfl) rfl ?_
  refine SL.nil ?_
  refine seqQ.nm ?_
  refine SC.seq ?_
  refine SC.seq ?_
  refine SC.region ?_
  refine SL.val (OpV.move rfl) rfl ?_
  refine SL.val (OpV.seql rfl rfl) rfl ?_
  refine SL.val (OpV.move rfl) rfl ?_
  refine SL.orcut 4 (c := 5) (d := 9) rfl (fun h5 => ?_) ?_
  · skip
    refine SL.skip rfl rfl ?_
    refine SL.skip rfl rfl ?_
    refine SL.skip rfl rfl ?_
    refine SL.val (OpV.pickT rfl rfl) rfl ?_
    exact SL.nil ⟨rfl, rfl, (by repeat first | exact Env.le_refl _ | refine Env.le_new rfl ?_), [], List.Perm.refl _⟩
  apply Exists.intro
  refine And.intro (fun h5 => ?_) ?_
  · skip
    refine SL.gval rfl (OpV.move rfl) rfl ?_
    refine SL.gcall rfl ok59 rfl (L1 := []) (List.Perm.refl _) (rmay_ev p _ (by omega)) rfl ?_
    rintro _ _ _ hM7 ⟨rfl, rfl, rfl⟩
    refine SL.gval rfl (OpV.not rfl) rfl ?_
    refine SL.val (OpV.pickF rfl rfl) rfl ?_
    exact SL.nil ⟨rfl, rfl, (by repeat first | exact Env.le_refl _ | refine Env.le_new rfl ?_), [], List.Perm.refl _⟩
  refine SL.nil ?_
  refine seqQ.nm ?_
  first | refine SC.ifp rfl (fun h9 => ?_) (fun h9 => ?_) | refine SC.ite rfl (fun h9 => ?_) (fun h9 => ?_)
  · skip
    refine SC.seq ?_
    refine SC.region ?_
    refine SL.val (OpV.assign rfl) rfl ?_
    refine SL.nil ?_
    refine seqQ.nm ?_
    refine SC.ret ?_
    refine seqQ.r ?_
    refine retQ.one rfl (.tmp rfl) ?_ _ (.inr rfl)
    exact (by rw [whiteout, if_pos (by simpa using h9)])
  · skip
    refine SC.skip ?_
    refine seqQ.nm ?_
    refine SC.seq ?_
    refine SC.region ?_
    refine SL.val (OpV.move rfl) rfl ?_
    refine SL.call ok33 rfl (L1 := []) (List.Perm.refl _) (parent_ev p _ (by omega)) rfl ?_
    rintro _ _ _ hM11 ⟨rfl, rfl, rfl⟩
    refine SL.val (OpV.move rfl) rfl ?_
    refine SL.call ok62 rfl (L1 := []) (List.Perm.refl _) (base_ev p _ (by omega)) rfl ?_
    rintro _ _ _ hM13 ⟨rfl, rfl, rfl⟩
    refine SL.val (show OpV _ _ _ _ _ (str (white ++ base p)) from OpV.sadd rfl rfl (by have hw4 : white.length = 4 := rfl; omega)) rfl ?_
    refine SL.act (OpH.buildSlice Tryz.underlying52 zs9 (by decide) rfl rfl rfl) rfl ?_; rintro _ _ _ hM15 ⟨b15, rfl, rfl, rfl⟩; clear hM15
    refine SL.fixBlk 0 rfl ?_
    intro M5 hM5 hcells
    refine SL.call ok57 rfl (L1 := []) (List.Perm.refl _) (rjoin_ev [parent p, white ++ base p] _ _ (ISl.ofCells hcells rfl (by simp [maxLen])) (by simp [total, white]; omega) (by simp)) rfl ?_
    rintro _ _ _ hM16 ⟨rfl, rfl, rfl⟩
    refine SL.val (OpV.assign rfl) rfl ?_
    refine SL.nil ?_
    refine seqQ.nm ?_
    refine SC.ret ?_
    refine retQ.one rfl (.tmp rfl) ?_ _ (.inr rfl)
    exact (by rw [whiteout, if_neg (by simpa using h9)])
theorem pwhiteout_ev (p : Bytes) (M : Mem) (hp : p.length ≤ 1073741824) : Ev Tryz.prog 125 [str p].toArray [] M (Pu M (str (whiteout p))) := by
  refine Ev.lax ?_
  refine Ev.enter Tryz.func125 rfl Tryz.ntmps125 rfl ?_
  have hpl := parent_length p
  have hbl := base_length p
  refine SC.seq ?_
  refine SC.region ?_
  refine SL.val (OpV.assign rfl) rfl ?_
  refine SL.nil ?_
  refine seqQ.nm ?_
  refine SC.seq ?_
  refine SC.seq ?_
  refine SC.region ?_
  refine SL.val (OpV.move rfl) rfl ?_
  refine SL.val (OpV.seql rfl rfl) rfl ?_
  refine SL.val (OpV.move rfl) rfl ?_
  refine SL.orcut 4 (c := 5) (d := 9) rfl (fun h5 => ?_) ?_
  · skip
    refine SL.skip rfl rfl ?_
    refine SL.skip rfl rfl ?_
    refine SL.skip rfl rfl ?_
    refine SL.val (OpV.pickT rfl rfl) rfl ?_
    exact SL.nil ⟨rfl, rfl, (by repeat first | exact Env.le_refl _ | refine Env.le_new rfl ?_), [], List.Perm.refl _⟩
  apply Exists.intro
  refine And.intro (fun h5 => ?_) ?_
  · skip
    refine SL.gval rfl (OpV.move rfl) rfl ?_
    refine SL.gcall rfl ok46 rfl (L1 := []) (List.Perm.refl _) (pmay_ev p _ (by omega)) rfl ?_
    rintro _ _ _ hM7 ⟨rfl, rfl, rfl⟩
    refine SL.gval rfl (OpV.not rfl) rfl ?_
    refine SL.val (OpV.pickF rfl rfl) rfl ?_
    exact SL.nil ⟨rfl, rfl, (by repeat first | exact Env.le_refl _ | refine Env.le_new rfl ?_), [], List.Perm.refl _⟩
  refine SL.nil ?_
  refine seqQ.nm ?_
  first | refine SC.ifp rfl (fun h9 => ?_) (fun h9 => ?_) | refine SC.ite rfl (fun h9 => ?_) (fun h9 => ?_)
  · skip
    refine SC.seq ?_
    refine SC.region ?_
    refine SL.val (OpV.assign rfl) rfl ?_
    refine SL.nil ?_
    refine seqQ.nm ?_
    refine SC.ret ?_
    refine seqQ.r ?_
    refine retQ.one rfl (.tmp rfl) ?_ _ (.inr rfl)
    exact (by rw [whiteout, if_pos (by simpa using h9)])
  · skip
    refine SC.skip ?_
    refine seqQ.nm ?_
    refine SC.seq ?_
    refine SC.region ?_
    refine SL.val (OpV.move rfl) rfl ?_
    refine SL.call ok128 rfl (L1 := []) (List.Perm.refl _) (pparent_ev p _ (by omega)) rfl ?_
    rintro _ _ _ hM11 ⟨rfl, rfl, rfl⟩
    refine SL.val (OpV.move rfl) rfl ?_
    refine SL.call ok43 rfl (L1 := []) (List.Perm.refl _) (pbase_ev p _ (by omega)) rfl ?_
    rintro _ _ _ hM13 ⟨rfl, rfl, rfl⟩
    refine SL.val (show OpV _ _ _ _ _ (str (white ++ base p)) from OpV.sadd rfl rfl (by have hw4 : white.length = 4 := rfl; omega)) rfl ?_
    refine SL.act (OpH.buildSlice Tryz.underlying52 zs9 (by decide) rfl rfl rfl) rfl ?_; rintro _ _ _ hM15 ⟨b15, rfl, rfl, rfl⟩; clear hM15
    refine SL.fixBlk 0 rfl ?_
    intro M5 hM5 hcells
    refine SL.call ok129 rfl (L1 := []) (List.Perm.refl _) (pjoin_ev [parent p, white ++ base p] _ _ (ISl.ofCells hcells rfl (by simp [maxLen])) (by simp) (by simp [total, white]; omega)) rfl ?_
    rintro _ _ _ hM16 ⟨rfl, rfl, rfl⟩
    refine SL.val (OpV.assign rfl) rfl ?_
    refine SL.nil ?_
    refine seqQ.nm ?_
    refine SC.ret ?_
    refine retQ.one rfl (.tmp rfl) ?_ _ (.inr rfl)
    exact (by rw [whiteout, if_neg (by simpa using h9)])

theorem classRef_len (p : Bytes) : (classRef p).2.length ≤ 4080 := by
  unfold classRef
  split
  · simp
  · split
    · simp
    · split
      · split
        · simp
        · rename_i h
          simp only [Bool.or_eq_true, not_or, Bool.not_eq_true', Bool.not_eq_false] at h
          have h2 := h.2
          simp only [mayPath, Bool.and_eq_true, decide_eq_true_eq] at h2
          exact h2.2
      · simp
theorem letsStay_stop {ms : List Core} {p : Bytes} {m : Core} (hm : m ∈ ms) (h : letsStay m p = false) : staysP ms p = false := by
  have : ms.all (fun m => letsStay m p) = false := List.all_eq_false.2 ⟨m, hm, by simp [h]⟩
  simp [staysP, this]

theorem rstays_ev (v : Value) (ms : List Mb) (p : Bytes) (M : Mem) (hv : SlM M v ms) (hok : ∀ m ∈ ms, m.ok M) (hl : ms.length ≤ big) (hp : p.length ≤ 1099511627776) :
    Ev Tryz.prog 31 [v, str p].toArray [] M (Pu M (.bool (staysP (cores ms) p))) := by
  obtain ⟨ad, cap, rfl, hcap, hmax⟩ := hv.len
  refine Ev.lax ?_
  refine Ev.enter Tryz.func31 rfl Tryz.ntmps31 rfl ?_
  have hl' : ms.length ≤ 268435456 := hl
  refine SC.seq ?_
  refine SC.region ?_
  refine SL.val (OpV.assign rfl) rfl ?_
  refine SL.nil ?_
  refine seqQ.nm ?_
  refine SC.seq ?_
  refine SC.seq ?_
  refine SC.region ?_
  refine SL.val (OpV.move rfl) rfl ?_
  refine SL.val (OpV.seql rfl rfl) rfl ?_
  refine SL.nil ?_
  refine seqQ.nm ?_
  first | refine SC.ifp rfl (fun h11 => ?_) (fun h11 => ?_) | refine SC.ite rfl (fun h11 => ?_) (fun h11 => ?_)
  · skip
    refine SC.seq ?_
    refine SC.region ?_
    refine SL.val (OpV.assign rfl) rfl ?_
    refine SL.nil ?_
    refine seqQ.nm ?_
    refine SC.ret ?_
    refine seqQ.r ?_
    refine retQ.one rfl (.tmp rfl) ?_ _ (.inr rfl)
    exact (by rw [staysP, show p = [] from h11]; rfl)
  · skip
    refine SC.skip ?_
    refine seqQ.nm ?_
    refine SC.seq ?_
    refine SC.seq ?_
    refine SC.region ?_
    refine SL.val (OpV.assign rfl) rfl ?_
    refine SL.nil ?_
    refine seqQ.nm ?_
    refine SC.block ?_
    refine SC.loop (ι := Nat) (fun k M' => k ≤ ms.length ∧ ((cores ms).take k).all (fun m => letsStay m p) = true ∧ M = M') (fun k => [(0, .slice ad ms.length cap), (1, str p), (5, .int .i64 k)]) (fun _ => []) (fun k => ms.length - k) 0 (G := []) ⟨rfl, rfl, rfl, trivial⟩ (List.Perm.refl _) ⟨Nat.zero_le _, rfl, rfl⟩ ?_
    rintro k _ _ ⟨hk, hall, rfl⟩
    refine SC.seq ?_
    refine SC.seq ?_
    refine SC.region ?_
    refine SL.val (OpV.move rfl) rfl ?_
    refine SL.val (OpV.move rfl) rfl ?_
    refine SL.val (OpV.llen Tryz.underlying25 rfl) rfl ?_
    refine SL.val (OpV.lss rfl rfl) rfl ?_
    refine SL.nil ?_
    refine seqQ.nm ?_
    first | refine SC.ifp rfl (fun h15 => ?_) (fun h15 => ?_) | refine SC.ite rfl (fun h15 => ?_) (fun h15 => ?_)
    · skip
      have hlt : k < ms.length := by omega
      obtain ⟨g, o, cap', he, hc, _⟩ := hv.at_ (by omega)
      cases he
      obtain ⟨m, hm⟩ := getElem?_lt hlt
      have hmc := mbCells_at hc hm
      have hmp : m.path.length ≤ 268435456 := (hok m (List.mem_of_getElem? hm)).path
      have htl := classRef_len m.path
      have hcm := core_at hm
      have hst := all_take_succ (fun m => letsStay m p) (cores ms) k m.core hcm
      rw [hall, Bool.true_and] at hst
      refine SC.skip ?_
      refine seqQ.nm ?_
      refine SC.seq ?_
      refine SC.block ?_
      refine SC.seq ?_
      refine SC.region ?_
      refine SL.val (OpV.move rfl) rfl ?_
      refine SL.val (OpV.move rfl) rfl ?_
      refine SL.val (OpV.indexAddr Tryz.underlying25 sz38 rfl rfl (by omega) (by omega)) rfl ?_
      refine SL.val (OpV.fld fa38_0 rfl) rfl ?_
      refine SL.val (OpV.load _ Tryz.underlying9 rfl rfl (Kn.mem (hmc 0 (str m.path) rfl))) rfl ?_
      refine SL.call ok29 rfl (L1 := []) (List.Perm.refl _) (rclass_ev m.path _ (by omega)) rfl ?_
      rintro _ _ _ hM24 ⟨rfl, rfl, rfl⟩
      refine SL.val (OpV.move rfl) rfl ?_
      refine SL.val (OpV.extract rfl rfl) rfl ?_
      refine SL.val (OpV.extract rfl rfl) rfl ?_
      refine SL.val (OpV.assign rfl) rfl ?_
      refine SL.val (OpV.assign rfl) rfl ?_
      refine SL.nil ?_
      refine seqQ.nm ?_
      refine SC.seq ?_
      refine SC.region ?_
      refine SL.val (OpV.move rfl) rfl ?_
      refine SL.val (OpV.move rfl) rfl ?_
      refine SL.val (OpV.seql rfl rfl) rfl ?_
      refine SL.val (OpV.assign rfl) rfl ?_
      refine SL.nil ?_
      refine seqQ.nm ?_
      refine SC.seq ?_
      refine SC.region ?_
      refine SL.val (OpV.move rfl) rfl ?_
      refine SL.val (OpV.move rfl) rfl ?_
      refine SL.call ok60 rfl (L1 := []) (List.Perm.refl _) (under_ev (classRef m.path).2 p _ (by omega)) rfl ?_
      rintro _ _ _ hM32 ⟨rfl, rfl, rfl⟩
      refine SL.val (OpV.assign rfl) rfl ?_
      refine SL.nil ?_
      refine seqQ.nm ?_
      refine SC.seq ?_
      refine SC.seq ?_
      refine SC.region ?_
      refine SL.val (OpV.move rfl) rfl ?_
      refine SL.val (OpV.eql rfl rfl) rfl ?_
      refine SL.val (OpV.move rfl) rfl ?_
      refine SL.andcut 5 (c := 35) (d := 40) rfl (fun h35 => ?_) ?_
      · skip
        refine SL.skip rfl rfl ?_
        refine SL.skip rfl rfl ?_
        refine SL.skip rfl rfl ?_
        refine SL.skip rfl rfl ?_
        refine SL.val (OpV.pickF rfl rfl) rfl ?_
        exact SL.nil ⟨rfl, rfl, (by repeat first | exact Env.le_refl _ | refine Env.le_new rfl ?_), [], List.Perm.refl _⟩
      apply Exists.intro
      refine And.intro (fun h35 => ?_) ?_
      · skip
        refine SL.gval rfl (OpV.move rfl) rfl ?_
        refine SL.gval rfl (OpV.move rfl) rfl ?_
        refine SL.orcut 2 (c := 37) (d := 39) rfl (fun h37 => ?_) ?_
        · skip
          refine SL.skip rfl rfl ?_
          refine SL.gval rfl (OpV.pickT rfl rfl) rfl ?_
          exact SL.nil ⟨rfl, rfl, (by repeat first | exact Env.le_refl _ | refine Env.le_new rfl ?_), [], List.Perm.refl _⟩
        apply Exists.intro
        refine And.intro (fun h37 => ?_) ?_
        · skip
          refine SL.gval rfl (OpV.move rfl) rfl ?_
          refine SL.gval rfl (OpV.pickF rfl rfl) rfl ?_
          exact SL.nil ⟨rfl, rfl, (by repeat first | exact Env.le_refl _ | refine Env.le_new rfl ?_), [], List.Perm.refl _⟩
        refine SL.val (OpV.pickT rfl rfl) rfl ?_
        exact SL.nil ⟨rfl, rfl, (by repeat first | exact Env.le_refl _ | refine Env.le_new rfl ?_), [], List.Perm.refl _⟩
      refine SL.val (OpV.move rfl) rfl ?_
      refine SL.orcut 6 (c := 41) (d := 47) rfl (fun h41 => ?_) ?_
      · skip
        refine SL.skip rfl rfl ?_
        refine SL.skip rfl rfl ?_
        refine SL.skip rfl rfl ?_
        refine SL.skip rfl rfl ?_
        refine SL.skip rfl rfl ?_
        refine SL.val (OpV.pickT rfl rfl) rfl ?_
        exact SL.nil ⟨rfl, rfl, (by repeat first | exact Env.le_refl _ | refine Env.le_new rfl ?_), [], List.Perm.refl _⟩
      apply Exists.intro
      refine And.intro (fun h41 => ?_) ?_
      · skip
        refine SL.gval rfl (OpV.move rfl) rfl ?_
        refine SL.gval rfl (OpV.eql rfl rfl) rfl ?_
        refine SL.gval rfl (OpV.move rfl) rfl ?_
        refine SL.andcut 2 (c := 44) (d := 46) rfl (fun h44 => ?_) ?_
        · skip
          refine SL.skip rfl rfl ?_
          refine SL.gval rfl (OpV.pickF rfl rfl) rfl ?_
          exact SL.nil ⟨rfl, rfl, (by repeat first | exact Env.le_refl _ | refine Env.le_new rfl ?_), [], List.Perm.refl _⟩
        apply Exists.intro
        refine And.intro (fun h44 => ?_) ?_
        · skip
          refine SL.gval rfl (OpV.move rfl) rfl ?_
          refine SL.gval rfl (OpV.pickT rfl rfl) rfl ?_
          exact SL.nil ⟨rfl, rfl, (by repeat first | exact Env.le_refl _ | refine Env.le_new rfl ?_), [], List.Perm.refl _⟩
        refine SL.val (OpV.pickF rfl rfl) rfl ?_
        exact SL.nil ⟨rfl, rfl, (by repeat first | exact Env.le_refl _ | refine Env.le_new rfl ?_), [], List.Perm.refl _⟩
      refine SL.val (OpV.move rfl) rfl ?_
      refine SL.orcut 6 (c := 48) (d := 54) rfl (fun h48 => ?_) ?_
      · skip
        refine SL.skip rfl rfl ?_
        refine SL.skip rfl rfl ?_
        refine SL.skip rfl rfl ?_
        refine SL.skip rfl rfl ?_
        refine SL.skip rfl rfl ?_
        refine SL.val (OpV.pickT rfl rfl) rfl ?_
        exact SL.nil ⟨rfl, rfl, (by repeat first | exact Env.le_refl _ | refine Env.le_new rfl ?_), [], List.Perm.refl _⟩
      apply Exists.intro
      refine And.intro (fun h48 => ?_) ?_
      · skip
        refine SL.gval rfl (OpV.move rfl) rfl ?_
        refine SL.gval rfl (OpV.eql rfl rfl) rfl ?_
        refine SL.gval rfl (OpV.move rfl) rfl ?_
        refine SL.andcut 2 (c := 51) (d := 53) rfl (fun h51 => ?_) ?_
        · skip
          refine SL.skip rfl rfl ?_
          refine SL.gval rfl (OpV.pickF rfl rfl) rfl ?_
          exact SL.nil ⟨rfl, rfl, (by repeat first | exact Env.le_refl _ | refine Env.le_new rfl ?_), [], List.Perm.refl _⟩
        apply Exists.intro
        refine And.intro (fun h51 => ?_) ?_
        · skip
          refine SL.gval rfl (OpV.move rfl) rfl ?_
          refine SL.gval rfl (OpV.pickT rfl rfl) rfl ?_
          exact SL.nil ⟨rfl, rfl, (by repeat first | exact Env.le_refl _ | refine Env.le_new rfl ?_), [], List.Perm.refl _⟩
        refine SL.val (OpV.pickF rfl rfl) rfl ?_
        exact SL.nil ⟨rfl, rfl, (by repeat first | exact Env.le_refl _ | refine Env.le_new rfl ?_), [], List.Perm.refl _⟩
      refine SL.nil ?_
      have e1 : ∀ n : Nat, decide (((classRef m.path).1 : Int) = (n : Int)) = decide ((classRef m.path).1 = n) := fun n => dec_eq (by omega)
      refine seqQ.nm ?_
      first | refine SC.ifp rfl (fun h54 => ?_) (fun h54 => ?_) | refine SC.ite rfl (fun h54 => ?_) (fun h54 => ?_)
      · skip
        have hbad : letsStay m.core p = false := by
          have h := h54
          rw [show (2 : Int) = ((2 : Nat) : Int) from rfl, show (3 : Int) = ((3 : Nat) : Int) from rfl, show (1 : Int) = ((1 : Nat) : Int) from rfl, e1, e1, e1] at h
          rw [letsStay, show (decide ((classRef m.core.path).1 = 2) && (decide (p = (classRef m.core.path).2) || under (classRef m.core.path).2 p) || (decide ((classRef m.core.path).1 = 3) && under (classRef m.core.path).2 p) || (decide ((classRef m.core.path).1 = 1) && decide (p = (classRef m.core.path).2))) = true from h]
          rfl
        refine SC.seq ?_
        refine SC.region ?_
        refine SL.val (OpV.assign rfl) rfl ?_
        refine SL.nil ?_
        refine seqQ.nm ?_
        refine SC.ret ?_
        refine seqQ.r ?_
        refine blockQ.r ?_
        refine seqQ.r ?_
        refine loopQ.r ?_
        refine blockQ.r ?_
        refine seqQ.r ?_
        refine retQ.one rfl (.tmp rfl) ?_ _ (.inr rfl)
        exact (by rw [letsStay_stop (List.mem_of_getElem? hcm) hbad])
      · skip
        have h1 : (decide ((classRef m.core.path).1 = 2) && (decide (p = (classRef m.core.path).2) || under (classRef m.core.path).2 p) || (decide ((classRef m.core.path).1 = 3) && under (classRef m.core.path).2 p) || (decide ((classRef m.core.path).1 = 1) && decide (p = (classRef m.core.path).2))) = false := by
          have h := h54
          rw [show (2 : Int) = ((2 : Nat) : Int) from rfl, show (3 : Int) = ((3 : Nat) : Int) from rfl, show (1 : Int) = ((1 : Nat) : Int) from rfl, e1, e1, e1] at h
          exact h
        refine SC.skip ?_
        refine seqQ.nm ?_
        refine SC.seq ?_
        refine SC.region ?_
        refine SL.val (OpV.move rfl) rfl ?_
        refine SL.val (OpV.eql rfl rfl) rfl ?_
        refine SL.val (OpV.move rfl) rfl ?_
        refine SL.andcut 2 (c := 57) (d := 59) rfl (fun h57 => ?_) ?_
        · skip
          refine SL.skip rfl rfl ?_
          refine SL.val (OpV.pickF rfl rfl) rfl ?_
          exact SL.nil ⟨rfl, rfl, (by repeat first | exact Env.le_refl _ | refine Env.le_new rfl ?_), [], List.Perm.refl _⟩
        apply Exists.intro
        refine And.intro (fun h57 => ?_) ?_
        · skip
          refine SL.gval rfl (OpV.move rfl) rfl ?_
          refine SL.val (OpV.pickT rfl rfl) rfl ?_
          exact SL.nil ⟨rfl, rfl, (by repeat first | exact Env.le_refl _ | refine Env.le_new rfl ?_), [], List.Perm.refl _⟩
        refine SL.val (OpV.move rfl) rfl ?_
        refine SL.andcut 8 (c := 60) (d := 68) rfl (fun h60 => ?_) ?_
        · skip
          refine SL.skip rfl rfl ?_
          refine SL.skip rfl rfl ?_
          refine SL.skip rfl rfl ?_
          refine SL.skip rfl rfl ?_
          refine SL.skip rfl rfl ?_
          refine SL.skip rfl rfl ?_
          refine SL.skip rfl rfl ?_
          refine SL.val (OpV.pickF rfl rfl) rfl ?_
          exact SL.nil ⟨rfl, rfl, (by repeat first | exact Env.le_refl _ | refine Env.le_new rfl ?_), [], List.Perm.refl _⟩
        apply Exists.intro
        refine And.intro (fun h60 => ?_) ?_
        · skip
          refine SL.gval rfl (OpV.move rfl) rfl ?_
          refine SL.gval rfl (OpV.move rfl) rfl ?_
          refine SL.gval rfl (OpV.indexAddr Tryz.underlying25 sz38 rfl rfl (by omega) (by omega)) rfl ?_
          refine SL.gval rfl (OpV.fld fa38_1 rfl) rfl ?_
          refine SL.gval rfl (OpV.fld fa36_0 rfl) rfl ?_
          refine SL.gval rfl (OpV.load _ Tryz.underlying3 rfl rfl (Kn.mem (hmc 1 (.int .i64 m.kind) rfl))) rfl ?_
          refine SL.gval rfl (OpV.neq rfl rfl) rfl ?_
          refine SL.val (OpV.pickT rfl rfl) rfl ?_
          exact SL.nil ⟨rfl, rfl, (by repeat first | exact Env.le_refl _ | refine Env.le_new rfl ?_), [], List.Perm.refl _⟩
        refine SL.nil ?_
        refine seqQ.nm ?_
        first | refine SC.ifp rfl (fun h68 => ?_) (fun h68 => ?_) | refine SC.ite rfl (fun h68 => ?_) (fun h68 => ?_)
        · skip
          have hbad : letsStay m.core p = false := by
            have h := h68
            rw [show decide (((classRef m.path).1 : Int) = 1) = decide ((classRef m.path).1 = 1) from e1 1] at h
            rw [letsStay, h1, show (decide ((classRef m.core.path).1 = 1) && under (classRef m.core.path).2 p && decide (m.core.kind ≠ 1)) = true from h]
            rfl
          refine SC.seq ?_
          refine SC.region ?_
          refine SL.val (OpV.assign rfl) rfl ?_
          refine SL.nil ?_
          refine seqQ.nm ?_
          refine SC.ret ?_
          refine blockQ.r ?_
          refine seqQ.r ?_
          refine loopQ.r ?_
          refine blockQ.r ?_
          refine seqQ.r ?_
          refine retQ.one rfl (.tmp rfl) ?_ _ (.inr rfl)
          exact (by rw [letsStay_stop (List.mem_of_getElem? hcm) hbad])
        · skip
          have hgood : letsStay m.core p = true := by
            have h := h68
            rw [show decide (((classRef m.path).1 : Int) = 1) = decide ((classRef m.path).1 = 1) from e1 1] at h
            rw [letsStay, h1, show (decide ((classRef m.core.path).1 = 1) && under (classRef m.core.path).2 p && decide (m.core.kind ≠ 1)) = false from h]
            rfl
          refine SC.skip ?_
          refine blockQ.nm ?_
          refine seqQ.nm ?_
          refine SC.region ?_
          refine SL.val (OpV.move rfl) rfl ?_
          refine SL.val (OpV.add rfl rfl (IntWalk.i64_in _ (by omega))) rfl ?_
          refine SL.val (OpV.assign rfl) rfl ?_
          refine SL.nil ?_
          exact loopQ.nm (k + 1) (by omega) ⟨rfl, rfl, rfl, trivial⟩ (List.Perm.refl _) ⟨by omega, by rw [hst, hgood], rfl⟩
    · skip
      have hke : k = (cores ms).length := by simp; omega
      rw [hke, List.take_length] at hall
      refine SC.exit ?_
      refine seqQ.e ?_
      refine loopQ.e ?_
      refine blockQ.e ?_
      refine seqQ.nm ?_
      refine SC.seq ?_
      refine SC.region ?_
      refine SL.val (OpV.assign rfl) rfl ?_
      refine SL.nil ?_
      refine seqQ.nm ?_
      refine SC.ret ?_
      refine retQ.one rfl (.tmp rfl) ?_ _ (.inr rfl)
      exact (by rw [staysP, hall, decide_eq_true (show p ≠ [] from h11)]; rfl)
end Go.Proofs.YtceabkfmjffnhaaGreatDoor
set_option linter.unusedVariables false
set_option linter.unusedSimpArgs false
namespace Go.Proofs.YtceabkfmjffnhaaGreatDoor
open Go Go.Eng

theorem splice_flat (l : List Mb) (k : Nat) (m : Mb) (hk : k < l.length) : splice (l.flatMap Mb.cells) (0 + k * 9) (Value.agg m.cells.toArray).cells.toList = (l.set k m).flatMap Mb.cells := by
  have e : (Value.agg m.cells.toArray).cells.toList = m.cells := rfl
  rw [e, Nat.zero_add]
  have hl : m.cells.length = 9 := rfl
  have h1 : ∀ (l : List Mb) (k : Nat), k ≤ l.length → (l.flatMap Mb.cells).take (k * 9) = (l.take k).flatMap Mb.cells ∧ (l.flatMap Mb.cells).drop (k * 9) = (l.drop k).flatMap Mb.cells := by
    intro l k hk
    have e1 : l.flatMap Mb.cells = (l.take k).flatMap Mb.cells ++ (l.drop k).flatMap Mb.cells := by rw [← List.flatMap_append, List.take_append_drop]
    have e2 : ((l.take k).flatMap Mb.cells).length = k * 9 := by rw [mbCells_len, List.length_take, Nat.min_eq_left hk]
    rw [e1]
    exact ⟨by rw [List.take_left' e2], by rw [List.drop_left' e2]⟩
  unfold splice
  rw [hl, show k * 9 + 9 = (k + 1) * 9 by omega, (h1 l k (by omega)).1, (h1 l (k + 1) (by omega)).2, List.set_eq_take_append_cons_drop, if_pos hk]
  simp [List.flatMap_append]
theorem row_cell (l : List Mb) (k : Nat) (m : Mb) (h : l[k]? = some m) (j : Nat) (hj : j < 9) : (l.flatMap Mb.cells)[0 + k * 9 + j]? = m.cells[j]? := by
  rw [Nat.zero_add]; exact flat_at Mb.cells 9 (fun _ => rfl) l k m h j hj
theorem row_elem (l : List Mb) (k : Nat) (m : Mb) (h : l[k]? = some m) : ((l.flatMap Mb.cells).drop (0 + k * 9)).take m.cells.length = m.cells := by
  apply List.ext_getElem?
  intro j
  rw [List.getElem?_take]
  split
  · rename_i hj
    rw [List.getElem?_drop, row_cell l k m h j hj]
  · rename_i hj
    rw [List.getElem?_eq_none (by omega)]

/-- No later path comes ahead of an earlier one. -/
def Asc (l : List Mb) : Prop := l.Pairwise fun a b => Op.bytesLess b.path a.path = false
theorem bl_lt_ge {a b : Bytes} (h : Op.bytesLess a b = true) : Op.bytesLess b a = false := by
  have := bl_leq a b
  rw [h, Bool.true_or] at this
  simpa using this.symm
theorem asc_insert {S1 S2 : List Mb} {m : Mb} (h : Asc (S1 ++ S2)) (h1 : ∀ s ∈ S2, Op.bytesLess m.path s.path = true) (h2 : ∀ s ∈ S1, Op.bytesLess m.path s.path = false) : Asc (S1 ++ m :: S2) := by
  unfold Asc at *
  rw [List.pairwise_append] at h ⊢
  obtain ⟨ha, hb, hc⟩ := h
  refine ⟨ha, List.pairwise_cons.2 ⟨fun s hs => bl_lt_ge (h1 s hs), hb⟩, ?_⟩
  intro a ha' b hb'
  rcases List.mem_cons.1 hb' with rfl | hb'
  · exact h2 a ha'
  · exact hc a ha' b hb'
theorem bl_ge_trans {a b c : Bytes} (h1 : Op.bytesLess b a = false) (h2 : Op.bytesLess c b = false) : Op.bytesLess c a = false := by
  cases h : Op.bytesLess c a with
  | false => rfl
  | true =>
    -- a is not above b: a < b or a = b
    have := bl_leq a b
    rw [h1] at this
    simp only [Bool.not_false, Bool.or_eq_true, decide_eq_true_eq] at this
    rcases this with h3 | rfl
    · have := bl_trans h h3; rw [h2] at this; cases this
    · rw [h2] at h; cases h

theorem rsorted_ev (v : Value) (ms : List Mb) (M : Mem) (LL : List Res) (hv : RSlM LL M v ms) (hok : ∀ m ∈ ms, m.ok M) (hl : ms.length < big) :
    Ev Tryz.prog 36 [v].toArray LL M fun v' L' M' => ∃ ys, L' = .row v' 38 9 (ys.flatMap Mb.cells) :: LL ∧ ys.Perm ms ∧ Asc ys ∧ M = M' := by
  obtain ⟨ad, cap, rfl, hcap, hmax⟩ := hv.len
  refine Ev.enter Tryz.func36 rfl Tryz.ntmps36 rfl ?_
  have hl' : ms.length < 268435456 := hl
  refine SC.nilrow 38 9 ?_
  refine SC.seq ?_
  refine SC.region ?_
  refine SL.val (OpV.assign rfl) rfl ?_
  refine SL.nil ?_
  refine seqQ.nm ?_
  refine SC.seq ?_
  refine SC.region ?_
  refine SL.val (OpV.assign rfl) rfl ?_
  refine SL.nil ?_
  refine seqQ.nm ?_
  refine SC.seq ?_
  refine SC.seq ?_
  refine SC.region ?_
  refine SL.val (OpV.assign rfl) rfl ?_
  refine SL.nil ?_
  refine seqQ.nm ?_
  refine SC.block ?_
  refine SC.loop (ι := Nat × Value × List Mb) (fun x M' => x.1 ≤ ms.length ∧ x.2.2.Perm (ms.take x.1) ∧ Asc x.2.2 ∧ M = M') (fun x => [(0, .slice ad ms.length cap), (3, x.2.1), (4, .int .i64 x.1)]) (fun x => .row x.2.1 38 9 (x.2.2.flatMap Mb.cells) :: LL) (fun x => ms.length - x.1) (0, .slice none 0 0, []) (G := []) ⟨rfl, rfl, rfl, trivial⟩ (List.Perm.refl _) ⟨Nat.zero_le _, List.Perm.refl _, List.Pairwise.nil, rfl⟩ ?_
  rintro ⟨k, v, ys⟩ _ _ ⟨hk, hperm, hasc, rfl⟩
  dsimp only at hk hperm hasc ⊢
  refine SC.seq ?_
  refine SC.seq ?_
  refine SC.region ?_
  refine SL.val (OpV.move rfl) rfl ?_
  refine SL.val (OpV.move rfl) rfl ?_
  refine SL.val (OpV.llen Tryz.underlying25 rfl) rfl ?_
  refine SL.val (OpV.lss rfl rfl) rfl ?_
  refine SL.nil ?_
  refine seqQ.nm ?_
  first | refine SC.ifp rfl (fun h9 => ?_) (fun h9 => ?_) | refine SC.ite rfl (fun h9 => ?_) (fun h9 => ?_)
  · skip
    have hlt : k < ms.length := by omega
    obtain ⟨g, o, cap', he, hc, _⟩ := hv.at_ (by omega)
    cases he
    obtain ⟨m, hm⟩ := getElem?_lt hlt
    have hmok := hok m (List.mem_of_getElem? hm)
    have hmc := kns_at hc hm
    have hyl : ys.length = k := by rw [hperm.length_eq, List.length_take]; omega
    have hyok : ∀ y ∈ ys, y.ok _ := fun y hy => hok y (List.mem_of_mem_take (hperm.mem_iff.1 hy))
    have hlen := mbCells_len ys
    have hlen2 := mbCells_len (ys ++ [m])
    refine SC.skip ?_
    refine seqQ.nm ?_
    refine SC.seq ?_
    refine SC.block ?_
    refine SC.seq ?_
    refine SC.region ?_
    refine SL.val (OpV.move rfl) rfl ?_
    refine SL.val (OpV.move rfl) rfl ?_
    refine SL.val (OpV.move rfl) rfl ?_
    refine SL.val (OpV.indexAddr Tryz.underlying25 sz38 rfl rfl (by omega) (by omega)) rfl ?_
    refine SL.val (OpV.loads (cs := m.cells) _ Tryz.underlying38 rfl rfl sz38 (hmc.cons _)) rfl ?_
    refine SL.act (OpH.oneAgg Tryz.underlying25 zs38 rfl rfl rfl) rfl ?_; rintro _ _ _ hM17 ⟨b17, rfl, rfl, rfl⟩; clear hM17
    refine SL.act (OpH.append 1 rfl Tryz.underlying25 Tryz.underlying25 rfl ti38 rfl (by decide) (by decide) rfl rfl (Src.blk 0 rfl (m := 1) rfl) (ones_mem hmok) (by rw [hlen]; simp [Mb.cells]; omega)) rfl ?_; rintro v18 _ _ hM18 ⟨rfl, rfl, hn18⟩; clear hM18
    refine SL.drop 0 rfl ?_
    refine SL.val (OpV.assign rfl) rfl ?_
    refine SL.nil ?_
    refine seqQ.nm ?_
    refine SC.seq ?_
    refine SC.rowV 0 rfl fun hrv => ?_
    obtain ⟨ad2, n2, cap2, rfl, hn2, hc2, hm2, hd2⟩ := hrv
    have hn2' : n2 = k + 1 := by
      simp [hlen, Mb.cells] at hn2; omega
    subst hn2'
    rcases hd2 with ⟨_, h0, _⟩ | ⟨g2, rfl⟩
    · omega
    refine SC.region ?_
    refine SL.val (OpV.move rfl) rfl ?_
    refine SL.val (OpV.llen Tryz.underlying25 rfl) rfl ?_
    refine SL.val (OpV.sub rfl rfl (IntWalk.i64_in _ (by omega))) rfl ?_
    refine SL.val (OpV.assign rfl) rfl ?_
    refine SL.nil ?_
    refine seqQ.nm ?_
    refine SC.block ?_
    refine SC.loop (ι := List Mb × List Mb) (fun x M' => x.1 ++ x.2 = ys ∧ (∀ s ∈ x.2, Op.bytesLess m.path s.path = true) ∧ M = M') (fun x => [(0, .slice (some ⟨g, o, none⟩) ms.length cap), (3, .slice (some ⟨g2, 0, none⟩) (k + 1) cap2), (4, .int .i64 k), (5, .int .i64 x.1.length)]) (fun x => .row (.slice (some ⟨g2, 0, none⟩) (k + 1) cap2) 38 9 ((x.1 ++ m :: x.2).flatMap Mb.cells) :: LL) (fun x => x.1.length) (ys, []) (G := []) ⟨rfl, rfl, rfl, by show some _ = some _; congr 2; rw [hyl]; omega, trivial⟩ (by rw [flat_snoc]; exact List.Perm.refl _) ⟨List.append_nil _, (fun s hs => by cases hs), rfl⟩ ?_
    rintro ⟨S1, S2⟩ _ _ ⟨hcat, hgt, rfl⟩
    dsimp only at hcat hgt ⊢
    have hS : S1.length + S2.length = k := by rw [← hyl, ← hcat, List.length_append]
    have hj : (S1 ++ m :: S2)[S1.length]? = some m := by simp
    generalize hsj : ((S1[S1.length - 1]?).map (·.path)).getD [] = sj
    refine SC.seq ?_
    refine SC.seq ?_
    refine SC.quiet mixed (by decide +kernel) ?_
    refine SQ.val (OpV.move rfl) rfl ?_
    refine SQ.val (OpV.gtr rfl rfl) rfl ?_
    refine SQ.val (OpV.move rfl) rfl ?_
    refine SQ.andcut 13 (c := 24) (d := 37) rfl (fun h24 => ?_) ?_
    · skip
      refine SQ.skip rfl rfl ?_
      refine SQ.skip rfl rfl ?_
      refine SQ.skip rfl rfl ?_
      refine SQ.skip rfl rfl ?_
      refine SQ.skip rfl rfl ?_
      refine SQ.skip rfl rfl ?_
      refine SQ.skip rfl rfl ?_
      refine SQ.skip rfl rfl ?_
      refine SQ.skip rfl rfl ?_
      refine SQ.skip rfl rfl ?_
      refine SQ.skip rfl rfl ?_
      refine SQ.skip rfl rfl ?_
      refine SQ.val (OpV.pickF rfl rfl) rfl ?_
      exact SQ.nil ⟨rfl, rfl, (by repeat first | exact Env.le_refl _ | refine Env.le_new rfl ?_), [], List.Perm.refl _⟩
    apply Exists.intro
    refine And.intro (fun h24 => ?_) ?_
    · skip
      have hj0 : 0 < S1.length := by simpa using h24
      have hn1 : ((S1.length : Int) - 1).toNat = S1.length - 1 := by omega
      obtain ⟨s, hs⟩ := getElem?_lt (l := S1) (k := S1.length - 1) (by omega)
      have hs2 : (S1 ++ m :: S2)[S1.length - 1]? = some s := by rw [List.getElem?_append_left (by omega)]; exact hs
      have hsp : s.path = sj := by rw [← hsj, hs]; rfl
      refine SQ.gval rfl (OpV.move rfl) rfl ?_
      refine SQ.gval rfl (OpV.move rfl) rfl ?_
      refine SQ.gval rfl (OpV.indexAddr Tryz.underlying25 sz38 rfl rfl (by omega) (by omega)) rfl ?_
      refine SQ.gval rfl (OpV.fld fa38_0 rfl) rfl ?_
      refine SQ.gval rfl (OpV.load _ Tryz.underlying9 rfl rfl (Kn.row 0 rfl (by rw [Int.toNat_natCast, row_cell _ _ m hj 0 (by decide)]; rfl))) rfl ?_
      refine SQ.gval rfl (OpV.move rfl) rfl ?_
      refine SQ.gval rfl (OpV.move rfl) rfl ?_
      refine SQ.gval rfl (OpV.sub rfl rfl (IntWalk.i64_in _ (by omega))) rfl ?_
      refine SQ.gval rfl (OpV.indexAddr Tryz.underlying25 sz38 rfl rfl (by omega) (by omega)) rfl ?_
      refine SQ.gval rfl (OpV.fld fa38_0 rfl) rfl ?_
      refine SQ.gval rfl (OpV.load _ Tryz.underlying9 rfl rfl (Kn.row 0 rfl (v := str sj) (by rw [hn1, row_cell _ _ s hs2 0 (by decide), ← hsp]; rfl))) rfl ?_
      refine SQ.gval rfl (OpV.slss rfl rfl) rfl ?_
      refine SQ.val (OpV.pickT rfl rfl) rfl ?_
      exact SQ.nil ⟨rfl, rfl, (by repeat first | exact Env.le_refl _ | refine Env.le_new rfl ?_), [], List.Perm.refl _⟩
    refine SQ.nil ?_
    refine seqQ.nm ?_
    first | refine SC.ifp rfl (fun h37 => ?_) (fun h37 => ?_) | refine SC.ite rfl (fun h37 => ?_) (fun h37 => ?_)
    · skip
      simp only [Bool.and_eq_true, decide_eq_true_eq] at h37
      obtain ⟨hj0, hlt2⟩ := h37
      obtain ⟨T, s, rfl⟩ : ∃ T s, S1 = T ++ [s] := ⟨S1.dropLast, S1.getLast (by intro e; rw [e] at hj0; simp at hj0), (List.dropLast_concat_getLast _).symm⟩
      have hTl : (T ++ [s]).length = T.length + 1 := by simp
      have hsp : s.path = sj := by rw [← hsj, hTl]; simp
      have hn1 : (((T ++ [s]).length : Int) - 1).toNat = T.length := by rw [hTl]; omega
      have hn2 : (((T ++ [s]).length : Int)).toNat = T.length + 1 := by rw [hTl]; omega
      have hsm : ((T ++ [s]) ++ m :: S2)[T.length]? = some s := by simp
      have hmm : ((T ++ [s]) ++ m :: S2)[T.length + 1]? = some m := by rw [← hTl]; exact hj
      have hsok : s.ok _ := hyok s (by rw [← hcat]; simp)
      have hTS : T.length + 1 + S2.length = k := by rw [← hS, hTl]
      have hw1 : (((T ++ [s]) ++ m :: S2).set (T.length + 1) s).set T.length m = T ++ m :: s :: S2 := by simp [List.set_append]
      refine SC.skip ?_
      refine seqQ.nm ?_
      refine SC.seq ?_
      refine SC.block ?_
      refine SC.draw [0, 1, 5, 6, 7, 8, 9, 10, 11, 12, 13, 14] [2, 3, 4] [] [] [15, 16, 17] mixed (by decide +kernel) ?_
      refine SV.val (OpV.move rfl) rfl ?_
      refine SV.val (OpV.move rfl) rfl ?_
      refine SV.val (OpV.move rfl) rfl ?_
      refine SV.val (OpV.move rfl) rfl ?_
      refine SV.val (OpV.sub rfl rfl (IntWalk.i64_in _ (by omega))) rfl ?_
      refine SV.val (OpV.indexAddr Tryz.underlying25 sz38 rfl rfl (by omega) (by omega)) rfl ?_
      refine SV.val (OpV.loads (cs := s.cells) _ Tryz.underlying38 rfl rfl sz38 (Kns.row 0 rfl (by rw [hn1]; exact row_elem _ _ s hsm))) rfl ?_
      refine SV.val (OpV.move rfl) rfl ?_
      refine SV.val (OpV.move rfl) rfl ?_
      refine SV.val (OpV.indexAddr Tryz.underlying25 sz38 rfl rfl (by omega) (by omega)) rfl ?_
      refine SV.val (OpV.loads (cs := m.cells) _ Tryz.underlying38 rfl rfl sz38 (Kns.row 0 rfl (by rw [hn2]; exact row_elem _ _ m hmm))) rfl ?_
      refine SV.val (OpV.indexAddr Tryz.underlying25 sz38 rfl rfl (by omega) (by omega)) rfl ?_
      refine SV.nil ?_
      refine SA.val (OpV.move rfl) rfl ?_
      refine SA.val (OpV.move rfl) rfl ?_
      refine SA.val (OpV.sub rfl rfl (IntWalk.i64_in _ (by omega))) rfl ?_
      refine SA.nil ?_
      refine SQ.nil ?_
      refine SA.nil ?_
      refine SL.unit (OpU.storeRow 0 rfl rfl rfl sz38 (by rw [hn2, mbCells_len]; simp [Value.cells, Mb.cells]; omega) (cells_ones hsok)) ?_
      refine SL.val (OpV.indexAddr Tryz.underlying25 sz38 rfl rfl (by omega) (by omega)) rfl ?_
      refine SL.unit (OpU.storeRow 0 rfl rfl rfl sz38 (by rw [hn2, splice_flat _ _ _ (by simp), hn1, mbCells_len]; simp [Value.cells, Mb.cells]; omega) (cells_ones hmok)) ?_
      refine SL.nil ⟨rfl, ?_⟩
      refine blockQ.nm ?_
      refine seqQ.nm ?_
      refine SC.region ?_
      refine SL.val (OpV.move rfl) rfl ?_
      refine SL.val (OpV.sub rfl rfl (IntWalk.i64_in _ (by omega))) rfl ?_
      refine SL.val (OpV.assign rfl) rfl ?_
      refine SL.nil ?_
      refine loopQ.nm (T, s :: S2) (by rw [hTl]; dsimp only; omega) ⟨rfl, rfl, rfl, by show some _ = some _; congr 2; rw [hTl]; dsimp only; omega, trivial⟩ ?_ ⟨by rw [← hcat]; simp, ?_, rfl⟩
      · refine List.Perm.of_eq ?_
        rw [hn2, hn1]
        simp only [List.set_cons_zero]
        rw [splice_flat _ _ _ (by simp), splice_flat _ _ _ (by simp), hw1]
      · intro u hu
        rcases List.mem_cons.1 hu with rfl | hu
        · rw [hsp]; exact hlt2
        · exact hgt u hu
    · skip
      have hS1 : ∀ u ∈ S1, Op.bytesLess m.path u.path = false := by
        intro u hu
        have hpos : 0 < S1.length := List.length_pos_of_mem hu
        simp only [Bool.and_eq_false_iff, decide_eq_false_iff_not] at h37
        have hlt2 : Op.bytesLess m.path sj = false := by
          rcases h37 with h | h
          · exact absurd (by omega : (0 : Int) < (S1.length : Int)) h
          · exact h
        obtain ⟨T, s, rfl⟩ : ∃ T s, S1 = T ++ [s] := ⟨S1.dropLast, S1.getLast (by intro e; rw [e] at hpos; simp at hpos), (List.dropLast_concat_getLast _).symm⟩
        have hTl : (T ++ [s]).length = T.length + 1 := by simp
        have hsp : s.path = sj := by rw [← hsj, hTl]; simp
        rw [List.mem_append, List.mem_singleton] at hu
        rcases hu with hu | rfl
        · have h1 : Op.bytesLess s.path u.path = false := by
            have ha : Asc ((T ++ [s]) ++ S2) := by rw [hcat]; exact hasc
            have ha2 := (List.pairwise_append.1 ha).1
            exact (List.pairwise_append.1 ha2).2.2 u hu s (by simp)
          exact bl_ge_trans h1 (by rw [hsp]; exact hlt2)
        · rw [hsp]; exact hlt2
      have hasc2 : Asc (S1 ++ m :: S2) := asc_insert (by rw [hcat]; exact hasc) hgt hS1
      have hperm2 : (S1 ++ m :: S2).Perm (ms.take (k + 1)) := by
        rw [List.take_add_one, hm]
        refine List.perm_middle.trans ?_
        rw [hcat]
        exact (List.Perm.cons m hperm).trans (List.perm_append_comm (l₁ := [m]))
      refine SC.exit ?_
      refine seqQ.e ?_
      refine loopQ.e ?_
      refine blockQ.e ?_
      refine blockQ.nm ?_
      refine seqQ.nm ?_
      refine SC.region ?_
      refine SL.val (OpV.move rfl) rfl ?_
      refine SL.val (OpV.add rfl rfl (IntWalk.i64_in _ (by omega))) rfl ?_
      refine SL.val (OpV.assign rfl) rfl ?_
      refine SL.nil ?_
      exact loopQ.nm (k + 1, .slice (some ⟨g2, 0, none⟩) (k + 1) cap2, S1 ++ m :: S2) (by dsimp only; omega) ⟨rfl, rfl, rfl, trivial⟩ (List.Perm.refl _) ⟨by dsimp only; omega, hperm2, hasc2, rfl⟩
  · skip
    have hke : k = ms.length := by omega
    rw [hke, List.take_length] at hperm
    refine SC.exit ?_
    refine seqQ.e ?_
    refine loopQ.e ?_
    refine blockQ.e ?_
    refine seqQ.nm ?_
    refine SC.seq ?_
    refine SC.region ?_
    refine SL.val (OpV.move rfl) rfl ?_
    refine SL.val (OpV.assign rfl) rfl ?_
    refine SL.nil ?_
    refine seqQ.nm ?_
    refine SC.ret ?_
    refine retQ.one rfl (.tmp rfl) ?_ _ (.inr rfl)
    exact ⟨ys, rfl, hperm, hasc, rfl⟩
end Go.Proofs.YtceabkfmjffnhaaGreatDoor
set_option linter.unusedVariables false
set_option linter.unusedSimpArgs false
namespace Go.Proofs.YtceabkfmjffnhaaGreatDoor
open Go Go.Eng

abbrev cls (m : Mb) : Nat := (classRef m.path).1
def whiteMb (p : Bytes) : Mb := ⟨whiteout p, 2, 0, 0, 0, 0, .slice none 0 0, [], .slice none 0 0, [], []⟩
theorem whiteout_short (p : Bytes) : (whiteout p).length ≤ 8200 := by
  unfold whiteout
  split
  · simp
  · rename_i h
    simp only [Bool.or_eq_true, not_or, Bool.not_eq_true', Bool.not_eq_false, decide_eq_true_eq] at h
    have h2 := h.2
    simp only [mayPath, Bool.and_eq_true, decide_eq_true_eq] at h2
    have h1 := joinStep_len (parent p) (white ++ base p)
    have h3 := parent_length p
    have h4 := base_length p
    simp [white] at h1 ⊢
    omega
theorem whiteMb_ok (p : Bytes) (M : Mem) : (whiteMb p).ok M := by
  have hn : ∀ sz, ISl M (.slice none 0 0) sz 0 [] := fun sz => ⟨none, 0, rfl, by simp, Nat.le_refl _, Nat.zero_le _, .inl rfl⟩
  have h := whiteout_short p
  exact ⟨hn 2, hn 1, (show (whiteout p).length ≤ 268435456 by omega), (show 0 ≤ 268435456 by omega), (fun p hp => by cases hp), (show 0 ≤ 268435456 by omega), (show 0 ≤ 268435456 by omega)⟩

/-- The kind of the first Member of a path; 0 without one. -/
def kindOf (ms : List Mb) (p : Bytes) : Int := ((ms.find? (fun m => decide (m.path = p))).map (·.kind)).getD 0
def kAt (ms : List Mb) (i : Nat) : Int := ((ms[i]?).map (·.kind)).getD 0
theorem hasP_kind {ms : List Mb} {p : Bytes} (h : 0 ≤ hasP ms p) : ∃ x, ms[(hasP ms p).toNat]? = some x ∧ kindOf ms p = x.kind := by
  unfold hasP at h ⊢
  cases hf : ms.findIdx? (fun m => decide (m.path = p)) with
  | none => rw [hf] at h; simp at h
  | some i =>
    obtain ⟨hi, hp, hno⟩ := List.findIdx?_eq_some_iff_getElem.1 hf
    refine ⟨ms[i], by simp [List.getElem?_eq_getElem hi], ?_⟩
    have : ms.find? (fun m => decide (m.path = p)) = some ms[i] := by
      rw [List.find?_eq_some_iff_getElem]
      exact ⟨hp, i, hi, rfl, fun j hj => by simpa using hno j hj⟩
    simp [kindOf, this]
theorem hasP_nokind {ms : List Mb} {p : Bytes} (h : hasP ms p < 0) : kindOf ms p = 0 := by
  have : ¬ (0 ≤ hasP ms p) := by omega
  rw [hasP_ge] at this
  have h2 : ms.find? (fun m => decide (m.path = p)) = none := by
    rw [List.find?_eq_none]
    intro x hx e
    exact this (List.any_eq_true.2 ⟨x, hx, e⟩)
  simp [kindOf, h2]

theorem hasP_dec (ms : List Mb) (p : Bytes) : (decide (0 ≤ hasP ms p) && decide (kAt ms (hasP ms p).toNat = 1)) = decide (kindOf ms p = 1) := by
  by_cases h : 0 ≤ hasP ms p
  · obtain ⟨x, hx, hk⟩ := hasP_kind h
    have : kAt ms (hasP ms p).toNat = x.kind := by simp [kAt, hx]
    rw [decide_eq_true h, Bool.true_and, this, hk]
  · rw [decide_eq_false h, hasP_nokind (by omega)]; rfl
theorem isl_dest {M : Mem} {ad : Option Addr} {m cap sz : Nat} {xs : List Value} (h : ISl M (.slice ad m cap) sz m xs) (hm : 0 < m) : ad = some ⟨(ad.map (·.block)).getD 0, (ad.map (·.off)).getD 0, none⟩ ∧ M.cells ((ad.map (·.block)).getD 0) ((ad.map (·.off)).getD 0) xs := by
  obtain ⟨g, o, cap', he, hc, _⟩ := h.at_ hm
  cases he
  exact ⟨rfl, hc⟩

theorem rsl_dest {L : List Res} {M : Mem} {ad : Option Addr} {m cap sz : Nat} {xs : List Value} (h : RSl L M (.slice ad m cap) sz m xs) (hm : 0 < m) : ad = some ⟨(ad.map (·.block)).getD 0, (ad.map (·.off)).getD 0, none⟩ ∧ Kns L M ((ad.map (·.block)).getD 0) ((ad.map (·.off)).getD 0) xs := by
  obtain ⟨g, o, cap', he, hc, _⟩ := h.at_ hm
  cases he
  exact ⟨rfl, hc⟩

def plainStep (upper : List Mb) (out : List Mb) (m : Mb) : List Mb := if decide (cls m = 1) && staysP (cores upper) m.path then withM out m else out
def whiteStep (out : List Mb) (m : Mb) : List Mb := if decide (cls m ≠ 1) && (decide (parent m.path = []) || decide (kindOf out (parent m.path) = 1)) then withM out m else out
def overStep (upper : List Mb) (out : List Mb) (m : Mb) : List Mb := if decide (cls m = 1) && decide (m.kind ≠ 1) && decide (kindOf upper m.path = 1) then withM out (whiteMb m.path) else out
def twoAcc (lower upper : List Mb) : List Mb := lower.foldl (overStep upper) (lower.foldl whiteStep (lower.foldl (plainStep upper) upper))
theorem withM_len (ms : List Mb) (m : Mb) : (withM ms m).length ≤ ms.length + 1 := by
  unfold withM; split <;> simp
theorem withM_ok {M : Mem} {ms : List Mb} {m : Mb} (h : ∀ x ∈ ms, x.ok M) (hm : m.ok M) : ∀ x ∈ withM ms m, x.ok M := by
  unfold withM
  split
  · exact h
  · intro x hx
    rw [List.mem_append, List.mem_singleton] at hx
    rcases hx with hx | rfl
    · exact h x hx
    · exact hm
theorem foldl_take {α β : Type} (f : β → α → β) (b : β) (l : List α) (k : Nat) (x : α) (h : l[k]? = some x) : (l.take (k + 1)).foldl f b = f ((l.take k).foldl f b) x := by
  rw [List.take_add_one, h]; simp

theorem rtwo_ev (v1 v2 : Value) (lower upper : List Mb) (M : Mem) (hv1 : SlM M v1 lower) (hv2 : SlM M v2 upper) (hok1 : ∀ m ∈ lower, m.ok M) (hok2 : ∀ m ∈ upper, m.ok M) (hl1 : lower.length ≤ 16777216) (hl2 : upper.length ≤ 16777216) :
    Ev Tryz.prog 15 [v1, v2].toArray [] M fun v' L' M' => ∃ ys, L' = [.row v' 38 9 (ys.flatMap Mb.cells)] ∧ ys.Perm (twoAcc lower upper) ∧ Asc ys ∧ (∀ y ∈ ys, y.ok M) ∧ M = M' := by
  obtain ⟨ad1, cap1, rfl, hcap1, hmax1⟩ := hv1.len
  obtain ⟨ad2, cap2, rfl, hcap2, hmax2⟩ := hv2.len
  refine Ev.enter Tryz.func15 rfl Tryz.ntmps15 rfl ?_
  refine SC.nilrow 38 9 ?_
  refine SC.seq ?_
  refine SC.region ?_
  refine SL.val (OpV.assign rfl) rfl ?_
  refine SL.nil ?_
  refine seqQ.nm ?_
  refine SC.seq ?_
  refine SC.region ?_
  refine SL.val (OpV.assign rfl) rfl ?_
  refine SL.nil ?_
  refine seqQ.nm ?_
  refine SC.seq ?_
  refine SC.region ?_
  refine SL.val (OpV.move rfl) rfl ?_
  refine SL.val (OpV.move rfl) rfl ?_
  refine SL.act (OpH.append 0 rfl Tryz.underlying25 Tryz.underlying25 rfl ti38 rfl (by decide) (by decide) rfl rfl (Src.isl hv2) (by
        intro u hu
        obtain ⟨m, hm, hu⟩ := List.mem_flatMap.1 hu
        exact ones_mem (hok2 m hm) u hu) (by rw [mbCells_len]; simp; omega)) rfl ?_; rintro v20 _ _ hM20 ⟨rfl, rfl, hn20⟩; clear hM20
  refine SL.val (OpV.assign rfl) rfl ?_
  refine SL.nil ?_
  refine seqQ.nm ?_
  refine SC.seq ?_
  refine SC.seq ?_
  refine SC.region ?_
  refine SL.val (OpV.assign rfl) rfl ?_
  refine SL.nil ?_
  refine seqQ.nm ?_
  refine SC.block ?_
  refine SC.loop (ι := Nat × Value × List Mb) (fun x M' => x.1 ≤ lower.length ∧ x.2.2 = (lower.take x.1).foldl (plainStep upper) upper ∧ x.2.2.length ≤ upper.length + x.1 ∧ (∀ y ∈ x.2.2, y.ok M) ∧ M = M') (fun x => [(0, .slice ad1 lower.length cap1), (1, .slice ad2 upper.length cap2), (5, x.2.1), (6, .int .i64 x.1)]) (fun x => [.row x.2.1 38 9 (x.2.2.flatMap Mb.cells)]) (fun x => lower.length - x.1) (0, v20, upper) (G := []) ⟨rfl, rfl, rfl, rfl, trivial⟩ (List.Perm.refl _) ⟨Nat.zero_le _, rfl, by simp, hok2, rfl⟩ ?_
  rintro ⟨k, v, out⟩ _ _ ⟨hk, hout, hlen, hok, rfl⟩
  dsimp only at hk hout hlen hok ⊢
  refine SC.seq ?_
  refine SC.seq ?_
  refine SC.region ?_
  refine SL.val (OpV.move rfl) rfl ?_
  refine SL.val (OpV.move rfl) rfl ?_
  refine SL.val (OpV.llen Tryz.underlying25 rfl) rfl ?_
  refine SL.val (OpV.lss rfl rfl) rfl ?_
  refine SL.nil ?_
  refine seqQ.nm ?_
  first | refine SC.ifp rfl (fun h24 => ?_) (fun h24 => ?_) | refine SC.ite rfl (fun h24 => ?_) (fun h24 => ?_)
  · skip
    have hlt : k < lower.length := by omega
    obtain ⟨g, o, cap', he, hc, _⟩ := hv1.at_ (by omega)
    cases he
    obtain ⟨m, hm⟩ := getElem?_lt hlt
    have hmok := hok1 m (List.mem_of_getElem? hm)
    have hmp : m.path.length ≤ 268435456 := hmok.path
    have hmc := mbCells_at hc hm
    have hst := foldl_take (plainStep upper) upper lower k m hm
    rw [← hout] at hst
    have hwl := withM_len out m
    refine SC.skip ?_
    refine seqQ.nm ?_
    refine SC.seq ?_
    refine SC.block ?_
    refine SC.seq ?_
    refine SC.region ?_
    refine SL.val (OpV.move rfl) rfl ?_
    refine SL.val (OpV.move rfl) rfl ?_
    refine SL.val (OpV.indexAddr Tryz.underlying25 sz38 rfl rfl (by omega) (by omega)) rfl ?_
    refine SL.val (OpV.fld fa38_0 rfl) rfl ?_
    refine SL.val (OpV.load _ Tryz.underlying9 rfl rfl (Kn.mem (hmc 0 (str m.path) rfl))) rfl ?_
    refine SL.call ok29 rfl (L1 := []) (List.Perm.refl _) (rclass_ev m.path _ (by omega)) rfl ?_
    rintro _ _ _ hM33 ⟨rfl, rfl, rfl⟩
    refine SL.val (OpV.move rfl) rfl ?_
    refine SL.val (OpV.extract rfl rfl) rfl ?_
    refine SL.val (OpV.extract rfl rfl) rfl ?_
    refine SL.val (OpV.assign rfl) rfl ?_
    refine SL.val (OpV.assign rfl) rfl ?_
    refine SL.nil ?_
    refine seqQ.nm ?_
    refine SC.seq ?_
    refine SC.region ?_
    refine SL.val (OpV.move rfl) rfl ?_
    refine SL.val (OpV.eql rfl rfl) rfl ?_
    refine SL.val (OpV.move rfl) rfl ?_
    refine SL.andcut 8 (c := 38) (d := 46) rfl (fun h38 => ?_) ?_
    · skip
      refine SL.skip rfl rfl ?_
      refine SL.skip rfl rfl ?_
      refine SL.skip rfl rfl ?_
      refine SL.skip rfl rfl ?_
      refine SL.skip rfl rfl ?_
      refine SL.skip rfl rfl ?_
      refine SL.skip rfl rfl ?_
      refine SL.val (OpV.pickF rfl rfl) rfl ?_
      exact SL.nil ⟨rfl, rfl, (by repeat first | exact Env.le_refl _ | refine Env.le_new rfl ?_), [], List.Perm.refl _⟩
    apply Exists.intro
    refine And.intro (fun h38 => ?_) ?_
    · skip
      refine SL.gval rfl (OpV.move rfl) rfl ?_
      refine SL.gval rfl (OpV.move rfl) rfl ?_
      refine SL.gval rfl (OpV.move rfl) rfl ?_
      refine SL.gval rfl (OpV.indexAddr Tryz.underlying25 sz38 rfl rfl (by omega) (by omega)) rfl ?_
      refine SL.gval rfl (OpV.fld fa38_0 rfl) rfl ?_
      refine SL.gval rfl (OpV.load _ Tryz.underlying9 rfl rfl (Kn.mem (hmc 0 (str m.path) rfl))) rfl ?_
      refine SL.gcall rfl ok31 rfl (L1 := []) (List.Perm.refl _) (rstays_ev _ upper m.path _ hv2 hok2 (show upper.length ≤ 268435456 by omega) (by omega)) rfl ?_
      rintro _ _ _ hM45 ⟨rfl, rfl, rfl⟩
      refine SL.val (OpV.pickT rfl rfl) rfl ?_
      exact SL.nil ⟨rfl, rfl, (by repeat first | exact Env.le_refl _ | refine Env.le_new rfl ?_), [], List.Perm.refl _⟩
    refine SL.nil ?_
    have e1 : decide (((classRef m.path).1 : Int) = 1) = decide (cls m = 1) := dec_eq (by show _ ↔ (classRef m.path).1 = 1; omega)
    refine seqQ.nm ?_
    first | refine SC.ifp rfl (fun h46 => ?_) (fun h46 => ?_) | refine SC.ite rfl (fun h46 => ?_) (fun h46 => ?_)
    · skip
      refine SC.region ?_
      refine SL.val (OpV.move rfl) rfl ?_
      refine SL.val (OpV.move rfl) rfl ?_
      refine SL.val (OpV.move rfl) rfl ?_
      refine SL.val (OpV.indexAddr Tryz.underlying25 sz38 rfl rfl (by omega) (by omega)) rfl ?_
      refine SL.val (OpV.loads (cs := m.cells) _ Tryz.underlying38 rfl rfl sz38 (Kns.mem hmc)) rfl ?_
      refine SL.call ok32 rfl (L1 := [.row v 38 9 (out.flatMap Mb.cells)]) (List.Perm.refl _) (with_ev v out m _ hmok (show out.length < 268435456 by omega)) rfl ?_
      rintro v52 _ _ hM52 ⟨rfl, rfl⟩
      refine SL.val (OpV.assign rfl) rfl ?_
      refine SL.nil ?_
      refine blockQ.nm ?_
      refine seqQ.nm ?_
      refine SC.region ?_
      refine SL.val (OpV.move rfl) rfl ?_
      refine SL.val (OpV.add rfl rfl (IntWalk.i64_in _ (by omega))) rfl ?_
      refine SL.val (OpV.assign rfl) rfl ?_
      refine SL.nil ?_
      first
        | exact loopQ.nm (k + 1, v52, withM out m) (by dsimp only; omega) ⟨rfl, rfl, rfl, rfl, trivial⟩ (List.Perm.refl _) ⟨by dsimp only; omega, by rw [hst, plainStep, ← e1, if_pos h46], by dsimp only; omega, withM_ok hok hmok, rfl⟩
        | exact loopQ.nm (k + 1, v, out) (by dsimp only; omega) ⟨rfl, rfl, rfl, rfl, trivial⟩ (List.Perm.refl _) ⟨by dsimp only; omega, by rw [hst, plainStep, ← e1, if_neg (by rw [h46]; decide)], by dsimp only; omega, hok, rfl⟩
    · skip
      refine SC.skip ?_
      refine blockQ.nm ?_
      refine seqQ.nm ?_
      refine SC.region ?_
      refine SL.val (OpV.move rfl) rfl ?_
      refine SL.val (OpV.add rfl rfl (IntWalk.i64_in _ (by omega))) rfl ?_
      refine SL.val (OpV.assign rfl) rfl ?_
      refine SL.nil ?_
      first
        | exact loopQ.nm (k + 1, v52, withM out m) (by dsimp only; omega) ⟨rfl, rfl, rfl, rfl, trivial⟩ (List.Perm.refl _) ⟨by dsimp only; omega, by rw [hst, plainStep, ← e1, if_pos h46], by dsimp only; omega, withM_ok hok hmok, rfl⟩
        | exact loopQ.nm (k + 1, v, out) (by dsimp only; omega) ⟨rfl, rfl, rfl, rfl, trivial⟩ (List.Perm.refl _) ⟨by dsimp only; omega, by rw [hst, plainStep, ← e1, if_neg (by rw [h46]; decide)], by dsimp only; omega, hok, rfl⟩
  · skip
    have hke : k = lower.length := by omega
    rw [hke, List.take_length] at hout
    refine SC.exit ?_
    refine seqQ.e ?_
    refine loopQ.e ?_
    refine blockQ.e ?_
    refine seqQ.nm ?_
    refine SC.seq ?_
    refine SC.seq ?_
    refine SC.region ?_
    refine SL.val (OpV.assign rfl) rfl ?_
    refine SL.nil ?_
    refine seqQ.nm ?_
    refine SC.block ?_
    refine SC.loop (ι := Nat × Value × List Mb) (fun x M' => x.1 ≤ lower.length ∧ x.2.2 = (lower.take x.1).foldl whiteStep (lower.foldl (plainStep upper) upper) ∧ x.2.2.length ≤ upper.length + lower.length + x.1 ∧ (∀ y ∈ x.2.2, y.ok M) ∧ M = M') (fun x => [(0, .slice ad1 lower.length cap1), (1, .slice ad2 upper.length cap2), (5, x.2.1), (9, .int .i64 x.1)]) (fun x => [.row x.2.1 38 9 (x.2.2.flatMap Mb.cells)]) (fun x => lower.length - x.1) (0, v, out) (G := []) ⟨rfl, rfl, rfl, rfl, trivial⟩ (List.Perm.refl _) ⟨Nat.zero_le _, hout, by dsimp only; omega, hok, rfl⟩ ?_
    rintro ⟨k, v, out⟩ _ _ ⟨hk, hout, hlen, hok, rfl⟩
    dsimp only at hk hout hlen hok ⊢
    refine SC.rowV 0 rfl fun hrv => ?_
    have hrs : RSlM [.row v 38 9 (out.flatMap Mb.cells)] M v out := hrv.rsl (mbCells_len out) (by decide) 0 rfl
    obtain ⟨ad3, n3, cap3, rfl, hn3, hc3, hm3, hd3⟩ := hrv
    have hn3' : n3 = out.length := by rw [mbCells_len] at hn3; omega
    subst hn3'
    refine SC.seq ?_
    refine SC.seq ?_
    refine SC.region ?_
    refine SL.val (OpV.move rfl) rfl ?_
    refine SL.val (OpV.move rfl) rfl ?_
    refine SL.val (OpV.llen Tryz.underlying25 rfl) rfl ?_
    refine SL.val (OpV.lss rfl rfl) rfl ?_
    refine SL.nil ?_
    refine seqQ.nm ?_
    first | refine SC.ifp rfl (fun h56 => ?_) (fun h56 => ?_) | refine SC.ite rfl (fun h56 => ?_) (fun h56 => ?_)
    · skip
      have hlt : k < lower.length := by omega
      obtain ⟨g, o, cap', he, hc, _⟩ := hv1.at_ (by omega)
      cases he
      obtain ⟨m, hm⟩ := getElem?_lt hlt
      have hmok := hok1 m (List.mem_of_getElem? hm)
      have hmp : m.path.length ≤ 268435456 := hmok.path
      have hpp := parent_length m.path
      have hmc := mbCells_at hc hm
      have hst := foldl_take whiteStep (lower.foldl (plainStep upper) upper) lower k m hm
      rw [← hout] at hst
      have hwl := withM_len out m
      refine SC.skip ?_
      refine seqQ.nm ?_
      refine SC.seq ?_
      refine SC.block ?_
      refine SC.seq ?_
      refine SC.region ?_
      refine SL.val (OpV.move rfl) rfl ?_
      refine SL.val (OpV.move rfl) rfl ?_
      refine SL.val (OpV.indexAddr Tryz.underlying25 sz38 rfl rfl (by omega) (by omega)) rfl ?_
      refine SL.val (OpV.fld fa38_0 rfl) rfl ?_
      refine SL.val (OpV.load _ Tryz.underlying9 rfl rfl (Kn.mem (hmc 0 (str m.path) rfl))) rfl ?_
      refine SL.call ok29 rfl (L1 := []) (List.Perm.refl _) (rclass_ev m.path _ (by omega)) rfl ?_
      rintro _ _ _ hM65 ⟨rfl, rfl, rfl⟩
      refine SL.val (OpV.move rfl) rfl ?_
      refine SL.val (OpV.extract rfl rfl) rfl ?_
      refine SL.val (OpV.extract rfl rfl) rfl ?_
      refine SL.val (OpV.assign rfl) rfl ?_
      refine SL.val (OpV.assign rfl) rfl ?_
      refine SL.nil ?_
      refine seqQ.nm ?_
      refine SC.seq ?_
      refine SC.region ?_
      refine SL.val (OpV.move rfl) rfl ?_
      refine SL.val (OpV.move rfl) rfl ?_
      refine SL.val (OpV.indexAddr Tryz.underlying25 sz38 rfl rfl (by omega) (by omega)) rfl ?_
      refine SL.val (OpV.fld fa38_0 rfl) rfl ?_
      refine SL.val (OpV.load _ Tryz.underlying9 rfl rfl (Kn.mem (hmc 0 (str m.path) rfl))) rfl ?_
      refine SL.call ok33 rfl (L1 := []) (List.Perm.refl _) (parent_ev m.path _ (by omega)) rfl ?_
      rintro _ _ _ hM73 ⟨rfl, rfl, rfl⟩
      refine SL.val (OpV.assign rfl) rfl ?_
      refine SL.nil ?_
      refine seqQ.nm ?_
      refine SC.seq ?_
      refine SC.region ?_
      refine SL.val (OpV.move rfl) rfl ?_
      refine SL.val (OpV.move rfl) rfl ?_
      refine SL.call ok34 rfl (L1 := [.row (.slice ad3 out.length cap3) 38 9 (out.flatMap Mb.cells)]) (List.Perm.refl _) (has_ev _ out (parent m.path) _ _ hrs (show out.length ≤ 268435456 by omega)) rfl ?_
      rintro _ _ _ hM76 ⟨rfl, rfl, rfl⟩
      refine SL.val (OpV.assign rfl) rfl ?_
      refine SL.nil ?_
      refine seqQ.nm ?_
      refine SC.seq ?_
      refine SC.region ?_
      refine SL.val (OpV.move rfl) rfl ?_
      refine SL.val (OpV.neq rfl rfl) rfl ?_
      refine SL.val (OpV.move rfl) rfl ?_
      refine SL.andcut 16 (c := 79) (d := 95) rfl (fun h79 => ?_) ?_
      · skip
        refine SL.skip rfl rfl ?_
        refine SL.skip rfl rfl ?_
        refine SL.skip rfl rfl ?_
        refine SL.skip rfl rfl ?_
        refine SL.skip rfl rfl ?_
        refine SL.skip rfl rfl ?_
        refine SL.skip rfl rfl ?_
        refine SL.skip rfl rfl ?_
        refine SL.skip rfl rfl ?_
        refine SL.skip rfl rfl ?_
        refine SL.skip rfl rfl ?_
        refine SL.skip rfl rfl ?_
        refine SL.skip rfl rfl ?_
        refine SL.skip rfl rfl ?_
        refine SL.skip rfl rfl ?_
        refine SL.val (OpV.pickF rfl rfl) rfl ?_
        exact SL.nil ⟨rfl, rfl, (by repeat first | exact Env.le_refl _ | refine Env.le_new rfl ?_), [], List.Perm.refl _⟩
      apply Exists.intro
      refine And.intro (fun h79 => ?_) ?_
      · skip
        refine SL.gval rfl (OpV.move rfl) rfl ?_
        refine SL.gval rfl (OpV.seql rfl rfl) rfl ?_
        refine SL.gval rfl (OpV.move rfl) rfl ?_
        refine SL.orcut 12 (c := 82) (d := 94) rfl (fun h82 => ?_) ?_
        · skip
          refine SL.skip rfl rfl ?_
          refine SL.skip rfl rfl ?_
          refine SL.skip rfl rfl ?_
          refine SL.skip rfl rfl ?_
          refine SL.skip rfl rfl ?_
          refine SL.skip rfl rfl ?_
          refine SL.skip rfl rfl ?_
          refine SL.skip rfl rfl ?_
          refine SL.skip rfl rfl ?_
          refine SL.skip rfl rfl ?_
          refine SL.skip rfl rfl ?_
          refine SL.gval rfl (OpV.pickT rfl rfl) rfl ?_
          exact SL.nil ⟨rfl, rfl, (by repeat first | exact Env.le_refl _ | refine Env.le_new rfl ?_), [], List.Perm.refl _⟩
        apply Exists.intro
        refine And.intro (fun h82 => ?_) ?_
        · skip
          refine SL.gval rfl (OpV.move rfl) rfl ?_
          refine SL.gval rfl (OpV.geq rfl rfl) rfl ?_
          refine SL.gval rfl (OpV.move rfl) rfl ?_
          refine SL.andcut 8 (c := 85) (d := 93) rfl (fun h85 => ?_) ?_
          · skip
            refine SL.skip rfl rfl ?_
            refine SL.skip rfl rfl ?_
            refine SL.skip rfl rfl ?_
            refine SL.skip rfl rfl ?_
            refine SL.skip rfl rfl ?_
            refine SL.skip rfl rfl ?_
            refine SL.skip rfl rfl ?_
            refine SL.gval rfl (OpV.pickF rfl rfl) rfl ?_
            exact SL.nil ⟨rfl, rfl, (by repeat first | exact Env.le_refl _ | refine Env.le_new rfl ?_), [], List.Perm.refl _⟩
          apply Exists.intro
          refine And.intro (fun h85 => ?_) ?_
          · skip
            have hge : 0 ≤ hasP out (parent m.path) := by simpa using h85
            obtain ⟨x, hx, hxk⟩ := hasP_kind hge
            have hxl := (List.getElem?_eq_some_iff.1 hx).1
            obtain ⟨he3, hkn3⟩ := rsl_dest hrs (by omega)
            have hx9 := kns_at hkn3 hx
            have he3' : (Value.slice ad3 out.length cap3) = .slice (some ⟨(ad3.map (·.block)).getD 0, (ad3.map (·.off)).getD 0, none⟩) out.length cap3 := by rw [← he3]
            refine SL.gval rfl (show OpV _ _ _ _ _ (.slice (some ⟨(ad3.map (·.block)).getD 0, (ad3.map (·.off)).getD 0, none⟩) out.length cap3) by rw [← he3']; exact (OpV.move rfl)) rfl ?_
            refine SL.gval rfl (OpV.move rfl) rfl ?_
            refine SL.gval rfl (OpV.indexAddr Tryz.underlying25 sz38 rfl rfl (by omega) (by omega)) rfl ?_
            refine SL.gval rfl (OpV.fld fa38_1 rfl) rfl ?_
            refine SL.gval rfl (OpV.fld fa36_0 rfl) rfl ?_
            refine SL.gval rfl (OpV.load _ Tryz.underlying3 rfl rfl (hx9 1 (.int .i64 (kAt out (hasP out (parent m.path)).toNat)) (by simp [kAt, hx, Mb.cells]))) rfl ?_
            refine SL.gval rfl (OpV.eql rfl rfl) rfl ?_
            refine SL.gval rfl (OpV.pickT rfl rfl) rfl ?_
            exact SL.nil ⟨rfl, rfl, (by repeat first | exact Env.le_refl _ | refine Env.le_new rfl ?_), [], List.Perm.refl _⟩
          refine SL.gval rfl (OpV.pickF rfl rfl) rfl ?_
          exact SL.nil ⟨rfl, rfl, (by repeat first | exact Env.le_refl _ | refine Env.le_new rfl ?_), [], List.Perm.refl _⟩
        refine SL.val (OpV.pickT rfl rfl) rfl ?_
        exact SL.nil ⟨rfl, rfl, (by repeat first | exact Env.le_refl _ | refine Env.le_new rfl ?_), [], List.Perm.refl _⟩
      refine SL.nil ?_
      have e1 : (decide (((classRef m.path).1 : Int) ≠ 1) && (decide (parent m.path = []) || (decide (0 ≤ hasP out (parent m.path)) && decide (kAt out (hasP out (parent m.path)).toNat = 1)))) = (decide (cls m ≠ 1) && (decide (parent m.path = []) || decide (kindOf out (parent m.path) = 1))) := by
        rw [hasP_dec]
        congr 1
        exact dec_eq (by show _ ↔ (classRef m.path).1 ≠ 1; omega)
      refine seqQ.nm ?_
      first | refine SC.ifp rfl (fun h95 => ?_) (fun h95 => ?_) | refine SC.ite rfl (fun h95 => ?_) (fun h95 => ?_)
      · skip
        refine SC.region ?_
        refine SL.val (OpV.move rfl) rfl ?_
        refine SL.val (OpV.move rfl) rfl ?_
        refine SL.val (OpV.move rfl) rfl ?_
        refine SL.val (OpV.indexAddr Tryz.underlying25 sz38 rfl rfl (by omega) (by omega)) rfl ?_
        refine SL.val (OpV.loads (cs := m.cells) _ Tryz.underlying38 rfl rfl sz38 (Kns.mem hmc)) rfl ?_
        refine SL.call ok32 rfl (L1 := [.row (.slice ad3 out.length cap3) 38 9 (out.flatMap Mb.cells)]) (List.Perm.refl _) (with_ev _ out m _ hmok (show out.length < 268435456 by omega)) rfl ?_
        rintro v101 _ _ hM101 ⟨rfl, rfl⟩
        refine SL.val (OpV.assign rfl) rfl ?_
        refine SL.nil ?_
        refine blockQ.nm ?_
        refine seqQ.nm ?_
        refine SC.region ?_
        refine SL.val (OpV.move rfl) rfl ?_
        refine SL.val (OpV.add rfl rfl (IntWalk.i64_in _ (by omega))) rfl ?_
        refine SL.val (OpV.assign rfl) rfl ?_
        refine SL.nil ?_
        first
          | exact loopQ.nm (k + 1, v101, withM out m) (by dsimp only; omega) ⟨rfl, rfl, rfl, rfl, trivial⟩ (List.Perm.refl _) ⟨by dsimp only; omega, by rw [hst, whiteStep, ← e1, if_pos h95], by dsimp only; omega, withM_ok hok hmok, rfl⟩
          | exact loopQ.nm (k + 1, .slice ad3 out.length cap3, out) (by dsimp only; omega) ⟨rfl, rfl, rfl, rfl, trivial⟩ (List.Perm.refl _) ⟨by dsimp only; omega, by rw [hst, whiteStep, ← e1, if_neg (by rw [h95]; decide)], by dsimp only; omega, hok, rfl⟩
      · skip
        refine SC.skip ?_
        refine blockQ.nm ?_
        refine seqQ.nm ?_
        refine SC.region ?_
        refine SL.val (OpV.move rfl) rfl ?_
        refine SL.val (OpV.add rfl rfl (IntWalk.i64_in _ (by omega))) rfl ?_
        refine SL.val (OpV.assign rfl) rfl ?_
        refine SL.nil ?_
        first
          | exact loopQ.nm (k + 1, v101, withM out m) (by dsimp only; omega) ⟨rfl, rfl, rfl, rfl, trivial⟩ (List.Perm.refl _) ⟨by dsimp only; omega, by rw [hst, whiteStep, ← e1, if_pos h95], by dsimp only; omega, withM_ok hok hmok, rfl⟩
          | exact loopQ.nm (k + 1, .slice ad3 out.length cap3, out) (by dsimp only; omega) ⟨rfl, rfl, rfl, rfl, trivial⟩ (List.Perm.refl _) ⟨by dsimp only; omega, by rw [hst, whiteStep, ← e1, if_neg (by rw [h95]; decide)], by dsimp only; omega, hok, rfl⟩
    · skip
      have hke2 : k = lower.length := by omega
      rw [hke2, List.take_length] at hout
      refine SC.exit ?_
      refine seqQ.e ?_
      refine loopQ.e ?_
      refine blockQ.e ?_
      refine seqQ.nm ?_
      refine SC.seq ?_
      refine SC.seq ?_
      refine SC.region ?_
      refine SL.val (OpV.assign rfl) rfl ?_
      refine SL.nil ?_
      refine seqQ.nm ?_
      refine SC.block ?_
      refine SC.loop (ι := Nat × Value × List Mb) (fun x M' => x.1 ≤ lower.length ∧ x.2.2 = (lower.take x.1).foldl (overStep upper) (lower.foldl whiteStep (lower.foldl (plainStep upper) upper)) ∧ x.2.2.length ≤ upper.length + lower.length + lower.length + x.1 ∧ (∀ y ∈ x.2.2, y.ok M) ∧ M = M') (fun x => [(0, .slice ad1 lower.length cap1), (1, .slice ad2 upper.length cap2), (5, x.2.1), (14, .int .i64 x.1)]) (fun x => [.row x.2.1 38 9 (x.2.2.flatMap Mb.cells)]) (fun x => lower.length - x.1) (0, .slice ad3 out.length cap3, out) (G := []) ⟨rfl, rfl, rfl, rfl, trivial⟩ (List.Perm.refl _) ⟨Nat.zero_le _, hout, by dsimp only; omega, hok, rfl⟩ ?_
      rintro ⟨k, v, out⟩ _ _ ⟨hk, hout, hlen, hok, rfl⟩
      dsimp only at hk hout hlen hok ⊢
      refine SC.seq ?_
      refine SC.seq ?_
      refine SC.region ?_
      refine SL.val (OpV.move rfl) rfl ?_
      refine SL.val (OpV.move rfl) rfl ?_
      refine SL.val (OpV.llen Tryz.underlying25 rfl) rfl ?_
      refine SL.val (OpV.lss rfl rfl) rfl ?_
      refine SL.nil ?_
      refine seqQ.nm ?_
      first | refine SC.ifp rfl (fun h105 => ?_) (fun h105 => ?_) | refine SC.ite rfl (fun h105 => ?_) (fun h105 => ?_)
      · skip
        have hlt : k < lower.length := by omega
        obtain ⟨g, o, cap', he, hc, _⟩ := hv1.at_ (by omega)
        cases he
        obtain ⟨m, hm⟩ := getElem?_lt hlt
        have hmok := hok1 m (List.mem_of_getElem? hm)
        have hmp : m.path.length ≤ 268435456 := hmok.path
        have hmc := mbCells_at hc hm
        have hst := foldl_take (overStep upper) (lower.foldl whiteStep (lower.foldl (plainStep upper) upper)) lower k m hm
        rw [← hout] at hst
        have hwl := withM_len out (whiteMb m.path)
        refine SC.skip ?_
        refine seqQ.nm ?_
        refine SC.seq ?_
        refine SC.block ?_
        refine SC.seq ?_
        refine SC.region ?_
        refine SL.val (OpV.move rfl) rfl ?_
        refine SL.val (OpV.move rfl) rfl ?_
        refine SL.val (OpV.indexAddr Tryz.underlying25 sz38 rfl rfl (by omega) (by omega)) rfl ?_
        refine SL.val (OpV.fld fa38_0 rfl) rfl ?_
        refine SL.val (OpV.load _ Tryz.underlying9 rfl rfl (Kn.mem (hmc 0 (str m.path) rfl))) rfl ?_
        refine SL.call ok29 rfl (L1 := []) (List.Perm.refl _) (rclass_ev m.path _ (by omega)) rfl ?_
        rintro _ _ _ hM114 ⟨rfl, rfl, rfl⟩
        refine SL.val (OpV.move rfl) rfl ?_
        refine SL.val (OpV.extract rfl rfl) rfl ?_
        refine SL.val (OpV.extract rfl rfl) rfl ?_
        refine SL.val (OpV.assign rfl) rfl ?_
        refine SL.val (OpV.assign rfl) rfl ?_
        refine SL.nil ?_
        refine seqQ.nm ?_
        refine SC.seq ?_
        refine SC.region ?_
        refine SL.val (OpV.move rfl) rfl ?_
        refine SL.val (OpV.move rfl) rfl ?_
        refine SL.val (OpV.move rfl) rfl ?_
        refine SL.val (OpV.indexAddr Tryz.underlying25 sz38 rfl rfl (by omega) (by omega)) rfl ?_
        refine SL.val (OpV.fld fa38_0 rfl) rfl ?_
        refine SL.val (OpV.load _ Tryz.underlying9 rfl rfl (Kn.mem (hmc 0 (str m.path) rfl))) rfl ?_
        refine SL.call ok34 rfl (L1 := []) (List.Perm.refl _) (has_ev _ upper m.path [] _ hv2.rsl (show upper.length ≤ 268435456 by omega)) rfl ?_
        rintro _ _ _ hM123 ⟨rfl, rfl, rfl⟩
        refine SL.val (OpV.assign rfl) rfl ?_
        refine SL.nil ?_
        refine seqQ.nm ?_
        refine SC.seq ?_
        refine SC.region ?_
        refine SL.val (OpV.move rfl) rfl ?_
        refine SL.val (OpV.eql rfl rfl) rfl ?_
        refine SL.val (OpV.move rfl) rfl ?_
        refine SL.andcut 8 (c := 126) (d := 134) rfl (fun h126 => ?_) ?_
        · skip
          refine SL.skip rfl rfl ?_
          refine SL.skip rfl rfl ?_
          refine SL.skip rfl rfl ?_
          refine SL.skip rfl rfl ?_
          refine SL.skip rfl rfl ?_
          refine SL.skip rfl rfl ?_
          refine SL.skip rfl rfl ?_
          refine SL.val (OpV.pickF rfl rfl) rfl ?_
          exact SL.nil ⟨rfl, rfl, (by repeat first | exact Env.le_refl _ | refine Env.le_new rfl ?_), [], List.Perm.refl _⟩
        apply Exists.intro
        refine And.intro (fun h126 => ?_) ?_
        · skip
          refine SL.gval rfl (OpV.move rfl) rfl ?_
          refine SL.gval rfl (OpV.move rfl) rfl ?_
          refine SL.gval rfl (OpV.indexAddr Tryz.underlying25 sz38 rfl rfl (by omega) (by omega)) rfl ?_
          refine SL.gval rfl (OpV.fld fa38_1 rfl) rfl ?_
          refine SL.gval rfl (OpV.fld fa36_0 rfl) rfl ?_
          refine SL.gval rfl (OpV.load _ Tryz.underlying3 rfl rfl (Kn.mem (hmc 1 (.int .i64 m.kind) rfl))) rfl ?_
          refine SL.gval rfl (OpV.neq rfl rfl) rfl ?_
          refine SL.val (OpV.pickT rfl rfl) rfl ?_
          exact SL.nil ⟨rfl, rfl, (by repeat first | exact Env.le_refl _ | refine Env.le_new rfl ?_), [], List.Perm.refl _⟩
        refine SL.val (OpV.move rfl) rfl ?_
        refine SL.andcut 3 (c := 135) (d := 138) rfl (fun h135 => ?_) ?_
        · skip
          refine SL.skip rfl rfl ?_
          refine SL.skip rfl rfl ?_
          refine SL.val (OpV.pickF rfl rfl) rfl ?_
          exact SL.nil ⟨rfl, rfl, (by repeat first | exact Env.le_refl _ | refine Env.le_new rfl ?_), [], List.Perm.refl _⟩
        apply Exists.intro
        refine And.intro (fun h135 => ?_) ?_
        · skip
          refine SL.gval rfl (OpV.move rfl) rfl ?_
          refine SL.gval rfl (OpV.geq rfl rfl) rfl ?_
          refine SL.val (OpV.pickT rfl rfl) rfl ?_
          exact SL.nil ⟨rfl, rfl, (by repeat first | exact Env.le_refl _ | refine Env.le_new rfl ?_), [], List.Perm.refl _⟩
        refine SL.val (OpV.move rfl) rfl ?_
        refine SL.andcut 8 (c := 139) (d := 147) rfl (fun h139 => ?_) ?_
        · skip
          refine SL.skip rfl rfl ?_
          refine SL.skip rfl rfl ?_
          refine SL.skip rfl rfl ?_
          refine SL.skip rfl rfl ?_
          refine SL.skip rfl rfl ?_
          refine SL.skip rfl rfl ?_
          refine SL.skip rfl rfl ?_
          refine SL.val (OpV.pickF rfl rfl) rfl ?_
          exact SL.nil ⟨rfl, rfl, (by repeat first | exact Env.le_refl _ | refine Env.le_new rfl ?_), [], List.Perm.refl _⟩
        apply Exists.intro
        refine And.intro (fun h139 => ?_) ?_
        · skip
          have hge : 0 ≤ hasP upper m.path := by
            simp only [Bool.and_eq_true, decide_eq_true_eq] at h139; exact h139.2
          obtain ⟨x, hx, hxk⟩ := hasP_kind hge
          have hxl := (List.getElem?_eq_some_iff.1 hx).1
          obtain ⟨he3, hkn3⟩ := isl_dest hv2 (by omega)
          have hx9 := mbCells_at hkn3 hx
          have he3' : (Value.slice ad2 upper.length cap2) = .slice (some ⟨(ad2.map (·.block)).getD 0, (ad2.map (·.off)).getD 0, none⟩) upper.length cap2 := by rw [← he3]
          refine SL.gval rfl (show OpV _ _ _ _ _ (.slice (some ⟨(ad2.map (·.block)).getD 0, (ad2.map (·.off)).getD 0, none⟩) upper.length cap2) by rw [← he3']; exact (OpV.move rfl)) rfl ?_
          refine SL.gval rfl (OpV.move rfl) rfl ?_
          refine SL.gval rfl (OpV.indexAddr Tryz.underlying25 sz38 rfl rfl (by omega) (by omega)) rfl ?_
          refine SL.gval rfl (OpV.fld fa38_1 rfl) rfl ?_
          refine SL.gval rfl (OpV.fld fa36_0 rfl) rfl ?_
          refine SL.gval rfl (OpV.load _ Tryz.underlying3 rfl rfl (Kn.mem (hx9 1 (.int .i64 (kAt upper (hasP upper m.path).toNat)) (by simp [kAt, hx, Mb.cells])))) rfl ?_
          refine SL.gval rfl (OpV.eql rfl rfl) rfl ?_
          refine SL.val (OpV.pickT rfl rfl) rfl ?_
          exact SL.nil ⟨rfl, rfl, (by repeat first | exact Env.le_refl _ | refine Env.le_new rfl ?_), [], List.Perm.refl _⟩
        refine SL.nil ?_
        have e1 : (decide (((classRef m.path).1 : Int) = 1) && decide (m.kind ≠ 1) && decide (0 ≤ hasP upper m.path) && decide (kAt upper (hasP upper m.path).toNat = 1)) = (decide (cls m = 1) && decide (m.kind ≠ 1) && decide (kindOf upper m.path = 1)) := by
          rw [← hasP_dec, Bool.and_assoc (decide (((classRef m.path).1 : Int) = 1) && decide (m.kind ≠ 1))]
          congr 2
          exact dec_eq (by show _ ↔ (classRef m.path).1 = 1; omega)
        refine seqQ.nm ?_
        first | refine SC.ifp rfl (fun h147 => ?_) (fun h147 => ?_) | refine SC.ite rfl (fun h147 => ?_) (fun h147 => ?_)
        · skip
          refine SC.region ?_
          refine SL.val (OpV.move rfl) rfl ?_
          refine SL.val (OpV.move rfl) rfl ?_
          refine SL.val (OpV.move rfl) rfl ?_
          refine SL.val (OpV.indexAddr Tryz.underlying25 sz38 rfl rfl (by omega) (by omega)) rfl ?_
          refine SL.val (OpV.fld fa38_0 rfl) rfl ?_
          refine SL.val (OpV.load _ Tryz.underlying9 rfl rfl (Kn.mem (hmc 0 (str m.path) rfl))) rfl ?_
          refine SL.call ok35 rfl (L1 := []) (List.Perm.refl _) (rwhiteout_ev m.path _ (by omega)) rfl ?_
          rintro _ _ _ hM154 ⟨rfl, rfl, rfl⟩
          refine SL.val (show OpV _ _ _ _ _ (.agg ((whiteMb m.path).node.toArray)) from OpV.bld bl36 rfl rfl) rfl ?_
          refine SL.val (show OpV _ _ _ _ _ (.agg ((whiteMb m.path).cells.toArray)) from OpV.bld bl38 rfl rfl) rfl ?_
          refine SL.call ok32 rfl (L1 := [.row v 38 9 (out.flatMap Mb.cells)]) (List.Perm.refl _) (with_ev v out (whiteMb m.path) _ (whiteMb_ok _ _) (show out.length < 268435456 by omega)) rfl ?_
          rintro v157 _ _ hM157 ⟨rfl, rfl⟩
          refine SL.val (OpV.assign rfl) rfl ?_
          refine SL.nil ?_
          refine blockQ.nm ?_
          refine seqQ.nm ?_
          refine SC.region ?_
          refine SL.val (OpV.move rfl) rfl ?_
          refine SL.val (OpV.add rfl rfl (IntWalk.i64_in _ (by omega))) rfl ?_
          refine SL.val (OpV.assign rfl) rfl ?_
          refine SL.nil ?_
          first
            | exact loopQ.nm (k + 1, v157, withM out (whiteMb m.path)) (by dsimp only; omega) ⟨rfl, rfl, rfl, rfl, trivial⟩ (List.Perm.refl _) ⟨by dsimp only; omega, by rw [hst, overStep, ← e1, if_pos h147], by dsimp only; omega, withM_ok hok (whiteMb_ok _ _), rfl⟩
            | exact loopQ.nm (k + 1, v, out) (by dsimp only; omega) ⟨rfl, rfl, rfl, rfl, trivial⟩ (List.Perm.refl _) ⟨by dsimp only; omega, by rw [hst, overStep, ← e1, if_neg (by rw [h147]; decide)], by dsimp only; omega, hok, rfl⟩
        · skip
          refine SC.skip ?_
          refine blockQ.nm ?_
          refine seqQ.nm ?_
          refine SC.region ?_
          refine SL.val (OpV.move rfl) rfl ?_
          refine SL.val (OpV.add rfl rfl (IntWalk.i64_in _ (by omega))) rfl ?_
          refine SL.val (OpV.assign rfl) rfl ?_
          refine SL.nil ?_
          first
            | exact loopQ.nm (k + 1, v157, withM out (whiteMb m.path)) (by dsimp only; omega) ⟨rfl, rfl, rfl, rfl, trivial⟩ (List.Perm.refl _) ⟨by dsimp only; omega, by rw [hst, overStep, ← e1, if_pos h147], by dsimp only; omega, withM_ok hok (whiteMb_ok _ _), rfl⟩
            | exact loopQ.nm (k + 1, v, out) (by dsimp only; omega) ⟨rfl, rfl, rfl, rfl, trivial⟩ (List.Perm.refl _) ⟨by dsimp only; omega, by rw [hst, overStep, ← e1, if_neg (by rw [h147]; decide)], by dsimp only; omega, hok, rfl⟩
      · skip
        have hke3 : k = lower.length := by omega
        rw [hke3, List.take_length] at hout
        refine SC.rowV 0 rfl fun hrv => ?_
        have hrs2 : RSlM [.row v 38 9 (out.flatMap Mb.cells)] M v out := hrv.rsl (mbCells_len out) (by decide) 0 rfl
        refine SC.exit ?_
        refine seqQ.e ?_
        refine loopQ.e ?_
        refine blockQ.e ?_
        refine seqQ.nm ?_
        refine SC.seq ?_
        refine SC.region ?_
        refine SL.val (OpV.move rfl) rfl ?_
        refine SL.call ok36 rfl (L1 := [.row v 38 9 (out.flatMap Mb.cells)]) (List.Perm.refl _) (rsorted_ev v out _ _ hrs2 hok (show out.length < 268435456 by omega)) rfl ?_
        rintro v159 _ _ hM159 ⟨ys, rfl, hys, hasc, rfl⟩
        refine SL.drop 1 rfl ?_
        refine SL.val (OpV.assign rfl) rfl ?_
        refine SL.nil ?_
        refine seqQ.nm ?_
        refine SC.ret ?_
        refine retQ.one rfl (.tmp rfl) ?_ _ (.inr rfl)
        exact ⟨ys, rfl, by rw [twoAcc, ← hout]; exact hys, hasc, fun y hy => hok y (hys.mem_iff.1 hy), rfl⟩
end Go.Proofs.YtceabkfmjffnhaaGreatDoor
set_option linter.unusedVariables false
set_option linter.unusedSimpArgs false
namespace Go.Proofs.YtceabkfmjffnhaaGreatDoor
open Go Go.Eng

/-- Sets in fixed memory: the values, and what they hold. -/
structure SetsOk (M : Mem) (v : Value) (vs : List Value) (ss : List (List Mb)) : Prop where
  outer : ISl M v 1 vs.length vs
  same : vs.length = ss.length
  each : ∀ (k : Nat) u ms, vs[k]? = some u → ss[k]? = some ms → SlM M u ms ∧ (∀ m ∈ ms, m.ok M) ∧ ms.length ≤ 16777216
  few : ss.length ≤ 1048576
def setErr (ss : List (List Mb)) : Nat → Nat
  | 0 => 0
  | k + 1 => if setErr ss k ≠ 0 then setErr ss k else match ss[k]? with
    | some ms => maySet (cores ms)
    | none => 0
theorem setErr_stay {ss : List (List Mb)} {k : Nat} (h : setErr ss k ≠ 0) : ∀ d, setErr ss (k + d) = setErr ss k
  | 0 => rfl
  | d + 1 => by
    have ih := setErr_stay h d
    show (if setErr ss (k + d) ≠ 0 then setErr ss (k + d) else _) = _
    rw [if_pos (by rw [ih]; exact h), ih]
theorem setErr_succ {ss : List (List Mb)} {k : Nat} {ms : List Mb} (h0 : setErr ss k = 0) (hm : ss[k]? = some ms) : setErr ss (k + 1) = maySet (cores ms) := by
  simp [setErr, h0, hm]
/-- The first k sets come to this. -/
def Mrg (ss : List (List Mb)) : Nat → List Mb → Prop
  | 0, out => out = []
  | 1, out => ss[0]? = some out
  | k + 2, out => ∃ prev u, Mrg ss (k + 1) prev ∧ (k = 0 ∨ prev.length ≤ 4096) ∧ ss[k + 1]? = some u ∧ out.Perm (twoAcc prev u) ∧ Asc out
/-- What a merge hands back. -/
def MergeOut (M : Mem) (ss : List (List Mb)) (v : Value) : Prop :=
  (setErr ss ss.length ≠ 0 ∧ v = .tuple #[.slice none 0 0, .int .i64 (setErr ss ss.length)]) ∨
  (setErr ss ss.length = 0 ∧ ((∃ k out, 2 ≤ k ∧ k ≤ ss.length ∧ Mrg ss k out ∧ 4096 < out.length ∧ v = .tuple #[.slice none 0 0, .int .i64 42]) ∨
    ∃ out u, Mrg ss ss.length out ∧ (ss.length ≤ 1 ∨ out.length ≤ 4096) ∧ v = .tuple #[u, .int .i64 0] ∧ SlM M u out ∧ ∀ m ∈ out, m.ok M))
theorem MergeOut.mono {M M' : Mem} {ss : List (List Mb)} {v : Value} (h : MergeOut M ss v) (hm : M.le M') : MergeOut M' ss v := by
  rcases h with h | ⟨h0, h | ⟨out, u, h1, h2, h3, h4, h5⟩⟩
  · exact .inl h
  · exact .inr ⟨h0, .inl h⟩
  · exact .inr ⟨h0, .inr ⟨out, u, h1, h2, h3, h4.mono hm, fun m hm' => (h5 m hm').mono hm⟩⟩
theorem nil_isl (M : Mem) (sz : Nat) : ISl M (.slice none 0 0) sz 0 [] := ⟨none, 0, rfl, by simp, Nat.le_refl _, Nat.zero_le _, .inl rfl⟩

theorem rmerge_ev (v : Value) (vs : List Value) (ss : List (List Mb)) (M : Mem) (hs : SetsOk M v vs ss) :
    Ev Tryz.prog 6 [v].toArray [] M fun v' L' M' => L' = [] ∧ MergeOut M' ss v' := by
  refine Ev.laxR ?_
  obtain ⟨ad, cap, rfl, hcap, hmax⟩ := hs.outer.len
  have hsame := hs.same
  have hfew := hs.few
  refine Ev.enter Tryz.func6 rfl Tryz.ntmps6 rfl ?_
  refine SC.seq ?_
  refine SC.region ?_
  refine SL.val (OpV.assign rfl) rfl ?_
  refine SL.val (OpV.assign rfl) rfl ?_
  refine SL.nil ?_
  refine seqQ.nm ?_
  refine SC.seq ?_
  refine SC.region ?_
  refine SL.val (OpV.assign rfl) rfl ?_
  refine SL.nil ?_
  refine seqQ.nm ?_
  refine SC.seq ?_
  refine SC.seq ?_
  refine SC.region ?_
  refine SL.val (OpV.assign rfl) rfl ?_
  refine SL.nil ?_
  refine seqQ.nm ?_
  refine SC.block ?_
  refine SC.loop (ι := Nat) (fun k M' => k ≤ ss.length ∧ setErr ss k = 0 ∧ M = M') (fun k => [(0, .slice ad vs.length cap), (4, .slice none 0 0), (5, .int .i64 k)]) (fun _ => []) (fun k => ss.length - k) 0 (G := []) ⟨rfl, rfl, rfl, trivial⟩ (List.Perm.refl _) ⟨Nat.zero_le _, rfl, rfl⟩ ?_
  rintro k _ _ ⟨hk, herr, rfl⟩
  refine SC.seq ?_
  refine SC.seq ?_
  refine SC.region ?_
  refine SL.val (OpV.move rfl) rfl ?_
  refine SL.val (OpV.move rfl) rfl ?_
  refine SL.val (OpV.llen Tryz.underlying23 rfl) rfl ?_
  refine SL.val (OpV.lss rfl rfl) rfl ?_
  refine SL.nil ?_
  refine seqQ.nm ?_
  first | refine SC.ifp rfl (fun h11 => ?_) (fun h11 => ?_) | refine SC.ite rfl (fun h11 => ?_) (fun h11 => ?_)
  · skip
    have hlt : k < ss.length := by omega
    obtain ⟨g, o, cap', he, hc, _⟩ := hs.outer.at_ (by omega)
    cases he
    obtain ⟨ms, hms⟩ := getElem?_lt hlt
    obtain ⟨u, hu⟩ := getElem?_lt (l := vs) (k := k) (by omega)
    obtain ⟨hsl, hok, hml⟩ := hs.each k u ms hu hms
    refine SC.skip ?_
    refine seqQ.nm ?_
    refine SC.seq ?_
    refine SC.block ?_
    refine SC.seq ?_
    refine SC.region ?_
    refine SL.val (OpV.move rfl) rfl ?_
    refine SL.val (OpV.move rfl) rfl ?_
    refine SL.val (OpV.indexAddr1 Tryz.underlying23 sz25 rfl rfl (by omega) (by omega)) rfl ?_
    refine SL.val (OpV.load _ Tryz.underlying25 rfl rfl (Kn.mem (hc.at_ k hu))) rfl ?_
    refine SL.call ok14 rfl (L1 := []) (List.Perm.refl _) (rcmay_ev u ms _ hsl hok (show ms.length ≤ 268435456 by omega)) rfl ?_
    rintro _ _ _ hM18 ⟨rfl, rfl, rfl⟩
    refine SL.val (OpV.assign rfl) rfl ?_
    refine SL.nil ?_
    refine seqQ.nm ?_
    refine SC.seq ?_
    refine SC.region ?_
    refine SL.val (OpV.move rfl) rfl ?_
    refine SL.val (OpV.neq rfl rfl) rfl ?_
    refine SL.nil ?_
    refine seqQ.nm ?_
    first | refine SC.ifp rfl (fun h20 => ?_) (fun h20 => ?_) | refine SC.ite rfl (fun h20 => ?_) (fun h20 => ?_)
    · skip
      have hbad : setErr ss ss.length = maySet (cores ms) := by
        have h1 := setErr_succ herr hms
        have h2 := setErr_stay (ss := ss) (k := k + 1) (by rw [h1]; intro e; apply h20; rw [e]; rfl) (ss.length - (k + 1))
        rw [show k + 1 + (ss.length - (k + 1)) = ss.length by omega, h1] at h2
        exact h2
      refine SC.seq ?_
      refine SC.region ?_
      refine SL.val (OpV.move rfl) rfl ?_
      refine SL.val (OpV.assign rfl) rfl ?_
      refine SL.val (OpV.assign rfl) rfl ?_
      refine SL.nil ?_
      refine seqQ.nm ?_
      refine SC.ret ?_
      refine blockQ.r ?_
      refine seqQ.r ?_
      refine loopQ.r ?_
      refine blockQ.r ?_
      refine seqQ.r ?_
      refine retQ.two rfl (.tmp rfl) (.tmp rfl) ?_ _ (.inr rfl)
      exact .inl ⟨by rw [hbad]; intro e; apply h20; rw [e]; rfl, by rw [hbad]⟩
    · skip
      refine SC.skip ?_
      refine blockQ.nm ?_
      refine seqQ.nm ?_
      refine SC.region ?_
      refine SL.val (OpV.move rfl) rfl ?_
      refine SL.val (OpV.add rfl rfl (IntWalk.i64_in _ (by omega))) rfl ?_
      refine SL.val (OpV.assign rfl) rfl ?_
      refine SL.nil ?_
      refine loopQ.nm (k + 1) (by omega) ⟨rfl, rfl, rfl, trivial⟩ (List.Perm.refl _) ⟨by omega, ?_, rfl⟩
      rw [setErr_succ herr hms]
      have : (maySet (cores ms) : Int) = 0 := by simpa using h20
      omega
  · skip
    have hke : k = ss.length := by omega
    rw [hke] at herr
    refine SC.exit ?_
    refine seqQ.e ?_
    refine loopQ.e ?_
    refine blockQ.e ?_
    refine seqQ.nm ?_
    refine SC.seq ?_
    refine SC.seq ?_
    refine SC.region ?_
    refine SL.val (OpV.assign rfl) rfl ?_
    refine SL.nil ?_
    refine seqQ.nm ?_
    refine SC.block ?_
    refine SC.loop (ι := Nat × Value × List Mb) (fun x M' => x.1 ≤ ss.length ∧ Mrg ss x.1 x.2.2 ∧ (x.1 ≤ 1 ∨ x.2.2.length ≤ 4096) ∧ x.2.2.length ≤ 16777216 ∧ SlM M' x.2.1 x.2.2 ∧ (∀ m ∈ x.2.2, m.ok M') ∧ (x.1 = 0 → x.2.1 = .slice none 0 0) ∧ M.le M') (fun x => [(0, .slice ad vs.length cap), (4, x.2.1), (7, .int .i64 x.1)]) (fun _ => []) (fun x => ss.length - x.1) (0, .slice none 0 0, []) (G := []) ⟨rfl, rfl, rfl, trivial⟩ (List.Perm.refl _) ⟨Nat.zero_le _, rfl, .inl (Nat.zero_le _), Nat.zero_le _, nil_isl _ _, (fun m hm => by cases hm), fun _ => rfl, Mem.le_refl _⟩ ?_
    rintro ⟨q, w, out⟩ M1 hM1 ⟨hq, hmrg, hlim, hol, hsl, hok, hnil, hMM⟩
    dsimp only at hq hmrg hlim hol hsl hok hnil ⊢
    refine SC.seq ?_
    refine SC.seq ?_
    refine SC.region ?_
    refine SL.val (OpV.move rfl) rfl ?_
    refine SL.val (OpV.move rfl) rfl ?_
    refine SL.val (OpV.llen Tryz.underlying23 rfl) rfl ?_
    refine SL.val (OpV.lss rfl rfl) rfl ?_
    refine SL.nil ?_
    refine seqQ.nm ?_
    first | refine SC.ifp rfl (fun h25 => ?_) (fun h25 => ?_) | refine SC.ite rfl (fun h25 => ?_) (fun h25 => ?_)
    · skip
      have hlt : q < ss.length := by omega
      obtain ⟨g, o, cap', he, hc, _⟩ := hs.outer.at_ (by omega)
      cases he
      obtain ⟨ms, hms⟩ := getElem?_lt hlt
      obtain ⟨u, hu⟩ := getElem?_lt (l := vs) (k := q) (by omega)
      obtain ⟨hsl2, hok2, hml⟩ := hs.each q u ms hu hms
      replace hc := hc.mono hMM
      replace hsl2 := hsl2.mono hMM
      replace hok2 : ∀ m ∈ ms, m.ok M1 := fun m hm => (hok2 m hm).mono hMM
      refine SC.skip ?_
      refine seqQ.nm ?_
      refine SC.seq ?_
      refine SC.block ?_
      refine SC.seq ?_
      refine SC.seq ?_
      refine SC.region ?_
      refine SL.val (OpV.move rfl) rfl ?_
      refine SL.val (OpV.eql rfl rfl) rfl ?_
      refine SL.nil ?_
      refine seqQ.nm ?_
      first | refine SC.ifp rfl (fun h29 => ?_) (fun h29 => ?_) | refine SC.ite rfl (fun h29 => ?_) (fun h29 => ?_)
      · skip
        have hq0 : q = 0 := by omega
        subst hq0
        obtain rfl := hnil rfl
        refine SC.nilrow 38 9 ?_
        refine SC.seq ?_
        refine SC.region ?_
        refine SL.val (OpV.move rfl) rfl ?_
        refine SL.val (OpV.move rfl) rfl ?_
        refine SL.val (OpV.indexAddr1 Tryz.underlying23 sz25 rfl rfl (by omega) (by omega)) rfl ?_
        refine SL.val (OpV.load _ Tryz.underlying25 rfl rfl (Kn.mem (hc.at_ 0 hu))) rfl ?_
        refine SL.act (OpH.append 0 rfl Tryz.underlying25 Tryz.underlying25 rfl ti38 rfl (by decide) (by decide) rfl rfl (Src.isl hsl2) (by
        intro x hx
        obtain ⟨m, hm, hx⟩ := List.mem_flatMap.1 hx
        exact ones_mem (hok2 m hm) x hx) (by rw [mbCells_len]; simp; omega)) rfl ?_; rintro v34 _ _ hM34 ⟨rfl, rfl, hn34⟩; clear hM34
        refine SL.fixRow (m := ms.length) (xs := ms.flatMap Mb.cells) 0 rfl (mbCells_len ms) (by decide) ?_
        intro M2 hM2 hisl
        refine SL.val (OpV.assign rfl) rfl ?_
        refine SL.nil ?_
        refine seqQ.nm ?_
        refine SC.exit ?_
        refine seqQ.e ?_
        refine blockQ.e ?_
        refine seqQ.nm ?_
        refine SC.region ?_
        refine SL.val (OpV.move rfl) rfl ?_
        refine SL.val (OpV.add rfl rfl (IntWalk.i64_in _ (by omega))) rfl ?_
        refine SL.val (OpV.assign rfl) rfl ?_
        refine SL.nil ?_
        first
          | exact loopQ.nm (1, v34, ms) (by dsimp only; omega) ⟨rfl, rfl, rfl, trivial⟩ (List.Perm.refl _) ⟨by dsimp only; omega, hms, .inl (Nat.le_refl _), hml, hisl, fun m hm => (hok2 m hm).mono hM2, (fun h => by cases h), Mem.le_trans hMM hM2⟩
          | exact loopQ.nm (q' + 2, .slice ad8 ys.length cap8, ys) (by dsimp only; omega) ⟨rfl, rfl, by show some _ = some _; congr 2, trivial⟩ (List.Perm.refl _) ⟨by dsimp only; omega, hmrg2, .inr (by dsimp only; omega), by dsimp only; omega, hisl, fun m hm => (hyok m hm).mono hM2, (fun h => by cases h), Mem.le_trans hMM hM2⟩
      · skip
        have hq0 : 0 < q := by omega
        obtain ⟨q', rfl⟩ : ∃ q', q = q' + 1 := ⟨q - 1, by omega⟩
        refine SC.skip ?_
        refine seqQ.nm ?_
        refine SC.seq ?_
        refine SC.region ?_
        refine SL.val (OpV.move rfl) rfl ?_
        refine SL.val (OpV.move rfl) rfl ?_
        refine SL.val (OpV.move rfl) rfl ?_
        refine SL.val (OpV.indexAddr1 Tryz.underlying23 sz25 rfl rfl (by omega) (by omega)) rfl ?_
        refine SL.val (OpV.load _ Tryz.underlying25 rfl rfl (Kn.mem (hc.at_ (q' + 1) hu))) rfl ?_
        refine SL.call ok15 rfl (L1 := []) (List.Perm.refl _) (rtwo_ev w u out ms _ hsl hsl2 hok hok2 hol hml) rfl ?_
        rintro v40 _ _ hM40 ⟨ys, rfl, hys, hasc, hyok, rfl⟩
        refine SL.fixRow (m := ys.length) 0 rfl (mbCells_len ys) (by decide) ?_
        intro M2 hM2 hisl
        obtain ⟨ad8, cap8, rfl, hcap8, _⟩ := hisl.len
        have hmrg2 : Mrg ss (q' + 2) ys := ⟨out, ms, hmrg, hlim.imp (fun h => by omega) id, hms, hys, hasc⟩
        refine SL.val (OpV.assign rfl) rfl ?_
        refine SL.nil ?_
        refine seqQ.nm ?_
        refine SC.seq ?_
        refine SC.region ?_
        refine SL.val (OpV.move rfl) rfl ?_
        refine SL.val (OpV.llen Tryz.underlying25 rfl) rfl ?_
        refine SL.val (OpV.gtr rfl rfl) rfl ?_
        refine SL.nil ?_
        refine seqQ.nm ?_
        first | refine SC.ifp rfl (fun h43 => ?_) (fun h43 => ?_) | refine SC.ite rfl (fun h43 => ?_) (fun h43 => ?_)
        · skip
          refine SC.seq ?_
          refine SC.region ?_
          refine SL.val (OpV.assign rfl) rfl ?_
          refine SL.val (OpV.assign rfl) rfl ?_
          refine SL.nil ?_
          refine seqQ.nm ?_
          refine SC.ret ?_
          refine blockQ.r ?_
          refine seqQ.r ?_
          refine loopQ.r ?_
          refine blockQ.r ?_
          refine seqQ.r ?_
          refine retQ.two rfl (.tmp rfl) (.tmp rfl) ?_ _ (.inr rfl)
          exact .inr ⟨herr, .inl ⟨q' + 2, ys, by omega, by omega, hmrg2, by omega, rfl⟩⟩
        · skip
          refine SC.skip ?_
          refine blockQ.nm ?_
          refine seqQ.nm ?_
          refine SC.region ?_
          refine SL.val (OpV.move rfl) rfl ?_
          refine SL.val (OpV.add rfl rfl (IntWalk.i64_in _ (by omega))) rfl ?_
          refine SL.val (OpV.assign rfl) rfl ?_
          refine SL.nil ?_
          first
            | exact loopQ.nm (1, v34, ms) (by dsimp only; omega) ⟨rfl, rfl, rfl, trivial⟩ (List.Perm.refl _) ⟨by dsimp only; omega, hms, .inl (Nat.le_refl _), hml, hisl, fun m hm => (hok2 m hm).mono hM2, (fun h => by cases h), Mem.le_trans hMM hM2⟩
            | exact loopQ.nm (q' + 2, .slice ad8 ys.length cap8, ys) (by dsimp only; omega) ⟨rfl, rfl, by show some _ = some _; congr 2, trivial⟩ (List.Perm.refl _) ⟨by dsimp only; omega, hmrg2, .inr (by dsimp only; omega), by dsimp only; omega, hisl, fun m hm => (hyok m hm).mono hM2, (fun h => by cases h), Mem.le_trans hMM hM2⟩
    · skip
      have hqe : q = ss.length := by omega
      rw [hqe] at hmrg hlim
      refine SC.exit ?_
      refine seqQ.e ?_
      refine loopQ.e ?_
      refine blockQ.e ?_
      refine seqQ.nm ?_
      refine SC.seq ?_
      refine SC.region ?_
      refine SL.val (OpV.move rfl) rfl ?_
      refine SL.val (OpV.assign rfl) rfl ?_
      refine SL.val (OpV.assign rfl) rfl ?_
      refine SL.nil ?_
      refine seqQ.nm ?_
      refine SC.ret ?_
      refine retQ.two rfl (.tmp rfl) (.tmp rfl) ?_ _ (.inr rfl)
      exact .inr ⟨herr, .inr ⟨out, w, hmrg, hlim, rfl, hsl, hok⟩⟩
end Go.Proofs.YtceabkfmjffnhaaGreatDoor
set_option linter.unusedVariables false
set_option linter.unusedSimpArgs false
namespace Go.Proofs.YtceabkfmjffnhaaGreatDoor
open Go Go.Eng

def plainM (ms : List Mb) : List Mb := ms.filter fun m => decide (cls m = 1)
theorem filter_take_succ {α : Type} (f : α → Bool) (l : List α) (k : Nat) (x : α) (h : l[k]? = some x) : (l.take (k + 1)).filter f = (l.take k).filter f ++ (if f x then [x] else []) := by
  rw [List.take_add_one, h, List.filter_append]
  simp [List.filter_cons]
theorem cplain_ev (v : Value) (ms : List Mb) (M : Mem) (hc : ClassTab M) (hv : SlM M v ms) (hok : ∀ m ∈ ms, m.ok M) (hl : ms.length ≤ 16777216) :
    Ev Tryz.prog 123 [v].toArray [] M fun v' L' M' => L' = [] ∧ SlM M' v' (plainM ms) := by
  obtain ⟨ad, cap, rfl, hcap, hmax⟩ := hv.len
  refine Ev.laxR ?_
  refine Ev.enter Tryz.func123 rfl Tryz.ntmps123 rfl ?_
  refine SC.nilrow 38 9 ?_
  refine SC.seq ?_
  refine SC.region ?_
  refine SL.val (OpV.assign rfl) rfl ?_
  refine SL.nil ?_
  refine seqQ.nm ?_
  refine SC.seq ?_
  refine SC.region ?_
  refine SL.val (OpV.assign rfl) rfl ?_
  refine SL.nil ?_
  refine seqQ.nm ?_
  refine SC.seq ?_
  refine SC.seq ?_
  refine SC.region ?_
  refine SL.val (OpV.move rfl) rfl ?_
  refine SL.val (OpV.llen Tryz.underlying25 rfl) rfl ?_
  refine SL.val (OpV.move rfl) rfl ?_
  refine SL.nil ?_
  refine seqQ.nm ?_
  refine SC.block ?_
  refine SC.loop (ι := Nat × Value × List Mb) (fun x M' => x.1 ≤ ms.length ∧ x.2.2 = plainM (ms.take x.1) ∧ M = M') (fun x => [(0, .slice ad ms.length cap), (3, x.2.1), (8, .slice ad ms.length cap), (9, .int .i64 ms.length), (10, .int .i64 x.1)]) (fun x => [.row x.2.1 38 9 (x.2.2.flatMap Mb.cells)]) (fun x => ms.length - x.1) (0, .slice none 0 0, []) (G := []) ⟨rfl, rfl, rfl, rfl, rfl, trivial⟩ (List.Perm.refl _) ⟨Nat.zero_le _, rfl, rfl⟩ ?_
  rintro ⟨k, v, out⟩ _ _ ⟨hk, hout, rfl⟩
  dsimp only at hk hout ⊢
  have hol : out.length ≤ k := by rw [hout, plainM]; exact Nat.le_trans (List.length_filter_le _ _) (List.length_take_le _ _)
  refine SC.seq ?_
  refine SC.region ?_
  refine SL.val (OpV.lss rfl rfl) rfl ?_
  refine SL.nil ?_
  refine seqQ.nm ?_
  refine SC.seq ?_
  first | refine SC.ifp rfl (fun h11 => ?_) (fun h11 => ?_) | refine SC.ite rfl (fun h11 => ?_) (fun h11 => ?_)
  · skip
    have hlt : k < ms.length := by omega
    obtain ⟨g, o, cap', he, hcs, _⟩ := hv.at_ (by omega)
    cases he
    obtain ⟨m, hm⟩ := getElem?_lt hlt
    have hmok := hok m (List.mem_of_getElem? hm)
    have hmc := mbCells_at hcs hm
    have hmp : m.path.length ≤ 268435456 := hmok.path
    have hst : plainM (ms.take (k + 1)) = out ++ (if decide (cls m = 1) then [m] else []) := by
      rw [hout]; exact filter_take_succ (fun m => decide (cls m = 1)) ms k m hm
    refine SC.skip ?_
    refine seqQ.nm ?_
    refine SC.seq ?_
    refine SC.block ?_
    refine SC.seq ?_
    refine SC.region ?_
    refine SL.val (OpV.indexAddr Tryz.underlying25 sz38 rfl rfl (by omega) (by omega)) rfl ?_
    refine SL.val (OpV.loads (cs := m.cells) _ Tryz.underlying38 rfl rfl sz38 (Kns.mem hmc)) rfl ?_
    refine SL.act (OpH.alloc zr38) rfl ?_; rintro _ _ _ hM5 ⟨b5, rfl, rfl, rfl⟩; clear hM5
    first
      | refine SL.unit (OpU.store 0 rfl rfl rfl sz38 (by first | exact Nat.le_of_ble_eq_true rfl | (simp; done) | (simp; omega) | omega) (cells_ones hmok)) ?_
      | refine SL.unit (OpU.storeRow 0 rfl rfl rfl sz38 (by first | exact Nat.le_of_ble_eq_true rfl | (simp; done) | (simp; omega) | omega) (cells_ones hmok)) ?_
      | refine SL.unit (OpU.store 1 rfl rfl rfl sz38 (by first | exact Nat.le_of_ble_eq_true rfl | (simp; done) | (simp; omega) | omega) (cells_ones hmok)) ?_
      | refine SL.unit (OpU.storeRow 1 rfl rfl rfl sz38 (by first | exact Nat.le_of_ble_eq_true rfl | (simp; done) | (simp; omega) | omega) (cells_ones hmok)) ?_
      | refine SL.unit (OpU.store 2 rfl rfl rfl sz38 (by first | exact Nat.le_of_ble_eq_true rfl | (simp; done) | (simp; omega) | omega) (cells_ones hmok)) ?_
      | refine SL.unit (OpU.storeRow 2 rfl rfl rfl sz38 (by first | exact Nat.le_of_ble_eq_true rfl | (simp; done) | (simp; omega) | omega) (cells_ones hmok)) ?_
      | refine SL.unit (OpU.store 3 rfl rfl rfl sz38 (by first | exact Nat.le_of_ble_eq_true rfl | (simp; done) | (simp; omega) | omega) (cells_ones hmok)) ?_
      | refine SL.unit (OpU.storeRow 3 rfl rfl rfl sz38 (by first | exact Nat.le_of_ble_eq_true rfl | (simp; done) | (simp; omega) | omega) (cells_ones hmok)) ?_
    refine SL.nil ?_
    refine seqQ.nm ?_
    refine SC.seq ?_
    refine SC.region ?_
    refine SL.val (OpV.fld fa38_0 rfl) rfl ?_
    first
      | refine SL.val (OpV.load _ Tryz.underlying9 rfl rfl (Kn.blk 0 rfl rfl)) rfl ?_
      | refine SL.val (OpV.load _ Tryz.underlying9 rfl rfl (Kn.blk 1 rfl rfl)) rfl ?_
      | refine SL.val (OpV.load _ Tryz.underlying9 rfl rfl (Kn.blk 2 rfl rfl)) rfl ?_
      | refine SL.val (OpV.load _ Tryz.underlying9 rfl rfl (Kn.blk 3 rfl rfl)) rfl ?_
      | refine SL.val (OpV.load _ Tryz.underlying9 rfl rfl (Kn.mem (by assumption))) rfl ?_
    refine SL.call ok21 rfl (L1 := []) (List.Perm.refl _) (by have := pclass_ev m.path M hc (by omega); rw [classP_eq] at this; exact this) rfl ?_
    rintro _ _ _ hM17 ⟨rfl, rfl, rfl⟩
    refine SL.val (OpV.move rfl) rfl ?_
    refine SL.val (OpV.extract rfl rfl) rfl ?_
    refine SL.val (OpV.extract rfl rfl) rfl ?_
    refine SL.val (OpV.assign rfl) rfl ?_
    refine SL.val (OpV.assign rfl) rfl ?_
    refine SL.nil ?_
    refine seqQ.nm ?_
    refine SC.seq ?_
    refine SC.region ?_
    refine SL.val (OpV.move rfl) rfl ?_
    refine SL.val (OpV.eql rfl rfl) rfl ?_
    refine SL.nil ?_
    refine seqQ.nm ?_
    first | refine SC.ifp rfl (fun h21 => ?_) (fun h21 => ?_) | refine SC.ite rfl (fun h21 => ?_) (fun h21 => ?_)
    · skip
      have hc1 : cls m = 1 := by show (classRef m.path).1 = 1; omega
      refine SC.region ?_
      refine SL.val (OpV.move rfl) rfl ?_
      first
        | refine SL.val (OpV.loads (cs := m.cells) _ Tryz.underlying38 rfl rfl sz38 (Kns.blk 0 rfl rfl)) rfl ?_
        | refine SL.val (OpV.loads (cs := m.cells) _ Tryz.underlying38 rfl rfl sz38 (Kns.blk 1 rfl rfl)) rfl ?_
        | refine SL.val (OpV.loads (cs := m.cells) _ Tryz.underlying38 rfl rfl sz38 (Kns.blk 2 rfl rfl)) rfl ?_
        | refine SL.val (OpV.loads (cs := m.cells) _ Tryz.underlying38 rfl rfl sz38 (Kns.blk 3 rfl rfl)) rfl ?_
        | refine SL.val (OpV.loads (cs := m.cells) _ Tryz.underlying38 rfl rfl sz38 (Kns.mem (by assumption))) rfl ?_
      refine SL.act (OpH.oneAgg Tryz.underlying25 zs38 rfl rfl rfl) rfl ?_; rintro _ _ _ hM24 ⟨b24, rfl, rfl, rfl⟩; clear hM24
      refine SL.act (OpH.append 2 rfl Tryz.underlying25 Tryz.underlying25 rfl ti38 rfl (by decide) (by decide) rfl rfl (Src.blk 0 rfl (m := 1) rfl) (ones_mem hmok) (by rw [mbCells_len]; simp [Mb.cells]; omega)) rfl ?_; rintro v25 _ _ hM25 ⟨rfl, rfl, hn25⟩; clear hM25
      refine SL.drop 0 rfl (SL.drop 0 rfl ?_)
      refine SL.val (OpV.assign rfl) rfl ?_
      refine SL.nil ?_
      refine blockQ.nm ?_
      refine seqQ.nm ?_
      refine SC.region ?_
      refine SL.val (OpV.add rfl rfl (IntWalk.i64_in _ (by omega))) rfl ?_
      refine SL.val (OpV.move rfl) rfl ?_
      refine SL.nil ?_
      first
        | exact loopQ.nm (k + 1, v25, out ++ [m]) (by dsimp only; omega) ⟨rfl, rfl, rfl, rfl, rfl, trivial⟩ (by rw [flat_snoc]; exact List.Perm.refl _) ⟨by dsimp only; omega, by rw [hst]; simp [hc1], rfl⟩
        | exact loopQ.nm (k + 1, v, out) (by dsimp only; omega) ⟨rfl, rfl, rfl, rfl, rfl, trivial⟩ (List.Perm.refl _) ⟨by dsimp only; omega, by rw [hst]; simp [hc1], rfl⟩
    · skip
      have hc1 : ¬ cls m = 1 := by show ¬ (classRef m.path).1 = 1; omega
      refine SC.drop 0 rfl ?_
      refine SC.skip ?_
      refine blockQ.nm ?_
      refine seqQ.nm ?_
      refine SC.region ?_
      refine SL.val (OpV.add rfl rfl (IntWalk.i64_in _ (by omega))) rfl ?_
      refine SL.val (OpV.move rfl) rfl ?_
      refine SL.nil ?_
      first
        | exact loopQ.nm (k + 1, v25, out ++ [m]) (by dsimp only; omega) ⟨rfl, rfl, rfl, rfl, rfl, trivial⟩ (by rw [flat_snoc]; exact List.Perm.refl _) ⟨by dsimp only; omega, by rw [hst]; simp [hc1], rfl⟩
        | exact loopQ.nm (k + 1, v, out) (by dsimp only; omega) ⟨rfl, rfl, rfl, rfl, rfl, trivial⟩ (List.Perm.refl _) ⟨by dsimp only; omega, by rw [hst]; simp [hc1], rfl⟩
  · skip
    have hke : k = ms.length := by omega
    rw [hke, List.take_length] at hout
    refine SC.fixRow (m := out.length) 0 rfl (mbCells_len out) (by decide) ?_
    intro M2 hM2 hisl
    refine SC.exit ?_
    refine seqQ.e ?_
    refine loopQ.e ?_
    refine blockQ.e ?_
    refine seqQ.nm ?_
    refine SC.seq ?_
    refine SC.region ?_
    refine SL.val (OpV.move rfl) rfl ?_
    refine SL.val (OpV.assign rfl) rfl ?_
    refine SL.nil ?_
    refine seqQ.nm ?_
    refine SC.ret ?_
    refine retQ.one rfl (.tmp rfl) ?_ _ (.inr rfl)
    exact (by rw [← hout]; exact hisl)

/-- What a map of bools holds. -/
abbrev BoolsAt (kvs : List (Bytes × Value)) (p : Bytes → Bool) : Prop := ∀ y, (kvGet y kvs).getD (.bool false) = .bool (p y)
abbrev IntsAt (kvs : List (Bytes × Value)) (p : Bytes → Int) : Prop := ∀ y, (kvGet y kvs).getD (.int .i64 0) = .int .i64 (p y)
theorem hides_ev (x : Bytes) (bg bm bo : Nat) (kg km ko : List (Bytes × Value)) (g m : Bytes → Bool) (o : Bytes → Int) (LL : List Res) (M : Mem) (hg : Ko LL M bg (mapObj kg)) (ho : Ko LL M bo (mapObj ko)) (hkg : BoolsAt kg g) (hko : IntsAt ko o) :
    Ev Tryz.prog 134 [.agg #[.map (some bg), .map (some bm), .map (some bo)], str x].toArray LL M fun v' L' M' => v' = .bool (g x || decide (o x = 2)) ∧ L' = LL ∧ M = M' := by
  refine Ev.enter Tryz.func134 rfl Tryz.ntmps134 rfl ?_
  refine SC.seq ?_
  refine SC.region ?_
  refine SL.act (OpH.box rfl) rfl ?_; rintro _ _ _ hM2 ⟨b2, rfl, rfl, rfl⟩; clear hM2
  refine SL.val (OpV.assign rfl) rfl ?_
  refine SL.nil ?_
  refine seqQ.nm ?_
  refine SC.seq ?_
  refine SC.region ?_
  refine SL.val (OpV.fld fa136_0 rfl) rfl ?_
  first
    | refine SL.val (OpV.load _ Tryz.underlying134 rfl rfl (Kn.blk 0 rfl rfl)) rfl ?_
    | refine SL.val (OpV.load _ Tryz.underlying134 rfl rfl (Kn.blk 1 rfl rfl)) rfl ?_
    | refine SL.val (OpV.load _ Tryz.underlying134 rfl rfl (Kn.blk 2 rfl rfl)) rfl ?_
    | refine SL.val (OpV.load _ Tryz.underlying134 rfl rfl (Kn.blk 3 rfl rfl)) rfl ?_
    | refine SL.val (OpV.load _ Tryz.underlying134 rfl rfl (Kn.mem (by assumption))) rfl ?_
  refine SL.val (OpV.move rfl) rfl ?_
  refine SL.val (show OpV _ _ _ _ _ (.bool (g x)) by rw [← hkg x]; exact (OpV.kvLookup Tryz.underlying134 Tryz.underlying9 zr4 rfl rfl (fun H F hs => hg H F (Sep.drop hs)))) rfl ?_
  refine SL.val (OpV.move rfl) rfl ?_
  refine SL.orcut 6 (c := 9) (d := 15) rfl (fun h9 => ?_) ?_
  · skip
    refine SL.skip rfl rfl ?_
    refine SL.skip rfl rfl ?_
    refine SL.skip rfl rfl ?_
    refine SL.skip rfl rfl ?_
    refine SL.skip rfl rfl ?_
    refine SL.val (OpV.pickT rfl rfl) rfl ?_
    exact SL.nil ⟨rfl, rfl, (by repeat first | exact Env.le_refl _ | refine Env.le_new rfl ?_), [], List.Perm.refl _⟩
  apply Exists.intro
  refine And.intro (fun h9 => ?_) ?_
  · skip
    refine SL.gval rfl (OpV.fld fa136_2 rfl) rfl ?_
    first
      | refine SL.gval rfl (OpV.load _ Tryz.underlying55 rfl rfl (Kn.blk 0 rfl rfl)) rfl ?_
      | refine SL.gval rfl (OpV.load _ Tryz.underlying55 rfl rfl (Kn.blk 1 rfl rfl)) rfl ?_
      | refine SL.gval rfl (OpV.load _ Tryz.underlying55 rfl rfl (Kn.blk 2 rfl rfl)) rfl ?_
      | refine SL.gval rfl (OpV.load _ Tryz.underlying55 rfl rfl (Kn.blk 3 rfl rfl)) rfl ?_
      | refine SL.gval rfl (OpV.load _ Tryz.underlying55 rfl rfl (Kn.mem (by assumption))) rfl ?_
    refine SL.gval rfl (OpV.move rfl) rfl ?_
    refine SL.gval rfl (show OpV _ _ _ _ _ (.int .i64 (o x)) by rw [← hko x]; exact (OpV.kvLookup Tryz.underlying55 Tryz.underlying9 zr3 rfl rfl (fun H F hs => ho H F (Sep.drop hs)))) rfl ?_
    refine SL.gval rfl (OpV.eql rfl rfl) rfl ?_
    refine SL.val (OpV.pickF rfl rfl) rfl ?_
    exact SL.nil ⟨rfl, rfl, (by repeat first | exact Env.le_refl _ | refine Env.le_new rfl ?_), [], List.Perm.refl _⟩
  refine SL.drop 0 rfl ?_
  refine SL.val (OpV.assign rfl) rfl ?_
  refine SL.nil ?_
  refine seqQ.nm ?_
  refine SC.ret ?_
  refine retQ.one rfl (.tmp rfl) ?_ _ (.inr rfl)
  exact ⟨rfl, rfl, rfl⟩
theorem marked_ev (x : Bytes) (b bg bm bo : Nat) (km : List (Bytes × Value)) (m : Bytes → Bool) (LL : List Res) (M : Mem) (hb : Kn LL M b 1 (.map (some bm))) (hm : Ko LL M bm (mapObj km)) (hkm : BoolsAt km m) :
    Ev Tryz.prog 133 [str x, .pointer (some ⟨b, 0, none⟩)].toArray LL M fun v' L' M' => v' = .bool (m x) ∧ L' = LL ∧ M = M' := by
  refine Ev.enter Tryz.func133 rfl Tryz.ntmps133 rfl ?_
  refine SC.seq ?_
  refine SC.region ?_
  refine SL.val (OpV.assign rfl) rfl ?_
  refine SL.nil ?_
  refine seqQ.nm ?_
  refine SC.seq ?_
  refine SC.region ?_
  refine SL.val (OpV.fld fa136_1 rfl) rfl ?_
  refine SL.val (OpV.load _ Tryz.underlying134 rfl rfl hb) rfl ?_
  refine SL.val (OpV.move rfl) rfl ?_
  refine SL.val (show OpV _ _ _ _ _ (.bool (m x)) by rw [← hkm x]; exact (OpV.kvLookup Tryz.underlying134 Tryz.underlying9 zr4 rfl rfl hm)) rfl ?_
  refine SL.val (OpV.assign rfl) rfl ?_
  refine SL.nil ?_
  refine seqQ.nm ?_
  refine SC.ret ?_
  refine retQ.one rfl (.tmp rfl) ?_ _ (.inr rfl)
  exact ⟨rfl, rfl, rfl⟩
end Go.Proofs.YtceabkfmjffnhaaGreatDoor
set_option linter.unusedVariables false
set_option linter.unusedSimpArgs false
namespace Go.Proofs.YtceabkfmjffnhaaGreatDoor
open Go Go.Eng

theorem goneP_succ {l : List Core} {k : Nat} {m : Core} (hm : l[k]? = some m) (y : Bytes) : goneP (l.take (k + 1)) y = (goneP (l.take k) y || (decide (cl m = 2) && decide (tgt m = y))) := by
  simp [goneP, List.take_add_one, hm]
theorem markedP_succ {l : List Core} {k : Nat} {m : Core} (hm : l[k]? = some m) (y : Bytes) : markedP (l.take (k + 1)) y = (markedP (l.take k) y || (decide (cl m = 3) && decide (tgt m = y))) := by
  simp [markedP, List.take_add_one, hm]
theorem overP_succ {l : List Core} {k : Nat} {m : Core} (hm : l[k]? = some m) (y : Bytes) : overP (l.take (k + 1)) y = if cl m = 1 ∧ tgt m = y then (if m.kind = 1 then max (overP (l.take k) y) 1 else 2) else overP (l.take k) y := by
  unfold overP
  simp only [List.take_add_one, hm, Option.toList_some, List.any_append, List.any_cons, List.any_nil, Bool.or_false]
  generalize (l.take k).any (fun m => decide (cl m = 1) && decide (m.kind ≠ 1) && decide (tgt m = y)) = A
  generalize (l.take k).any (fun m => decide (cl m = 1) && decide (tgt m = y)) = B
  by_cases h1 : cl m = 1 <;> by_cases h2 : tgt m = y <;> by_cases h3 : m.kind = 1 <;> cases A <;> cases B <;> first | (simp [h1, h2, h3]; done) | (simp [h1, h2, h3]; decide)

theorem bools_put {kvs : List (Bytes × Value)} {p q : Bytes → Bool} (h : BoolsAt kvs p) (t : Bytes) (hq : ∀ y, q y = (p y || decide (t = y))) : BoolsAt (kvPut t (.bool true) kvs) q := by
  intro y
  rw [kvGet_put, hq]
  by_cases hy : y = t
  · subst hy; simp
  · have : ¬ t = y := fun e => hy e.symm
    rw [if_neg hy, h y]; simp [this]
theorem bools_same {kvs : List (Bytes × Value)} {p q : Bytes → Bool} (h : BoolsAt kvs p) (hq : ∀ y, q y = p y) : BoolsAt kvs q := fun y => by rw [h y, hq]
theorem ints_put {kvs : List (Bytes × Value)} {p q : Bytes → Int} (h : IntsAt kvs p) (t : Bytes) (n : Int) (hq : ∀ y, q y = if t = y then n else p y) : IntsAt (kvPut t (.int .i64 n) kvs) q := by
  intro y
  rw [kvGet_put, hq]
  by_cases hy : y = t
  · subst hy; simp
  · have : ¬ t = y := fun e => hy e.symm
    rw [if_neg hy, h y, if_neg this]
theorem ints_same {kvs : List (Bytes × Value)} {p q : Bytes → Int} (h : IntsAt kvs p) (hq : ∀ y, q y = p y) : IntsAt kvs q := fun y => by rw [h y, hq]
def EffectAt (M : Mem) (cs : List Core) (v : Value) : Prop := ∃ bg bm bo kg km ko, v = .agg #[.map (some bg), .map (some bm), .map (some bo)] ∧ M bg (mapObj kg) ∧ M bm (mapObj km) ∧ M bo (mapObj ko) ∧ BoolsAt kg (goneP cs) ∧ BoolsAt km (markedP cs) ∧ IntsAt ko (overP cs)
theorem cof_ev (v : Value) (ms : List Mb) (M : Mem) (hc : ClassTab M) (hv : SlM M v ms) (hok : ∀ m ∈ ms, m.ok M) (hl : ms.length ≤ 16777216) :
    Ev Tryz.prog 130 [v].toArray [] M fun v' L' M' => L' = [] ∧ EffectAt M' (cores ms) v' := by
  obtain ⟨ad, cap, rfl, hcap, hmax⟩ := hv.len
  refine Ev.laxR ?_
  refine Ev.enter Tryz.func130 rfl Tryz.ntmps130 rfl ?_
  refine SC.seq ?_
  refine SC.region ?_
  refine SL.act (OpH.alloc zr136) rfl ?_; rintro _ _ _ hM2 ⟨b2, rfl, rfl, rfl⟩; clear hM2
  refine SL.nil ?_
  refine seqQ.nm ?_
  refine SC.seq ?_
  refine SC.region ?_
  refine SL.act OpH.makeMap rfl ?_; rintro _ _ _ hM8 ⟨b8, rfl, rfl, rfl⟩; clear hM8
  refine SL.act OpH.makeMap rfl ?_; rintro _ _ _ hM9 ⟨b9, rfl, rfl, rfl⟩; clear hM9
  refine SL.act OpH.makeMap rfl ?_; rintro _ _ _ hM10 ⟨b10, rfl, rfl, rfl⟩; clear hM10
  refine SL.val (show OpV _ _ _ _ _ (.agg #[.map (some b8), .map (some b9), .map (some b10)]) from OpV.bld bl136 rfl rfl) rfl ?_
  refine SL.act (OpH.alloc zr136) rfl ?_; rintro _ _ _ hM3 ⟨b3, rfl, rfl, rfl⟩; clear hM3
  first
    | refine SL.unit (OpU.store 0 rfl rfl rfl sz136 (by first | exact Nat.le_of_ble_eq_true rfl | (simp; done) | (simp; omega) | omega) (by first | rfl | (simp [Value.cells, Value.oneCell']; done))) ?_
    | refine SL.unit (OpU.storeRow 0 rfl rfl rfl sz136 (by first | exact Nat.le_of_ble_eq_true rfl | (simp; done) | (simp; omega) | omega) (by first | rfl | (simp [Value.cells, Value.oneCell']; done))) ?_
    | refine SL.unit (OpU.store 1 rfl rfl rfl sz136 (by first | exact Nat.le_of_ble_eq_true rfl | (simp; done) | (simp; omega) | omega) (by first | rfl | (simp [Value.cells, Value.oneCell']; done))) ?_
    | refine SL.unit (OpU.storeRow 1 rfl rfl rfl sz136 (by first | exact Nat.le_of_ble_eq_true rfl | (simp; done) | (simp; omega) | omega) (by first | rfl | (simp [Value.cells, Value.oneCell']; done))) ?_
    | refine SL.unit (OpU.store 2 rfl rfl rfl sz136 (by first | exact Nat.le_of_ble_eq_true rfl | (simp; done) | (simp; omega) | omega) (by first | rfl | (simp [Value.cells, Value.oneCell']; done))) ?_
    | refine SL.unit (OpU.storeRow 2 rfl rfl rfl sz136 (by first | exact Nat.le_of_ble_eq_true rfl | (simp; done) | (simp; omega) | omega) (by first | rfl | (simp [Value.cells, Value.oneCell']; done))) ?_
    | refine SL.unit (OpU.store 3 rfl rfl rfl sz136 (by first | exact Nat.le_of_ble_eq_true rfl | (simp; done) | (simp; omega) | omega) (by first | rfl | (simp [Value.cells, Value.oneCell']; done))) ?_
    | refine SL.unit (OpU.storeRow 3 rfl rfl rfl sz136 (by first | exact Nat.le_of_ble_eq_true rfl | (simp; done) | (simp; omega) | omega) (by first | rfl | (simp [Value.cells, Value.oneCell']; done))) ?_
  refine SL.nil ?_
  refine seqQ.nm ?_
  refine SC.seq ?_
  refine SC.seq ?_
  refine SC.region ?_
  refine SL.val (OpV.move rfl) rfl ?_
  refine SL.val (OpV.llen Tryz.underlying25 rfl) rfl ?_
  refine SL.val (OpV.move rfl) rfl ?_
  refine SL.nil ?_
  refine seqQ.nm ?_
  refine SC.block ?_
  refine SC.loop (ι := Nat × List (Bytes × Value) × List (Bytes × Value) × List (Bytes × Value)) (fun x M' => x.1 ≤ ms.length ∧ BoolsAt x.2.1 (goneP ((cores ms).take x.1)) ∧ BoolsAt x.2.2.1 (markedP ((cores ms).take x.1)) ∧ IntsAt x.2.2.2 (overP ((cores ms).take x.1)) ∧ M = M')
    (fun x => [(2, .pointer (some ⟨b2, 0, none⟩)), (3, .pointer (some ⟨b3, 0, none⟩)), (12, .slice ad ms.length cap), (13, .int .i64 ms.length), (14, .int .i64 x.1)])
    (fun x => [.blk b3 136 [.map (some b8), .map (some b9), .map (some b10)], .obj b10 (mapObj x.2.2.2), .obj b9 (mapObj x.2.2.1), .obj b8 (mapObj x.2.1), .blk b2 136 [.map none, .map none, .map none]]) (fun x => ms.length - x.1) (0, [], [], []) (G := []) ⟨rfl, rfl, rfl, rfl, rfl, trivial⟩ (List.Perm.refl _) ⟨Nat.zero_le _, fun y => rfl, fun y => rfl, fun y => rfl, rfl⟩ ?_
  rintro ⟨k, kg, km, ko⟩ _ _ ⟨hk, hkg, hkm, hko, rfl⟩
  dsimp only at hk hkg hkm hko ⊢
  refine SC.seq ?_
  refine SC.region ?_
  refine SL.val (OpV.lss rfl rfl) rfl ?_
  refine SL.nil ?_
  refine seqQ.nm ?_
  refine SC.seq ?_
  first | refine SC.ifp rfl (fun h15 => ?_) (fun h15 => ?_) | refine SC.ite rfl (fun h15 => ?_) (fun h15 => ?_)
  · skip
    have hlt : k < ms.length := by omega
    obtain ⟨g, o, cap', he, hcs, _⟩ := hv.at_ (by omega)
    cases he
    obtain ⟨m, hm⟩ := getElem?_lt hlt
    have hmok := hok m (List.mem_of_getElem? hm)
    have hmc := mbCells_at hcs hm
    have hmp : m.path.length ≤ 268435456 := hmok.path
    have hcm := core_at hm
    have hcl : cl m.core = (classRef m.path).1 := rfl
    have htg : tgt m.core = (classRef m.path).2 := rfl
    have hkd : m.core.kind = m.kind := rfl
    refine SC.skip ?_
    refine seqQ.nm ?_
    refine SC.seq ?_
    refine SC.block ?_
    refine SC.seq ?_
    refine SC.region ?_
    refine SL.val (OpV.indexAddr Tryz.underlying25 sz38 rfl rfl (by omega) (by omega)) rfl ?_
    refine SL.val (OpV.loads (cs := m.cells) _ Tryz.underlying38 rfl rfl sz38 (Kns.mem hmc)) rfl ?_
    refine SL.act (OpH.alloc zr38) rfl ?_; rintro _ _ _ hM5 ⟨b5, rfl, rfl, rfl⟩; clear hM5
    first
      | refine SL.unit (OpU.store 0 rfl rfl rfl sz38 (by first | exact Nat.le_of_ble_eq_true rfl | (simp; done) | (simp; omega) | omega) (cells_ones hmok)) ?_
      | refine SL.unit (OpU.storeRow 0 rfl rfl rfl sz38 (by first | exact Nat.le_of_ble_eq_true rfl | (simp; done) | (simp; omega) | omega) (cells_ones hmok)) ?_
      | refine SL.unit (OpU.store 1 rfl rfl rfl sz38 (by first | exact Nat.le_of_ble_eq_true rfl | (simp; done) | (simp; omega) | omega) (cells_ones hmok)) ?_
      | refine SL.unit (OpU.storeRow 1 rfl rfl rfl sz38 (by first | exact Nat.le_of_ble_eq_true rfl | (simp; done) | (simp; omega) | omega) (cells_ones hmok)) ?_
      | refine SL.unit (OpU.store 2 rfl rfl rfl sz38 (by first | exact Nat.le_of_ble_eq_true rfl | (simp; done) | (simp; omega) | omega) (cells_ones hmok)) ?_
      | refine SL.unit (OpU.storeRow 2 rfl rfl rfl sz38 (by first | exact Nat.le_of_ble_eq_true rfl | (simp; done) | (simp; omega) | omega) (cells_ones hmok)) ?_
      | refine SL.unit (OpU.store 3 rfl rfl rfl sz38 (by first | exact Nat.le_of_ble_eq_true rfl | (simp; done) | (simp; omega) | omega) (cells_ones hmok)) ?_
      | refine SL.unit (OpU.storeRow 3 rfl rfl rfl sz38 (by first | exact Nat.le_of_ble_eq_true rfl | (simp; done) | (simp; omega) | omega) (cells_ones hmok)) ?_
    refine SL.nil ?_
    refine seqQ.nm ?_
    refine SC.seq ?_
    refine SC.region ?_
    refine SL.val (OpV.fld fa38_0 rfl) rfl ?_
    first
      | refine SL.val (OpV.load _ Tryz.underlying9 rfl rfl (Kn.blk 0 rfl rfl)) rfl ?_
      | refine SL.val (OpV.load _ Tryz.underlying9 rfl rfl (Kn.blk 1 rfl rfl)) rfl ?_
      | refine SL.val (OpV.load _ Tryz.underlying9 rfl rfl (Kn.blk 2 rfl rfl)) rfl ?_
      | refine SL.val (OpV.load _ Tryz.underlying9 rfl rfl (Kn.blk 3 rfl rfl)) rfl ?_
      | refine SL.val (OpV.load _ Tryz.underlying9 rfl rfl (Kn.mem (by assumption))) rfl ?_
    refine SL.call ok21 rfl (L1 := []) (List.Perm.refl _) (by have := pclass_ev m.path M hc (by omega); rw [classP_eq] at this; exact this) rfl ?_
    rintro _ _ _ hM21 ⟨rfl, rfl, rfl⟩
    refine SL.val (OpV.move rfl) rfl ?_
    refine SL.val (OpV.extract rfl rfl) rfl ?_
    refine SL.val (OpV.extract rfl rfl) rfl ?_
    refine SL.val (OpV.assign rfl) rfl ?_
    refine SL.val (OpV.assign rfl) rfl ?_
    refine SL.nil ?_
    refine seqQ.nm ?_
    refine SC.block ?_
    refine SC.seq ?_
    refine SC.region ?_
    refine SL.val (OpV.move rfl) rfl ?_
    refine SL.val (OpV.eql rfl rfl) rfl ?_
    refine SL.val (OpV.assign rfl) rfl ?_
    refine SL.nil ?_
    refine seqQ.nm ?_
    first | refine SC.ifp rfl (fun h24 => ?_) (fun h24 => ?_) | refine SC.ite rfl (fun h24 => ?_) (fun h24 => ?_)
    · skip
      refine SC.region ?_
      refine SL.val (OpV.fld fa136_0 rfl) rfl ?_
      first
        | refine SL.val (OpV.load _ Tryz.underlying134 rfl rfl (Kn.blk 0 rfl rfl)) rfl ?_
        | refine SL.val (OpV.load _ Tryz.underlying134 rfl rfl (Kn.blk 1 rfl rfl)) rfl ?_
        | refine SL.val (OpV.load _ Tryz.underlying134 rfl rfl (Kn.blk 2 rfl rfl)) rfl ?_
        | refine SL.val (OpV.load _ Tryz.underlying134 rfl rfl (Kn.blk 3 rfl rfl)) rfl ?_
        | refine SL.val (OpV.load _ Tryz.underlying134 rfl rfl (Kn.mem (by assumption))) rfl ?_
      refine SL.val (OpV.move rfl) rfl ?_
      refine SL.unit (OpU.mapPut 4 Tryz.underlying134 Tryz.underlying9 rfl rfl rfl rfl) ?_
      refine SL.nil ?_
      refine blockQ.nm ?_
      refine blockQ.nm ?_
      refine seqQ.nm ?_
      refine SC.drop 0 rfl ?_
      refine SC.region ?_
      refine SL.val (OpV.add rfl rfl (IntWalk.i64_in _ (by omega))) rfl ?_
      refine SL.val (OpV.move rfl) rfl ?_
      refine SL.nil ?_
      have g0 : cl m.core ≠ 2 → BoolsAt kg (goneP ((cores ms).take (k + 1))) := fun h => bools_same hkg (fun y => by rw [goneP_succ hcm]; simp [h])
      have m0 : cl m.core ≠ 3 → BoolsAt km (markedP ((cores ms).take (k + 1))) := fun h => bools_same hkm (fun y => by rw [markedP_succ hcm]; simp [h])
      have o0 : cl m.core ≠ 1 → IntsAt ko (overP ((cores ms).take (k + 1))) := fun h => ints_same hko (fun y => by rw [overP_succ hcm]; simp [h])
      have g1 : cl m.core = 2 → BoolsAt (kvPut (classRef m.path).2 (.bool true) kg) (goneP ((cores ms).take (k + 1))) := fun h => bools_put hkg _ (fun y => by rw [goneP_succ hcm]; simp [h, htg])
      have m1 : cl m.core = 3 → BoolsAt (kvPut (classRef m.path).2 (.bool true) km) (markedP ((cores ms).take (k + 1))) := fun h => bools_put hkm _ (fun y => by rw [markedP_succ hcm]; simp [h, htg])
      have o1 : cl m.core = 1 → m.kind = 1 → IntsAt (kvPut (classRef m.path).2 (.int .i64 (max (overP ((cores ms).take k) (classRef m.path).2) 1)) ko) (overP ((cores ms).take (k + 1))) := fun h h2 => ints_put hko _ _ (fun y => by
        rw [overP_succ hcm]
        by_cases hy : (classRef m.path).2 = y
        · subst hy; simp [h, htg, hkd, h2]
        · simp [h, htg, hy])
      have o2 : cl m.core = 1 → m.kind ≠ 1 → IntsAt (kvPut (classRef m.path).2 (.int .i64 2) ko) (overP ((cores ms).take (k + 1))) := fun h h2 => ints_put hko _ _ (fun y => by
        rw [overP_succ hcm]
        by_cases hy : (classRef m.path).2 = y
        · subst hy; simp [h, htg, hkd, h2]
        · simp [h, htg, hy])
      first
        | exact loopQ.nm (k + 1, kvPut (classRef m.path).2 (.bool true) kg, km, ko) (by dsimp only; omega) ⟨rfl, rfl, rfl, rfl, rfl, trivial⟩ (List.Perm.refl _) ⟨by dsimp only; omega, g1 (by omega), m0 (by omega), o0 (by omega), rfl⟩
        | exact loopQ.nm (k + 1, kg, kvPut (classRef m.path).2 (.bool true) km, ko) (by dsimp only; omega) ⟨rfl, rfl, rfl, rfl, rfl, trivial⟩ (List.Perm.refl _) ⟨by dsimp only; omega, g0 (by omega), m1 (by omega), o0 (by omega), rfl⟩
        | exact loopQ.nm (k + 1, kg, km, kvPut (classRef m.path).2 (.int .i64 (max (overP ((cores ms).take k) (classRef m.path).2) 1)) ko) (by dsimp only; omega) ⟨rfl, rfl, rfl, rfl, rfl, trivial⟩ (List.Perm.refl _) ⟨by dsimp only; omega, g0 (by simp at h36; omega), m0 (by simp at h36; omega), o1 (by simp at h36; omega) (by simp at h36; omega), rfl⟩
        | exact loopQ.nm (k + 1, kg, km, kvPut (classRef m.path).2 (.int .i64 2) ko) (by dsimp only; omega) ⟨rfl, rfl, rfl, rfl, rfl, trivial⟩ (List.Perm.refl _) ⟨by dsimp only; omega, g0 (by omega), m0 (by omega), o2 (by omega) (by simp at h36; intro e; exact h36 h53 e), rfl⟩
        | exact loopQ.nm (k + 1, kg, km, ko) (by dsimp only; omega) ⟨rfl, rfl, rfl, rfl, rfl, trivial⟩ (List.Perm.refl _) ⟨by dsimp only; omega, g0 (by omega), m0 (by omega), o0 (by omega), rfl⟩
    · skip
      refine SC.seq ?_
      refine SC.region ?_
      refine SL.val (OpV.move rfl) rfl ?_
      refine SL.val (OpV.eql rfl rfl) rfl ?_
      refine SL.val (OpV.assign rfl) rfl ?_
      refine SL.nil ?_
      refine seqQ.nm ?_
      first | refine SC.ifp rfl (fun h30 => ?_) (fun h30 => ?_) | refine SC.ite rfl (fun h30 => ?_) (fun h30 => ?_)
      · skip
        refine SC.region ?_
        refine SL.val (OpV.fld fa136_1 rfl) rfl ?_
        first
          | refine SL.val (OpV.load _ Tryz.underlying134 rfl rfl (Kn.blk 0 rfl rfl)) rfl ?_
          | refine SL.val (OpV.load _ Tryz.underlying134 rfl rfl (Kn.blk 1 rfl rfl)) rfl ?_
          | refine SL.val (OpV.load _ Tryz.underlying134 rfl rfl (Kn.blk 2 rfl rfl)) rfl ?_
          | refine SL.val (OpV.load _ Tryz.underlying134 rfl rfl (Kn.blk 3 rfl rfl)) rfl ?_
          | refine SL.val (OpV.load _ Tryz.underlying134 rfl rfl (Kn.mem (by assumption))) rfl ?_
        refine SL.val (OpV.move rfl) rfl ?_
        refine SL.unit (OpU.mapPut 3 Tryz.underlying134 Tryz.underlying9 rfl rfl rfl rfl) ?_
        refine SL.nil ?_
        refine blockQ.nm ?_
        refine blockQ.nm ?_
        refine seqQ.nm ?_
        refine SC.drop 0 rfl ?_
        refine SC.region ?_
        refine SL.val (OpV.add rfl rfl (IntWalk.i64_in _ (by omega))) rfl ?_
        refine SL.val (OpV.move rfl) rfl ?_
        refine SL.nil ?_
        have g0 : cl m.core ≠ 2 → BoolsAt kg (goneP ((cores ms).take (k + 1))) := fun h => bools_same hkg (fun y => by rw [goneP_succ hcm]; simp [h])
        have m0 : cl m.core ≠ 3 → BoolsAt km (markedP ((cores ms).take (k + 1))) := fun h => bools_same hkm (fun y => by rw [markedP_succ hcm]; simp [h])
        have o0 : cl m.core ≠ 1 → IntsAt ko (overP ((cores ms).take (k + 1))) := fun h => ints_same hko (fun y => by rw [overP_succ hcm]; simp [h])
        have g1 : cl m.core = 2 → BoolsAt (kvPut (classRef m.path).2 (.bool true) kg) (goneP ((cores ms).take (k + 1))) := fun h => bools_put hkg _ (fun y => by rw [goneP_succ hcm]; simp [h, htg])
        have m1 : cl m.core = 3 → BoolsAt (kvPut (classRef m.path).2 (.bool true) km) (markedP ((cores ms).take (k + 1))) := fun h => bools_put hkm _ (fun y => by rw [markedP_succ hcm]; simp [h, htg])
        have o1 : cl m.core = 1 → m.kind = 1 → IntsAt (kvPut (classRef m.path).2 (.int .i64 (max (overP ((cores ms).take k) (classRef m.path).2) 1)) ko) (overP ((cores ms).take (k + 1))) := fun h h2 => ints_put hko _ _ (fun y => by
          rw [overP_succ hcm]
          by_cases hy : (classRef m.path).2 = y
          · subst hy; simp [h, htg, hkd, h2]
          · simp [h, htg, hy])
        have o2 : cl m.core = 1 → m.kind ≠ 1 → IntsAt (kvPut (classRef m.path).2 (.int .i64 2) ko) (overP ((cores ms).take (k + 1))) := fun h h2 => ints_put hko _ _ (fun y => by
          rw [overP_succ hcm]
          by_cases hy : (classRef m.path).2 = y
          · subst hy; simp [h, htg, hkd, h2]
          · simp [h, htg, hy])
        first
          | exact loopQ.nm (k + 1, kvPut (classRef m.path).2 (.bool true) kg, km, ko) (by dsimp only; omega) ⟨rfl, rfl, rfl, rfl, rfl, trivial⟩ (List.Perm.refl _) ⟨by dsimp only; omega, g1 (by omega), m0 (by omega), o0 (by omega), rfl⟩
          | exact loopQ.nm (k + 1, kg, kvPut (classRef m.path).2 (.bool true) km, ko) (by dsimp only; omega) ⟨rfl, rfl, rfl, rfl, rfl, trivial⟩ (List.Perm.refl _) ⟨by dsimp only; omega, g0 (by omega), m1 (by omega), o0 (by omega), rfl⟩
          | exact loopQ.nm (k + 1, kg, km, kvPut (classRef m.path).2 (.int .i64 (max (overP ((cores ms).take k) (classRef m.path).2) 1)) ko) (by dsimp only; omega) ⟨rfl, rfl, rfl, rfl, rfl, trivial⟩ (List.Perm.refl _) ⟨by dsimp only; omega, g0 (by simp at h36; omega), m0 (by simp at h36; omega), o1 (by simp at h36; omega) (by simp at h36; omega), rfl⟩
          | exact loopQ.nm (k + 1, kg, km, kvPut (classRef m.path).2 (.int .i64 2) ko) (by dsimp only; omega) ⟨rfl, rfl, rfl, rfl, rfl, trivial⟩ (List.Perm.refl _) ⟨by dsimp only; omega, g0 (by omega), m0 (by omega), o2 (by omega) (by simp at h36; intro e; exact h36 h53 e), rfl⟩
          | exact loopQ.nm (k + 1, kg, km, ko) (by dsimp only; omega) ⟨rfl, rfl, rfl, rfl, rfl, trivial⟩ (List.Perm.refl _) ⟨by dsimp only; omega, g0 (by omega), m0 (by omega), o0 (by omega), rfl⟩
      · skip
        refine SC.seq ?_
        refine SC.region ?_
        refine SL.val (OpV.move rfl) rfl ?_
        refine SL.val (OpV.eql rfl rfl) rfl ?_
        refine SL.val (OpV.move rfl) rfl ?_
        refine SL.andcut 5 (c := 39) (d := 44) rfl (fun h39 => ?_) ?_
        · skip
          refine SL.skip rfl rfl ?_
          refine SL.skip rfl rfl ?_
          refine SL.skip rfl rfl ?_
          refine SL.skip rfl rfl ?_
          refine SL.val (OpV.pickF rfl rfl) rfl ?_
          exact SL.nil ⟨rfl, rfl, (by repeat first | exact Env.le_refl _ | refine Env.le_new rfl ?_), [], List.Perm.refl _⟩
        apply Exists.intro
        refine And.intro (fun h39 => ?_) ?_
        · skip
          refine SL.gval rfl (OpV.fld fa38_1 rfl) rfl ?_
          refine SL.gval rfl (OpV.fld fa36_0 rfl) rfl ?_
          first
            | refine SL.gval rfl (OpV.load _ Tryz.underlying3 rfl rfl (Kn.blk 0 rfl rfl)) rfl ?_
            | refine SL.gval rfl (OpV.load _ Tryz.underlying3 rfl rfl (Kn.blk 1 rfl rfl)) rfl ?_
            | refine SL.gval rfl (OpV.load _ Tryz.underlying3 rfl rfl (Kn.blk 2 rfl rfl)) rfl ?_
            | refine SL.gval rfl (OpV.load _ Tryz.underlying3 rfl rfl (Kn.blk 3 rfl rfl)) rfl ?_
            | refine SL.gval rfl (OpV.load _ Tryz.underlying3 rfl rfl (Kn.mem (by assumption))) rfl ?_
          refine SL.gval rfl (OpV.eql rfl rfl) rfl ?_
          refine SL.val (OpV.pickT rfl rfl) rfl ?_
          exact SL.nil ⟨rfl, rfl, (by repeat first | exact Env.le_refl _ | refine Env.le_new rfl ?_), [], List.Perm.refl _⟩
        refine SL.val (OpV.assign rfl) rfl ?_
        refine SL.nil ?_
        refine seqQ.nm ?_
        first | refine SC.ifp rfl (fun h36 => ?_) (fun h36 => ?_) | refine SC.ite rfl (fun h36 => ?_) (fun h36 => ?_)
        · skip
          refine SC.region ?_
          refine SL.val (OpV.fld fa136_2 rfl) rfl ?_
          first
            | refine SL.val (OpV.load _ Tryz.underlying55 rfl rfl (Kn.blk 0 rfl rfl)) rfl ?_
            | refine SL.val (OpV.load _ Tryz.underlying55 rfl rfl (Kn.blk 1 rfl rfl)) rfl ?_
            | refine SL.val (OpV.load _ Tryz.underlying55 rfl rfl (Kn.blk 2 rfl rfl)) rfl ?_
            | refine SL.val (OpV.load _ Tryz.underlying55 rfl rfl (Kn.blk 3 rfl rfl)) rfl ?_
            | refine SL.val (OpV.load _ Tryz.underlying55 rfl rfl (Kn.mem (by assumption))) rfl ?_
          refine SL.val (OpV.move rfl) rfl ?_
          refine SL.val (OpV.fld fa136_2 rfl) rfl ?_
          first
            | refine SL.val (OpV.load _ Tryz.underlying55 rfl rfl (Kn.blk 0 rfl rfl)) rfl ?_
            | refine SL.val (OpV.load _ Tryz.underlying55 rfl rfl (Kn.blk 1 rfl rfl)) rfl ?_
            | refine SL.val (OpV.load _ Tryz.underlying55 rfl rfl (Kn.blk 2 rfl rfl)) rfl ?_
            | refine SL.val (OpV.load _ Tryz.underlying55 rfl rfl (Kn.blk 3 rfl rfl)) rfl ?_
            | refine SL.val (OpV.load _ Tryz.underlying55 rfl rfl (Kn.mem (by assumption))) rfl ?_
          refine SL.val (OpV.move rfl) rfl ?_
          refine SL.val (show OpV _ _ _ _ _ (.int .i64 (overP ((cores ms).take k) (classRef m.path).2)) by rw [← hko (classRef m.path).2]; exact (OpV.kvLookup Tryz.underlying55 Tryz.underlying9 zr3 rfl rfl (Ko.obj 2 rfl))) rfl ?_
          refine SL.val (OpV.bmax rfl rfl) rfl ?_
          refine SL.unit (OpU.mapPut 2 Tryz.underlying55 Tryz.underlying9 rfl rfl rfl rfl) ?_
          refine SL.nil ?_
          refine blockQ.nm ?_
          refine blockQ.nm ?_
          refine seqQ.nm ?_
          refine SC.drop 0 rfl ?_
          refine SC.region ?_
          refine SL.val (OpV.add rfl rfl (IntWalk.i64_in _ (by omega))) rfl ?_
          refine SL.val (OpV.move rfl) rfl ?_
          refine SL.nil ?_
          have g0 : cl m.core ≠ 2 → BoolsAt kg (goneP ((cores ms).take (k + 1))) := fun h => bools_same hkg (fun y => by rw [goneP_succ hcm]; simp [h])
          have m0 : cl m.core ≠ 3 → BoolsAt km (markedP ((cores ms).take (k + 1))) := fun h => bools_same hkm (fun y => by rw [markedP_succ hcm]; simp [h])
          have o0 : cl m.core ≠ 1 → IntsAt ko (overP ((cores ms).take (k + 1))) := fun h => ints_same hko (fun y => by rw [overP_succ hcm]; simp [h])
          have g1 : cl m.core = 2 → BoolsAt (kvPut (classRef m.path).2 (.bool true) kg) (goneP ((cores ms).take (k + 1))) := fun h => bools_put hkg _ (fun y => by rw [goneP_succ hcm]; simp [h, htg])
          have m1 : cl m.core = 3 → BoolsAt (kvPut (classRef m.path).2 (.bool true) km) (markedP ((cores ms).take (k + 1))) := fun h => bools_put hkm _ (fun y => by rw [markedP_succ hcm]; simp [h, htg])
          have o1 : cl m.core = 1 → m.kind = 1 → IntsAt (kvPut (classRef m.path).2 (.int .i64 (max (overP ((cores ms).take k) (classRef m.path).2) 1)) ko) (overP ((cores ms).take (k + 1))) := fun h h2 => ints_put hko _ _ (fun y => by
            rw [overP_succ hcm]
            by_cases hy : (classRef m.path).2 = y
            · subst hy; simp [h, htg, hkd, h2]
            · simp [h, htg, hy])
          have o2 : cl m.core = 1 → m.kind ≠ 1 → IntsAt (kvPut (classRef m.path).2 (.int .i64 2) ko) (overP ((cores ms).take (k + 1))) := fun h h2 => ints_put hko _ _ (fun y => by
            rw [overP_succ hcm]
            by_cases hy : (classRef m.path).2 = y
            · subst hy; simp [h, htg, hkd, h2]
            · simp [h, htg, hy])
          first
            | exact loopQ.nm (k + 1, kvPut (classRef m.path).2 (.bool true) kg, km, ko) (by dsimp only; omega) ⟨rfl, rfl, rfl, rfl, rfl, trivial⟩ (List.Perm.refl _) ⟨by dsimp only; omega, g1 (by omega), m0 (by omega), o0 (by omega), rfl⟩
            | exact loopQ.nm (k + 1, kg, kvPut (classRef m.path).2 (.bool true) km, ko) (by dsimp only; omega) ⟨rfl, rfl, rfl, rfl, rfl, trivial⟩ (List.Perm.refl _) ⟨by dsimp only; omega, g0 (by omega), m1 (by omega), o0 (by omega), rfl⟩
            | exact loopQ.nm (k + 1, kg, km, kvPut (classRef m.path).2 (.int .i64 (max (overP ((cores ms).take k) (classRef m.path).2) 1)) ko) (by dsimp only; omega) ⟨rfl, rfl, rfl, rfl, rfl, trivial⟩ (List.Perm.refl _) ⟨by dsimp only; omega, g0 (by simp at h36; omega), m0 (by simp at h36; omega), o1 (by simp at h36; omega) (by simp at h36; omega), rfl⟩
            | exact loopQ.nm (k + 1, kg, km, kvPut (classRef m.path).2 (.int .i64 2) ko) (by dsimp only; omega) ⟨rfl, rfl, rfl, rfl, rfl, trivial⟩ (List.Perm.refl _) ⟨by dsimp only; omega, g0 (by omega), m0 (by omega), o2 (by omega) (by simp at h36; intro e; exact h36 h53 e), rfl⟩
            | exact loopQ.nm (k + 1, kg, km, ko) (by dsimp only; omega) ⟨rfl, rfl, rfl, rfl, rfl, trivial⟩ (List.Perm.refl _) ⟨by dsimp only; omega, g0 (by omega), m0 (by omega), o0 (by omega), rfl⟩
        · skip
          refine SC.seq ?_
          refine SC.region ?_
          refine SL.val (OpV.move rfl) rfl ?_
          refine SL.val (OpV.eql rfl rfl) rfl ?_
          refine SL.val (OpV.assign rfl) rfl ?_
          refine SL.nil ?_
          refine seqQ.nm ?_
          first | refine SC.ifp rfl (fun h53 => ?_) (fun h53 => ?_) | refine SC.ite rfl (fun h53 => ?_) (fun h53 => ?_)
          · skip
            refine SC.region ?_
            refine SL.val (OpV.fld fa136_2 rfl) rfl ?_
            first
              | refine SL.val (OpV.load _ Tryz.underlying55 rfl rfl (Kn.blk 0 rfl rfl)) rfl ?_
              | refine SL.val (OpV.load _ Tryz.underlying55 rfl rfl (Kn.blk 1 rfl rfl)) rfl ?_
              | refine SL.val (OpV.load _ Tryz.underlying55 rfl rfl (Kn.blk 2 rfl rfl)) rfl ?_
              | refine SL.val (OpV.load _ Tryz.underlying55 rfl rfl (Kn.blk 3 rfl rfl)) rfl ?_
              | refine SL.val (OpV.load _ Tryz.underlying55 rfl rfl (Kn.mem (by assumption))) rfl ?_
            refine SL.val (OpV.move rfl) rfl ?_
            refine SL.unit (OpU.mapPut 2 Tryz.underlying55 Tryz.underlying9 rfl rfl rfl rfl) ?_
            refine SL.nil ?_
            refine blockQ.nm ?_
            refine blockQ.nm ?_
            refine seqQ.nm ?_
            refine SC.drop 0 rfl ?_
            refine SC.region ?_
            refine SL.val (OpV.add rfl rfl (IntWalk.i64_in _ (by omega))) rfl ?_
            refine SL.val (OpV.move rfl) rfl ?_
            refine SL.nil ?_
            have g0 : cl m.core ≠ 2 → BoolsAt kg (goneP ((cores ms).take (k + 1))) := fun h => bools_same hkg (fun y => by rw [goneP_succ hcm]; simp [h])
            have m0 : cl m.core ≠ 3 → BoolsAt km (markedP ((cores ms).take (k + 1))) := fun h => bools_same hkm (fun y => by rw [markedP_succ hcm]; simp [h])
            have o0 : cl m.core ≠ 1 → IntsAt ko (overP ((cores ms).take (k + 1))) := fun h => ints_same hko (fun y => by rw [overP_succ hcm]; simp [h])
            have g1 : cl m.core = 2 → BoolsAt (kvPut (classRef m.path).2 (.bool true) kg) (goneP ((cores ms).take (k + 1))) := fun h => bools_put hkg _ (fun y => by rw [goneP_succ hcm]; simp [h, htg])
            have m1 : cl m.core = 3 → BoolsAt (kvPut (classRef m.path).2 (.bool true) km) (markedP ((cores ms).take (k + 1))) := fun h => bools_put hkm _ (fun y => by rw [markedP_succ hcm]; simp [h, htg])
            have o1 : cl m.core = 1 → m.kind = 1 → IntsAt (kvPut (classRef m.path).2 (.int .i64 (max (overP ((cores ms).take k) (classRef m.path).2) 1)) ko) (overP ((cores ms).take (k + 1))) := fun h h2 => ints_put hko _ _ (fun y => by
              rw [overP_succ hcm]
              by_cases hy : (classRef m.path).2 = y
              · subst hy; simp [h, htg, hkd, h2]
              · simp [h, htg, hy])
            have o2 : cl m.core = 1 → m.kind ≠ 1 → IntsAt (kvPut (classRef m.path).2 (.int .i64 2) ko) (overP ((cores ms).take (k + 1))) := fun h h2 => ints_put hko _ _ (fun y => by
              rw [overP_succ hcm]
              by_cases hy : (classRef m.path).2 = y
              · subst hy; simp [h, htg, hkd, h2]
              · simp [h, htg, hy])
            first
              | exact loopQ.nm (k + 1, kvPut (classRef m.path).2 (.bool true) kg, km, ko) (by dsimp only; omega) ⟨rfl, rfl, rfl, rfl, rfl, trivial⟩ (List.Perm.refl _) ⟨by dsimp only; omega, g1 (by omega), m0 (by omega), o0 (by omega), rfl⟩
              | exact loopQ.nm (k + 1, kg, kvPut (classRef m.path).2 (.bool true) km, ko) (by dsimp only; omega) ⟨rfl, rfl, rfl, rfl, rfl, trivial⟩ (List.Perm.refl _) ⟨by dsimp only; omega, g0 (by omega), m1 (by omega), o0 (by omega), rfl⟩
              | exact loopQ.nm (k + 1, kg, km, kvPut (classRef m.path).2 (.int .i64 (max (overP ((cores ms).take k) (classRef m.path).2) 1)) ko) (by dsimp only; omega) ⟨rfl, rfl, rfl, rfl, rfl, trivial⟩ (List.Perm.refl _) ⟨by dsimp only; omega, g0 (by simp at h36; omega), m0 (by simp at h36; omega), o1 (by simp at h36; omega) (by simp at h36; omega), rfl⟩
              | exact loopQ.nm (k + 1, kg, km, kvPut (classRef m.path).2 (.int .i64 2) ko) (by dsimp only; omega) ⟨rfl, rfl, rfl, rfl, rfl, trivial⟩ (List.Perm.refl _) ⟨by dsimp only; omega, g0 (by omega), m0 (by omega), o2 (by omega) (by simp at h36; intro e; exact h36 h53 e), rfl⟩
              | exact loopQ.nm (k + 1, kg, km, ko) (by dsimp only; omega) ⟨rfl, rfl, rfl, rfl, rfl, trivial⟩ (List.Perm.refl _) ⟨by dsimp only; omega, g0 (by omega), m0 (by omega), o0 (by omega), rfl⟩
          · skip
            refine SC.skip ?_
            refine blockQ.nm ?_
            refine blockQ.nm ?_
            refine seqQ.nm ?_
            refine SC.drop 0 rfl ?_
            refine SC.region ?_
            refine SL.val (OpV.add rfl rfl (IntWalk.i64_in _ (by omega))) rfl ?_
            refine SL.val (OpV.move rfl) rfl ?_
            refine SL.nil ?_
            have g0 : cl m.core ≠ 2 → BoolsAt kg (goneP ((cores ms).take (k + 1))) := fun h => bools_same hkg (fun y => by rw [goneP_succ hcm]; simp [h])
            have m0 : cl m.core ≠ 3 → BoolsAt km (markedP ((cores ms).take (k + 1))) := fun h => bools_same hkm (fun y => by rw [markedP_succ hcm]; simp [h])
            have o0 : cl m.core ≠ 1 → IntsAt ko (overP ((cores ms).take (k + 1))) := fun h => ints_same hko (fun y => by rw [overP_succ hcm]; simp [h])
            have g1 : cl m.core = 2 → BoolsAt (kvPut (classRef m.path).2 (.bool true) kg) (goneP ((cores ms).take (k + 1))) := fun h => bools_put hkg _ (fun y => by rw [goneP_succ hcm]; simp [h, htg])
            have m1 : cl m.core = 3 → BoolsAt (kvPut (classRef m.path).2 (.bool true) km) (markedP ((cores ms).take (k + 1))) := fun h => bools_put hkm _ (fun y => by rw [markedP_succ hcm]; simp [h, htg])
            have o1 : cl m.core = 1 → m.kind = 1 → IntsAt (kvPut (classRef m.path).2 (.int .i64 (max (overP ((cores ms).take k) (classRef m.path).2) 1)) ko) (overP ((cores ms).take (k + 1))) := fun h h2 => ints_put hko _ _ (fun y => by
              rw [overP_succ hcm]
              by_cases hy : (classRef m.path).2 = y
              · subst hy; simp [h, htg, hkd, h2]
              · simp [h, htg, hy])
            have o2 : cl m.core = 1 → m.kind ≠ 1 → IntsAt (kvPut (classRef m.path).2 (.int .i64 2) ko) (overP ((cores ms).take (k + 1))) := fun h h2 => ints_put hko _ _ (fun y => by
              rw [overP_succ hcm]
              by_cases hy : (classRef m.path).2 = y
              · subst hy; simp [h, htg, hkd, h2]
              · simp [h, htg, hy])
            first
              | exact loopQ.nm (k + 1, kvPut (classRef m.path).2 (.bool true) kg, km, ko) (by dsimp only; omega) ⟨rfl, rfl, rfl, rfl, rfl, trivial⟩ (List.Perm.refl _) ⟨by dsimp only; omega, g1 (by omega), m0 (by omega), o0 (by omega), rfl⟩
              | exact loopQ.nm (k + 1, kg, kvPut (classRef m.path).2 (.bool true) km, ko) (by dsimp only; omega) ⟨rfl, rfl, rfl, rfl, rfl, trivial⟩ (List.Perm.refl _) ⟨by dsimp only; omega, g0 (by omega), m1 (by omega), o0 (by omega), rfl⟩
              | exact loopQ.nm (k + 1, kg, km, kvPut (classRef m.path).2 (.int .i64 (max (overP ((cores ms).take k) (classRef m.path).2) 1)) ko) (by dsimp only; omega) ⟨rfl, rfl, rfl, rfl, rfl, trivial⟩ (List.Perm.refl _) ⟨by dsimp only; omega, g0 (by simp at h36; omega), m0 (by simp at h36; omega), o1 (by simp at h36; omega) (by simp at h36; omega), rfl⟩
              | exact loopQ.nm (k + 1, kg, km, kvPut (classRef m.path).2 (.int .i64 2) ko) (by dsimp only; omega) ⟨rfl, rfl, rfl, rfl, rfl, trivial⟩ (List.Perm.refl _) ⟨by dsimp only; omega, g0 (by omega), m0 (by omega), o2 (by omega) (by simp at h36; intro e; exact h36 h53 e), rfl⟩
              | exact loopQ.nm (k + 1, kg, km, ko) (by dsimp only; omega) ⟨rfl, rfl, rfl, rfl, rfl, trivial⟩ (List.Perm.refl _) ⟨by dsimp only; omega, g0 (by omega), m0 (by omega), o0 (by omega), rfl⟩
  · skip
    have hke : k = (cores ms).length := by simp; omega
    rw [hke, List.take_length] at hkg hkm hko
    refine SC.fixObj 3 rfl ?_
    intro M2 hM2 h8
    refine SC.fixObj 2 rfl ?_
    intro M3 hM3 h9
    refine SC.fixObj 1 rfl ?_
    intro M4 hM4 h10
    refine SC.exit ?_
    refine seqQ.e ?_
    refine loopQ.e ?_
    refine blockQ.e ?_
    refine seqQ.nm ?_
    refine SC.seq ?_
    refine SC.region ?_
    first
      | refine SL.val (OpV.loads (cs := [.map (some b8), .map (some b9), .map (some b10)]) _ Tryz.underlying136 rfl rfl sz136 (Kns.blk 0 rfl rfl)) rfl ?_
      | refine SL.val (OpV.loads (cs := [.map (some b8), .map (some b9), .map (some b10)]) _ Tryz.underlying136 rfl rfl sz136 (Kns.blk 1 rfl rfl)) rfl ?_
      | refine SL.val (OpV.loads (cs := [.map (some b8), .map (some b9), .map (some b10)]) _ Tryz.underlying136 rfl rfl sz136 (Kns.blk 2 rfl rfl)) rfl ?_
      | refine SL.val (OpV.loads (cs := [.map (some b8), .map (some b9), .map (some b10)]) _ Tryz.underlying136 rfl rfl sz136 (Kns.blk 3 rfl rfl)) rfl ?_
      | refine SL.val (OpV.loads (cs := [.map (some b8), .map (some b9), .map (some b10)]) _ Tryz.underlying136 rfl rfl sz136 (Kns.mem (by assumption))) rfl ?_
    first
      | refine SL.unit (OpU.store 0 rfl rfl rfl sz136 (by first | exact Nat.le_of_ble_eq_true rfl | (simp; done) | (simp; omega) | omega) (by first | rfl | (simp [Value.cells, Value.oneCell']; done))) ?_
      | refine SL.unit (OpU.storeRow 0 rfl rfl rfl sz136 (by first | exact Nat.le_of_ble_eq_true rfl | (simp; done) | (simp; omega) | omega) (by first | rfl | (simp [Value.cells, Value.oneCell']; done))) ?_
      | refine SL.unit (OpU.store 1 rfl rfl rfl sz136 (by first | exact Nat.le_of_ble_eq_true rfl | (simp; done) | (simp; omega) | omega) (by first | rfl | (simp [Value.cells, Value.oneCell']; done))) ?_
      | refine SL.unit (OpU.storeRow 1 rfl rfl rfl sz136 (by first | exact Nat.le_of_ble_eq_true rfl | (simp; done) | (simp; omega) | omega) (by first | rfl | (simp [Value.cells, Value.oneCell']; done))) ?_
      | refine SL.unit (OpU.store 2 rfl rfl rfl sz136 (by first | exact Nat.le_of_ble_eq_true rfl | (simp; done) | (simp; omega) | omega) (by first | rfl | (simp [Value.cells, Value.oneCell']; done))) ?_
      | refine SL.unit (OpU.storeRow 2 rfl rfl rfl sz136 (by first | exact Nat.le_of_ble_eq_true rfl | (simp; done) | (simp; omega) | omega) (by first | rfl | (simp [Value.cells, Value.oneCell']; done))) ?_
      | refine SL.unit (OpU.store 3 rfl rfl rfl sz136 (by first | exact Nat.le_of_ble_eq_true rfl | (simp; done) | (simp; omega) | omega) (by first | rfl | (simp [Value.cells, Value.oneCell']; done))) ?_
      | refine SL.unit (OpU.storeRow 3 rfl rfl rfl sz136 (by first | exact Nat.le_of_ble_eq_true rfl | (simp; done) | (simp; omega) | omega) (by first | rfl | (simp [Value.cells, Value.oneCell']; done))) ?_
    refine SL.nil ?_
    refine seqQ.nm ?_
    refine SC.ret ?_
    refine retQ.one rfl (.cells (cs := [.map (some b8), .map (some b9), .map (some b10)]) _ Tryz.underlying136 rfl rfl sz136 (Kns.blk 1 rfl rfl)) ?_ _ (.inr rfl)
    exact ⟨b8, b9, b10, _, _, _, rfl, hM4 _ _ (hM3 _ _ h8), hM4 _ _ h9, h10, hkg, hkm, hko⟩
end Go.Proofs.YtceabkfmjffnhaaGreatDoor
set_option linter.unusedVariables false
set_option linter.unusedSimpArgs false
namespace Go.Proofs.YtceabkfmjffnhaaGreatDoor
open Go Go.Eng

/-- slices.IndexFunc over texts; the function value may lean on what is owned, and leaves it as it is. -/
theorem indexFuncF_ev (l : List Bytes) (v : Value) (f : FuncId) (fst cap : Array Value) (p : Bytes → Bool) (LL : List Res) (M : Mem) (hv : Sl1 M v l) (hl : l.length ≤ 1099511627776) (hok : Fn.ok Tryz.prog f)
    (hf : ∀ x ∈ l, Ev Tryz.prog f (fst.toList ++ [str x] ++ cap.toList).toArray LL M fun v' L' M' => v' = .bool (p x) ∧ L' = LL ∧ M = M') :
    Ev Tryz.prog 50 [v, .func (.func f) fst cap].toArray LL M fun v' L' M' => ∃ k : Int, v' = .int .i64 k ∧ (0 ≤ k ↔ l.any p = true) ∧ L' = LL ∧ M = M' := by
  obtain ⟨ad, cp, rfl, hcap, hmax⟩ := hv.len
  refine Ev.enter Tryz.func50 rfl Tryz.ntmps50 rfl ?_
  refine SC.seq ?_
  refine SC.region ?_
  refine SL.val (OpV.assign rfl) rfl ?_
  refine SL.nil ?_
  refine seqQ.nm ?_
  refine SC.seq ?_
  refine SC.seq ?_
  refine SC.region ?_
  refine SL.val (OpV.move rfl) rfl ?_
  refine SL.val (OpV.llen Tryz.underlying52 rfl) rfl ?_
  refine SL.val (OpV.move rfl) rfl ?_
  refine SL.nil ?_
  refine seqQ.nm ?_
  refine SC.block ?_
  refine SC.loop (ι := Nat) (fun k M' => k ≤ l.length ∧ (l.take k).any p = false ∧ M = M') (fun k => [(0, .slice ad l.length cp), (1, .func (.func f) fst cap), (7, .int .i64 l.length), (8, .int .i64 k)]) (fun _ => LL) (fun k => l.length - k) 0 (G := []) ⟨rfl, rfl, rfl, rfl, trivial⟩ (List.Perm.refl _) ⟨Nat.zero_le _, rfl, rfl⟩ ?_
  rintro k _ _ ⟨hk, hno, rfl⟩
  refine SC.seq ?_
  refine SC.region ?_
  refine SL.val (OpV.lss rfl rfl) rfl ?_
  refine SL.nil ?_
  refine seqQ.nm ?_
  refine SC.seq ?_
  first | refine SC.ifp rfl (fun h9 => ?_) (fun h9 => ?_) | refine SC.ite rfl (fun h9 => ?_) (fun h9 => ?_)
  · skip
    have hlt : k < l.length := by omega
    obtain ⟨g, o, cap', he, hc, _⟩ := hv.at_ (by omega)
    cases he
    obtain ⟨x, hx⟩ := getElem?_lt hlt
    have hxm := List.mem_of_getElem? hx
    refine SC.skip ?_
    refine seqQ.nm ?_
    refine SC.seq ?_
    refine SC.block ?_
    refine SC.seq ?_
    refine SC.region ?_
    refine SL.val (OpV.move rfl) rfl ?_
    refine SL.val (OpV.assign rfl) rfl ?_
    refine SL.nil ?_
    refine seqQ.nm ?_
    refine SC.seq ?_
    refine SC.region ?_
    refine SL.val (OpV.move rfl) rfl ?_
    refine SL.val (OpV.move rfl) rfl ?_
    refine SL.val (OpV.move rfl) rfl ?_
    refine SL.val (OpV.indexAddr1 Tryz.underlying52 sz9 rfl rfl (by omega) (by omega)) rfl ?_
    refine SL.val (OpV.load _ Tryz.underlying9 rfl rfl (Kn.mem (hc.at_ k (v := str x) (by simp [hx])))) rfl ?_
    refine SL.callf (.inl rfl) hok rfl rfl (L1 := LL) (List.Perm.of_eq (List.append_nil LL).symm) (hf x hxm) rfl ?_
    rintro _ _ _ hM16 ⟨rfl, rfl, rfl⟩
    refine SL.nil ?_
    refine seqQ.nm ?_
    first | refine SC.ifp rfl (fun h16 => ?_) (fun h16 => ?_) | refine SC.ite rfl (fun h16 => ?_) (fun h16 => ?_)
    · skip
      refine SC.seq ?_
      refine SC.region ?_
      refine SL.val (OpV.move rfl) rfl ?_
      refine SL.val (OpV.assign rfl) rfl ?_
      refine SL.nil ?_
      refine seqQ.nm ?_
      refine SC.ret ?_
      refine blockQ.r ?_
      refine seqQ.r ?_
      refine loopQ.r ?_
      refine blockQ.r ?_
      refine seqQ.r ?_
      refine retQ.one rfl (.tmp rfl) ?_ _ (.inr rfl)
      exact ⟨_, rfl, ⟨fun _ => List.any_eq_true.2 ⟨x, hxm, h16⟩, fun _ => by omega⟩, by simp, rfl⟩
    · skip
      refine SC.skip ?_
      refine blockQ.nm ?_
      refine seqQ.nm ?_
      refine SC.region ?_
      refine SL.val (OpV.add rfl rfl (IntWalk.i64_in _ (by omega))) rfl ?_
      refine SL.val (OpV.move rfl) rfl ?_
      refine SL.nil ?_
      refine loopQ.nm (k + 1) (by omega) ⟨rfl, rfl, rfl, rfl, trivial⟩ (by simp) ⟨by omega, ?_, rfl⟩
      rw [List.take_add_one, hx]
      simp [hno, h16]
  · skip
    have hke : k = l.length := by omega
    rw [hke, List.take_length] at hno
    refine SC.exit ?_
    refine seqQ.e ?_
    refine loopQ.e ?_
    refine blockQ.e ?_
    refine seqQ.nm ?_
    refine SC.seq ?_
    refine SC.region ?_
    refine SL.val (OpV.assign rfl) rfl ?_
    refine SL.nil ?_
    refine seqQ.nm ?_
    refine SC.ret ?_
    refine retQ.one rfl (.tmp rfl) ?_ _ (.inr rfl)
    exact ⟨_, rfl, ⟨fun h => by omega, fun h => by rw [hno] at h; cases h⟩, by simp, rfl⟩
theorem containsFuncF_ev (l : List Bytes) (v : Value) (f : FuncId) (fst cap : Array Value) (p : Bytes → Bool) (LL : List Res) (M : Mem) (hv : Sl1 M v l) (hl : l.length ≤ 1099511627776) (hok : Fn.ok Tryz.prog f)
    (hf : ∀ x ∈ l, Ev Tryz.prog f (fst.toList ++ [str x] ++ cap.toList).toArray LL M fun v' L' M' => v' = .bool (p x) ∧ L' = LL ∧ M = M') :
    Ev Tryz.prog 25 [v, .func (.func f) fst cap].toArray LL M fun v' L' M' => v' = .bool (l.any p) ∧ L' = LL ∧ M = M' := by
  refine Ev.enter Tryz.func25 rfl Tryz.ntmps25 rfl ?_
  refine SC.seq ?_
  refine SC.region ?_
  refine SL.val (OpV.assign rfl) rfl ?_
  refine SL.nil ?_
  refine seqQ.nm ?_
  refine SC.seq ?_
  refine SC.region ?_
  refine SL.val (OpV.move rfl) rfl ?_
  refine SL.val (OpV.move rfl) rfl ?_
  refine SL.call ok50 rfl (L1 := LL) (List.Perm.of_eq (List.append_nil LL).symm) (indexFuncF_ev l v f fst cap p LL _ hv hl hok hf) rfl ?_
  rintro _ _ _ hM7 ⟨k, rfl, hk, rfl, rfl⟩
  refine SL.val (OpV.geq rfl rfl) rfl ?_
  refine SL.val (OpV.assign rfl) rfl ?_
  refine SL.nil ?_
  refine seqQ.nm ?_
  refine SC.ret ?_
  refine retQ.one rfl (.tmp rfl) ?_ _ (.inr rfl)
  refine ⟨?_, by simp, rfl⟩
  by_cases h : 0 ≤ k
  · rw [hk.1 h, decide_eq_true h]
  · have : l.any p = false := by
      cases hh : l.any p with
      | false => rfl
      | true => exact absurd (hk.2 hh) h
    rw [this, decide_eq_false h]
theorem estays_ev (x : Value) (p : Bytes) (cs : List Core) (M : Mem) (he : EffectAt M cs x) (hp : p.length ≤ 1099511627776) :
    Ev Tryz.prog 131 [x, str p].toArray [] M (Pu M (.bool (staysP cs p))) := by
  obtain ⟨bg, bm, bo, kg, km, ko, rfl, h1, h2, h3, hkg, hkm, hko⟩ := he
  refine Ev.lax ?_
  refine Ev.enter Tryz.func131 rfl Tryz.ntmps131 rfl ?_
  refine SC.seq ?_
  refine SC.region ?_
  refine SL.act (OpH.box rfl) rfl ?_; rintro _ _ _ hM2 ⟨b2, rfl, rfl, rfl⟩; clear hM2
  refine SL.val (OpV.assign rfl) rfl ?_
  refine SL.nil ?_
  refine seqQ.nm ?_
  refine SC.seq ?_
  refine SC.region ?_
  refine SL.val (OpV.move rfl) rfl ?_
  refine SL.call ok26 rfl (L1 := []) (List.Perm.refl _) (above_ev p _ hp) rfl ?_
  rintro va _ M2 hM2 ⟨rfl, hva⟩
  have hal := above_len p
  replace h1 := hM2 _ _ h1
  replace h2 := hM2 _ _ h2
  replace h3 := hM2 _ _ h3
  refine SL.val (OpV.assign rfl) rfl ?_
  refine SL.nil ?_
  refine seqQ.nm ?_
  refine SC.seq ?_
  refine SC.region ?_
  refine SL.val (OpV.makeFunc (vs := []) (us := [.pointer (some ⟨b2, 0, none⟩)]) rfl rfl) rfl ?_
  refine SL.val (OpV.assign rfl) rfl ?_
  refine SL.nil ?_
  refine seqQ.nm ?_
  refine SC.seq ?_
  refine SC.region ?_
  refine SL.val (OpV.move rfl) rfl ?_
  refine SL.val (OpV.sneq rfl rfl) rfl ?_
  refine SL.val (OpV.move rfl) rfl ?_
  refine SL.andcut 6 (c := 12) (d := 18) rfl (fun h12 => ?_) ?_
  · skip
    refine SL.skip rfl rfl ?_
    refine SL.skip rfl rfl ?_
    refine SL.skip rfl rfl ?_
    refine SL.skip rfl rfl ?_
    refine SL.skip rfl rfl ?_
    refine SL.val (OpV.pickF rfl rfl) rfl ?_
    exact SL.nil ⟨rfl, rfl, (by repeat first | exact Env.le_refl _ | refine Env.le_new rfl ?_), [], List.Perm.refl _⟩
  apply Exists.intro
  refine And.intro (fun h12 => ?_) ?_
  · skip
    refine SL.gval rfl (OpV.fld fa136_2 rfl) rfl ?_
    first
      | refine SL.gval rfl (OpV.load _ Tryz.underlying55 rfl rfl (Kn.blk 0 rfl rfl)) rfl ?_
      | refine SL.gval rfl (OpV.load _ Tryz.underlying55 rfl rfl (Kn.blk 1 rfl rfl)) rfl ?_
      | refine SL.gval rfl (OpV.load _ Tryz.underlying55 rfl rfl (Kn.blk 2 rfl rfl)) rfl ?_
      | refine SL.gval rfl (OpV.load _ Tryz.underlying55 rfl rfl (Kn.blk 3 rfl rfl)) rfl ?_
      | refine SL.gval rfl (OpV.load _ Tryz.underlying55 rfl rfl (Kn.mem (by assumption))) rfl ?_
    refine SL.gval rfl (OpV.move rfl) rfl ?_
    refine SL.gval rfl (show OpV _ _ _ _ _ (.int .i64 (overP cs p)) by rw [← hko p]; exact (OpV.kvLookup Tryz.underlying55 Tryz.underlying9 zr3 rfl rfl (Ko.mem h3))) rfl ?_
    refine SL.gval rfl (OpV.eql rfl rfl) rfl ?_
    refine SL.val (OpV.pickT rfl rfl) rfl ?_
    exact SL.nil ⟨rfl, rfl, (by repeat first | exact Env.le_refl _ | refine Env.le_new rfl ?_), [], List.Perm.refl _⟩
  refine SL.val (OpV.move rfl) rfl ?_
  refine SL.andcut 5 (c := 19) (d := 24) rfl (fun h19 => ?_) ?_
  · skip
    refine SL.skip rfl rfl ?_
    refine SL.skip rfl rfl ?_
    refine SL.skip rfl rfl ?_
    refine SL.skip rfl rfl ?_
    refine SL.val (OpV.pickF rfl rfl) rfl ?_
    exact SL.nil ⟨rfl, rfl, (by repeat first | exact Env.le_refl _ | refine Env.le_new rfl ?_), [], List.Perm.refl _⟩
  apply Exists.intro
  refine And.intro (fun h19 => ?_) ?_
  · skip
    refine SL.gval rfl (OpV.fld fa136_1 rfl) rfl ?_
    first
      | refine SL.gval rfl (OpV.load _ Tryz.underlying134 rfl rfl (Kn.blk 0 rfl rfl)) rfl ?_
      | refine SL.gval rfl (OpV.load _ Tryz.underlying134 rfl rfl (Kn.blk 1 rfl rfl)) rfl ?_
      | refine SL.gval rfl (OpV.load _ Tryz.underlying134 rfl rfl (Kn.blk 2 rfl rfl)) rfl ?_
      | refine SL.gval rfl (OpV.load _ Tryz.underlying134 rfl rfl (Kn.blk 3 rfl rfl)) rfl ?_
      | refine SL.gval rfl (OpV.load _ Tryz.underlying134 rfl rfl (Kn.mem (by assumption))) rfl ?_
    refine SL.gval rfl (show OpV _ _ _ _ _ (.bool (markedP cs [])) by rw [← hkm []]; exact (OpV.kvLookup Tryz.underlying134 Tryz.underlying9 zr4 rfl rfl (Ko.mem h2))) rfl ?_
    refine SL.gval rfl (OpV.not rfl) rfl ?_
    refine SL.val (OpV.pickT rfl rfl) rfl ?_
    exact SL.nil ⟨rfl, rfl, (by repeat first | exact Env.le_refl _ | refine Env.le_new rfl ?_), [], List.Perm.refl _⟩
  refine SL.val (OpV.move rfl) rfl ?_
  refine SL.andcut 5 (c := 25) (d := 30) rfl (fun h25 => ?_) ?_
  · skip
    refine SL.skip rfl rfl ?_
    refine SL.skip rfl rfl ?_
    refine SL.skip rfl rfl ?_
    refine SL.skip rfl rfl ?_
    refine SL.val (OpV.pickF rfl rfl) rfl ?_
    exact SL.nil ⟨rfl, rfl, (by repeat first | exact Env.le_refl _ | refine Env.le_new rfl ?_), [], List.Perm.refl _⟩
  apply Exists.intro
  refine And.intro (fun h25 => ?_) ?_
  · skip
    first
      | refine SL.gval rfl (OpV.loads (cs := [.map (some bg), .map (some bm), .map (some bo)]) _ Tryz.underlying136 rfl rfl sz136 (Kns.blk 0 rfl rfl)) rfl ?_
      | refine SL.gval rfl (OpV.loads (cs := [.map (some bg), .map (some bm), .map (some bo)]) _ Tryz.underlying136 rfl rfl sz136 (Kns.blk 1 rfl rfl)) rfl ?_
      | refine SL.gval rfl (OpV.loads (cs := [.map (some bg), .map (some bm), .map (some bo)]) _ Tryz.underlying136 rfl rfl sz136 (Kns.blk 2 rfl rfl)) rfl ?_
      | refine SL.gval rfl (OpV.loads (cs := [.map (some bg), .map (some bm), .map (some bo)]) _ Tryz.underlying136 rfl rfl sz136 (Kns.blk 3 rfl rfl)) rfl ?_
      | refine SL.gval rfl (OpV.loads (cs := [.map (some bg), .map (some bm), .map (some bo)]) _ Tryz.underlying136 rfl rfl sz136 (Kns.mem (by assumption))) rfl ?_
    refine SL.gval rfl (OpV.move rfl) rfl ?_
    refine SL.gcall rfl ok134 rfl (L1 := []) (List.Perm.refl _) (hides_ev p bg bm bo kg km ko (goneP cs) (markedP cs) (overP cs) [] _ (Ko.mem h1) (Ko.mem h3) hkg hko) rfl ?_
    rintro _ _ _ hM28 ⟨rfl, rfl, rfl⟩
    refine SL.gval rfl (OpV.not rfl) rfl ?_
    refine SL.val (OpV.pickT rfl rfl) rfl ?_
    exact SL.nil ⟨rfl, rfl, (by repeat first | exact Env.le_refl _ | refine Env.le_new rfl ?_), [], List.Perm.refl _⟩
  refine SL.val (OpV.move rfl) rfl ?_
  refine SL.andcut 6 (c := 31) (d := 37) rfl (fun h31 => ?_) ?_
  · skip
    refine SL.skip rfl rfl ?_
    refine SL.skip rfl rfl ?_
    refine SL.skip rfl rfl ?_
    refine SL.skip rfl rfl ?_
    refine SL.skip rfl rfl ?_
    refine SL.val (OpV.pickF rfl rfl) rfl ?_
    exact SL.nil ⟨rfl, rfl, (by repeat first | exact Env.le_refl _ | refine Env.le_new rfl ?_), [], List.Perm.refl _⟩
  apply Exists.intro
  refine And.intro (fun h31 => ?_) ?_
  · skip
    refine SL.gval rfl (OpV.move rfl) rfl ?_
    first
      | refine SL.gval rfl (OpV.loads (cs := [.map (some bg), .map (some bm), .map (some bo)]) _ Tryz.underlying136 rfl rfl sz136 (Kns.blk 0 rfl rfl)) rfl ?_
      | refine SL.gval rfl (OpV.loads (cs := [.map (some bg), .map (some bm), .map (some bo)]) _ Tryz.underlying136 rfl rfl sz136 (Kns.blk 1 rfl rfl)) rfl ?_
      | refine SL.gval rfl (OpV.loads (cs := [.map (some bg), .map (some bm), .map (some bo)]) _ Tryz.underlying136 rfl rfl sz136 (Kns.blk 2 rfl rfl)) rfl ?_
      | refine SL.gval rfl (OpV.loads (cs := [.map (some bg), .map (some bm), .map (some bo)]) _ Tryz.underlying136 rfl rfl sz136 (Kns.blk 3 rfl rfl)) rfl ?_
      | refine SL.gval rfl (OpV.loads (cs := [.map (some bg), .map (some bm), .map (some bo)]) _ Tryz.underlying136 rfl rfl sz136 (Kns.mem (by assumption))) rfl ?_
    refine SL.gval rfl (OpV.makeFunc (vs := [.agg #[.map (some bg), .map (some bm), .map (some bo)]]) (us := []) rfl rfl) rfl ?_
    refine SL.gcall rfl ok25 rfl (L1 := []) (List.Perm.refl _) (containsFuncF_ev (above p) va 134 #[.agg #[.map (some bg), .map (some bm), .map (some bo)]] #[] (fun y => goneP cs y || decide (overP cs y = 2)) [] _ hva (by omega) ok134 (fun y hy => hides_ev y bg bm bo kg km ko (goneP cs) (markedP cs) (overP cs) [] _ (Ko.mem h1) (Ko.mem h3) hkg hko)) rfl ?_
    rintro _ _ _ hM35 ⟨rfl, rfl, rfl⟩
    refine SL.gval rfl (OpV.not rfl) rfl ?_
    refine SL.val (OpV.pickT rfl rfl) rfl ?_
    exact SL.nil ⟨rfl, rfl, (by repeat first | exact Env.le_refl _ | refine Env.le_new rfl ?_), [], List.Perm.refl _⟩
  refine SL.val (OpV.move rfl) rfl ?_
  refine SL.andcut 5 (c := 38) (d := 43) rfl (fun h38 => ?_) ?_
  · skip
    refine SL.skip rfl rfl ?_
    refine SL.skip rfl rfl ?_
    refine SL.skip rfl rfl ?_
    refine SL.skip rfl rfl ?_
    refine SL.val (OpV.pickF rfl rfl) rfl ?_
    exact SL.nil ⟨rfl, rfl, (by repeat first | exact Env.le_refl _ | refine Env.le_new rfl ?_), [], List.Perm.refl _⟩
  apply Exists.intro
  refine And.intro (fun h38 => ?_) ?_
  · skip
    refine SL.gval rfl (OpV.move rfl) rfl ?_
    refine SL.gval rfl (OpV.move rfl) rfl ?_
    refine SL.gcall rfl ok25 rfl (L1 := [.blk b2 136 [.map (some bg), .map (some bm), .map (some bo)]]) (List.Perm.refl _) (containsFunc_ev (above p) va 133 #[.pointer (some ⟨b2, 0, none⟩)] (markedP cs) _ _ hva (by omega) ok133 (fun y hy => marked_ev y b2 bg bm bo km (markedP cs) _ _ (Kn.blk 0 rfl rfl) (Ko.mem h2) hkm)) rfl ?_
    rintro _ _ _ hM41 ⟨rfl, rfl, rfl⟩
    refine SL.gval rfl (OpV.not rfl) rfl ?_
    refine SL.val (OpV.pickT rfl rfl) rfl ?_
    exact SL.nil ⟨rfl, rfl, (by repeat first | exact Env.le_refl _ | refine Env.le_new rfl ?_), [], List.Perm.refl _⟩
  refine SL.val (OpV.assign rfl) rfl ?_
  refine SL.nil ?_
  refine seqQ.nm ?_
  refine SC.ret ?_
  refine retQ.one rfl (.tmp rfl) ?_ _ (.inr rfl)
  show _ = Value.bool (staysP cs p)
  rw [← staysM_eq, staysM]
  rfl
theorem cstays_ev (v : Value) (ms : List Mb) (p : Bytes) (M : Mem) (hc : ClassTab M) (hv : SlM M v ms) (hok : ∀ m ∈ ms, m.ok M) (hl : ms.length ≤ 16777216) (hp : p.length ≤ 1099511627776) :
    Ev Tryz.prog 126 [v, str p].toArray [] M (Pu M (.bool (staysP (cores ms) p))) := by
  refine Ev.lax ?_
  refine Ev.enter Tryz.func126 rfl Tryz.ntmps126 rfl ?_
  refine SC.seq ?_
  refine SC.region ?_
  refine SL.val (OpV.assign rfl) rfl ?_
  refine SL.nil ?_
  refine seqQ.nm ?_
  refine SC.seq ?_
  refine SC.region ?_
  refine SL.val (OpV.move rfl) rfl ?_
  refine SL.call ok130 rfl (L1 := []) (List.Perm.refl _) (cof_ev v ms _ hc hv hok hl) rfl ?_
  rintro w _ M2 hM2 ⟨rfl, hw⟩
  refine SL.val (OpV.move rfl) rfl ?_
  refine SL.call ok131 rfl (L1 := []) (List.Perm.refl _) (estays_ev w p _ _ hw hp) rfl ?_
  rintro _ _ _ hM8 ⟨rfl, rfl, rfl⟩
  refine SL.val (OpV.assign rfl) rfl ?_
  refine SL.nil ?_
  refine seqQ.nm ?_
  refine SC.ret ?_
  refine retQ.one rfl (.tmp rfl) ?_ _ (.inr rfl)
  exact rfl
end Go.Proofs.YtceabkfmjffnhaaGreatDoor
set_option linter.unusedVariables false
set_option linter.unusedSimpArgs false
namespace Go.Proofs.YtceabkfmjffnhaaGreatDoor
open Go Go.Eng

/-- The Members laid so far, as the map holds them. -/
def kvOf (acc : List Mb) : List (Bytes × Value) := acc.map fun m => (m.path, .agg m.cells.toArray)
theorem kvGet_of (acc : List Mb) (p : Bytes) : kvGet p (kvOf acc) = (acc.find? (fun m => decide (m.path = p))).map fun m => .agg m.cells.toArray := by
  induction acc with
  | nil => rfl
  | cons m r ih =>
    simp only [kvOf, List.map_cons, kvGet, List.find?_cons] at ih ⊢
    by_cases h : p = m.path
    · subst h; simp
    · have : ¬ m.path = p := fun e => h e.symm
      rw [if_neg h, decide_eq_false this]
      exact ih
def zeroMb : List Value := [.string ⟨#[]⟩, .int .i64 0, .int .u32 0, .int .u32 0, .int .u32 0, .int .i64 0, .slice none 0 0, .slice none 0 0, .string ⟨#[]⟩]
def oldCells (acc : List Mb) (p : Bytes) : List Value := ((acc.find? (fun m => decide (m.path = p))).map Mb.cells).getD zeroMb
theorem oldCells_len (acc : List Mb) (p : Bytes) : (oldCells acc p).length = 9 := by
  unfold oldCells
  cases acc.find? (fun m => decide (m.path = p)) <;> rfl
theorem kvGet_old (acc : List Mb) (p : Bytes) : (kvGet p (kvOf acc)).getD (.agg zeroMb.toArray) = .agg (oldCells acc p).toArray := by
  rw [kvGet_of, oldCells]
  cases acc.find? (fun m => decide (m.path = p)) <;> rfl
theorem kvGet_isSome (acc : List Mb) (p : Bytes) : (kvGet p (kvOf acc)).isSome = acc.any (fun m => decide (m.path = p)) := by
  rw [kvGet_of, Option.isSome_map]
  induction acc with
  | nil => rfl
  | cons x r ih =>
    simp only [List.find?_cons, List.any_cons]
    by_cases h : x.path = p
    · simp [h]
    · simp only [decide_eq_false h, Bool.false_or]; exact ih
theorem kvPut_of {acc : List Mb} {m : Mb} (h : acc.any (fun x => decide (x.path = m.path)) = false) : kvPut m.path (.agg m.cells.toArray) (kvOf acc) = kvOf (acc ++ [m]) := by
  induction acc with
  | nil => rfl
  | cons x r ih =>
    simp only [List.any_cons, Bool.or_eq_false_iff, decide_eq_false_iff_not] at h
    have hne : ¬ m.path = x.path := fun e => h.1 e.symm
    simp only [kvOf, List.map_cons, kvPut, if_neg hne, List.cons_append] at ih ⊢
    rw [ih h.2]
theorem oldCells_ones {M : Mem} (acc : List Mb) (p : Bytes) (h : ∀ x ∈ acc, x.ok M) : (Value.agg (oldCells acc p).toArray).cells.all (·.oneCell') = true := by
  unfold oldCells
  cases hf : acc.find? (fun m => decide (m.path = p)) with
  | none => simp [zeroMb, Value.cells, Value.oneCell']
  | some x => exact cells_ones (h x (List.mem_of_find?_eq_some hf))
theorem kvGet_pair (acc : List Mb) (p : Bytes) : (Value.tuple #[(kvGet p (kvOf acc)).getD (.agg zeroMb.toArray), .bool (kvGet p (kvOf acc)).isSome]) = .tuple #[.agg (oldCells acc p).toArray, .bool (acc.any (fun x => decide (x.path = p)))] := by rw [kvGet_old, kvGet_isSome]
theorem add_ev (b bm : Nat) (lo up : Value) (acc : List Mb) (m : Mb) (M : Mem) (hok : m.ok M) (hoks : ∀ x ∈ acc, x.ok M) :
    Ev Tryz.prog 124 [.pointer (some ⟨b, 0, none⟩), .agg m.cells.toArray].toArray [.blk b 66 [lo, up, .map (some bm)], .obj bm (mapObj (kvOf acc))] M fun v' L' M' => L' = [.blk b 66 [lo, up, .map (some bm)], .obj bm (mapObj (kvOf (withM acc m)))] ∧ M = M' := by
  have hol := oldCells_len acc m.path
  refine Ev.enter Tryz.func124 rfl Tryz.ntmps124 rfl ?_
  refine SC.seq ?_
  refine SC.region ?_
  refine SL.act (OpH.box rfl) rfl ?_; rintro _ _ _ hM3 ⟨b3, rfl, rfl, rfl⟩; clear hM3
  refine SL.nil ?_
  refine seqQ.nm ?_
  refine SC.seq ?_
  refine SC.drawAlloc [0, 1, 2, 3, 4, 5, 6, 7, 8] [9] 10 [] [11, 12] mixed (by decide +kernel) rfl zr38 rfl ?_
  refine SV.val (OpV.move rfl) rfl ?_
  refine SV.val (OpV.nilCheck rfl) rfl ?_
  refine SV.val (OpV.fld fa66_2 rfl) rfl ?_
  first
    | refine SV.val (OpV.load _ Tryz.underlying64 rfl rfl (Kn.blk 0 rfl rfl)) rfl ?_
    | refine SV.val (OpV.load _ Tryz.underlying64 rfl rfl (Kn.blk 1 rfl rfl)) rfl ?_
    | refine SV.val (OpV.load _ Tryz.underlying64 rfl rfl (Kn.blk 2 rfl rfl)) rfl ?_
    | refine SV.val (OpV.load _ Tryz.underlying64 rfl rfl (Kn.blk 3 rfl rfl)) rfl ?_
    | refine SV.val (OpV.load _ Tryz.underlying64 rfl rfl (Kn.mem (by assumption))) rfl ?_
  refine SV.val (OpV.fld fa38_0 rfl) rfl ?_
  first
    | refine SV.val (OpV.load _ Tryz.underlying9 rfl rfl (Kn.blk 0 rfl rfl)) rfl ?_
    | refine SV.val (OpV.load _ Tryz.underlying9 rfl rfl (Kn.blk 1 rfl rfl)) rfl ?_
    | refine SV.val (OpV.load _ Tryz.underlying9 rfl rfl (Kn.blk 2 rfl rfl)) rfl ?_
    | refine SV.val (OpV.load _ Tryz.underlying9 rfl rfl (Kn.blk 3 rfl rfl)) rfl ?_
    | refine SV.val (OpV.load _ Tryz.underlying9 rfl rfl (Kn.mem (by assumption))) rfl ?_
  refine SV.val (show OpV _ _ _ _ _ (.tuple #[.agg (oldCells acc m.path).toArray, .bool (acc.any (fun x => decide (x.path = m.path)))]) by rw [← kvGet_pair acc m.path]; exact (OpV.kvLookupOk Tryz.underlying64 Tryz.underlying9 zr38 rfl rfl (Ko.obj 2 rfl))) rfl ?_
  refine SV.val (OpV.move rfl) rfl ?_
  refine SV.val (OpV.extract rfl rfl) rfl ?_
  refine SV.nil ?_
  refine SA.val (OpV.extract rfl rfl) rfl ?_
  refine SA.nil ?_
  intro b4
  refine SA.nil ?_
  refine SL.unit (OpU.store 0 rfl rfl rfl (by rw [sz38]; simp [Value.cells, hol]) (by simp [Value.cells, hol]) (oldCells_ones acc m.path hoks)) ?_
  refine SL.val (OpV.assign rfl) rfl ?_
  refine SL.nil ⟨rfl, ?_⟩
  refine seqQ.nm ?_
  refine SC.seq ?_
  refine SC.region ?_
  refine SL.val (OpV.move rfl) rfl ?_
  refine SL.val (OpV.not rfl) rfl ?_
  refine SL.nil ?_
  refine seqQ.nm ?_
  first | refine SC.ifp rfl (fun h17 => ?_) (fun h17 => ?_) | refine SC.ite rfl (fun h17 => ?_) (fun h17 => ?_)
  · skip
    refine SC.drop 0 rfl ?_
    have hno : acc.any (fun x => decide (x.path = m.path)) = false := by simpa using h17
    have hw : withM acc m = acc ++ [m] := by rw [withM, if_neg (by rw [hno]; decide)]
    refine SC.draw [0, 1, 2, 3, 4, 5, 6] [] [] [] [7] mixed (by decide +kernel) ?_
    refine SV.val (OpV.move rfl) rfl ?_
    refine SV.val (OpV.nilCheck rfl) rfl ?_
    refine SV.val (OpV.fld fa66_2 rfl) rfl ?_
    first
      | refine SV.val (OpV.load _ Tryz.underlying64 rfl rfl (Kn.blk 0 rfl rfl)) rfl ?_
      | refine SV.val (OpV.load _ Tryz.underlying64 rfl rfl (Kn.blk 1 rfl rfl)) rfl ?_
      | refine SV.val (OpV.load _ Tryz.underlying64 rfl rfl (Kn.blk 2 rfl rfl)) rfl ?_
      | refine SV.val (OpV.load _ Tryz.underlying64 rfl rfl (Kn.blk 3 rfl rfl)) rfl ?_
      | refine SV.val (OpV.load _ Tryz.underlying64 rfl rfl (Kn.mem (by assumption))) rfl ?_
    refine SV.val (OpV.fld fa38_0 rfl) rfl ?_
    first
      | refine SV.val (OpV.load _ Tryz.underlying9 rfl rfl (Kn.blk 0 rfl rfl)) rfl ?_
      | refine SV.val (OpV.load _ Tryz.underlying9 rfl rfl (Kn.blk 1 rfl rfl)) rfl ?_
      | refine SV.val (OpV.load _ Tryz.underlying9 rfl rfl (Kn.blk 2 rfl rfl)) rfl ?_
      | refine SV.val (OpV.load _ Tryz.underlying9 rfl rfl (Kn.blk 3 rfl rfl)) rfl ?_
      | refine SV.val (OpV.load _ Tryz.underlying9 rfl rfl (Kn.mem (by assumption))) rfl ?_
    first
      | refine SV.val (OpV.loads (cs := m.cells) _ Tryz.underlying38 rfl rfl sz38 (Kns.blk 0 rfl rfl)) rfl ?_
      | refine SV.val (OpV.loads (cs := m.cells) _ Tryz.underlying38 rfl rfl sz38 (Kns.blk 1 rfl rfl)) rfl ?_
      | refine SV.val (OpV.loads (cs := m.cells) _ Tryz.underlying38 rfl rfl sz38 (Kns.blk 2 rfl rfl)) rfl ?_
      | refine SV.val (OpV.loads (cs := m.cells) _ Tryz.underlying38 rfl rfl sz38 (Kns.blk 3 rfl rfl)) rfl ?_
      | refine SV.val (OpV.loads (cs := m.cells) _ Tryz.underlying38 rfl rfl sz38 (Kns.mem (by assumption))) rfl ?_
    refine SV.nil ?_
    refine SA.nil ?_
    refine SQ.nil ?_
    refine SA.nil ?_
    refine SL.unit (OpU.mapPut 2 Tryz.underlying64 Tryz.underlying9 rfl rfl rfl rfl) ?_
    refine SL.drop 0 rfl ?_
    refine SL.nil ⟨rfl, ?_⟩
    refine retQ.none rfl  ?_ _ (.inl rfl)
    exact ⟨by first | (rw [hw]; rfl) | (rw [hw, ← kvPut_of hno]; rfl), rfl⟩
  · skip
    refine SC.drop 0 rfl (SC.drop 0 rfl ?_)
    have hyes : acc.any (fun x => decide (x.path = m.path)) = true := by simpa using h17
    have hw : withM acc m = acc := by rw [withM, if_pos hyes]
    refine SC.skip ?_
    refine retQ.none rfl  ?_ _ (.inl rfl)
    exact ⟨by first | (rw [hw]; rfl) | (rw [hw, ← kvPut_of hno]; rfl), rfl⟩
end Go.Proofs.YtceabkfmjffnhaaGreatDoor
set_option linter.unusedVariables false
set_option linter.unusedSimpArgs false
namespace Go.Proofs.YtceabkfmjffnhaaGreatDoor
open Go Go.Eng

theorem whole_ev (b bm : Nat) (lo up : Value) (upper acc : List Mb) (M : Mem) (hv : SlM M up upper) (hok : ∀ m ∈ upper, m.ok M) (hoks : ∀ x ∈ acc, x.ok M) (hl : upper.length ≤ 16777216) :
    Ev Tryz.prog 120 [.pointer (some ⟨b, 0, none⟩)].toArray [.blk b 66 [lo, up, .map (some bm)], .obj bm (mapObj (kvOf acc))] M fun v' L' M' => L' = [.blk b 66 [lo, up, .map (some bm)], .obj bm (mapObj (kvOf (upper.foldl withM acc)))] ∧ M = M' := by
  obtain ⟨ad, cap, rfl, hcap, hmax⟩ := hv.len
  refine Ev.enter Tryz.func120 rfl Tryz.ntmps120 rfl ?_
  refine SC.seq ?_
  refine SC.region ?_
  refine SL.val (OpV.move rfl) rfl ?_
  refine SL.val (OpV.nilCheck rfl) rfl ?_
  refine SL.val (OpV.fld fa66_1 rfl) rfl ?_
  first
    | refine SL.val (OpV.load _ Tryz.underlying25 rfl rfl (Kn.blk 0 rfl rfl)) rfl ?_
    | refine SL.val (OpV.load _ Tryz.underlying25 rfl rfl (Kn.blk 1 rfl rfl)) rfl ?_
    | refine SL.val (OpV.load _ Tryz.underlying25 rfl rfl (Kn.blk 2 rfl rfl)) rfl ?_
    | refine SL.val (OpV.load _ Tryz.underlying25 rfl rfl (Kn.blk 3 rfl rfl)) rfl ?_
    | refine SL.val (OpV.load _ Tryz.underlying25 rfl rfl (Kn.mem (by assumption))) rfl ?_
  refine SL.val (OpV.llen Tryz.underlying25 rfl) rfl ?_
  refine SL.val (OpV.move rfl) rfl ?_
  refine SL.nil ?_
  refine seqQ.nm ?_
  refine SC.block ?_
  refine SC.loop (ι := Nat × List Mb) (fun x M' => x.1 ≤ upper.length ∧ x.2 = (upper.take x.1).foldl withM acc ∧ (∀ y ∈ x.2, y.ok M) ∧ M = M') (fun x => [(0, .pointer (some ⟨b, 0, none⟩)), (7, .slice ad upper.length cap), (8, .int .i64 upper.length), (9, .int .i64 x.1)]) (fun x => [.blk b 66 [lo, .slice ad upper.length cap, .map (some bm)], .obj bm (mapObj (kvOf x.2))]) (fun x => upper.length - x.1) (0, acc) (G := []) ⟨rfl, rfl, rfl, rfl, trivial⟩ (List.Perm.refl _) ⟨Nat.zero_le _, rfl, hoks, rfl⟩ ?_
  rintro ⟨k, out⟩ _ _ ⟨hk, hout, hoko, rfl⟩
  dsimp only at hk hout hoko ⊢
  refine SC.seq ?_
  refine SC.region ?_
  refine SL.val (OpV.lss rfl rfl) rfl ?_
  refine SL.nil ?_
  refine seqQ.nm ?_
  refine SC.seq ?_
  first | refine SC.ifp rfl (fun h10 => ?_) (fun h10 => ?_) | refine SC.ite rfl (fun h10 => ?_) (fun h10 => ?_)
  · skip
    have hlt : k < upper.length := by omega
    obtain ⟨g, o, cap', he, hcs, _⟩ := hv.at_ (by omega)
    cases he
    obtain ⟨m, hm⟩ := getElem?_lt hlt
    have hmok := hok m (List.mem_of_getElem? hm)
    have hmc := mbCells_at hcs hm
    have hst := foldl_take withM acc upper k m hm
    rw [← hout] at hst
    refine SC.skip ?_
    refine seqQ.nm ?_
    refine SC.seq ?_
    refine SC.block ?_
    refine SC.seq ?_
    refine SC.region ?_
    refine SL.val (OpV.indexAddr Tryz.underlying25 sz38 rfl rfl (by omega) (by omega)) rfl ?_
    refine SL.val (OpV.loads (cs := m.cells) _ Tryz.underlying38 rfl rfl sz38 (Kns.mem hmc)) rfl ?_
    refine SL.act (OpH.alloc zr38) rfl ?_; rintro _ _ _ hM3 ⟨b3, rfl, rfl, rfl⟩; clear hM3
    first
      | refine SL.unit (OpU.store 0 rfl rfl rfl sz38 (by first | exact Nat.le_of_ble_eq_true rfl | (simp; done) | (simp; omega) | omega) (cells_ones hmok)) ?_
      | refine SL.unit (OpU.storeRow 0 rfl rfl rfl sz38 (by first | exact Nat.le_of_ble_eq_true rfl | (simp; done) | (simp; omega) | omega) (cells_ones hmok)) ?_
      | refine SL.unit (OpU.store 1 rfl rfl rfl sz38 (by first | exact Nat.le_of_ble_eq_true rfl | (simp; done) | (simp; omega) | omega) (cells_ones hmok)) ?_
      | refine SL.unit (OpU.storeRow 1 rfl rfl rfl sz38 (by first | exact Nat.le_of_ble_eq_true rfl | (simp; done) | (simp; omega) | omega) (cells_ones hmok)) ?_
      | refine SL.unit (OpU.store 2 rfl rfl rfl sz38 (by first | exact Nat.le_of_ble_eq_true rfl | (simp; done) | (simp; omega) | omega) (cells_ones hmok)) ?_
      | refine SL.unit (OpU.storeRow 2 rfl rfl rfl sz38 (by first | exact Nat.le_of_ble_eq_true rfl | (simp; done) | (simp; omega) | omega) (cells_ones hmok)) ?_
      | refine SL.unit (OpU.store 3 rfl rfl rfl sz38 (by first | exact Nat.le_of_ble_eq_true rfl | (simp; done) | (simp; omega) | omega) (cells_ones hmok)) ?_
      | refine SL.unit (OpU.storeRow 3 rfl rfl rfl sz38 (by first | exact Nat.le_of_ble_eq_true rfl | (simp; done) | (simp; omega) | omega) (cells_ones hmok)) ?_
    refine SL.nil ?_
    refine seqQ.nm ?_
    refine SC.region ?_
    refine SL.val (OpV.move rfl) rfl ?_
    first
      | refine SL.val (OpV.loads (cs := m.cells) _ Tryz.underlying38 rfl rfl sz38 (Kns.blk 0 rfl rfl)) rfl ?_
      | refine SL.val (OpV.loads (cs := m.cells) _ Tryz.underlying38 rfl rfl sz38 (Kns.blk 1 rfl rfl)) rfl ?_
      | refine SL.val (OpV.loads (cs := m.cells) _ Tryz.underlying38 rfl rfl sz38 (Kns.blk 2 rfl rfl)) rfl ?_
      | refine SL.val (OpV.loads (cs := m.cells) _ Tryz.underlying38 rfl rfl sz38 (Kns.blk 3 rfl rfl)) rfl ?_
      | refine SL.val (OpV.loads (cs := m.cells) _ Tryz.underlying38 rfl rfl sz38 (Kns.mem (by assumption))) rfl ?_
    refine SL.call ok124 rfl (L1 := [.blk b 66 [lo, .slice (some ⟨g, o, none⟩) upper.length cap, .map (some bm)], .obj bm (mapObj (kvOf out))]) (List.perm_append_comm (l₁ := [_])) (add_ev b bm lo _ out m _ hmok hoko) rfl ?_
    rintro _ _ _ hM15 ⟨rfl, rfl⟩
    refine SL.drop 2 rfl ?_
    refine SL.nil ?_
    refine blockQ.nm ?_
    refine seqQ.nm ?_
    refine SC.region ?_
    refine SL.val (OpV.add rfl rfl (IntWalk.i64_in _ (by omega))) rfl ?_
    refine SL.val (OpV.move rfl) rfl ?_
    refine SL.nil ?_
    exact loopQ.nm (k + 1, withM out m) (by dsimp only; omega) ⟨rfl, rfl, rfl, rfl, trivial⟩ (List.Perm.refl _) ⟨by dsimp only; omega, hst.symm, withM_ok hoko hmok, rfl⟩
  · skip
    have hke : k = upper.length := by omega
    rw [hke, List.take_length] at hout
    refine SC.exit ?_
    refine seqQ.e ?_
    refine loopQ.e ?_
    refine blockQ.e ?_
    refine retQ.none rfl  ?_ _ (.inl rfl)
    exact ⟨by rw [hout], rfl⟩
end Go.Proofs.YtceabkfmjffnhaaGreatDoor
set_option linter.unusedVariables false
set_option linter.unusedSimpArgs false
namespace Go.Proofs.YtceabkfmjffnhaaGreatDoor
open Go Go.Eng

def plainAdd (upper acc : List Mb) (m : Mb) : List Mb := if staysP (cores upper) m.path then withM acc m else acc
theorem plain_ev (b bm : Nat) (lo up : Value) (lower upper acc : List Mb) (M : Mem) (hc : ClassTab M) (hv1 : SlM M lo lower) (hv2 : SlM M up upper) (hok1 : ∀ m ∈ lower, m.ok M) (hok2 : ∀ m ∈ upper, m.ok M) (hoks : ∀ x ∈ acc, x.ok M) (hl1 : lower.length ≤ 16777216) (hl2 : upper.length ≤ 16777216) :
    Ev Tryz.prog 121 [.pointer (some ⟨b, 0, none⟩)].toArray [.blk b 66 [lo, up, .map (some bm)], .obj bm (mapObj (kvOf acc))] M fun v' L' M' => L' = [.blk b 66 [lo, up, .map (some bm)], .obj bm (mapObj (kvOf ((plainM lower).foldl (plainAdd upper) acc)))] := by
  refine Ev.enter Tryz.func121 rfl Tryz.ntmps121 rfl ?_
  refine SC.seq ?_
  refine SC.region ?_
  refine SL.val (OpV.move rfl) rfl ?_
  refine SL.val (OpV.nilCheck rfl) rfl ?_
  refine SL.val (OpV.fld fa66_0 rfl) rfl ?_
  first
    | refine SL.val (OpV.load _ Tryz.underlying25 rfl rfl (Kn.blk 0 rfl rfl)) rfl ?_
    | refine SL.val (OpV.load _ Tryz.underlying25 rfl rfl (Kn.blk 1 rfl rfl)) rfl ?_
    | refine SL.val (OpV.load _ Tryz.underlying25 rfl rfl (Kn.blk 2 rfl rfl)) rfl ?_
    | refine SL.val (OpV.load _ Tryz.underlying25 rfl rfl (Kn.blk 3 rfl rfl)) rfl ?_
    | refine SL.val (OpV.load _ Tryz.underlying25 rfl rfl (Kn.mem (by assumption))) rfl ?_
  refine SL.call ok123 rfl (L1 := []) (List.perm_append_comm (l₁ := [])) (cplain_ev lo lower _ hc hv1 hok1 hl1) rfl ?_
  rintro w _ M2 hM2 ⟨rfl, hw⟩
  obtain ⟨ad, cap, rfl, hcap, hmax⟩ := hw.len
  have hpl : (plainM lower).length ≤ lower.length := List.length_filter_le _ _
  have hpok : ∀ m ∈ plainM lower, m.ok M2 := fun m hm => (hok1 m (List.mem_filter.1 hm).1).mono hM2
  replace hc := hc.mono hM2
  replace hv2 := hv2.mono hM2
  replace hok2 : ∀ m ∈ upper, m.ok M2 := fun m hm => (hok2 m hm).mono hM2
  replace hoks : ∀ m ∈ acc, m.ok M2 := fun m hm => (hoks m hm).mono hM2
  generalize plainM lower = pl at *
  refine SL.val (OpV.llen Tryz.underlying25 rfl) rfl ?_
  refine SL.val (OpV.move rfl) rfl ?_
  refine SL.nil ?_
  refine seqQ.nm ?_
  refine SC.block ?_
  refine SC.loop (ι := Nat × List Mb) (fun x M' => x.1 ≤ pl.length ∧ x.2 = (pl.take x.1).foldl (plainAdd upper) acc ∧ (∀ y ∈ x.2, y.ok M2) ∧ M2 = M') (fun x => [(0, .pointer (some ⟨b, 0, none⟩)), (8, .slice ad pl.length cap), (9, .int .i64 pl.length), (10, .int .i64 x.1)]) (fun x => [.blk b 66 [lo, up, .map (some bm)], .obj bm (mapObj (kvOf x.2))]) (fun x => pl.length - x.1) (0, acc) (G := []) ⟨rfl, rfl, rfl, rfl, trivial⟩ (List.Perm.refl _) ⟨Nat.zero_le _, rfl, hoks, rfl⟩ ?_
  rintro ⟨k, out⟩ _ _ ⟨hk, hout, hoko, rfl⟩
  dsimp only at hk hout hoko ⊢
  refine SC.seq ?_
  refine SC.region ?_
  refine SL.val (OpV.lss rfl rfl) rfl ?_
  refine SL.nil ?_
  refine seqQ.nm ?_
  refine SC.seq ?_
  first | refine SC.ifp rfl (fun h11 => ?_) (fun h11 => ?_) | refine SC.ite rfl (fun h11 => ?_) (fun h11 => ?_)
  · skip
    have hlt : k < pl.length := by omega
    obtain ⟨g, o, cap', he, hcs, _⟩ := hw.at_ (by omega)
    cases he
    obtain ⟨m, hm⟩ := getElem?_lt hlt
    have hmok := hpok m (List.mem_of_getElem? hm)
    have hmc := mbCells_at hcs hm
    have hmp : m.path.length ≤ 268435456 := hmok.path
    have hst := foldl_take (plainAdd upper) acc pl k m hm
    rw [← hout] at hst
    refine SC.skip ?_
    refine seqQ.nm ?_
    refine SC.seq ?_
    refine SC.block ?_
    refine SC.seq ?_
    refine SC.region ?_
    refine SL.val (OpV.indexAddr Tryz.underlying25 sz38 rfl rfl (by omega) (by omega)) rfl ?_
    refine SL.val (OpV.loads (cs := m.cells) _ Tryz.underlying38 rfl rfl sz38 (Kns.mem hmc)) rfl ?_
    refine SL.act (OpH.alloc zr38) rfl ?_; rintro _ _ _ hM3 ⟨b3, rfl, rfl, rfl⟩; clear hM3
    first
      | refine SL.unit (OpU.store 0 rfl rfl rfl sz38 (by first | exact Nat.le_of_ble_eq_true rfl | (simp; done) | (simp; omega) | omega) (cells_ones hmok)) ?_
      | refine SL.unit (OpU.storeRow 0 rfl rfl rfl sz38 (by first | exact Nat.le_of_ble_eq_true rfl | (simp; done) | (simp; omega) | omega) (cells_ones hmok)) ?_
      | refine SL.unit (OpU.store 1 rfl rfl rfl sz38 (by first | exact Nat.le_of_ble_eq_true rfl | (simp; done) | (simp; omega) | omega) (cells_ones hmok)) ?_
      | refine SL.unit (OpU.storeRow 1 rfl rfl rfl sz38 (by first | exact Nat.le_of_ble_eq_true rfl | (simp; done) | (simp; omega) | omega) (cells_ones hmok)) ?_
      | refine SL.unit (OpU.store 2 rfl rfl rfl sz38 (by first | exact Nat.le_of_ble_eq_true rfl | (simp; done) | (simp; omega) | omega) (cells_ones hmok)) ?_
      | refine SL.unit (OpU.storeRow 2 rfl rfl rfl sz38 (by first | exact Nat.le_of_ble_eq_true rfl | (simp; done) | (simp; omega) | omega) (cells_ones hmok)) ?_
      | refine SL.unit (OpU.store 3 rfl rfl rfl sz38 (by first | exact Nat.le_of_ble_eq_true rfl | (simp; done) | (simp; omega) | omega) (cells_ones hmok)) ?_
      | refine SL.unit (OpU.storeRow 3 rfl rfl rfl sz38 (by first | exact Nat.le_of_ble_eq_true rfl | (simp; done) | (simp; omega) | omega) (cells_ones hmok)) ?_
    refine SL.nil ?_
    refine seqQ.nm ?_
    refine SC.seq ?_
    refine SC.quiet mixed (by decide +kernel) ?_
    refine SQ.val (OpV.move rfl) rfl ?_
    refine SQ.val (OpV.nilCheck rfl) rfl ?_
    refine SQ.val (OpV.fld fa66_1 rfl) rfl ?_
    first
      | refine SQ.val (OpV.load _ Tryz.underlying25 rfl rfl (Kn.blk 0 rfl rfl)) rfl ?_
      | refine SQ.val (OpV.load _ Tryz.underlying25 rfl rfl (Kn.blk 1 rfl rfl)) rfl ?_
      | refine SQ.val (OpV.load _ Tryz.underlying25 rfl rfl (Kn.blk 2 rfl rfl)) rfl ?_
      | refine SQ.val (OpV.load _ Tryz.underlying25 rfl rfl (Kn.blk 3 rfl rfl)) rfl ?_
      | refine SQ.val (OpV.load _ Tryz.underlying25 rfl rfl (Kn.mem (by assumption))) rfl ?_
    refine SQ.val (OpV.fld fa38_0 rfl) rfl ?_
    first
      | refine SQ.val (OpV.load _ Tryz.underlying9 rfl rfl (Kn.blk 0 rfl rfl)) rfl ?_
      | refine SQ.val (OpV.load _ Tryz.underlying9 rfl rfl (Kn.blk 1 rfl rfl)) rfl ?_
      | refine SQ.val (OpV.load _ Tryz.underlying9 rfl rfl (Kn.blk 2 rfl rfl)) rfl ?_
      | refine SQ.val (OpV.load _ Tryz.underlying9 rfl rfl (Kn.blk 3 rfl rfl)) rfl ?_
      | refine SQ.val (OpV.load _ Tryz.underlying9 rfl rfl (Kn.mem (by assumption))) rfl ?_
    refine SQ.call ok126 rfl (cstays_ev up upper m.path _ hc hv2 hok2 hl2 (by omega)) rfl ?_
    refine SQ.nil ?_
    refine seqQ.nm ?_
    first | refine SC.ifp rfl (fun h20 => ?_) (fun h20 => ?_) | refine SC.ite rfl (fun h20 => ?_) (fun h20 => ?_)
    · skip
      refine SC.region ?_
      refine SL.val (OpV.move rfl) rfl ?_
      first
        | refine SL.val (OpV.loads (cs := m.cells) _ Tryz.underlying38 rfl rfl sz38 (Kns.blk 0 rfl rfl)) rfl ?_
        | refine SL.val (OpV.loads (cs := m.cells) _ Tryz.underlying38 rfl rfl sz38 (Kns.blk 1 rfl rfl)) rfl ?_
        | refine SL.val (OpV.loads (cs := m.cells) _ Tryz.underlying38 rfl rfl sz38 (Kns.blk 2 rfl rfl)) rfl ?_
        | refine SL.val (OpV.loads (cs := m.cells) _ Tryz.underlying38 rfl rfl sz38 (Kns.blk 3 rfl rfl)) rfl ?_
        | refine SL.val (OpV.loads (cs := m.cells) _ Tryz.underlying38 rfl rfl sz38 (Kns.mem (by assumption))) rfl ?_
      refine SL.call ok124 rfl (L1 := [.blk b 66 [lo, up, .map (some bm)], .obj bm (mapObj (kvOf out))]) (List.perm_append_comm (l₁ := [_])) (add_ev b bm lo _ out m _ hmok hoko) rfl ?_
      rintro _ _ _ hM23 ⟨rfl, rfl⟩
      refine SL.drop 2 rfl ?_
      refine SL.nil ?_
      refine blockQ.nm ?_
      refine seqQ.nm ?_
      refine SC.region ?_
      refine SL.val (OpV.add rfl rfl (IntWalk.i64_in _ (by omega))) rfl ?_
      refine SL.val (OpV.move rfl) rfl ?_
      refine SL.nil ?_
      first
        | exact loopQ.nm (k + 1, withM out m) (by dsimp only; omega) ⟨rfl, rfl, rfl, rfl, trivial⟩ (List.Perm.refl _) ⟨by dsimp only; omega, by rw [hst, plainAdd, if_pos h20], withM_ok hoko hmok, rfl⟩
        | exact loopQ.nm (k + 1, out) (by dsimp only; omega) ⟨rfl, rfl, rfl, rfl, trivial⟩ (List.Perm.refl _) ⟨by dsimp only; omega, by rw [hst, plainAdd, if_neg (by rw [h20]; decide)], hoko, rfl⟩
    · skip
      refine SC.drop 0 rfl ?_
      refine SC.skip ?_
      refine blockQ.nm ?_
      refine seqQ.nm ?_
      refine SC.region ?_
      refine SL.val (OpV.add rfl rfl (IntWalk.i64_in _ (by omega))) rfl ?_
      refine SL.val (OpV.move rfl) rfl ?_
      refine SL.nil ?_
      first
        | exact loopQ.nm (k + 1, withM out m) (by dsimp only; omega) ⟨rfl, rfl, rfl, rfl, trivial⟩ (List.Perm.refl _) ⟨by dsimp only; omega, by rw [hst, plainAdd, if_pos h20], withM_ok hoko hmok, rfl⟩
        | exact loopQ.nm (k + 1, out) (by dsimp only; omega) ⟨rfl, rfl, rfl, rfl, trivial⟩ (List.Perm.refl _) ⟨by dsimp only; omega, by rw [hst, plainAdd, if_neg (by rw [h20]; decide)], hoko, rfl⟩
  · skip
    have hke : k = pl.length := by omega
    rw [hke, List.take_length] at hout
    refine SC.exit ?_
    refine seqQ.e ?_
    refine loopQ.e ?_
    refine blockQ.e ?_
    refine retQ.none rfl  ?_ _ (.inl rfl)
    exact (by rw [hout])
end Go.Proofs.YtceabkfmjffnhaaGreatDoor
set_option linter.unusedVariables false
set_option linter.unusedSimpArgs false
namespace Go.Proofs.YtceabkfmjffnhaaGreatDoor
open Go Go.Eng

theorem old_kind (acc : List Mb) (p : Bytes) : ((oldCells acc p).toArray.extract 1 (1 + 8))[0]? = some (.int .i64 (kindOf acc p)) := by
  unfold oldCells kindOf
  cases acc.find? (fun m => decide (m.path = p)) <;> rfl
theorem dir_ev (b bm : Nat) (lo up : Value) (acc : List Mb) (p : Bytes) (M : Mem) :
    Ev Tryz.prog 127 [.pointer (some ⟨b, 0, none⟩), str p].toArray [.blk b 66 [lo, up, .map (some bm)], .obj bm (mapObj (kvOf acc))] M fun v' L' M' => v' = .bool (decide (p = []) || decide (kindOf acc p = 1)) ∧ L' = [.blk b 66 [lo, up, .map (some bm)], .obj bm (mapObj (kvOf acc))] ∧ M = M' := by
  refine Ev.enter Tryz.func127 rfl Tryz.ntmps127 rfl ?_
  refine SC.seq ?_
  refine SC.region ?_
  refine SL.val (OpV.assign rfl) rfl ?_
  refine SL.nil ?_
  refine seqQ.nm ?_
  refine SC.seq ?_
  refine SC.region ?_
  refine SL.val (OpV.move rfl) rfl ?_
  refine SL.val (OpV.seql rfl rfl) rfl ?_
  refine SL.val (OpV.move rfl) rfl ?_
  refine SL.orcut 10 (c := 7) (d := 17) rfl (fun h7 => ?_) ?_
  · skip
    refine SL.skip rfl rfl ?_
    refine SL.skip rfl rfl ?_
    refine SL.skip rfl rfl ?_
    refine SL.skip rfl rfl ?_
    refine SL.skip rfl rfl ?_
    refine SL.skip rfl rfl ?_
    refine SL.skip rfl rfl ?_
    refine SL.skip rfl rfl ?_
    refine SL.skip rfl rfl ?_
    refine SL.val (OpV.pickT rfl rfl) rfl ?_
    exact SL.nil ⟨rfl, rfl, (by repeat first | exact Env.le_refl _ | refine Env.le_new rfl ?_), [], List.Perm.refl _⟩
  apply Exists.intro
  refine And.intro (fun h7 => ?_) ?_
  · skip
    refine SL.gval rfl (OpV.move rfl) rfl ?_
    refine SL.gval rfl (OpV.nilCheck rfl) rfl ?_
    refine SL.gval rfl (OpV.fld fa66_2 rfl) rfl ?_
    first
      | refine SL.gval rfl (OpV.load _ Tryz.underlying64 rfl rfl (Kn.blk 0 rfl rfl)) rfl ?_
      | refine SL.gval rfl (OpV.load _ Tryz.underlying64 rfl rfl (Kn.blk 1 rfl rfl)) rfl ?_
      | refine SL.gval rfl (OpV.load _ Tryz.underlying64 rfl rfl (Kn.blk 2 rfl rfl)) rfl ?_
      | refine SL.gval rfl (OpV.load _ Tryz.underlying64 rfl rfl (Kn.blk 3 rfl rfl)) rfl ?_
      | refine SL.gval rfl (OpV.load _ Tryz.underlying64 rfl rfl (Kn.mem (by assumption))) rfl ?_
    refine SL.gval rfl (OpV.move rfl) rfl ?_
    refine SL.gval rfl (show OpV _ _ _ _ _ (.agg (oldCells acc p).toArray) by rw [← kvGet_old acc p]; exact (OpV.kvLookup Tryz.underlying64 Tryz.underlying9 zr38 rfl rfl (Ko.obj 1 rfl))) rfl ?_
    refine SL.gval rfl (OpV.fields Tryz.underlying38 rfl Tryz.underlying36 rfl sz36 rfl) rfl ?_
    refine SL.gval rfl (OpV.field1 Tryz.underlying36 rfl Tryz.underlying3 rfl rfl (old_kind acc p)) rfl ?_
    refine SL.gval rfl (OpV.eql rfl rfl) rfl ?_
    refine SL.val (OpV.pickF rfl rfl) rfl ?_
    exact SL.nil ⟨rfl, rfl, (by repeat first | exact Env.le_refl _ | refine Env.le_new rfl ?_), [], List.Perm.refl _⟩
  refine SL.val (OpV.assign rfl) rfl ?_
  refine SL.nil ?_
  refine seqQ.nm ?_
  refine SC.ret ?_
  refine retQ.one rfl (.tmp rfl) ?_ _ (.inr rfl)
  exact ⟨rfl, rfl, rfl⟩
end Go.Proofs.YtceabkfmjffnhaaGreatDoor
set_option linter.unusedVariables false
set_option linter.unusedSimpArgs false
namespace Go.Proofs.YtceabkfmjffnhaaGreatDoor
open Go Go.Eng

theorem white_ev (b bm : Nat) (lo up : Value) (lower acc : List Mb) (M : Mem) (hc : ClassTab M) (hv : SlM M lo lower) (hok : ∀ m ∈ lower, m.ok M) (hoks : ∀ x ∈ acc, x.ok M) (hl : lower.length ≤ 16777216) :
    Ev Tryz.prog 122 [.pointer (some ⟨b, 0, none⟩)].toArray [.blk b 66 [lo, up, .map (some bm)], .obj bm (mapObj (kvOf acc))] M fun v' L' M' => L' = [.blk b 66 [lo, up, .map (some bm)], .obj bm (mapObj (kvOf (lower.foldl whiteStep acc)))] ∧ M = M' := by
  obtain ⟨ad, cap, rfl, hcap, hmax⟩ := hv.len
  refine Ev.enter Tryz.func122 rfl Tryz.ntmps122 rfl ?_
  refine SC.seq ?_
  refine SC.region ?_
  refine SL.val (OpV.move rfl) rfl ?_
  refine SL.val (OpV.nilCheck rfl) rfl ?_
  refine SL.val (OpV.fld fa66_0 rfl) rfl ?_
  first
    | refine SL.val (OpV.load _ Tryz.underlying25 rfl rfl (Kn.blk 0 rfl rfl)) rfl ?_
    | refine SL.val (OpV.load _ Tryz.underlying25 rfl rfl (Kn.blk 1 rfl rfl)) rfl ?_
    | refine SL.val (OpV.load _ Tryz.underlying25 rfl rfl (Kn.blk 2 rfl rfl)) rfl ?_
    | refine SL.val (OpV.load _ Tryz.underlying25 rfl rfl (Kn.blk 3 rfl rfl)) rfl ?_
    | refine SL.val (OpV.load _ Tryz.underlying25 rfl rfl (Kn.mem (by assumption))) rfl ?_
  refine SL.val (OpV.llen Tryz.underlying25 rfl) rfl ?_
  refine SL.val (OpV.move rfl) rfl ?_
  refine SL.nil ?_
  refine seqQ.nm ?_
  refine SC.block ?_
  refine SC.loop (ι := Nat × List Mb) (fun x M' => x.1 ≤ lower.length ∧ x.2 = (lower.take x.1).foldl whiteStep acc ∧ (∀ y ∈ x.2, y.ok M) ∧ M = M') (fun x => [(0, .pointer (some ⟨b, 0, none⟩)), (9, .slice ad lower.length cap), (10, .int .i64 lower.length), (11, .int .i64 x.1)]) (fun x => [.blk b 66 [.slice ad lower.length cap, up, .map (some bm)], .obj bm (mapObj (kvOf x.2))]) (fun x => lower.length - x.1) (0, acc) (G := []) ⟨rfl, rfl, rfl, rfl, trivial⟩ (List.Perm.refl _) ⟨Nat.zero_le _, rfl, hoks, rfl⟩ ?_
  rintro ⟨k, out⟩ _ _ ⟨hk, hout, hoko, rfl⟩
  dsimp only at hk hout hoko ⊢
  refine SC.seq ?_
  refine SC.region ?_
  refine SL.val (OpV.lss rfl rfl) rfl ?_
  refine SL.nil ?_
  refine seqQ.nm ?_
  refine SC.seq ?_
  first | refine SC.ifp rfl (fun h12 => ?_) (fun h12 => ?_) | refine SC.ite rfl (fun h12 => ?_) (fun h12 => ?_)
  · skip
    have hlt : k < lower.length := by omega
    obtain ⟨g, o, cap', he, hcs, _⟩ := hv.at_ (by omega)
    cases he
    obtain ⟨m, hm⟩ := getElem?_lt hlt
    have hmok := hok m (List.mem_of_getElem? hm)
    have hmc := mbCells_at hcs hm
    have hmp : m.path.length ≤ 268435456 := hmok.path
    have hst := foldl_take whiteStep acc lower k m hm
    rw [← hout] at hst
    refine SC.skip ?_
    refine seqQ.nm ?_
    refine SC.seq ?_
    refine SC.block ?_
    refine SC.seq ?_
    refine SC.region ?_
    refine SL.val (OpV.indexAddr Tryz.underlying25 sz38 rfl rfl (by omega) (by omega)) rfl ?_
    refine SL.val (OpV.loads (cs := m.cells) _ Tryz.underlying38 rfl rfl sz38 (Kns.mem hmc)) rfl ?_
    refine SL.act (OpH.alloc zr38) rfl ?_; rintro _ _ _ hM3 ⟨b3, rfl, rfl, rfl⟩; clear hM3
    first
      | refine SL.unit (OpU.store 0 rfl rfl rfl sz38 (by first | exact Nat.le_of_ble_eq_true rfl | (simp; done) | (simp; omega) | omega) (cells_ones hmok)) ?_
      | refine SL.unit (OpU.storeRow 0 rfl rfl rfl sz38 (by first | exact Nat.le_of_ble_eq_true rfl | (simp; done) | (simp; omega) | omega) (cells_ones hmok)) ?_
      | refine SL.unit (OpU.store 1 rfl rfl rfl sz38 (by first | exact Nat.le_of_ble_eq_true rfl | (simp; done) | (simp; omega) | omega) (cells_ones hmok)) ?_
      | refine SL.unit (OpU.storeRow 1 rfl rfl rfl sz38 (by first | exact Nat.le_of_ble_eq_true rfl | (simp; done) | (simp; omega) | omega) (cells_ones hmok)) ?_
      | refine SL.unit (OpU.store 2 rfl rfl rfl sz38 (by first | exact Nat.le_of_ble_eq_true rfl | (simp; done) | (simp; omega) | omega) (cells_ones hmok)) ?_
      | refine SL.unit (OpU.storeRow 2 rfl rfl rfl sz38 (by first | exact Nat.le_of_ble_eq_true rfl | (simp; done) | (simp; omega) | omega) (cells_ones hmok)) ?_
      | refine SL.unit (OpU.store 3 rfl rfl rfl sz38 (by first | exact Nat.le_of_ble_eq_true rfl | (simp; done) | (simp; omega) | omega) (cells_ones hmok)) ?_
      | refine SL.unit (OpU.storeRow 3 rfl rfl rfl sz38 (by first | exact Nat.le_of_ble_eq_true rfl | (simp; done) | (simp; omega) | omega) (cells_ones hmok)) ?_
    refine SL.nil ?_
    refine seqQ.nm ?_
    refine SC.seq ?_
    refine SC.region ?_
    refine SL.val (OpV.fld fa38_0 rfl) rfl ?_
    first
      | refine SL.val (OpV.load _ Tryz.underlying9 rfl rfl (Kn.blk 0 rfl rfl)) rfl ?_
      | refine SL.val (OpV.load _ Tryz.underlying9 rfl rfl (Kn.blk 1 rfl rfl)) rfl ?_
      | refine SL.val (OpV.load _ Tryz.underlying9 rfl rfl (Kn.blk 2 rfl rfl)) rfl ?_
      | refine SL.val (OpV.load _ Tryz.underlying9 rfl rfl (Kn.blk 3 rfl rfl)) rfl ?_
      | refine SL.val (OpV.load _ Tryz.underlying9 rfl rfl (Kn.mem (by assumption))) rfl ?_
    refine SL.call ok21 rfl (L1 := []) (List.Perm.refl _) (by have := pclass_ev m.path M hc (by omega); rw [classP_eq] at this; exact this) rfl ?_
    rintro _ _ _ hM18 ⟨rfl, rfl, rfl⟩
    refine SL.val (OpV.move rfl) rfl ?_
    refine SL.val (OpV.extract rfl rfl) rfl ?_
    refine SL.val (OpV.extract rfl rfl) rfl ?_
    refine SL.val (OpV.assign rfl) rfl ?_
    refine SL.val (OpV.assign rfl) rfl ?_
    refine SL.nil ?_
    refine seqQ.nm ?_
    refine SC.seq ?_
    refine SC.region ?_
    refine SL.val (OpV.move rfl) rfl ?_
    refine SL.val (OpV.neq rfl rfl) rfl ?_
    refine SL.val (OpV.move rfl) rfl ?_
    refine SL.andcut 6 (c := 23) (d := 29) rfl (fun h23 => ?_) ?_
    · skip
      refine SL.skip rfl rfl ?_
      refine SL.skip rfl rfl ?_
      refine SL.skip rfl rfl ?_
      refine SL.skip rfl rfl ?_
      refine SL.skip rfl rfl ?_
      refine SL.val (OpV.pickF rfl rfl) rfl ?_
      exact SL.nil ⟨rfl, rfl, (by repeat first | exact Env.le_refl _ | refine Env.le_new rfl ?_), [], List.Perm.refl _⟩
    apply Exists.intro
    refine And.intro (fun h23 => ?_) ?_
    · skip
      refine SL.gval rfl (OpV.move rfl) rfl ?_
      refine SL.gval rfl (OpV.fld fa38_0 rfl) rfl ?_
      first
        | refine SL.gval rfl (OpV.load _ Tryz.underlying9 rfl rfl (Kn.blk 0 rfl rfl)) rfl ?_
        | refine SL.gval rfl (OpV.load _ Tryz.underlying9 rfl rfl (Kn.blk 1 rfl rfl)) rfl ?_
        | refine SL.gval rfl (OpV.load _ Tryz.underlying9 rfl rfl (Kn.blk 2 rfl rfl)) rfl ?_
        | refine SL.gval rfl (OpV.load _ Tryz.underlying9 rfl rfl (Kn.blk 3 rfl rfl)) rfl ?_
        | refine SL.gval rfl (OpV.load _ Tryz.underlying9 rfl rfl (Kn.mem (by assumption))) rfl ?_
      refine SL.gcall rfl ok128 rfl (L1 := []) (List.Perm.refl _) (pparent_ev m.path _ (by omega)) rfl ?_
      rintro _ _ _ hM27 ⟨rfl, rfl, rfl⟩
      refine SL.gcall rfl ok127 rfl (L1 := [.blk b 66 [.slice (some ⟨g, o, none⟩) lower.length cap, up, .map (some bm)], .obj bm (mapObj (kvOf out))]) (List.perm_append_comm (l₁ := [_])) (dir_ev b bm _ up out (parent m.path) _) rfl ?_
      rintro _ _ _ hM28 ⟨rfl, rfl, rfl⟩
      refine SL.val (OpV.pickT rfl rfl) rfl ?_
      exact SL.nil ⟨rfl, rfl, (by repeat first | exact Env.le_refl _ | refine Env.le_new rfl ?_), [], (List.perm_append_comm (l₂ := [_]))⟩
    refine SL.nil ?_
    have e1 : (decide (((classRef m.path).1 : Int) ≠ 1) && (decide (parent m.path = []) || decide (kindOf out (parent m.path) = 1))) = (decide (cls m ≠ 1) && (decide (parent m.path = []) || decide (kindOf out (parent m.path) = 1))) := by
      congr 1
      exact dec_eq (by show _ ↔ (classRef m.path).1 ≠ 1; omega)
    refine seqQ.nm ?_
    first | refine SC.ifp rfl (fun h29 => ?_) (fun h29 => ?_) | refine SC.ite rfl (fun h29 => ?_) (fun h29 => ?_)
    · skip
      refine SC.region ?_
      refine SL.val (OpV.move rfl) rfl ?_
      first
        | refine SL.val (OpV.loads (cs := m.cells) _ Tryz.underlying38 rfl rfl sz38 (Kns.blk 0 rfl rfl)) rfl ?_
        | refine SL.val (OpV.loads (cs := m.cells) _ Tryz.underlying38 rfl rfl sz38 (Kns.blk 1 rfl rfl)) rfl ?_
        | refine SL.val (OpV.loads (cs := m.cells) _ Tryz.underlying38 rfl rfl sz38 (Kns.blk 2 rfl rfl)) rfl ?_
        | refine SL.val (OpV.loads (cs := m.cells) _ Tryz.underlying38 rfl rfl sz38 (Kns.blk 3 rfl rfl)) rfl ?_
        | refine SL.val (OpV.loads (cs := m.cells) _ Tryz.underlying38 rfl rfl sz38 (Kns.mem (by assumption))) rfl ?_
      refine SL.call ok124 rfl (L1 := [.blk b 66 [.slice (some ⟨g, o, none⟩) lower.length cap, up, .map (some bm)], .obj bm (mapObj (kvOf out))]) (List.perm_append_comm (l₁ := [_])) (add_ev b bm _ up out m _ hmok hoko) rfl ?_
      rintro _ _ _ hM32 ⟨rfl, rfl⟩
      refine SL.drop 2 rfl ?_
      refine SL.nil ?_
      refine blockQ.nm ?_
      refine seqQ.nm ?_
      refine SC.region ?_
      refine SL.val (OpV.add rfl rfl (IntWalk.i64_in _ (by omega))) rfl ?_
      refine SL.val (OpV.move rfl) rfl ?_
      refine SL.nil ?_
      first
        | exact loopQ.nm (k + 1, withM out m) (by dsimp only; omega) ⟨rfl, rfl, rfl, rfl, trivial⟩ (List.Perm.refl _) ⟨by dsimp only; omega, by rw [hst, whiteStep, ← e1, if_pos h29], withM_ok hoko hmok, rfl⟩
        | exact loopQ.nm (k + 1, out) (by dsimp only; omega) ⟨rfl, rfl, rfl, rfl, trivial⟩ (List.Perm.refl _) ⟨by dsimp only; omega, by rw [hst, whiteStep, ← e1, if_neg (by rw [h29]; decide)], hoko, rfl⟩
    · skip
      refine SC.drop 0 rfl ?_
      refine SC.skip ?_
      refine blockQ.nm ?_
      refine seqQ.nm ?_
      refine SC.region ?_
      refine SL.val (OpV.add rfl rfl (IntWalk.i64_in _ (by omega))) rfl ?_
      refine SL.val (OpV.move rfl) rfl ?_
      refine SL.nil ?_
      first
        | exact loopQ.nm (k + 1, withM out m) (by dsimp only; omega) ⟨rfl, rfl, rfl, rfl, trivial⟩ (List.Perm.refl _) ⟨by dsimp only; omega, by rw [hst, whiteStep, ← e1, if_pos h29], withM_ok hoko hmok, rfl⟩
        | exact loopQ.nm (k + 1, out) (by dsimp only; omega) ⟨rfl, rfl, rfl, rfl, trivial⟩ (List.Perm.refl _) ⟨by dsimp only; omega, by rw [hst, whiteStep, ← e1, if_neg (by rw [h29]; decide)], hoko, rfl⟩
  · skip
    have hke : k = lower.length := by omega
    rw [hke, List.take_length] at hout
    refine SC.exit ?_
    refine seqQ.e ?_
    refine loopQ.e ?_
    refine blockQ.e ?_
    refine retQ.none rfl  ?_ _ (.inl rfl)
    exact ⟨by rw [hout], rfl⟩
end Go.Proofs.YtceabkfmjffnhaaGreatDoor
set_option linter.unusedVariables false
set_option linter.unusedSimpArgs false
namespace Go.Proofs.YtceabkfmjffnhaaGreatDoor
open Go Go.Eng

def overAdd (upper acc : List Mb) (m : Mb) : List Mb := if decide (m.kind ≠ 1) && decide (kindOf upper m.path = 1) then withM acc (whiteMb m.path) else acc
theorem kindOf_succ {ms : List Mb} {k : Nat} {m : Mb} (hnd : (ms.map Mb.path).Nodup) (hm : ms[k]? = some m) (y : Bytes) : kindOf (ms.take (k + 1)) y = if m.path = y then m.kind else kindOf (ms.take k) y := by
  unfold kindOf
  rw [List.take_add_one, hm, List.find?_append]
  by_cases hy : m.path = y
  · subst hy
    have hno : (ms.take k).find? (fun x => decide (x.path = m.path)) = none := by
      rw [List.find?_eq_none]
      intro x hx
      obtain ⟨i, hi, rfl⟩ := List.mem_iff_getElem.1 hx
      have hik : i < k := by simp at hi; omega
      have hkl := (List.getElem?_eq_some_iff.1 hm).1
      have hmk := (List.getElem?_eq_some_iff.1 hm).2
      have hn := List.pairwise_iff_getElem.1 hnd i k (by simp; omega) (by simpa using hkl) hik
      simp [hmk] at hn ⊢
      exact hn
    rw [hno]
    simp
  · simp [hy]
abbrev dirInt (ms : List Mb) (y : Bytes) : Int := if kindOf ms y = 1 then 1 else 0
theorem over_ev (b bm : Nat) (lo up : Value) (lower upper acc : List Mb) (M : Mem) (hc : ClassTab M) (hv1 : SlM M lo lower) (hv2 : SlM M up upper) (hok1 : ∀ m ∈ lower, m.ok M) (hok2 : ∀ m ∈ upper, m.ok M) (hoks : ∀ x ∈ acc, x.ok M) (hl1 : lower.length ≤ 16777216) (hl2 : upper.length ≤ 16777216) (hnd : (upper.map Mb.path).Nodup) :
    Ev Tryz.prog 118 [.pointer (some ⟨b, 0, none⟩)].toArray [.blk b 66 [lo, up, .map (some bm)], .obj bm (mapObj (kvOf acc))] M fun v' L' M' => L' = [.blk b 66 [lo, up, .map (some bm)], .obj bm (mapObj (kvOf ((plainM lower).foldl (overAdd upper) acc)))] := by
  obtain ⟨ad, cap, rfl, hcap, hmax⟩ := hv2.len
  refine Ev.enter Tryz.func118 rfl Tryz.ntmps118 rfl ?_
  refine SC.seq ?_
  refine SC.region ?_
  refine SL.act OpH.makeMap rfl ?_; rintro _ _ _ hM7 ⟨b7, rfl, rfl, rfl⟩; clear hM7
  refine SL.val (OpV.assign rfl) rfl ?_
  refine SL.nil ?_
  refine seqQ.nm ?_
  refine SC.seq ?_
  refine SC.seq ?_
  refine SC.region ?_
  refine SL.val (OpV.move rfl) rfl ?_
  refine SL.val (OpV.nilCheck rfl) rfl ?_
  refine SL.val (OpV.fld fa66_1 rfl) rfl ?_
  first
    | refine SL.val (OpV.load _ Tryz.underlying25 rfl rfl (Kn.blk 0 rfl rfl)) rfl ?_
    | refine SL.val (OpV.load _ Tryz.underlying25 rfl rfl (Kn.blk 1 rfl rfl)) rfl ?_
    | refine SL.val (OpV.load _ Tryz.underlying25 rfl rfl (Kn.blk 2 rfl rfl)) rfl ?_
    | refine SL.val (OpV.load _ Tryz.underlying25 rfl rfl (Kn.blk 3 rfl rfl)) rfl ?_
    | refine SL.val (OpV.load _ Tryz.underlying25 rfl rfl (Kn.mem (by assumption))) rfl ?_
  refine SL.val (OpV.llen Tryz.underlying25 rfl) rfl ?_
  refine SL.val (OpV.move rfl) rfl ?_
  refine SL.nil ?_
  refine seqQ.nm ?_
  refine SC.block ?_
  refine SC.loop (ι := Nat × List (Bytes × Value)) (fun x M' => x.1 ≤ upper.length ∧ IntsAt x.2 (dirInt (upper.take x.1)) ∧ M = M') (fun x => [(0, .pointer (some ⟨b, 0, none⟩)), (2, .map (some b7)), (11, .slice ad upper.length cap), (12, .int .i64 upper.length), (13, .int .i64 x.1)]) (fun x => [.obj b7 (mapObj x.2), .blk b 66 [lo, .slice ad upper.length cap, .map (some bm)], .obj bm (mapObj (kvOf acc))]) (fun x => upper.length - x.1) (0, []) (G := []) ⟨rfl, rfl, rfl, rfl, rfl, trivial⟩ (List.Perm.refl _) ⟨Nat.zero_le _, fun y => rfl, rfl⟩ ?_
  rintro ⟨k, dk⟩ _ _ ⟨hk, hdk, rfl⟩
  dsimp only at hk hdk ⊢
  refine SC.seq ?_
  refine SC.region ?_
  refine SL.val (OpV.lss rfl rfl) rfl ?_
  refine SL.nil ?_
  refine seqQ.nm ?_
  refine SC.seq ?_
  first | refine SC.ifp rfl (fun h14 => ?_) (fun h14 => ?_) | refine SC.ite rfl (fun h14 => ?_) (fun h14 => ?_)
  · skip
    have hlt : k < upper.length := by omega
    obtain ⟨g, o, cap', he, hcs, _⟩ := hv2.at_ (by omega)
    cases he
    obtain ⟨m, hm⟩ := getElem?_lt hlt
    have hmok := hok2 m (List.mem_of_getElem? hm)
    have hmc := mbCells_at hcs hm
    have hks := fun y => kindOf_succ hnd hm y
    refine SC.skip ?_
    refine seqQ.nm ?_
    refine SC.seq ?_
    refine SC.block ?_
    refine SC.seq ?_
    refine SC.region ?_
    refine SL.val (OpV.indexAddr Tryz.underlying25 sz38 rfl rfl (by omega) (by omega)) rfl ?_
    refine SL.val (OpV.loads (cs := m.cells) _ Tryz.underlying38 rfl rfl sz38 (Kns.mem hmc)) rfl ?_
    refine SL.act (OpH.alloc zr38) rfl ?_; rintro _ _ _ hM4 ⟨b4, rfl, rfl, rfl⟩; clear hM4
    first
      | refine SL.unit (OpU.store 0 rfl rfl rfl sz38 (by first | exact Nat.le_of_ble_eq_true rfl | (simp; done) | (simp; omega) | omega) (cells_ones hmok)) ?_
      | refine SL.unit (OpU.storeRow 0 rfl rfl rfl sz38 (by first | exact Nat.le_of_ble_eq_true rfl | (simp; done) | (simp; omega) | omega) (cells_ones hmok)) ?_
      | refine SL.unit (OpU.store 1 rfl rfl rfl sz38 (by first | exact Nat.le_of_ble_eq_true rfl | (simp; done) | (simp; omega) | omega) (cells_ones hmok)) ?_
      | refine SL.unit (OpU.storeRow 1 rfl rfl rfl sz38 (by first | exact Nat.le_of_ble_eq_true rfl | (simp; done) | (simp; omega) | omega) (cells_ones hmok)) ?_
      | refine SL.unit (OpU.store 2 rfl rfl rfl sz38 (by first | exact Nat.le_of_ble_eq_true rfl | (simp; done) | (simp; omega) | omega) (cells_ones hmok)) ?_
      | refine SL.unit (OpU.storeRow 2 rfl rfl rfl sz38 (by first | exact Nat.le_of_ble_eq_true rfl | (simp; done) | (simp; omega) | omega) (cells_ones hmok)) ?_
      | refine SL.unit (OpU.store 3 rfl rfl rfl sz38 (by first | exact Nat.le_of_ble_eq_true rfl | (simp; done) | (simp; omega) | omega) (cells_ones hmok)) ?_
      | refine SL.unit (OpU.storeRow 3 rfl rfl rfl sz38 (by first | exact Nat.le_of_ble_eq_true rfl | (simp; done) | (simp; omega) | omega) (cells_ones hmok)) ?_
    refine SL.nil ?_
    refine seqQ.nm ?_
    refine SC.seq ?_
    refine SC.region ?_
    refine SL.val (OpV.fld fa38_1 rfl) rfl ?_
    refine SL.val (OpV.fld fa36_0 rfl) rfl ?_
    first
      | refine SL.val (OpV.load _ Tryz.underlying3 rfl rfl (Kn.blk 0 rfl rfl)) rfl ?_
      | refine SL.val (OpV.load _ Tryz.underlying3 rfl rfl (Kn.blk 1 rfl rfl)) rfl ?_
      | refine SL.val (OpV.load _ Tryz.underlying3 rfl rfl (Kn.blk 2 rfl rfl)) rfl ?_
      | refine SL.val (OpV.load _ Tryz.underlying3 rfl rfl (Kn.blk 3 rfl rfl)) rfl ?_
      | refine SL.val (OpV.load _ Tryz.underlying3 rfl rfl (Kn.mem (by assumption))) rfl ?_
    refine SL.val (OpV.eql rfl rfl) rfl ?_
    refine SL.nil ?_
    refine seqQ.nm ?_
    first | refine SC.ifp rfl (fun h20 => ?_) (fun h20 => ?_) | refine SC.ite rfl (fun h20 => ?_) (fun h20 => ?_)
    · skip
      refine SC.region ?_
      refine SL.val (OpV.move rfl) rfl ?_
      refine SL.val (OpV.fld fa38_0 rfl) rfl ?_
      first
        | refine SL.val (OpV.load _ Tryz.underlying9 rfl rfl (Kn.blk 0 rfl rfl)) rfl ?_
        | refine SL.val (OpV.load _ Tryz.underlying9 rfl rfl (Kn.blk 1 rfl rfl)) rfl ?_
        | refine SL.val (OpV.load _ Tryz.underlying9 rfl rfl (Kn.blk 2 rfl rfl)) rfl ?_
        | refine SL.val (OpV.load _ Tryz.underlying9 rfl rfl (Kn.blk 3 rfl rfl)) rfl ?_
        | refine SL.val (OpV.load _ Tryz.underlying9 rfl rfl (Kn.mem (by assumption))) rfl ?_
      refine SL.unit (OpU.mapPut 1 Tryz.underlying55 Tryz.underlying9 rfl rfl rfl rfl) ?_
      refine SL.nil ?_
      refine blockQ.nm ?_
      refine seqQ.nm ?_
      refine SC.drop 0 rfl ?_
      refine SC.region ?_
      refine SL.val (OpV.add rfl rfl (IntWalk.i64_in _ (by omega))) rfl ?_
      refine SL.val (OpV.move rfl) rfl ?_
      refine SL.nil ?_
      first
        | exact loopQ.nm (k + 1, kvPut m.path (.int .i64 1) dk) (by dsimp only; omega) ⟨rfl, rfl, rfl, rfl, rfl, trivial⟩ (List.Perm.refl _) ⟨by dsimp only; omega, ints_put hdk _ _ (fun y => by simp only [dirInt, hks]; by_cases hy : m.path = y <;> simp [hy, h20]), rfl⟩
        | exact loopQ.nm (k + 1, kvPut m.path (.int .i64 0) dk) (by dsimp only; omega) ⟨rfl, rfl, rfl, rfl, rfl, trivial⟩ (List.Perm.refl _) ⟨by dsimp only; omega, ints_put hdk _ _ (fun y => by simp only [dirInt, hks]; by_cases hy : m.path = y <;> simp [hy, h20]), rfl⟩
    · skip
      refine SC.region ?_
      refine SL.val (OpV.move rfl) rfl ?_
      refine SL.val (OpV.fld fa38_0 rfl) rfl ?_
      first
        | refine SL.val (OpV.load _ Tryz.underlying9 rfl rfl (Kn.blk 0 rfl rfl)) rfl ?_
        | refine SL.val (OpV.load _ Tryz.underlying9 rfl rfl (Kn.blk 1 rfl rfl)) rfl ?_
        | refine SL.val (OpV.load _ Tryz.underlying9 rfl rfl (Kn.blk 2 rfl rfl)) rfl ?_
        | refine SL.val (OpV.load _ Tryz.underlying9 rfl rfl (Kn.blk 3 rfl rfl)) rfl ?_
        | refine SL.val (OpV.load _ Tryz.underlying9 rfl rfl (Kn.mem (by assumption))) rfl ?_
      refine SL.unit (OpU.mapPut 1 Tryz.underlying55 Tryz.underlying9 rfl rfl rfl rfl) ?_
      refine SL.nil ?_
      refine blockQ.nm ?_
      refine seqQ.nm ?_
      refine SC.drop 0 rfl ?_
      refine SC.region ?_
      refine SL.val (OpV.add rfl rfl (IntWalk.i64_in _ (by omega))) rfl ?_
      refine SL.val (OpV.move rfl) rfl ?_
      refine SL.nil ?_
      first
        | exact loopQ.nm (k + 1, kvPut m.path (.int .i64 1) dk) (by dsimp only; omega) ⟨rfl, rfl, rfl, rfl, rfl, trivial⟩ (List.Perm.refl _) ⟨by dsimp only; omega, ints_put hdk _ _ (fun y => by simp only [dirInt, hks]; by_cases hy : m.path = y <;> simp [hy, h20]), rfl⟩
        | exact loopQ.nm (k + 1, kvPut m.path (.int .i64 0) dk) (by dsimp only; omega) ⟨rfl, rfl, rfl, rfl, rfl, trivial⟩ (List.Perm.refl _) ⟨by dsimp only; omega, ints_put hdk _ _ (fun y => by simp only [dirInt, hks]; by_cases hy : m.path = y <;> simp [hy, h20]), rfl⟩
  · skip
    have hke : k = upper.length := by omega
    rw [hke, List.take_length] at hdk
    refine SC.exit ?_
    refine seqQ.e ?_
    refine loopQ.e ?_
    refine blockQ.e ?_
    refine seqQ.nm ?_
    refine SC.seq ?_
    refine SC.region ?_
    refine SL.val (OpV.move rfl) rfl ?_
    refine SL.val (OpV.nilCheck rfl) rfl ?_
    refine SL.val (OpV.fld fa66_0 rfl) rfl ?_
    first
      | refine SL.val (OpV.load _ Tryz.underlying25 rfl rfl (Kn.blk 0 rfl rfl)) rfl ?_
      | refine SL.val (OpV.load _ Tryz.underlying25 rfl rfl (Kn.blk 1 rfl rfl)) rfl ?_
      | refine SL.val (OpV.load _ Tryz.underlying25 rfl rfl (Kn.blk 2 rfl rfl)) rfl ?_
      | refine SL.val (OpV.load _ Tryz.underlying25 rfl rfl (Kn.blk 3 rfl rfl)) rfl ?_
      | refine SL.val (OpV.load _ Tryz.underlying25 rfl rfl (Kn.mem (by assumption))) rfl ?_
    refine SL.call ok123 rfl (L1 := []) (List.perm_append_comm (l₁ := [])) (cplain_ev lo lower _ hc hv1 hok1 hl1) rfl ?_
    rintro w _ M2 hM2 ⟨rfl, hw⟩
    obtain ⟨ad2, cap2, rfl, hcap2, hmax2⟩ := hw.len
    have hpl : (plainM lower).length ≤ lower.length := List.length_filter_le _ _
    have hpok : ∀ m ∈ plainM lower, m.ok M2 := fun m hm => (hok1 m (List.mem_filter.1 hm).1).mono hM2
    replace hoks : ∀ m ∈ acc, m.ok M2 := fun m hm => (hoks m hm).mono hM2
    generalize plainM lower = pl at *
    refine SL.val (OpV.llen Tryz.underlying25 rfl) rfl ?_
    refine SL.val (OpV.move rfl) rfl ?_
    refine SL.nil ?_
    refine seqQ.nm ?_
    refine SC.block ?_
    refine SC.loop (ι := Nat × List Mb) (fun x M' => x.1 ≤ pl.length ∧ x.2 = (pl.take x.1).foldl (overAdd upper) acc ∧ (∀ y ∈ x.2, y.ok M2) ∧ M2 = M') (fun x => [(0, .pointer (some ⟨b, 0, none⟩)), (2, .map (some b7)), (32, .slice ad2 pl.length cap2), (33, .int .i64 pl.length), (34, .int .i64 x.1)]) (fun x => [.obj b7 (mapObj dk), .blk b 66 [lo, .slice ad upper.length cap, .map (some bm)], .obj bm (mapObj (kvOf x.2))]) (fun x => pl.length - x.1) (0, acc) (G := []) ⟨rfl, rfl, rfl, rfl, rfl, trivial⟩ (List.Perm.refl _) ⟨Nat.zero_le _, rfl, hoks, rfl⟩ ?_
    rintro ⟨k, out⟩ _ _ ⟨hk, hout, hoko, rfl⟩
    dsimp only at hk hout hoko ⊢
    refine SC.seq ?_
    refine SC.region ?_
    refine SL.val (OpV.lss rfl rfl) rfl ?_
    refine SL.nil ?_
    refine seqQ.nm ?_
    refine SC.seq ?_
    first | refine SC.ifp rfl (fun h35 => ?_) (fun h35 => ?_) | refine SC.ite rfl (fun h35 => ?_) (fun h35 => ?_)
    · skip
      have hlt : k < pl.length := by omega
      obtain ⟨g, o, cap', he, hcs, _⟩ := hw.at_ (by omega)
      cases he
      obtain ⟨m, hm⟩ := getElem?_lt hlt
      have hmok := hpok m (List.mem_of_getElem? hm)
      have hmc := mbCells_at hcs hm
      have hmp : m.path.length ≤ 268435456 := hmok.path
      have hst := foldl_take (overAdd upper) acc pl k m hm
      rw [← hout] at hst
      refine SC.skip ?_
      refine seqQ.nm ?_
      refine SC.seq ?_
      refine SC.block ?_
      refine SC.seq ?_
      refine SC.region ?_
      refine SL.val (OpV.indexAddr Tryz.underlying25 sz38 rfl rfl (by omega) (by omega)) rfl ?_
      refine SL.val (OpV.loads (cs := m.cells) _ Tryz.underlying38 rfl rfl sz38 (Kns.mem hmc)) rfl ?_
      refine SL.act (OpH.alloc zr38) rfl ?_; rintro _ _ _ hM6 ⟨b6, rfl, rfl, rfl⟩; clear hM6
      first
        | refine SL.unit (OpU.store 0 rfl rfl rfl sz38 (by first | exact Nat.le_of_ble_eq_true rfl | (simp; done) | (simp; omega) | omega) (cells_ones hmok)) ?_
        | refine SL.unit (OpU.storeRow 0 rfl rfl rfl sz38 (by first | exact Nat.le_of_ble_eq_true rfl | (simp; done) | (simp; omega) | omega) (cells_ones hmok)) ?_
        | refine SL.unit (OpU.store 1 rfl rfl rfl sz38 (by first | exact Nat.le_of_ble_eq_true rfl | (simp; done) | (simp; omega) | omega) (cells_ones hmok)) ?_
        | refine SL.unit (OpU.storeRow 1 rfl rfl rfl sz38 (by first | exact Nat.le_of_ble_eq_true rfl | (simp; done) | (simp; omega) | omega) (cells_ones hmok)) ?_
        | refine SL.unit (OpU.store 2 rfl rfl rfl sz38 (by first | exact Nat.le_of_ble_eq_true rfl | (simp; done) | (simp; omega) | omega) (cells_ones hmok)) ?_
        | refine SL.unit (OpU.storeRow 2 rfl rfl rfl sz38 (by first | exact Nat.le_of_ble_eq_true rfl | (simp; done) | (simp; omega) | omega) (cells_ones hmok)) ?_
        | refine SL.unit (OpU.store 3 rfl rfl rfl sz38 (by first | exact Nat.le_of_ble_eq_true rfl | (simp; done) | (simp; omega) | omega) (cells_ones hmok)) ?_
        | refine SL.unit (OpU.storeRow 3 rfl rfl rfl sz38 (by first | exact Nat.le_of_ble_eq_true rfl | (simp; done) | (simp; omega) | omega) (cells_ones hmok)) ?_
      refine SL.nil ?_
      refine seqQ.nm ?_
      refine SC.seq ?_
      refine SC.region ?_
      refine SL.val (OpV.fld fa38_1 rfl) rfl ?_
      refine SL.val (OpV.fld fa36_0 rfl) rfl ?_
      first
        | refine SL.val (OpV.load _ Tryz.underlying3 rfl rfl (Kn.blk 0 rfl rfl)) rfl ?_
        | refine SL.val (OpV.load _ Tryz.underlying3 rfl rfl (Kn.blk 1 rfl rfl)) rfl ?_
        | refine SL.val (OpV.load _ Tryz.underlying3 rfl rfl (Kn.blk 2 rfl rfl)) rfl ?_
        | refine SL.val (OpV.load _ Tryz.underlying3 rfl rfl (Kn.blk 3 rfl rfl)) rfl ?_
        | refine SL.val (OpV.load _ Tryz.underlying3 rfl rfl (Kn.mem (by assumption))) rfl ?_
      refine SL.val (OpV.neq rfl rfl) rfl ?_
      refine SL.val (OpV.move rfl) rfl ?_
      refine SL.andcut 6 (c := 42) (d := 48) rfl (fun h42 => ?_) ?_
      · skip
        refine SL.skip rfl rfl ?_
        refine SL.skip rfl rfl ?_
        refine SL.skip rfl rfl ?_
        refine SL.skip rfl rfl ?_
        refine SL.skip rfl rfl ?_
        refine SL.val (OpV.pickF rfl rfl) rfl ?_
        exact SL.nil ⟨rfl, rfl, (by repeat first | exact Env.le_refl _ | refine Env.le_new rfl ?_), [], List.Perm.refl _⟩
      apply Exists.intro
      refine And.intro (fun h42 => ?_) ?_
      · skip
        refine SL.gval rfl (OpV.move rfl) rfl ?_
        refine SL.gval rfl (OpV.fld fa38_0 rfl) rfl ?_
        first
          | refine SL.gval rfl (OpV.load _ Tryz.underlying9 rfl rfl (Kn.blk 0 rfl rfl)) rfl ?_
          | refine SL.gval rfl (OpV.load _ Tryz.underlying9 rfl rfl (Kn.blk 1 rfl rfl)) rfl ?_
          | refine SL.gval rfl (OpV.load _ Tryz.underlying9 rfl rfl (Kn.blk 2 rfl rfl)) rfl ?_
          | refine SL.gval rfl (OpV.load _ Tryz.underlying9 rfl rfl (Kn.blk 3 rfl rfl)) rfl ?_
          | refine SL.gval rfl (OpV.load _ Tryz.underlying9 rfl rfl (Kn.mem (by assumption))) rfl ?_
        refine SL.gval rfl (show OpV _ _ _ _ _ (.int .i64 (dirInt upper m.path)) by rw [← hdk m.path]; exact (OpV.kvLookup Tryz.underlying55 Tryz.underlying9 zr3 rfl rfl (Ko.obj 1 rfl))) rfl ?_
        refine SL.gval rfl (OpV.gtr rfl rfl) rfl ?_
        refine SL.val (OpV.pickT rfl rfl) rfl ?_
        exact SL.nil ⟨rfl, rfl, (by repeat first | exact Env.le_refl _ | refine Env.le_new rfl ?_), [], List.Perm.refl _⟩
      refine SL.nil ?_
      have e1 : (decide (m.kind ≠ 1) && decide (0 < dirInt upper m.path)) = (decide (m.kind ≠ 1) && decide (kindOf upper m.path = 1)) := by
        congr 1
        by_cases hx : kindOf upper m.path = 1 <;> simp [dirInt, hx]
      refine seqQ.nm ?_
      first | refine SC.ifp rfl (fun h48 => ?_) (fun h48 => ?_) | refine SC.ite rfl (fun h48 => ?_) (fun h48 => ?_)
      · skip
        refine SC.region ?_
        refine SL.val (OpV.move rfl) rfl ?_
        refine SL.val (OpV.fld fa38_0 rfl) rfl ?_
        first
          | refine SL.val (OpV.load _ Tryz.underlying9 rfl rfl (Kn.blk 0 rfl rfl)) rfl ?_
          | refine SL.val (OpV.load _ Tryz.underlying9 rfl rfl (Kn.blk 1 rfl rfl)) rfl ?_
          | refine SL.val (OpV.load _ Tryz.underlying9 rfl rfl (Kn.blk 2 rfl rfl)) rfl ?_
          | refine SL.val (OpV.load _ Tryz.underlying9 rfl rfl (Kn.blk 3 rfl rfl)) rfl ?_
          | refine SL.val (OpV.load _ Tryz.underlying9 rfl rfl (Kn.mem (by assumption))) rfl ?_
        refine SL.call ok125 rfl (L1 := []) (List.Perm.refl _) (pwhiteout_ev m.path _ (by omega)) rfl ?_
        rintro _ _ _ hM52 ⟨rfl, rfl, rfl⟩
        refine SL.val (show OpV _ _ _ _ _ (.agg ((whiteMb m.path).node.toArray)) from OpV.bld bl36 rfl rfl) rfl ?_
        refine SL.val (show OpV _ _ _ _ _ (.agg ((whiteMb m.path).cells.toArray)) from OpV.bld bl38 rfl rfl) rfl ?_
        refine SL.call ok124 rfl (L1 := [.blk b 66 [lo, .slice ad upper.length cap, .map (some bm)], .obj bm (mapObj (kvOf out))]) (List.perm_append_comm (l₁ := [_, _])) (add_ev b bm lo _ out (whiteMb m.path) _ (whiteMb_ok _ _) hoko) rfl ?_
        rintro _ _ _ hM55 ⟨rfl, rfl⟩
        refine SL.drop 2 rfl ?_
        refine SL.nil ?_
        refine blockQ.nm ?_
        refine seqQ.nm ?_
        refine SC.region ?_
        refine SL.val (OpV.add rfl rfl (IntWalk.i64_in _ (by omega))) rfl ?_
        refine SL.val (OpV.move rfl) rfl ?_
        refine SL.nil ?_
        first
          | exact loopQ.nm (k + 1, withM out (whiteMb m.path)) (by dsimp only; omega) ⟨rfl, rfl, rfl, rfl, rfl, trivial⟩ (List.perm_append_comm (l₁ := [_, _])) ⟨by dsimp only; omega, by rw [hst, overAdd, ← e1, if_pos h48], withM_ok hoko (whiteMb_ok _ _), rfl⟩
          | exact loopQ.nm (k + 1, out) (by dsimp only; omega) ⟨rfl, rfl, rfl, rfl, rfl, trivial⟩ (List.Perm.refl _) ⟨by dsimp only; omega, by rw [hst, overAdd, ← e1, if_neg (by rw [h48]; decide)], hoko, rfl⟩
      · skip
        refine SC.drop 0 rfl ?_
        refine SC.skip ?_
        refine blockQ.nm ?_
        refine seqQ.nm ?_
        refine SC.region ?_
        refine SL.val (OpV.add rfl rfl (IntWalk.i64_in _ (by omega))) rfl ?_
        refine SL.val (OpV.move rfl) rfl ?_
        refine SL.nil ?_
        first
          | exact loopQ.nm (k + 1, withM out (whiteMb m.path)) (by dsimp only; omega) ⟨rfl, rfl, rfl, rfl, rfl, trivial⟩ (List.perm_append_comm (l₁ := [_, _])) ⟨by dsimp only; omega, by rw [hst, overAdd, ← e1, if_pos h48], withM_ok hoko (whiteMb_ok _ _), rfl⟩
          | exact loopQ.nm (k + 1, out) (by dsimp only; omega) ⟨rfl, rfl, rfl, rfl, rfl, trivial⟩ (List.Perm.refl _) ⟨by dsimp only; omega, by rw [hst, overAdd, ← e1, if_neg (by rw [h48]; decide)], hoko, rfl⟩
    · skip
      have hke2 : k = pl.length := by omega
      rw [hke2, List.take_length] at hout
      refine SC.drop 0 rfl ?_
      refine SC.exit ?_
      refine seqQ.e ?_
      refine loopQ.e ?_
      refine blockQ.e ?_
      refine retQ.none rfl  ?_ _ (.inl rfl)
      exact (by rw [hout]; rfl)
end Go.Proofs.YtceabkfmjffnhaaGreatDoor
