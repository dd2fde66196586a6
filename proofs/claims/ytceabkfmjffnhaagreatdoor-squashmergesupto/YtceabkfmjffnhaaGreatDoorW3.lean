/- SquashMerges answers true for every input of bulk at most 1048576, and its input reads as it did; the listed variables start as the program's text lays them (walks and laws) -/
import Derived.Test.YtceabkfmjffnhaaGreatDoorW2
import Derived.Test.YtceabkfmjffnhaaGreatDoorP
import Derived.Test.YtceabkfmjffnhaaGreatDoorRows
import Derived.OpenShut
import Derived.LaidSub
import Derived.Test.YtceabkfmjffnhaaGreatDoorCards
import Derived.Test.YtceabkfmjffnhaaGreatDoorTie
import Derived.WalkKit
import Derived.ProofKit
import Derived.Deep.DeepHandedRow
import Derived.Deep.DeepWitnessRowRef
set_option linter.unusedVariables false
set_option linter.unusedSimpArgs false
namespace Go.Proofs.YtceabkfmjffnhaaGreatDoor
open Go Go.Eng

set_option maxHeartbeats 2000000 in
theorem same_ev (x y : Mb) (M : Mem) (h : x.core = y.core) (hx : x.ok M) (hy : y.ok M) : Ev Tryz.prog 8 ([Value.agg x.cells.toArray, Value.agg y.cells.toArray] ++ (#[] : Array Value).toList).toArray [] M (Pu M (.bool true)) := by
  show Ev Tryz.prog 8 [Value.agg x.cells.toArray, Value.agg y.cells.toArray].toArray [] M (Pu M (.bool true))
  refine Ev.lax ?_
  have e1 : x.path = y.path := congrArg Core.path h
  have e2 : x.kind = y.kind := congrArg Core.kind h
  have e3 : x.mode = y.mode := congrArg Core.mode h
  have e4 : x.uid = y.uid := congrArg Core.uid h
  have e5 : x.gid = y.gid := congrArg Core.gid h
  have e6 : x.time = y.time := congrArg Core.time h
  have e7 : x.av = y.av := congrArg Core.av h
  have e8 : x.dv = y.dv := congrArg Core.dv h
  have e9 : x.link = y.link := congrArg Core.link h
  have hxd := hx.data
  have hyd := hy.data
  have hxa := hx.attrs
  have hya := hy.attrs
  obtain ⟨xd, xdc, hxe, hxl, hxm⟩ := hxd.len
  obtain ⟨yd, ydc, hye, hyl, hym⟩ := hyd.len
  obtain ⟨xa, xac, hxf, hxk, hxn⟩ := hxa.len
  obtain ⟨ya, yac, hyf, hyk, hyn⟩ := hya.len
  rw [hxe] at hxd
  rw [hye] at hyd
  rw [hxf] at hxa
  rw [hyf] at hya
  have hxal : x.av.length ≤ 268435456 := hx.attrsLen
  have hyal : y.av.length ≤ 268435456 := hy.attrsLen
  refine Ev.enter Tryz.func8 rfl Tryz.ntmps8 rfl ?_
  refine SC.seq ?_
  refine SC.region ?_
  refine SL.act (OpH.box rfl) rfl ?_; rintro _ _ _ hM2 ⟨b2, rfl, rfl, rfl⟩; clear hM2
  refine SL.act (OpH.box rfl) rfl ?_; rintro _ _ _ hM3 ⟨b3, rfl, rfl, rfl⟩; clear hM3
  refine SL.val (OpV.assign rfl) rfl ?_
  refine SL.nil ?_
  refine seqQ.nm ?_
  refine SC.seq ?_
  refine SC.region ?_
  refine SL.val (OpV.fld fa38_1 rfl) rfl ?_
  first
    | refine SL.val (OpV.loads (cs := x.node) _ Tryz.underlying36 rfl rfl sz36 (Kns.blk 0 rfl rfl)) rfl ?_
    | refine SL.val (OpV.loads (cs := x.node) _ Tryz.underlying36 rfl rfl sz36 (Kns.blk 1 rfl rfl)) rfl ?_
    | refine SL.val (OpV.loads (cs := x.node) _ Tryz.underlying36 rfl rfl sz36 (Kns.blk 2 rfl rfl)) rfl ?_
    | refine SL.val (OpV.loads (cs := x.node) _ Tryz.underlying36 rfl rfl sz36 (Kns.blk 3 rfl rfl)) rfl ?_
    | refine SL.val (OpV.loads (cs := x.node) _ Tryz.underlying36 rfl rfl sz36 (Kns.mem (by assumption))) rfl ?_
  refine SL.act (OpH.alloc zr36) rfl ?_; rintro _ _ _ hM5 ⟨b5, rfl, rfl, rfl⟩; clear hM5
  first
    | refine SL.unit (OpU.store 0 rfl rfl rfl sz36 (by first | exact Nat.le_of_ble_eq_true rfl | (simp; done) | (simp; omega) | omega) (node_ones hx)) ?_
    | refine SL.unit (OpU.storeRow 0 rfl rfl rfl sz36 (by first | exact Nat.le_of_ble_eq_true rfl | (simp; done) | (simp; omega) | omega) (node_ones hx)) ?_
    | refine SL.unit (OpU.store 1 rfl rfl rfl sz36 (by first | exact Nat.le_of_ble_eq_true rfl | (simp; done) | (simp; omega) | omega) (node_ones hx)) ?_
    | refine SL.unit (OpU.storeRow 1 rfl rfl rfl sz36 (by first | exact Nat.le_of_ble_eq_true rfl | (simp; done) | (simp; omega) | omega) (node_ones hx)) ?_
    | refine SL.unit (OpU.store 2 rfl rfl rfl sz36 (by first | exact Nat.le_of_ble_eq_true rfl | (simp; done) | (simp; omega) | omega) (node_ones hx)) ?_
    | refine SL.unit (OpU.storeRow 2 rfl rfl rfl sz36 (by first | exact Nat.le_of_ble_eq_true rfl | (simp; done) | (simp; omega) | omega) (node_ones hx)) ?_
    | refine SL.unit (OpU.store 3 rfl rfl rfl sz36 (by first | exact Nat.le_of_ble_eq_true rfl | (simp; done) | (simp; omega) | omega) (node_ones hx)) ?_
    | refine SL.unit (OpU.storeRow 3 rfl rfl rfl sz36 (by first | exact Nat.le_of_ble_eq_true rfl | (simp; done) | (simp; omega) | omega) (node_ones hx)) ?_
  refine SL.nil ?_
  refine seqQ.nm ?_
  refine SC.seq ?_
  refine SC.region ?_
  refine SL.val (OpV.fld fa38_1 rfl) rfl ?_
  first
    | refine SL.val (OpV.loads (cs := y.node) _ Tryz.underlying36 rfl rfl sz36 (Kns.blk 0 rfl rfl)) rfl ?_
    | refine SL.val (OpV.loads (cs := y.node) _ Tryz.underlying36 rfl rfl sz36 (Kns.blk 1 rfl rfl)) rfl ?_
    | refine SL.val (OpV.loads (cs := y.node) _ Tryz.underlying36 rfl rfl sz36 (Kns.blk 2 rfl rfl)) rfl ?_
    | refine SL.val (OpV.loads (cs := y.node) _ Tryz.underlying36 rfl rfl sz36 (Kns.blk 3 rfl rfl)) rfl ?_
    | refine SL.val (OpV.loads (cs := y.node) _ Tryz.underlying36 rfl rfl sz36 (Kns.mem (by assumption))) rfl ?_
  refine SL.act (OpH.alloc zr36) rfl ?_; rintro _ _ _ hM6 ⟨b6, rfl, rfl, rfl⟩; clear hM6
  first
    | refine SL.unit (OpU.store 0 rfl rfl rfl sz36 (by first | exact Nat.le_of_ble_eq_true rfl | (simp; done) | (simp; omega) | omega) (node_ones hy)) ?_
    | refine SL.unit (OpU.storeRow 0 rfl rfl rfl sz36 (by first | exact Nat.le_of_ble_eq_true rfl | (simp; done) | (simp; omega) | omega) (node_ones hy)) ?_
    | refine SL.unit (OpU.store 1 rfl rfl rfl sz36 (by first | exact Nat.le_of_ble_eq_true rfl | (simp; done) | (simp; omega) | omega) (node_ones hy)) ?_
    | refine SL.unit (OpU.storeRow 1 rfl rfl rfl sz36 (by first | exact Nat.le_of_ble_eq_true rfl | (simp; done) | (simp; omega) | omega) (node_ones hy)) ?_
    | refine SL.unit (OpU.store 2 rfl rfl rfl sz36 (by first | exact Nat.le_of_ble_eq_true rfl | (simp; done) | (simp; omega) | omega) (node_ones hy)) ?_
    | refine SL.unit (OpU.storeRow 2 rfl rfl rfl sz36 (by first | exact Nat.le_of_ble_eq_true rfl | (simp; done) | (simp; omega) | omega) (node_ones hy)) ?_
    | refine SL.unit (OpU.store 3 rfl rfl rfl sz36 (by first | exact Nat.le_of_ble_eq_true rfl | (simp; done) | (simp; omega) | omega) (node_ones hy)) ?_
    | refine SL.unit (OpU.storeRow 3 rfl rfl rfl sz36 (by first | exact Nat.le_of_ble_eq_true rfl | (simp; done) | (simp; omega) | omega) (node_ones hy)) ?_
  refine SL.nil ?_
  refine seqQ.nm ?_
  refine SC.seq ?_
  refine SC.seq ?_
  refine SC.region ?_
  refine SL.val (OpV.fld fa38_0 rfl) rfl ?_
  first
    | refine SL.val (OpV.load _ Tryz.underlying9 rfl rfl (Kn.blk 0 rfl rfl)) rfl ?_
    | refine SL.val (OpV.load _ Tryz.underlying9 rfl rfl (Kn.blk 1 rfl rfl)) rfl ?_
    | refine SL.val (OpV.load _ Tryz.underlying9 rfl rfl (Kn.blk 2 rfl rfl)) rfl ?_
    | refine SL.val (OpV.load _ Tryz.underlying9 rfl rfl (Kn.blk 3 rfl rfl)) rfl ?_
    | refine SL.val (OpV.load _ Tryz.underlying9 rfl rfl (Kn.mem (by assumption))) rfl ?_
  refine SL.val (OpV.fld fa38_0 rfl) rfl ?_
  first
    | refine SL.val (OpV.load _ Tryz.underlying9 rfl rfl (Kn.blk 0 rfl rfl)) rfl ?_
    | refine SL.val (OpV.load _ Tryz.underlying9 rfl rfl (Kn.blk 1 rfl rfl)) rfl ?_
    | refine SL.val (OpV.load _ Tryz.underlying9 rfl rfl (Kn.blk 2 rfl rfl)) rfl ?_
    | refine SL.val (OpV.load _ Tryz.underlying9 rfl rfl (Kn.blk 3 rfl rfl)) rfl ?_
    | refine SL.val (OpV.load _ Tryz.underlying9 rfl rfl (Kn.mem (by assumption))) rfl ?_
  refine SL.val (OpV.sneq rfl rfl) rfl ?_
  refine SL.val (OpV.move rfl) rfl ?_
  refine SL.bset (c := 17) (b' := false) rfl (decide_eq_false (fun k => k e1)) ?_
  refine SL.gval rfl (OpV.fld fa36_0 rfl) rfl ?_
  first
    | refine SL.gval rfl (OpV.load _ Tryz.underlying3 rfl rfl (Kn.blk 0 rfl rfl)) rfl ?_
    | refine SL.gval rfl (OpV.load _ Tryz.underlying3 rfl rfl (Kn.blk 1 rfl rfl)) rfl ?_
    | refine SL.gval rfl (OpV.load _ Tryz.underlying3 rfl rfl (Kn.blk 2 rfl rfl)) rfl ?_
    | refine SL.gval rfl (OpV.load _ Tryz.underlying3 rfl rfl (Kn.blk 3 rfl rfl)) rfl ?_
    | refine SL.gval rfl (OpV.load _ Tryz.underlying3 rfl rfl (Kn.mem (by assumption))) rfl ?_
  refine SL.gval rfl (OpV.fld fa36_0 rfl) rfl ?_
  first
    | refine SL.gval rfl (OpV.load _ Tryz.underlying3 rfl rfl (Kn.blk 0 rfl rfl)) rfl ?_
    | refine SL.gval rfl (OpV.load _ Tryz.underlying3 rfl rfl (Kn.blk 1 rfl rfl)) rfl ?_
    | refine SL.gval rfl (OpV.load _ Tryz.underlying3 rfl rfl (Kn.blk 2 rfl rfl)) rfl ?_
    | refine SL.gval rfl (OpV.load _ Tryz.underlying3 rfl rfl (Kn.blk 3 rfl rfl)) rfl ?_
    | refine SL.gval rfl (OpV.load _ Tryz.underlying3 rfl rfl (Kn.mem (by assumption))) rfl ?_
  refine SL.gval rfl (OpV.neq rfl rfl) rfl ?_
  refine SL.val (OpV.pickF rfl rfl) rfl ?_
  refine SL.val (OpV.move rfl) rfl ?_
  refine SL.bset (c := 24) (b' := false) rfl (decide_eq_false (fun k => k e2)) ?_
  refine SL.gval rfl (OpV.fld fa36_1 rfl) rfl ?_
  first
    | refine SL.gval rfl (OpV.load _ Tryz.underlying32 rfl rfl (Kn.blk 0 rfl rfl)) rfl ?_
    | refine SL.gval rfl (OpV.load _ Tryz.underlying32 rfl rfl (Kn.blk 1 rfl rfl)) rfl ?_
    | refine SL.gval rfl (OpV.load _ Tryz.underlying32 rfl rfl (Kn.blk 2 rfl rfl)) rfl ?_
    | refine SL.gval rfl (OpV.load _ Tryz.underlying32 rfl rfl (Kn.blk 3 rfl rfl)) rfl ?_
    | refine SL.gval rfl (OpV.load _ Tryz.underlying32 rfl rfl (Kn.mem (by assumption))) rfl ?_
  refine SL.gval rfl (OpV.fld fa36_1 rfl) rfl ?_
  first
    | refine SL.gval rfl (OpV.load _ Tryz.underlying32 rfl rfl (Kn.blk 0 rfl rfl)) rfl ?_
    | refine SL.gval rfl (OpV.load _ Tryz.underlying32 rfl rfl (Kn.blk 1 rfl rfl)) rfl ?_
    | refine SL.gval rfl (OpV.load _ Tryz.underlying32 rfl rfl (Kn.blk 2 rfl rfl)) rfl ?_
    | refine SL.gval rfl (OpV.load _ Tryz.underlying32 rfl rfl (Kn.blk 3 rfl rfl)) rfl ?_
    | refine SL.gval rfl (OpV.load _ Tryz.underlying32 rfl rfl (Kn.mem (by assumption))) rfl ?_
  refine SL.gval rfl (OpV.neq rfl rfl) rfl ?_
  refine SL.val (OpV.pickF rfl rfl) rfl ?_
  refine SL.val (OpV.move rfl) rfl ?_
  refine SL.bset (c := 31) (b' := false) rfl (decide_eq_false (fun k => k e3)) ?_
  refine SL.gval rfl (OpV.fld fa36_2 rfl) rfl ?_
  first
    | refine SL.gval rfl (OpV.load _ Tryz.underlying32 rfl rfl (Kn.blk 0 rfl rfl)) rfl ?_
    | refine SL.gval rfl (OpV.load _ Tryz.underlying32 rfl rfl (Kn.blk 1 rfl rfl)) rfl ?_
    | refine SL.gval rfl (OpV.load _ Tryz.underlying32 rfl rfl (Kn.blk 2 rfl rfl)) rfl ?_
    | refine SL.gval rfl (OpV.load _ Tryz.underlying32 rfl rfl (Kn.blk 3 rfl rfl)) rfl ?_
    | refine SL.gval rfl (OpV.load _ Tryz.underlying32 rfl rfl (Kn.mem (by assumption))) rfl ?_
  refine SL.gval rfl (OpV.fld fa36_2 rfl) rfl ?_
  first
    | refine SL.gval rfl (OpV.load _ Tryz.underlying32 rfl rfl (Kn.blk 0 rfl rfl)) rfl ?_
    | refine SL.gval rfl (OpV.load _ Tryz.underlying32 rfl rfl (Kn.blk 1 rfl rfl)) rfl ?_
    | refine SL.gval rfl (OpV.load _ Tryz.underlying32 rfl rfl (Kn.blk 2 rfl rfl)) rfl ?_
    | refine SL.gval rfl (OpV.load _ Tryz.underlying32 rfl rfl (Kn.blk 3 rfl rfl)) rfl ?_
    | refine SL.gval rfl (OpV.load _ Tryz.underlying32 rfl rfl (Kn.mem (by assumption))) rfl ?_
  refine SL.gval rfl (OpV.neq rfl rfl) rfl ?_
  refine SL.val (OpV.pickF rfl rfl) rfl ?_
  refine SL.val (OpV.move rfl) rfl ?_
  refine SL.bset (c := 38) (b' := false) rfl (decide_eq_false (fun k => k e4)) ?_
  refine SL.gval rfl (OpV.fld fa36_3 rfl) rfl ?_
  first
    | refine SL.gval rfl (OpV.load _ Tryz.underlying32 rfl rfl (Kn.blk 0 rfl rfl)) rfl ?_
    | refine SL.gval rfl (OpV.load _ Tryz.underlying32 rfl rfl (Kn.blk 1 rfl rfl)) rfl ?_
    | refine SL.gval rfl (OpV.load _ Tryz.underlying32 rfl rfl (Kn.blk 2 rfl rfl)) rfl ?_
    | refine SL.gval rfl (OpV.load _ Tryz.underlying32 rfl rfl (Kn.blk 3 rfl rfl)) rfl ?_
    | refine SL.gval rfl (OpV.load _ Tryz.underlying32 rfl rfl (Kn.mem (by assumption))) rfl ?_
  refine SL.gval rfl (OpV.fld fa36_3 rfl) rfl ?_
  first
    | refine SL.gval rfl (OpV.load _ Tryz.underlying32 rfl rfl (Kn.blk 0 rfl rfl)) rfl ?_
    | refine SL.gval rfl (OpV.load _ Tryz.underlying32 rfl rfl (Kn.blk 1 rfl rfl)) rfl ?_
    | refine SL.gval rfl (OpV.load _ Tryz.underlying32 rfl rfl (Kn.blk 2 rfl rfl)) rfl ?_
    | refine SL.gval rfl (OpV.load _ Tryz.underlying32 rfl rfl (Kn.blk 3 rfl rfl)) rfl ?_
    | refine SL.gval rfl (OpV.load _ Tryz.underlying32 rfl rfl (Kn.mem (by assumption))) rfl ?_
  refine SL.gval rfl (OpV.neq rfl rfl) rfl ?_
  refine SL.val (OpV.pickF rfl rfl) rfl ?_
  refine SL.val (OpV.move rfl) rfl ?_
  refine SL.bset (c := 45) (b' := false) rfl (decide_eq_false (fun k => k e5)) ?_
  refine SL.gval rfl (OpV.fld fa36_4 rfl) rfl ?_
  first
    | refine SL.gval rfl (OpV.load _ Tryz.underlying2 rfl rfl (Kn.blk 0 rfl rfl)) rfl ?_
    | refine SL.gval rfl (OpV.load _ Tryz.underlying2 rfl rfl (Kn.blk 1 rfl rfl)) rfl ?_
    | refine SL.gval rfl (OpV.load _ Tryz.underlying2 rfl rfl (Kn.blk 2 rfl rfl)) rfl ?_
    | refine SL.gval rfl (OpV.load _ Tryz.underlying2 rfl rfl (Kn.blk 3 rfl rfl)) rfl ?_
    | refine SL.gval rfl (OpV.load _ Tryz.underlying2 rfl rfl (Kn.mem (by assumption))) rfl ?_
  refine SL.gval rfl (OpV.fld fa36_4 rfl) rfl ?_
  first
    | refine SL.gval rfl (OpV.load _ Tryz.underlying2 rfl rfl (Kn.blk 0 rfl rfl)) rfl ?_
    | refine SL.gval rfl (OpV.load _ Tryz.underlying2 rfl rfl (Kn.blk 1 rfl rfl)) rfl ?_
    | refine SL.gval rfl (OpV.load _ Tryz.underlying2 rfl rfl (Kn.blk 2 rfl rfl)) rfl ?_
    | refine SL.gval rfl (OpV.load _ Tryz.underlying2 rfl rfl (Kn.blk 3 rfl rfl)) rfl ?_
    | refine SL.gval rfl (OpV.load _ Tryz.underlying2 rfl rfl (Kn.mem (by assumption))) rfl ?_
  refine SL.gval rfl (OpV.neq rfl rfl) rfl ?_
  refine SL.val (OpV.pickF rfl rfl) rfl ?_
  refine SL.val (OpV.move rfl) rfl ?_
  refine SL.bset (c := 52) (b' := false) rfl (decide_eq_false (fun k => k e6)) ?_
  refine SL.gval rfl (OpV.fld fa36_7 rfl) rfl ?_
  first
    | refine SL.gval rfl (OpV.load _ Tryz.underlying9 rfl rfl (Kn.blk 0 rfl rfl)) rfl ?_
    | refine SL.gval rfl (OpV.load _ Tryz.underlying9 rfl rfl (Kn.blk 1 rfl rfl)) rfl ?_
    | refine SL.gval rfl (OpV.load _ Tryz.underlying9 rfl rfl (Kn.blk 2 rfl rfl)) rfl ?_
    | refine SL.gval rfl (OpV.load _ Tryz.underlying9 rfl rfl (Kn.blk 3 rfl rfl)) rfl ?_
    | refine SL.gval rfl (OpV.load _ Tryz.underlying9 rfl rfl (Kn.mem (by assumption))) rfl ?_
  refine SL.gval rfl (OpV.fld fa36_7 rfl) rfl ?_
  first
    | refine SL.gval rfl (OpV.load _ Tryz.underlying9 rfl rfl (Kn.blk 0 rfl rfl)) rfl ?_
    | refine SL.gval rfl (OpV.load _ Tryz.underlying9 rfl rfl (Kn.blk 1 rfl rfl)) rfl ?_
    | refine SL.gval rfl (OpV.load _ Tryz.underlying9 rfl rfl (Kn.blk 2 rfl rfl)) rfl ?_
    | refine SL.gval rfl (OpV.load _ Tryz.underlying9 rfl rfl (Kn.blk 3 rfl rfl)) rfl ?_
    | refine SL.gval rfl (OpV.load _ Tryz.underlying9 rfl rfl (Kn.mem (by assumption))) rfl ?_
  refine SL.gval rfl (OpV.sneq rfl rfl) rfl ?_
  refine SL.val (OpV.pickF rfl rfl) rfl ?_
  refine SL.nil ?_
  refine seqQ.nm ?_
  refine SC.ifF rfl (decide_eq_false (fun k => k e9)) ?_
  refine SC.skip ?_
  refine seqQ.nm ?_
  refine SC.seq ?_
  refine SC.seq ?_
  refine SC.region ?_
  refine SL.val (OpV.fld fa36_6 rfl) rfl ?_
  first
    | refine SL.val (show OpV _ _ _ _ _ (.slice xd x.dv.length xdc) by rw [← hxe]; exact (OpV.load _ Tryz.underlying34 rfl rfl (Kn.blk 0 rfl rfl))) rfl ?_
    | refine SL.val (show OpV _ _ _ _ _ (.slice xd x.dv.length xdc) by rw [← hxe]; exact (OpV.load _ Tryz.underlying34 rfl rfl (Kn.blk 1 rfl rfl))) rfl ?_
    | refine SL.val (show OpV _ _ _ _ _ (.slice xd x.dv.length xdc) by rw [← hxe]; exact (OpV.load _ Tryz.underlying34 rfl rfl (Kn.blk 2 rfl rfl))) rfl ?_
    | refine SL.val (show OpV _ _ _ _ _ (.slice xd x.dv.length xdc) by rw [← hxe]; exact (OpV.load _ Tryz.underlying34 rfl rfl (Kn.blk 3 rfl rfl))) rfl ?_
    | refine SL.val (show OpV _ _ _ _ _ (.slice xd x.dv.length xdc) by rw [← hxe]; exact (OpV.load _ Tryz.underlying34 rfl rfl (Kn.mem (by assumption)))) rfl ?_
  refine SL.val (OpV.toStr Tryz.underlying34 Tryz.underlying5 Tryz.underlying9 rfl (Src.isl hxd) ⟨_, _, rfl⟩) rfl ?_
  refine SL.val (OpV.fld fa36_6 rfl) rfl ?_
  first
    | refine SL.val (show OpV _ _ _ _ _ (.slice yd y.dv.length ydc) by rw [← hye]; exact (OpV.load _ Tryz.underlying34 rfl rfl (Kn.blk 0 rfl rfl))) rfl ?_
    | refine SL.val (show OpV _ _ _ _ _ (.slice yd y.dv.length ydc) by rw [← hye]; exact (OpV.load _ Tryz.underlying34 rfl rfl (Kn.blk 1 rfl rfl))) rfl ?_
    | refine SL.val (show OpV _ _ _ _ _ (.slice yd y.dv.length ydc) by rw [← hye]; exact (OpV.load _ Tryz.underlying34 rfl rfl (Kn.blk 2 rfl rfl))) rfl ?_
    | refine SL.val (show OpV _ _ _ _ _ (.slice yd y.dv.length ydc) by rw [← hye]; exact (OpV.load _ Tryz.underlying34 rfl rfl (Kn.blk 3 rfl rfl))) rfl ?_
    | refine SL.val (show OpV _ _ _ _ _ (.slice yd y.dv.length ydc) by rw [← hye]; exact (OpV.load _ Tryz.underlying34 rfl rfl (Kn.mem (by assumption)))) rfl ?_
  refine SL.val (OpV.toStr Tryz.underlying34 Tryz.underlying5 Tryz.underlying9 rfl (Src.isl hyd) ⟨_, _, rfl⟩) rfl ?_
  refine SL.val (OpV.sneq rfl rfl) rfl ?_
  refine SL.val (OpV.move rfl) rfl ?_
  refine SL.bset (c := 66) (b' := false) rfl (decide_eq_false (fun k => k e8)) ?_
  refine SL.gval rfl (OpV.fld fa36_5 rfl) rfl ?_
  first
    | refine SL.gval rfl (show OpV _ _ _ _ _ (.slice xa x.av.length xac) by rw [← hxf]; exact (OpV.load _ Tryz.underlying33 rfl rfl (Kn.blk 0 rfl rfl))) rfl ?_
    | refine SL.gval rfl (show OpV _ _ _ _ _ (.slice xa x.av.length xac) by rw [← hxf]; exact (OpV.load _ Tryz.underlying33 rfl rfl (Kn.blk 1 rfl rfl))) rfl ?_
    | refine SL.gval rfl (show OpV _ _ _ _ _ (.slice xa x.av.length xac) by rw [← hxf]; exact (OpV.load _ Tryz.underlying33 rfl rfl (Kn.blk 2 rfl rfl))) rfl ?_
    | refine SL.gval rfl (show OpV _ _ _ _ _ (.slice xa x.av.length xac) by rw [← hxf]; exact (OpV.load _ Tryz.underlying33 rfl rfl (Kn.blk 3 rfl rfl))) rfl ?_
    | refine SL.gval rfl (show OpV _ _ _ _ _ (.slice xa x.av.length xac) by rw [← hxf]; exact (OpV.load _ Tryz.underlying33 rfl rfl (Kn.mem (by assumption)))) rfl ?_
  refine SL.gval rfl (OpV.llen Tryz.underlying33 rfl) rfl ?_
  refine SL.gval rfl (OpV.fld fa36_5 rfl) rfl ?_
  first
    | refine SL.gval rfl (show OpV _ _ _ _ _ (.slice ya y.av.length yac) by rw [← hyf]; exact (OpV.load _ Tryz.underlying33 rfl rfl (Kn.blk 0 rfl rfl))) rfl ?_
    | refine SL.gval rfl (show OpV _ _ _ _ _ (.slice ya y.av.length yac) by rw [← hyf]; exact (OpV.load _ Tryz.underlying33 rfl rfl (Kn.blk 1 rfl rfl))) rfl ?_
    | refine SL.gval rfl (show OpV _ _ _ _ _ (.slice ya y.av.length yac) by rw [← hyf]; exact (OpV.load _ Tryz.underlying33 rfl rfl (Kn.blk 2 rfl rfl))) rfl ?_
    | refine SL.gval rfl (show OpV _ _ _ _ _ (.slice ya y.av.length yac) by rw [← hyf]; exact (OpV.load _ Tryz.underlying33 rfl rfl (Kn.blk 3 rfl rfl))) rfl ?_
    | refine SL.gval rfl (show OpV _ _ _ _ _ (.slice ya y.av.length yac) by rw [← hyf]; exact (OpV.load _ Tryz.underlying33 rfl rfl (Kn.mem (by assumption)))) rfl ?_
  refine SL.gval rfl (OpV.llen Tryz.underlying33 rfl) rfl ?_
  refine SL.gval rfl (OpV.neq rfl rfl) rfl ?_
  refine SL.val (OpV.pickF rfl rfl) rfl ?_
  refine SL.nil ?_
  refine seqQ.nm ?_
  refine SC.ifF rfl (decide_eq_false (fun k => k (by rw [e7]))) ?_
  refine SC.skip ?_
  refine seqQ.nm ?_
  refine SC.seq ?_
  refine SC.seq ?_
  refine SC.region ?_
  refine SL.val (OpV.assign rfl) rfl ?_
  refine SL.nil ?_
  refine seqQ.nm ?_
  refine SC.block ?_
  refine SC.loop (ι := Nat) (fun j M' => j ≤ x.av.length ∧ M = M') (fun j => [(5, .pointer (some ⟨b5, 0, none⟩)), (6, .pointer (some ⟨b6, 0, none⟩)), (7, .int .i64 (j : Nat))]) (fun j => [.blk b6 36 y.node, .blk b5 36 x.node]) (fun j => x.av.length - j) 0 (G := [.blk b3 38 y.cells, .blk b2 38 x.cells]) ⟨rfl, rfl, rfl, trivial⟩ (List.perm_append_comm (l₁ := [_, _]) (l₂ := [_, _])) ⟨Nat.zero_le _, rfl⟩ ?_
  rintro j _ _ ⟨hj, rfl⟩
  refine SC.seq ?_
  refine SC.seq ?_
  refine SC.region ?_
  refine SL.val (OpV.move rfl) rfl ?_
  refine SL.val (OpV.fld fa36_5 rfl) rfl ?_
  first
    | refine SL.val (show OpV _ _ _ _ _ (.slice xa x.av.length xac) by rw [← hxf]; exact (OpV.load _ Tryz.underlying33 rfl rfl (Kn.blk 0 rfl rfl))) rfl ?_
    | refine SL.val (show OpV _ _ _ _ _ (.slice xa x.av.length xac) by rw [← hxf]; exact (OpV.load _ Tryz.underlying33 rfl rfl (Kn.blk 1 rfl rfl))) rfl ?_
    | refine SL.val (show OpV _ _ _ _ _ (.slice xa x.av.length xac) by rw [← hxf]; exact (OpV.load _ Tryz.underlying33 rfl rfl (Kn.blk 2 rfl rfl))) rfl ?_
    | refine SL.val (show OpV _ _ _ _ _ (.slice xa x.av.length xac) by rw [← hxf]; exact (OpV.load _ Tryz.underlying33 rfl rfl (Kn.blk 3 rfl rfl))) rfl ?_
    | refine SL.val (show OpV _ _ _ _ _ (.slice xa x.av.length xac) by rw [← hxf]; exact (OpV.load _ Tryz.underlying33 rfl rfl (Kn.mem (by assumption)))) rfl ?_
  refine SL.val (OpV.llen Tryz.underlying33 rfl) rfl ?_
  refine SL.val (OpV.lss rfl rfl) rfl ?_
  refine SL.nil ?_
  refine seqQ.nm ?_
  first | refine SC.ifp rfl (fun h79 => ?_) (fun h79 => ?_) | refine SC.ite rfl (fun h79 => ?_) (fun h79 => ?_)
  · skip
    have hjl : j < x.av.length := by omega
    obtain ⟨g1, o1, c1, he1, hc1, _⟩ := hxa.at_ (by omega)
    obtain ⟨g2, o2, c2, he2, hc2, _⟩ := hya.at_ (by rw [← e7]; omega)
    have hxg : x.attrs = .slice (some ⟨g1, o1, none⟩) x.av.length c1 := hxf.trans he1
    have hyg : y.attrs = .slice (some ⟨g2, o2, none⟩) y.av.length c2 := hyf.trans he2
    obtain ⟨a, ha⟩ := getElem?_lt hjl
    have hjn : ((j : Nat) : Int).toNat = j := by omega
    have hyl2 : y.av.length = x.av.length := by rw [e7]
    refine SC.skip ?_
    refine seqQ.nm ?_
    refine SC.seq ?_
    refine SC.block ?_
    refine SC.seq ?_
    refine SC.quiet mixed (by decide +kernel) ?_
    refine SQ.val (OpV.fld fa36_5 rfl) rfl ?_
    first
      | refine SQ.val (show OpV _ _ _ _ _ (.slice (some ⟨g1, o1, none⟩) x.av.length c1) by rw [← hxg]; exact (OpV.load _ Tryz.underlying33 rfl rfl (Kn.blk 0 rfl rfl))) rfl ?_
      | refine SQ.val (show OpV _ _ _ _ _ (.slice (some ⟨g1, o1, none⟩) x.av.length c1) by rw [← hxg]; exact (OpV.load _ Tryz.underlying33 rfl rfl (Kn.blk 1 rfl rfl))) rfl ?_
      | refine SQ.val (show OpV _ _ _ _ _ (.slice (some ⟨g1, o1, none⟩) x.av.length c1) by rw [← hxg]; exact (OpV.load _ Tryz.underlying33 rfl rfl (Kn.blk 2 rfl rfl))) rfl ?_
      | refine SQ.val (show OpV _ _ _ _ _ (.slice (some ⟨g1, o1, none⟩) x.av.length c1) by rw [← hxg]; exact (OpV.load _ Tryz.underlying33 rfl rfl (Kn.blk 3 rfl rfl))) rfl ?_
      | refine SQ.val (show OpV _ _ _ _ _ (.slice (some ⟨g1, o1, none⟩) x.av.length c1) by rw [← hxg]; exact (OpV.load _ Tryz.underlying33 rfl rfl (Kn.mem (by assumption)))) rfl ?_
    refine SQ.val (OpV.move rfl) rfl ?_
    refine SQ.val (OpV.indexAddr Tryz.underlying33 sz50 rfl rfl (by omega) (by omega)) rfl ?_
    refine SQ.val (OpV.loads (cs := (avF a)) _ Tryz.underlying50 rfl rfl sz50 (Kns.mem (by rw [hjn]; exact avCells_at hc1 ha))) rfl ?_
    refine SQ.val (OpV.fld fa36_5 rfl) rfl ?_
    first
      | refine SQ.val (show OpV _ _ _ _ _ (.slice (some ⟨g2, o2, none⟩) y.av.length c2) by rw [← hyg]; exact (OpV.load _ Tryz.underlying33 rfl rfl (Kn.blk 0 rfl rfl))) rfl ?_
      | refine SQ.val (show OpV _ _ _ _ _ (.slice (some ⟨g2, o2, none⟩) y.av.length c2) by rw [← hyg]; exact (OpV.load _ Tryz.underlying33 rfl rfl (Kn.blk 1 rfl rfl))) rfl ?_
      | refine SQ.val (show OpV _ _ _ _ _ (.slice (some ⟨g2, o2, none⟩) y.av.length c2) by rw [← hyg]; exact (OpV.load _ Tryz.underlying33 rfl rfl (Kn.blk 2 rfl rfl))) rfl ?_
      | refine SQ.val (show OpV _ _ _ _ _ (.slice (some ⟨g2, o2, none⟩) y.av.length c2) by rw [← hyg]; exact (OpV.load _ Tryz.underlying33 rfl rfl (Kn.blk 3 rfl rfl))) rfl ?_
      | refine SQ.val (show OpV _ _ _ _ _ (.slice (some ⟨g2, o2, none⟩) y.av.length c2) by rw [← hyg]; exact (OpV.load _ Tryz.underlying33 rfl rfl (Kn.mem (by assumption)))) rfl ?_
    refine SQ.val (OpV.move rfl) rfl ?_
    refine SQ.val (OpV.indexAddr Tryz.underlying33 sz50 rfl rfl (by omega) (by omega)) rfl ?_
    refine SQ.val (OpV.loads (cs := (avF a)) _ Tryz.underlying50 rfl rfl sz50 (Kns.mem (by rw [hjn]; exact avCells_at hc2 (by rw [← e7]; exact ha)))) rfl ?_
    refine SQ.val (OpV.neq2 ts50 rfl rfl) rfl ?_
    refine SQ.nil ?_
    refine seqQ.nm ?_
    refine SC.ifF rfl (decide_eq_false (fun k => k rfl)) ?_
    refine SC.skip ?_
    refine blockQ.nm ?_
    refine seqQ.nm ?_
    refine SC.region ?_
    refine SL.val (OpV.move rfl) rfl ?_
    refine SL.val (OpV.add rfl rfl (IntWalk.i64_in _ (by omega))) rfl ?_
    refine SL.val (OpV.assign rfl) rfl ?_
    refine SL.nil ?_
    exact loopQ.nm (j + 1) (by omega) ⟨rfl, rfl, rfl, trivial⟩ (List.Perm.refl _) ⟨by omega, rfl⟩
  · skip
    refine SC.exit ?_
    refine seqQ.e ?_
    refine loopQ.e ?_
    refine blockQ.e ?_
    refine seqQ.nm ?_
    refine SC.seq ?_
    refine SC.region ?_
    refine SL.val (OpV.assign rfl) rfl ?_
    refine SL.nil ?_
    refine seqQ.nm ?_
    refine SC.ret ?_
    refine retQ.one rfl (.tmp rfl) ?_ _ (.inr rfl)
    exact rfl
theorem eqf_ev (u w : Value) (xs ys : List Mb) (M : Mem) (h : cores xs = cores ys) (hu : SlM M u xs) (hw : SlM M w ys) (hx : ∀ m ∈ xs, m.ok M) (hy : ∀ m ∈ ys, m.ok M) (hl : xs.length ≤ big) :
    Ev Tryz.prog 7 [u, w, .func (.func 8) #[] #[]].toArray [] M (Pu M (.bool true)) := by
  refine Ev.lax ?_
  have hxl : xs.length ≤ 268435456 := hl
  have hlen := core_len h
  obtain ⟨ad, cap, rfl, hcap, hmax⟩ := hu.len
  obtain ⟨bd, bap, rfl, hbap, hbmax⟩ := hw.len
  refine Ev.enter Tryz.func7 rfl Tryz.ntmps7 rfl ?_
  refine SC.seq ?_
  refine SC.region ?_
  refine SL.val (OpV.assign rfl) rfl ?_
  refine SL.nil ?_
  refine seqQ.nm ?_
  refine SC.seq ?_
  refine SC.seq ?_
  refine SC.region ?_
  refine SL.val (OpV.move rfl) rfl ?_
  refine SL.val (OpV.llen Tryz.underlying25 rfl) rfl ?_
  refine SL.val (OpV.move rfl) rfl ?_
  refine SL.val (OpV.llen Tryz.underlying25 rfl) rfl ?_
  refine SL.val (OpV.neq rfl rfl) rfl ?_
  refine SL.nil ?_
  refine seqQ.nm ?_
  refine SC.ifF rfl (decide_eq_false (fun k => k (by rw [hlen]))) ?_
  refine SC.skip ?_
  refine seqQ.nm ?_
  refine SC.seq ?_
  refine SC.seq ?_
  refine SC.region ?_
  refine SL.val (OpV.move rfl) rfl ?_
  refine SL.val (OpV.llen Tryz.underlying25 rfl) rfl ?_
  refine SL.val (OpV.move rfl) rfl ?_
  refine SL.nil ?_
  refine seqQ.nm ?_
  refine SC.block ?_
  refine SC.loop (ι := Nat) (fun j M' => j ≤ xs.length ∧ M = M') (fun j => [(1, .slice bd ys.length bap), (2, .func (.func 8) #[] #[]), (15, .slice ad xs.length cap), (16, .int .i64 xs.length), (17, .int .i64 (j : Nat))]) (fun j => []) (fun j => xs.length - j) 0 (G := []) ⟨rfl, rfl, rfl, rfl, rfl, trivial⟩ (List.Perm.refl _) ⟨Nat.zero_le _, rfl⟩ ?_
  rintro j _ _ ⟨hj, rfl⟩
  refine SC.seq ?_
  refine SC.region ?_
  refine SL.val (OpV.lss rfl rfl) rfl ?_
  refine SL.nil ?_
  refine seqQ.nm ?_
  refine SC.seq ?_
  first | refine SC.ifp rfl (fun h18 => ?_) (fun h18 => ?_) | refine SC.ite rfl (fun h18 => ?_) (fun h18 => ?_)
  · skip
    have hjl : j < xs.length := by omega
    obtain ⟨g1, o1, c1, he1, hc1, _⟩ := hu.at_ (by omega)
    cases he1
    obtain ⟨g2, o2, c2, he2, hc2, _⟩ := hw.at_ (by omega)
    cases he2
    obtain ⟨x, hxj⟩ := getElem?_lt hjl
    obtain ⟨y, hyj⟩ := getElem?_lt (l := ys) (k := j) (by omega)
    have hxo := hx x (List.mem_of_getElem? hxj)
    have hyo := hy y (List.mem_of_getElem? hyj)
    have hxc := mbCells_at hc1 hxj
    have hyc := mbCells_at hc2 hyj
    have hce : x.core = y.core := by
      have h1 := core_at hxj
      have h2 := core_at hyj
      rw [h, h2] at h1
      exact (Option.some.inj h1).symm
    refine SC.skip ?_
    refine seqQ.nm ?_
    refine SC.seq ?_
    refine SC.block ?_
    refine SC.seq ?_
    refine SC.region ?_
    refine SL.val (OpV.move rfl) rfl ?_
    refine SL.val (OpV.indexAddr Tryz.underlying25 sz38 rfl rfl (by omega) (by omega)) rfl ?_
    refine SL.val (OpV.loads (cs := x.cells) _ Tryz.underlying38 rfl rfl sz38 (Kns.mem hxc)) rfl ?_
    refine SL.act (OpH.alloc zr38) rfl ?_; rintro _ _ _ hM8 ⟨b8, rfl, rfl, rfl⟩; clear hM8
    refine SL.val (OpV.assign rfl) rfl ?_
    first
      | refine SL.unit (OpU.store 0 rfl rfl rfl sz38 (by first | exact Nat.le_of_ble_eq_true rfl | (simp; done) | (simp; omega) | omega) (cells_ones hxo)) ?_
      | refine SL.unit (OpU.storeRow 0 rfl rfl rfl sz38 (by first | exact Nat.le_of_ble_eq_true rfl | (simp; done) | (simp; omega) | omega) (cells_ones hxo)) ?_
      | refine SL.unit (OpU.store 1 rfl rfl rfl sz38 (by first | exact Nat.le_of_ble_eq_true rfl | (simp; done) | (simp; omega) | omega) (cells_ones hxo)) ?_
      | refine SL.unit (OpU.storeRow 1 rfl rfl rfl sz38 (by first | exact Nat.le_of_ble_eq_true rfl | (simp; done) | (simp; omega) | omega) (cells_ones hxo)) ?_
      | refine SL.unit (OpU.store 2 rfl rfl rfl sz38 (by first | exact Nat.le_of_ble_eq_true rfl | (simp; done) | (simp; omega) | omega) (cells_ones hxo)) ?_
      | refine SL.unit (OpU.storeRow 2 rfl rfl rfl sz38 (by first | exact Nat.le_of_ble_eq_true rfl | (simp; done) | (simp; omega) | omega) (cells_ones hxo)) ?_
      | refine SL.unit (OpU.store 3 rfl rfl rfl sz38 (by first | exact Nat.le_of_ble_eq_true rfl | (simp; done) | (simp; omega) | omega) (cells_ones hxo)) ?_
      | refine SL.unit (OpU.storeRow 3 rfl rfl rfl sz38 (by first | exact Nat.le_of_ble_eq_true rfl | (simp; done) | (simp; omega) | omega) (cells_ones hxo)) ?_
    refine SL.nil ?_
    refine seqQ.nm ?_
    refine SC.seq ?_
    refine SC.region ?_
    refine SL.val (OpV.move rfl) rfl ?_
    refine SL.val (OpV.move rfl) rfl ?_
    refine SL.val (OpV.indexAddr Tryz.underlying25 sz38 rfl rfl (by omega) (by omega)) rfl ?_
    refine SL.val (OpV.loads (cs := y.cells) _ Tryz.underlying38 rfl rfl sz38 (Kns.mem hyc)) rfl ?_
    refine SL.act (OpH.alloc zr38) rfl ?_; rintro _ _ _ hM9 ⟨b9, rfl, rfl, rfl⟩; clear hM9
    first
      | refine SL.unit (OpU.store 0 rfl rfl rfl sz38 (by first | exact Nat.le_of_ble_eq_true rfl | (simp; done) | (simp; omega) | omega) (cells_ones hyo)) ?_
      | refine SL.unit (OpU.storeRow 0 rfl rfl rfl sz38 (by first | exact Nat.le_of_ble_eq_true rfl | (simp; done) | (simp; omega) | omega) (cells_ones hyo)) ?_
      | refine SL.unit (OpU.store 1 rfl rfl rfl sz38 (by first | exact Nat.le_of_ble_eq_true rfl | (simp; done) | (simp; omega) | omega) (cells_ones hyo)) ?_
      | refine SL.unit (OpU.storeRow 1 rfl rfl rfl sz38 (by first | exact Nat.le_of_ble_eq_true rfl | (simp; done) | (simp; omega) | omega) (cells_ones hyo)) ?_
      | refine SL.unit (OpU.store 2 rfl rfl rfl sz38 (by first | exact Nat.le_of_ble_eq_true rfl | (simp; done) | (simp; omega) | omega) (cells_ones hyo)) ?_
      | refine SL.unit (OpU.storeRow 2 rfl rfl rfl sz38 (by first | exact Nat.le_of_ble_eq_true rfl | (simp; done) | (simp; omega) | omega) (cells_ones hyo)) ?_
      | refine SL.unit (OpU.store 3 rfl rfl rfl sz38 (by first | exact Nat.le_of_ble_eq_true rfl | (simp; done) | (simp; omega) | omega) (cells_ones hyo)) ?_
      | refine SL.unit (OpU.storeRow 3 rfl rfl rfl sz38 (by first | exact Nat.le_of_ble_eq_true rfl | (simp; done) | (simp; omega) | omega) (cells_ones hyo)) ?_
    refine SL.nil ?_
    refine seqQ.nm ?_
    refine SC.seq ?_
    refine SC.region ?_
    refine SL.val (OpV.move rfl) rfl ?_
    first
      | refine SL.val (OpV.loads (cs := x.cells) _ Tryz.underlying38 rfl rfl sz38 (Kns.blk 0 rfl rfl)) rfl ?_
      | refine SL.val (OpV.loads (cs := x.cells) _ Tryz.underlying38 rfl rfl sz38 (Kns.blk 1 rfl rfl)) rfl ?_
      | refine SL.val (OpV.loads (cs := x.cells) _ Tryz.underlying38 rfl rfl sz38 (Kns.blk 2 rfl rfl)) rfl ?_
      | refine SL.val (OpV.loads (cs := x.cells) _ Tryz.underlying38 rfl rfl sz38 (Kns.blk 3 rfl rfl)) rfl ?_
      | refine SL.val (OpV.loads (cs := x.cells) _ Tryz.underlying38 rfl rfl sz38 (Kns.mem (by assumption))) rfl ?_
    first
      | refine SL.val (OpV.loads (cs := y.cells) _ Tryz.underlying38 rfl rfl sz38 (Kns.blk 0 rfl rfl)) rfl ?_
      | refine SL.val (OpV.loads (cs := y.cells) _ Tryz.underlying38 rfl rfl sz38 (Kns.blk 1 rfl rfl)) rfl ?_
      | refine SL.val (OpV.loads (cs := y.cells) _ Tryz.underlying38 rfl rfl sz38 (Kns.blk 2 rfl rfl)) rfl ?_
      | refine SL.val (OpV.loads (cs := y.cells) _ Tryz.underlying38 rfl rfl sz38 (Kns.blk 3 rfl rfl)) rfl ?_
      | refine SL.val (OpV.loads (cs := y.cells) _ Tryz.underlying38 rfl rfl sz38 (Kns.mem (by assumption))) rfl ?_
    refine SL.callv (.inl rfl) ok8 rfl rfl (L1 := []) (List.Perm.refl _) (same_ev x y M hce hxo hyo) rfl ?_
    rintro _ _ _ hM29 ⟨rfl, rfl, rfl⟩
    refine SL.val (OpV.not rfl) rfl ?_
    refine SL.nil ?_
    refine seqQ.nm ?_
    refine SC.ifF rfl rfl ?_
    refine SC.skip ?_
    refine blockQ.nm ?_
    refine seqQ.nm ?_
    refine SC.drop 0 rfl (SC.drop 0 rfl ?_)
    refine SC.region ?_
    refine SL.val (OpV.add rfl rfl (IntWalk.i64_in _ (by omega))) rfl ?_
    refine SL.val (OpV.move rfl) rfl ?_
    refine SL.nil ?_
    exact loopQ.nm (j + 1) (by omega) ⟨rfl, rfl, rfl, rfl, rfl, trivial⟩ (List.Perm.refl _) ⟨by omega, rfl⟩
  · skip
    refine SC.exit ?_
    refine seqQ.e ?_
    refine loopQ.e ?_
    refine blockQ.e ?_
    refine seqQ.nm ?_
    refine SC.seq ?_
    refine SC.region ?_
    refine SL.val (OpV.assign rfl) rfl ?_
    refine SL.nil ?_
    refine seqQ.nm ?_
    refine SC.ret ?_
    refine retQ.one rfl (.tmp rfl) ?_ _ (.inr rfl)
    exact rfl
end Go.Proofs.YtceabkfmjffnhaaGreatDoor
set_option linter.unusedVariables false
set_option linter.unusedSimpArgs false
namespace Go.Proofs.YtceabkfmjffnhaaGreatDoor
open Go Go.Eng

theorem equalS_ev (u w : Value) (l : List Bytes) (M : Mem) (hu : Sl1 M u l) (hw : Sl1 M w l) (hl : l.length ≤ big) :
    Ev Tryz.prog 37 [u, w].toArray [] M (Pu M (.bool true)) := by
  have hl' : l.length ≤ 268435456 := hl
  obtain ⟨ad, cap, rfl, hcap, hmax⟩ := hu.len
  obtain ⟨bd, bap, rfl, hbap, hbmax⟩ := hw.len
  refine Ev.enter Tryz.func37 rfl Tryz.ntmps37 rfl ?_
  refine SC.seq ?_
  refine SC.region ?_
  refine SL.val (OpV.assign rfl) rfl ?_
  refine SL.nil ?_
  refine seqQ.nm ?_
  refine SC.seq ?_
  refine SC.seq ?_
  refine SC.region ?_
  refine SL.val (OpV.move rfl) rfl ?_
  refine SL.val (OpV.llen Tryz.underlying52 rfl) rfl ?_
  refine SL.val (OpV.move rfl) rfl ?_
  refine SL.val (OpV.llen Tryz.underlying52 rfl) rfl ?_
  refine SL.val (OpV.neq rfl rfl) rfl ?_
  refine SL.nil ?_
  refine seqQ.nm ?_
  refine SC.ifF rfl (decide_eq_false (fun k => k rfl)) ?_
  refine SC.skip ?_
  refine seqQ.nm ?_
  refine SC.seq ?_
  refine SC.seq ?_
  refine SC.region ?_
  refine SL.val (OpV.move rfl) rfl ?_
  refine SL.val (OpV.llen Tryz.underlying52 rfl) rfl ?_
  refine SL.val (OpV.move rfl) rfl ?_
  refine SL.nil ?_
  refine seqQ.nm ?_
  refine SC.block ?_
  refine SC.loop (ι := Nat) (fun j M' => j ≤ l.length ∧ M = M') (fun j => [(0, .slice ad l.length cap), (1, .slice bd l.length bap), (11, .slice ad l.length cap), (12, .int .i64 l.length), (13, .int .i64 (j : Nat))]) (fun j => []) (fun j => l.length - j) 0 (G := []) ⟨rfl, rfl, rfl, rfl, rfl, trivial⟩ (List.Perm.refl _) ⟨Nat.zero_le _, rfl⟩ ?_
  rintro j _ _ ⟨hj, rfl⟩
  refine SC.seq ?_
  refine SC.region ?_
  refine SL.val (OpV.lss rfl rfl) rfl ?_
  refine SL.nil ?_
  refine seqQ.nm ?_
  refine SC.seq ?_
  first | refine SC.ifp rfl (fun h14 => ?_) (fun h14 => ?_) | refine SC.ite rfl (fun h14 => ?_) (fun h14 => ?_)
  · skip
    have hjl : j < l.length := by omega
    obtain ⟨g1, o1, c1, he1, hc1, _⟩ := hu.at_ (by omega)
    cases he1
    obtain ⟨g2, o2, c2, he2, hc2, _⟩ := hw.at_ (by omega)
    cases he2
    obtain ⟨x, hx⟩ := getElem?_lt hjl
    have hjn : ((j : Nat) : Int).toNat = j := by omega
    refine SC.skip ?_
    refine seqQ.nm ?_
    refine SC.seq ?_
    refine SC.block ?_
    refine SC.seq ?_
    refine SC.region ?_
    refine SL.val (OpV.move rfl) rfl ?_
    refine SL.val (OpV.assign rfl) rfl ?_
    refine SL.nil ?_
    refine seqQ.nm ?_
    refine SC.seq ?_
    refine SC.quiet mixed (by decide +kernel) ?_
    refine SQ.val (OpV.move rfl) rfl ?_
    refine SQ.val (OpV.move rfl) rfl ?_
    refine SQ.val (OpV.indexAddr1 Tryz.underlying52 sz9 rfl rfl (by omega) (by omega)) rfl ?_
    refine SQ.val (OpV.load _ Tryz.underlying9 rfl rfl (Kn.mem (by rw [hjn]; exact hc1.at_ j (v := str x) (by simp [hx])))) rfl ?_
    refine SQ.val (OpV.move rfl) rfl ?_
    refine SQ.val (OpV.move rfl) rfl ?_
    refine SQ.val (OpV.indexAddr1 Tryz.underlying52 sz9 rfl rfl (by omega) (by omega)) rfl ?_
    refine SQ.val (OpV.load _ Tryz.underlying9 rfl rfl (Kn.mem (by rw [hjn]; exact hc2.at_ j (v := str x) (by simp [hx])))) rfl ?_
    refine SQ.val (OpV.sneq rfl rfl) rfl ?_
    refine SQ.nil ?_
    refine seqQ.nm ?_
    refine SC.ifF rfl (decide_eq_false (fun k => k rfl)) ?_
    refine SC.skip ?_
    refine blockQ.nm ?_
    refine seqQ.nm ?_
    refine SC.region ?_
    refine SL.val (OpV.add rfl rfl (IntWalk.i64_in _ (by omega))) rfl ?_
    refine SL.val (OpV.move rfl) rfl ?_
    refine SL.nil ?_
    exact loopQ.nm (j + 1) (by omega) ⟨rfl, rfl, rfl, rfl, rfl, trivial⟩ (List.Perm.refl _) ⟨by omega, rfl⟩
  · skip
    refine SC.exit ?_
    refine seqQ.e ?_
    refine loopQ.e ?_
    refine blockQ.e ?_
    refine seqQ.nm ?_
    refine SC.seq ?_
    refine SC.region ?_
    refine SL.val (OpV.assign rfl) rfl ?_
    refine SL.nil ?_
    refine seqQ.nm ?_
    refine SC.ret ?_
    refine retQ.one rfl (.tmp rfl) ?_ _ (.inr rfl)
    exact ⟨rfl, rfl, rfl⟩
theorem told_ev (v w : Value) (vs : List Value) (ss : List (List Mb)) (want : List Bytes) (M : Mem) (hst : StepsTab M) (hc : ClassTab M) (ht : TypeTab M) (hs : SetsOk M v vs ss) (hw : Sl1 M w want) (hwl : want.length ≤ 4096)
    (h0 : setErr ss ss.length = 0) (h2 : 2 ≤ ss.length) (hp : ∀ (k : Nat) (out : List Mb), 2 ≤ k → k ≤ ss.length → Mrg ss k out → out.length ≤ 4096) (hq : ∀ out : List Mb, Mrg ss ss.length out → out.map Mb.path = want) :
    Ev Tryz.prog 16 [w, v].toArray [] M (Pu M (.bool true)) := by
  refine Ev.lax ?_
  refine Ev.enter Tryz.func16 rfl Tryz.ntmps16 rfl ?_
  refine SC.seq ?_
  refine SC.region ?_
  refine SL.val (OpV.assign rfl) rfl ?_
  refine SL.nil ?_
  refine seqQ.nm ?_
  refine SC.seq ?_
  refine SC.region ?_
  refine SL.val (OpV.move rfl) rfl ?_
  refine SL.call ok5 rfl (L1 := []) (List.Perm.refl _) (cmerge_ev v vs ss _ hst hc ht hs) rfl ?_
  rintro v12 _ M1 hM1 ⟨rfl, hmo⟩
  obtain ⟨out, u, hmrg, hlim, rfl, hsl, hok⟩ : ∃ out u, Mrg ss ss.length out ∧ (ss.length ≤ 1 ∨ out.length ≤ 4096) ∧ v12 = .tuple #[u, .int .i64 0] ∧ SlM M1 u out ∧ ∀ m ∈ out, m.ok M1 := by
    rcases hmo with ⟨h, _⟩ | ⟨_, ⟨k, out, hk2, hkl, hm, hl, _⟩ | h⟩
    · exact absurd h0 h
    · have := hp k out hk2 hkl hm; omega
    · exact h
  have hpw := hq out hmrg
  have hol : out.length = want.length := by rw [← hpw, List.length_map]
  obtain ⟨ad, cap, rfl, hcap, hmax⟩ := hsl.len
  refine SL.val (OpV.move rfl) rfl ?_
  refine SL.val (OpV.extract rfl rfl) rfl ?_
  refine SL.val (OpV.extract rfl rfl) rfl ?_
  refine SL.val (OpV.assign rfl) rfl ?_
  refine SL.val (OpV.assign rfl) rfl ?_
  refine SL.nil ?_
  refine seqQ.nm ?_
  refine SC.seq ?_
  refine SC.nilrow 9 1 ?_
  refine SC.region ?_
  refine SL.val (OpV.assign rfl) rfl ?_
  refine SL.nil ?_
  refine seqQ.nm ?_
  refine SC.seq ?_
  refine SC.seq ?_
  refine SC.region ?_
  refine SL.val (OpV.move rfl) rfl ?_
  refine SL.val (OpV.llen Tryz.underlying25 rfl) rfl ?_
  refine SL.val (OpV.move rfl) rfl ?_
  refine SL.nil ?_
  refine seqQ.nm ?_
  refine SC.block ?_
  refine SC.loop (ι := Nat × Value) (fun x M' => x.1 ≤ out.length ∧ M1 = M') (fun x => [(0, w), (6, .int .i64 0), (7, x.2), (15, .slice ad out.length cap), (16, .int .i64 out.length), (17, .int .i64 (x.1 : Nat))]) (fun x => [.row x.2 9 1 (((out.take x.1).map Mb.path).map str)]) (fun x => out.length - x.1) (0, .slice none 0 0) (G := []) ⟨rfl, rfl, rfl, rfl, rfl, rfl, trivial⟩ (List.Perm.refl _) ⟨Nat.zero_le _, rfl⟩ ?_
  rintro ⟨k, vg⟩ _ _ ⟨hk, rfl⟩
  dsimp only at hk ⊢
  refine SC.seq ?_
  refine SC.region ?_
  refine SL.val (OpV.lss rfl rfl) rfl ?_
  refine SL.nil ?_
  refine seqQ.nm ?_
  refine SC.seq ?_
  first | refine SC.ifp rfl (fun h18 => ?_) (fun h18 => ?_) | refine SC.ite rfl (fun h18 => ?_) (fun h18 => ?_)
  · skip
    have hlt : k < out.length := by omega
    obtain ⟨g, o, cap', he, hcs, _⟩ := hsl.at_ (by omega)
    cases he
    obtain ⟨m, hm⟩ := getElem?_lt hlt
    have hmok := hok m (List.mem_of_getElem? hm)
    have hmc := mbCells_at hcs hm
    refine SC.skip ?_
    refine seqQ.nm ?_
    refine SC.seq ?_
    refine SC.block ?_
    refine SC.seq ?_
    refine SC.region ?_
    refine SL.val (OpV.indexAddr Tryz.underlying25 sz38 rfl rfl (by omega) (by omega)) rfl ?_
    refine SL.val (OpV.loads (cs := m.cells) _ Tryz.underlying38 rfl rfl sz38 (Kns.mem hmc)) rfl ?_
    refine SL.act (OpH.alloc zr38) rfl ?_; rintro _ _ _ hM9 ⟨b9, rfl, rfl, rfl⟩; clear hM9
    first
      | refine SL.unit (OpU.store 0 rfl rfl rfl sz38 (by first | exact Nat.le_of_ble_eq_true rfl | (simp; done) | (simp; omega) | omega) (cells_ones hmok)) ?_
      | refine SL.unit (OpU.storeRow 0 rfl rfl rfl sz38 (by first | exact Nat.le_of_ble_eq_true rfl | (simp; done) | (simp; omega) | omega) (cells_ones hmok)) ?_
      | refine SL.unit (OpU.store 1 rfl rfl rfl sz38 (by first | exact Nat.le_of_ble_eq_true rfl | (simp; done) | (simp; omega) | omega) (cells_ones hmok)) ?_
      | refine SL.unit (OpU.storeRow 1 rfl rfl rfl sz38 (by first | exact Nat.le_of_ble_eq_true rfl | (simp; done) | (simp; omega) | omega) (cells_ones hmok)) ?_
      | refine SL.unit (OpU.store 2 rfl rfl rfl sz38 (by first | exact Nat.le_of_ble_eq_true rfl | (simp; done) | (simp; omega) | omega) (cells_ones hmok)) ?_
      | refine SL.unit (OpU.storeRow 2 rfl rfl rfl sz38 (by first | exact Nat.le_of_ble_eq_true rfl | (simp; done) | (simp; omega) | omega) (cells_ones hmok)) ?_
      | refine SL.unit (OpU.store 3 rfl rfl rfl sz38 (by first | exact Nat.le_of_ble_eq_true rfl | (simp; done) | (simp; omega) | omega) (cells_ones hmok)) ?_
      | refine SL.unit (OpU.storeRow 3 rfl rfl rfl sz38 (by first | exact Nat.le_of_ble_eq_true rfl | (simp; done) | (simp; omega) | omega) (cells_ones hmok)) ?_
    refine SL.nil ?_
    refine seqQ.nm ?_
    refine SC.region ?_
    refine SL.val (OpV.move rfl) rfl ?_
    refine SL.val (OpV.fld fa38_0 rfl) rfl ?_
    first
      | refine SL.val (OpV.load _ Tryz.underlying9 rfl rfl (Kn.blk 0 rfl rfl)) rfl ?_
      | refine SL.val (OpV.load _ Tryz.underlying9 rfl rfl (Kn.blk 1 rfl rfl)) rfl ?_
      | refine SL.val (OpV.load _ Tryz.underlying9 rfl rfl (Kn.blk 2 rfl rfl)) rfl ?_
      | refine SL.val (OpV.load _ Tryz.underlying9 rfl rfl (Kn.blk 3 rfl rfl)) rfl ?_
      | refine SL.val (OpV.load _ Tryz.underlying9 rfl rfl (Kn.mem (by assumption))) rfl ?_
    refine SL.act (OpH.one Tryz.underlying52 zs9 rfl rfl) rfl ?_; rintro _ _ _ hM24 ⟨b24, rfl, rfl, rfl⟩; clear hM24
    refine SL.act (OpH.append 2 rfl Tryz.underlying52 Tryz.underlying52 rfl ti9 rfl (by decide) (by decide) rfl rfl (Src.blk 0 rfl (m := 1) rfl) (by intro u hu; rw [List.mem_singleton] at hu; rw [hu]; rfl) (by simp; omega)) rfl ?_; rintro v25 _ _ hM25 ⟨rfl, rfl, hn25⟩; clear hM25
    refine SL.drop 0 rfl (SL.drop 0 rfl ?_)
    refine SL.val (OpV.assign rfl) rfl ?_
    refine SL.nil ?_
    refine blockQ.nm ?_
    refine seqQ.nm ?_
    refine SC.region ?_
    refine SL.val (OpV.add rfl rfl (IntWalk.i64_in _ (by omega))) rfl ?_
    refine SL.val (OpV.move rfl) rfl ?_
    refine SL.nil ?_
    exact loopQ.nm (k + 1, v25) (by dsimp only; omega) ⟨rfl, rfl, rfl, rfl, rfl, rfl, trivial⟩ (List.Perm.of_eq (by dsimp only; rw [List.take_add_one, hm]; simp)) ⟨by dsimp only; omega, rfl⟩
  · skip
    have hke : k = out.length := by omega
    rw [hke, List.take_length, hpw]
    refine SC.fixRow (m := want.length) 0 rfl (by simp) (by decide) ?_
    intro M2 hM2 hisl
    refine SC.exit ?_
    refine seqQ.e ?_
    refine loopQ.e ?_
    refine blockQ.e ?_
    refine seqQ.nm ?_
    refine SC.seq ?_
    refine SC.region ?_
    refine SL.val (OpV.move rfl) rfl ?_
    refine SL.val (OpV.eql rfl rfl) rfl ?_
    refine SL.val (OpV.move rfl) rfl ?_
    refine SL.bset (c := 29) (b' := true) rfl rfl ?_
    refine SL.gval rfl (OpV.move rfl) rfl ?_
    refine SL.gval rfl (OpV.move rfl) rfl ?_
    refine SL.gcall rfl ok37 rfl (L1 := []) (List.Perm.refl _) (equalS_ev vg w want M2 hisl ((hw.mono hM1).mono hM2) (by unfold big; omega)) rfl ?_
    rintro _ _ _ hM32 ⟨rfl, rfl, rfl⟩
    refine SL.val (OpV.pickT rfl rfl) rfl ?_
    refine SL.val (OpV.assign rfl) rfl ?_
    refine SL.nil ?_
    refine seqQ.nm ?_
    refine SC.ret ?_
    refine retQ.one rfl (.tmp rfl) ?_ _ (.inr rfl)
    exact rfl
theorem cells2_sets {M : Mem} {b10 b6 b9 : Nat} {s0 s1 : List Mb} (h : M.cells b10 0 [.slice (some ⟨b6, 0, none⟩) s0.length s0.length, .slice (some ⟨b9, 0, none⟩) s1.length s1.length]) (h0 : M.cells b6 0 (s0.flatMap Mb.cells)) (h1 : M.cells b9 0 (s1.flatMap Mb.cells)) (o0 : ∀ m ∈ s0, m.ok M) (o1 : ∀ m ∈ s1, m.ok M) (l0 : s0.length ≤ 16) (l1 : s1.length ≤ 16) :
    SetsOk M (.slice (some ⟨b10, 0, none⟩) 2 2) [.slice (some ⟨b6, 0, none⟩) s0.length s0.length, .slice (some ⟨b9, 0, none⟩) s1.length s1.length] [s0, s1] := by
  refine ⟨ISl.ofCells h rfl (by decide), rfl, ?_, (show 2 ≤ 1048576 by decide)⟩
  intro k u ms hu hm
  match k with
  | 0 =>
    simp at hu hm
    subst hu hm
    exact ⟨ISl.ofCells h0 (mbCells_len s0) (by unfold maxLen; omega), o0, by omega⟩
  | 1 =>
    simp at hu hm
    subst hu hm
    exact ⟨ISl.ofCells h1 (mbCells_len s1) (by unfold maxLen; omega), o1, by omega⟩
  | k + 2 => simp at hu
/-- Two sets of which all is known. -/
theorem two_known {s0 s1 : List Mb} {X : List Core} {want : List Bytes} (c0 c1 : List Core) (e0 : cores s0 = c0) (e1 : cores s1 = c1) (m0 : maySet c0 = 0) (m1 : maySet c1 = 0) (hX : X.Perm (twoC c0 c1)) (hA : AscC X) (hn : ((twoC c0 c1).map Core.path).Nodup) (hl : X.length ≤ 4096) (hw : X.map Core.path = want) :
    setErr [s0, s1] [s0, s1].length = 0 ∧ (∀ (k : Nat) (out : List Mb), 2 ≤ k → k ≤ [s0, s1].length → Mrg [s0, s1] k out → out.length ≤ 4096) ∧ ∀ out : List Mb, Mrg [s0, s1] [s0, s1].length out → out.map Mb.path = want := by
  have key : ∀ out : List Mb, Mrg [s0, s1] 2 out → cores out = X := by
    rintro out ⟨p, u, hp, _, hu, hperm, hasc⟩
    have ep : p = s0 := by
      have : ([s0, s1] : List (List Mb))[0]? = some p := hp
      simp at this; exact this.symm
    have eu : u = s1 := by simp at hu; exact hu.symm
    subst ep eu
    have h1 : (cores out).Perm (twoC c0 c1) := by
      have := hperm.map Mb.core
      rw [← e0, ← e1, ← cores_two]; exact this
    exact asc_unique hn h1 hX (asc_cores hasc) hA
  refine ⟨?_, ?_, ?_⟩
  · have h1 : setErr [s0, s1] 1 = 0 := by simp [setErr, e0, m0]
    show setErr [s0, s1] 2 = 0
    rw [setErr_succ h1 (show ([s0, s1] : List (List Mb))[1]? = some s1 from rfl), e1, m1]
  · intro k out h2 hk hm
    have hk2 : k = 2 := by simp at hk; omega
    subst hk2
    have := core_len (a := out) (b := out) rfl
    have h3 := congrArg List.length (key out hm)
    rw [cores_length] at h3
    omega
  · intro out hm
    have h3 := key out hm
    have h4 : out.map Mb.path = (cores out).map Core.path := by
      unfold cores
      rw [List.map_map]
      rfl
    rw [h4, h3, hw]
end Go.Proofs.YtceabkfmjffnhaaGreatDoor
set_option linter.unusedVariables false
set_option linter.unusedSimpArgs false
namespace Go.Proofs.YtceabkfmjffnhaaGreatDoor
open Go Go.Eng

def fC (p d : Bytes) : Core := ⟨p, 2, 0, 0, 0, 0, [], d, []⟩
def dC (p : Bytes) (mode : Int) : Core := ⟨p, 1, mode, 0, 0, 0, [], [], []⟩
theorem fileMb_core (p d : Bytes) (v : Value) : (fileMb p d v).core = fC p d := rfl
theorem dirMb_core (p : Bytes) (mode : Int) : (dirMb p mode).core = dC p mode := rfl
instance (X : List Core) : Decidable (AscC X) := inferInstanceAs (Decidable (List.Pairwise _ _))
theorem wa0 : maySet [fC [97] [49]] = 0 := by decide +kernel
theorem wa1 : maySet [dC [97] 0, fC [97, 47, 98] [50]] = 0 := by decide +kernel
theorem wa2 : [fC [46, 119, 104, 46, 97] [], dC [97] 0, fC [97, 47, 98] [50]].Perm (twoC [fC [97] [49]] [dC [97] 0, fC [97, 47, 98] [50]]) := by decide +kernel
theorem wa3 : AscC [fC [46, 119, 104, 46, 97] [], dC [97] 0, fC [97, 47, 98] [50]] := by decide +kernel
theorem wa4 : ((twoC [fC [97] [49]] [dC [97] 0, fC [97, 47, 98] [50]]).map Core.path).Nodup := by decide +kernel
theorem wb0 : maySet [dC [100] 1, fC [100, 47, 46, 119, 104, 46, 120] [], fC [100, 47, 121] [49]] = 0 := by decide +kernel
theorem wb1 : maySet [dC [100] 2] = 0 := by decide +kernel
theorem wb2 : [dC [100] 2, fC [100, 47, 46, 119, 104, 46, 120] [], fC [100, 47, 121] [49]].Perm (twoC [dC [100] 1, fC [100, 47, 46, 119, 104, 46, 120] [], fC [100, 47, 121] [49]] [dC [100] 2]) := by decide +kernel
theorem wb3 : AscC [dC [100] 2, fC [100, 47, 46, 119, 104, 46, 120] [], fC [100, 47, 121] [49]] := by decide +kernel
theorem wb4 : ((twoC [dC [100] 1, fC [100, 47, 46, 119, 104, 46, 120] [], fC [100, 47, 121] [49]] [dC [100] 2]).map Core.path).Nodup := by decide +kernel
theorem wc0 : maySet [dC [100] 1, fC [100, 47, 121] [49]] = 0 := by decide +kernel
theorem wc1 : maySet [fC [46, 119, 104, 46, 100] []] = 0 := by decide +kernel
theorem wc2 : [fC [46, 119, 104, 46, 100] []].Perm (twoC [dC [100] 1, fC [100, 47, 121] [49]] [fC [46, 119, 104, 46, 100] []]) := by decide +kernel
theorem wc3 : AscC [fC [46, 119, 104, 46, 100] []] := by decide +kernel
theorem wc4 : ((twoC [dC [100] 1, fC [100, 47, 121] [49]] [fC [46, 119, 104, 46, 100] []]).map Core.path).Nodup := by decide +kernel
end Go.Proofs.YtceabkfmjffnhaaGreatDoor
set_option linter.unusedVariables false
set_option linter.unusedSimpArgs false
namespace Go.Proofs.YtceabkfmjffnhaaGreatDoor
open Go Go.Eng

theorem ones_oks1 {M : Mem} {a : Mb} (h : a.ok M) : ∀ m ∈ [a], m.ok M := by intro m hm; rw [List.mem_singleton] at hm; rw [hm]; exact h
theorem ones_oks2 {M : Mem} {a b : Mb} (h : a.ok M) (k : b.ok M) : ∀ m ∈ [a, b], m.ok M := by
  intro m hm
  simp at hm
  rcases hm with rfl | rfl
  · exact h
  · exact k
theorem ones_oks3 {M : Mem} {a b c : Mb} (h : a.ok M) (k : b.ok M) (l : c.ok M) : ∀ m ∈ [a, b, c], m.ok M := by
  intro m hm
  simp at hm
  rcases hm with rfl | rfl | rfl
  · exact h
  · exact k
  · exact l
set_option maxHeartbeats 4000000 in
theorem wakes_ev (M : Mem) (hst : StepsTab M) (hc : ClassTab M) (ht : TypeTab M) : Ev Tryz.prog 9 [].toArray [] M (Pu M (.bool true)) := by
  refine Ev.lax ?_
  refine Ev.enter Tryz.func9 rfl Tryz.ntmps9 rfl ?_
  refine SC.seq ?_
  refine SC.region ?_
  refine SL.val (OpV.assign rfl) rfl ?_
  refine SL.nil ?_
  refine seqQ.nm ?_
  refine SC.seq ?_
  refine SC.region ?_
  refine SL.act (OpH.buildSlice Tryz.underlying52 zs9 (by decide) rfl rfl rfl) rfl ?_; rintro _ _ _ hM4 ⟨b4, rfl, rfl, rfl⟩; clear hM4
  refine SL.fixBlk 0 rfl ?_; intro N4 k4 h4
  refine SL.call ok17 rfl (L1 := []) (List.Perm.refl _) (file25_ev [97] [49] _ (by decide) (by decide)) rfl ?_
  rintro _ _ N5 k5 ⟨rfl, f5, rfl, o5⟩
  refine SL.act (OpH.oneAgg Tryz.underlying25 zs38 rfl rfl rfl) rfl ?_; rintro _ _ _ hM6 ⟨b6, rfl, rfl, rfl⟩; clear hM6
  refine SL.fixBlk 0 rfl ?_; intro N6 k6 h6
  refine SL.call ok18 rfl (L1 := []) (List.Perm.refl _) (dir25_ev [97] 0 _) rfl ?_
  rintro _ _ _ hM7 ⟨rfl, rfl, rfl⟩
  refine SL.call ok17 rfl (L1 := []) (List.Perm.refl _) (file25_ev [97, 47, 98] [50] _ (by decide) (by decide)) rfl ?_
  rintro _ _ N8 k8 ⟨rfl, f8, rfl, o8⟩
  refine SL.act (OpH.buildSlice Tryz.underlying25 zs38 (by decide) rfl rfl rfl) rfl ?_; rintro _ _ _ hM9 ⟨b9, rfl, rfl, rfl⟩; clear hM9
  refine SL.fixBlk 0 rfl ?_; intro N9 k9 h9
  refine SL.act (OpH.buildSlice Tryz.underlying23 zs25 (by decide) rfl rfl rfl) rfl ?_; rintro _ _ _ hM10 ⟨b10, rfl, rfl, rfl⟩; clear hM10
  refine SL.fixBlk 0 rfl ?_; intro N10 k10 h10
  have l6 : N6.le N10 := Mem.le_trans k8 (Mem.le_trans k9 k10)
  have l8 : N8.le N10 := Mem.le_trans k9 k10
  have l5 : N5.le N10 := Mem.le_trans k6 l6
  have l4 : N4.le N10 := Mem.le_trans k5 l5
  have l0 : M.le N10 := Mem.le_trans k4 l4
  have hso := cells2_sets (s0 := [fileMb [97] [49] f5]) (s1 := [dirMb [97] 0, fileMb [97, 47, 98] [50] f8]) h10 (h6.mono l6) (h9.mono k10) (ones_oks1 (o5.mono l5)) (ones_oks2 (dirMb_ok [97] 0 N10 (by decide)) (o8.mono l8)) (by simp) (by simp)
  obtain ⟨q1, q2, q3⟩ := two_known (s0 := [fileMb [97] [49] f5]) (s1 := [dirMb [97] 0, fileMb [97, 47, 98] [50] f8]) _ _ rfl rfl wa0 wa1 wa2 wa3 wa4 (by decide) rfl
  refine SL.call ok16 rfl (L1 := []) (List.Perm.refl _) (told_ev _ _ _ _ _ N10 (hst.mono l0) (hc.mono l0) (ht.mono l0) hso (ISl.ofCells (h4.mono l4) rfl (by decide)) (by decide) q1 (by simp) q2 q3) rfl ?_
  rintro _ _ _ hM11 ⟨rfl, rfl, rfl⟩
  replace hst := hst.mono l0
  replace hc := hc.mono l0
  replace ht := ht.mono l0
  refine SL.val (OpV.assign rfl) rfl ?_
  refine SL.nil ?_
  refine seqQ.nm ?_
  refine SC.seq ?_
  refine SC.region ?_
  refine SL.act (OpH.buildSlice Tryz.underlying52 zs9 (by decide) rfl rfl rfl) rfl ?_; rintro _ _ _ hM12 ⟨b12, rfl, rfl, rfl⟩; clear hM12
  refine SL.fixBlk 0 rfl ?_; intro N12 k12 h12
  refine SL.call ok18 rfl (L1 := []) (List.Perm.refl _) (dir25_ev [100] 1 _) rfl ?_
  rintro _ _ _ hM13 ⟨rfl, rfl, rfl⟩
  refine SL.call ok17 rfl (L1 := []) (List.Perm.refl _) (file25_ev [100, 47, 46, 119, 104, 46, 120] [] _ (by decide) (by decide)) rfl ?_
  rintro _ _ N14 k14 ⟨rfl, f14, rfl, o14⟩
  refine SL.call ok17 rfl (L1 := []) (List.Perm.refl _) (file25_ev [100, 47, 121] [49] _ (by decide) (by decide)) rfl ?_
  rintro _ _ N15 k15 ⟨rfl, f15, rfl, o15⟩
  refine SL.act (OpH.buildSlice Tryz.underlying25 zs38 (by decide) rfl rfl rfl) rfl ?_; rintro _ _ _ hM16 ⟨b16, rfl, rfl, rfl⟩; clear hM16
  refine SL.fixBlk 0 rfl ?_; intro N16 k16 h16
  refine SL.call ok18 rfl (L1 := []) (List.Perm.refl _) (dir25_ev [100] 2 _) rfl ?_
  rintro _ _ _ hM17 ⟨rfl, rfl, rfl⟩
  refine SL.act (OpH.oneAgg Tryz.underlying25 zs38 rfl rfl rfl) rfl ?_; rintro _ _ _ hM18 ⟨b18, rfl, rfl, rfl⟩; clear hM18
  refine SL.fixBlk 0 rfl ?_; intro N18 k18 h18
  refine SL.act (OpH.buildSlice Tryz.underlying23 zs25 (by decide) rfl rfl rfl) rfl ?_; rintro _ _ _ hM19 ⟨b19, rfl, rfl, rfl⟩; clear hM19
  refine SL.fixBlk 0 rfl ?_; intro N19 k19 h19
  have m16 : N16.le N19 := Mem.le_trans k18 k19
  have m15 : N15.le N19 := Mem.le_trans k16 m16
  have m14 : N14.le N19 := Mem.le_trans k15 m15
  have m12 : N12.le N19 := Mem.le_trans k14 m14
  have m0 : N10.le N19 := Mem.le_trans k12 m12
  have hso := cells2_sets (s0 := [dirMb [100] 1, fileMb [100, 47, 46, 119, 104, 46, 120] [] f14, fileMb [100, 47, 121] [49] f15]) (s1 := [dirMb [100] 2]) h19 (h16.mono m16) (h18.mono k19) (ones_oks3 (dirMb_ok [100] 1 N19 (by decide)) (o14.mono m14) (o15.mono m15)) (ones_oks1 (dirMb_ok [100] 2 N19 (by decide))) (by simp) (by simp)
  obtain ⟨q1, q2, q3⟩ := two_known (s0 := [dirMb [100] 1, fileMb [100, 47, 46, 119, 104, 46, 120] [] f14, fileMb [100, 47, 121] [49] f15]) (s1 := [dirMb [100] 2]) _ _ rfl rfl wb0 wb1 wb2 wb3 wb4 (by decide) rfl
  refine SL.call ok16 rfl (L1 := []) (List.Perm.refl _) (told_ev _ _ _ _ _ N19 (hst.mono m0) (hc.mono m0) (ht.mono m0) hso (ISl.ofCells (h12.mono m12) rfl (by decide)) (by decide) q1 (by simp) q2 q3) rfl ?_
  rintro _ _ _ hM20 ⟨rfl, rfl, rfl⟩
  replace hst := hst.mono m0
  replace hc := hc.mono m0
  replace ht := ht.mono m0
  refine SL.val (OpV.assign rfl) rfl ?_
  refine SL.nil ?_
  refine seqQ.nm ?_
  refine SC.seq ?_
  refine SC.region ?_
  refine SL.act (OpH.one Tryz.underlying52 zs9 rfl rfl) rfl ?_; rintro _ _ _ hM21 ⟨b21, rfl, rfl, rfl⟩; clear hM21
  refine SL.fixBlk 0 rfl ?_; intro N21 k21 h21
  refine SL.call ok18 rfl (L1 := []) (List.Perm.refl _) (dir25_ev [100] 1 _) rfl ?_
  rintro _ _ _ hM22 ⟨rfl, rfl, rfl⟩
  refine SL.call ok17 rfl (L1 := []) (List.Perm.refl _) (file25_ev [100, 47, 121] [49] _ (by decide) (by decide)) rfl ?_
  rintro _ _ N23 k23 ⟨rfl, f23, rfl, o23⟩
  refine SL.act (OpH.buildSlice Tryz.underlying25 zs38 (by decide) rfl rfl rfl) rfl ?_; rintro _ _ _ hM24 ⟨b24, rfl, rfl, rfl⟩; clear hM24
  refine SL.fixBlk 0 rfl ?_; intro N24 k24 h24
  refine SL.call ok17 rfl (L1 := []) (List.Perm.refl _) (file25_ev [46, 119, 104, 46, 100] [] _ (by decide) (by decide)) rfl ?_
  rintro _ _ N25 k25 ⟨rfl, f25, rfl, o25⟩
  refine SL.act (OpH.oneAgg Tryz.underlying25 zs38 rfl rfl rfl) rfl ?_; rintro _ _ _ hM26 ⟨b26, rfl, rfl, rfl⟩; clear hM26
  refine SL.fixBlk 0 rfl ?_; intro N26 k26 h26
  refine SL.act (OpH.buildSlice Tryz.underlying23 zs25 (by decide) rfl rfl rfl) rfl ?_; rintro _ _ _ hM27 ⟨b27, rfl, rfl, rfl⟩; clear hM27
  refine SL.fixBlk 0 rfl ?_; intro N27 k27 h27
  have p25 : N25.le N27 := Mem.le_trans k26 k27
  have p24 : N24.le N27 := Mem.le_trans k25 p25
  have p23 : N23.le N27 := Mem.le_trans k24 p24
  have p21 : N21.le N27 := Mem.le_trans k23 p23
  have p0 : N19.le N27 := Mem.le_trans k21 p21
  have hso := cells2_sets (s0 := [dirMb [100] 1, fileMb [100, 47, 121] [49] f23]) (s1 := [fileMb [46, 119, 104, 46, 100] [] f25]) h27 (h24.mono p24) (h26.mono k27) (ones_oks2 (dirMb_ok [100] 1 N27 (by decide)) (o23.mono p23)) (ones_oks1 (o25.mono p25)) (by simp) (by simp)
  obtain ⟨q1, q2, q3⟩ := two_known (s0 := [dirMb [100] 1, fileMb [100, 47, 121] [49] f23]) (s1 := [fileMb [46, 119, 104, 46, 100] [] f25]) _ _ rfl rfl wc0 wc1 wc2 wc3 wc4 (by decide) rfl
  refine SL.call ok16 rfl (L1 := []) (List.Perm.refl _) (told_ev _ _ _ _ _ N27 (hst.mono p0) (hc.mono p0) (ht.mono p0) hso (ISl.ofCells (h21.mono p21) rfl (by decide)) (by decide) q1 (by simp) q2 q3) rfl ?_
  rintro _ _ _ hM28 ⟨rfl, rfl, rfl⟩
  refine SL.val (OpV.assign rfl) rfl ?_
  refine SL.nil ?_
  refine seqQ.nm ?_
  refine SC.seq ?_
  refine SC.region ?_
  refine SL.val (OpV.move rfl) rfl ?_
  refine SL.val (OpV.move rfl) rfl ?_
  refine SL.bset (c := 30) (b' := true) rfl rfl ?_
  refine SL.gval rfl (OpV.move rfl) rfl ?_
  refine SL.val (OpV.pickT rfl rfl) rfl ?_
  refine SL.val (OpV.move rfl) rfl ?_
  refine SL.bset (c := 33) (b' := true) rfl rfl ?_
  refine SL.gval rfl (OpV.move rfl) rfl ?_
  refine SL.val (OpV.pickT rfl rfl) rfl ?_
  refine SL.val (OpV.assign rfl) rfl ?_
  refine SL.nil ?_
  refine seqQ.nm ?_
  refine SC.ret ?_
  refine retQ.one rfl (.tmp rfl) ?_ _ (.inr rfl)
  exact rfl
end Go.Proofs.YtceabkfmjffnhaaGreatDoor
set_option linter.unusedVariables false
set_option linter.unusedSimpArgs false
namespace Go.Proofs.YtceabkfmjffnhaaGreatDoor
open Go Go.Eng

theorem mergeOut_tuple {M : Mem} {ss : List (List Mb)} {v : Value} (h : MergeOut M ss v) : ∃ (a : Value) (e : Nat), v = .tuple #[a, .int .i64 e] := by
  rcases h with ⟨_, rfl⟩ | ⟨_, ⟨k, out, _, _, _, _, rfl⟩ | ⟨out, u, _, _, rfl, _, _⟩⟩
  · exact ⟨_, _, rfl⟩
  · exact ⟨_, 42, rfl⟩
  · exact ⟨_, 0, rfl⟩
theorem sm_ev (v : Value) (ls : List Ly) (M : Mem) (hst : StepsTab M) (hc : ClassTab M) (ht : TypeTab M) (hv : LayersOk M v ls) :
    Ev Tryz.prog 3 [v].toArray [] M (Pu M (.bool true)) := by
  refine Ev.lax ?_
  refine Ev.enter Tryz.func3 rfl Tryz.ntmps3 rfl ?_
  refine SC.seq ?_
  refine SC.region ?_
  refine SL.val (OpV.assign rfl) rfl ?_
  refine SL.nil ?_
  refine seqQ.nm ?_
  refine SC.seq ?_
  refine SC.region ?_
  refine SL.val (OpV.move rfl) rfl ?_
  refine SL.call ok4 rfl (L1 := []) (List.Perm.refl _) (sets_ev v ls M hv) rfl ?_
  rintro v11 _ M1 hM1 ⟨rfl, vs1, ss1, hs1, hr1⟩
  refine SL.val (OpV.move rfl) rfl ?_
  refine SL.call ok4 rfl (L1 := []) (List.Perm.refl _) (sets_ev v ls M1 ⟨hv.outer.mono hM1, fun x hx => let ⟨p, q, r⟩ := hv.each x hx; ⟨p.mono hM1, fun m hm => (q m hm).mono hM1, r⟩, hv.few⟩) rfl ?_
  rintro v13 _ M2 hM2 ⟨rfl, vs2, ss2, hs2, hr2⟩
  have hcc := sets_unique hr1 hr2
  have l2 : M.le M2 := Mem.le_trans hM1 hM2
  have up : ∀ {A B : Mem} {v : Value} {vs : List Value} {ss : List (List Mb)}, A.le B → SetsOk A v vs ss → SetsOk B v vs ss := fun hAB h => ⟨h.outer.mono hAB, h.same, fun k u ms hu hm => let ⟨p, q, r⟩ := h.each k u ms hu hm; ⟨p.mono hAB, fun m hm => (q m hm).mono hAB, r⟩, h.few⟩
  replace hs1 := up hM2 hs1
  refine SL.val (OpV.assign rfl) rfl ?_
  refine SL.val (OpV.assign rfl) rfl ?_
  refine SL.nil ?_
  refine seqQ.nm ?_
  refine SC.seq ?_
  refine SC.region ?_
  refine SL.val (OpV.move rfl) rfl ?_
  refine SL.call ok5 rfl (L1 := []) (List.Perm.refl _) (cmerge_ev v13 vs2 ss2 M2 (hst.mono l2) (hc.mono l2) (ht.mono l2) hs2) rfl ?_
  rintro v16 _ M3 hM3 ⟨rfl, hmo⟩
  obtain ⟨a, e, rfl⟩ := mergeOut_tuple hmo
  replace hs1 := up hM3 hs1
  replace hs2 := up hM3 hs2
  refine SL.val (OpV.move rfl) rfl ?_
  refine SL.val (OpV.extract rfl rfl) rfl ?_
  refine SL.val (OpV.extract rfl rfl) rfl ?_
  refine SL.val (OpV.assign rfl) rfl ?_
  refine SL.val (OpV.assign rfl) rfl ?_
  refine SL.nil ?_
  refine seqQ.nm ?_
  refine SC.seq ?_
  refine SC.region ?_
  refine SL.val (OpV.move rfl) rfl ?_
  refine SL.call ok6 rfl (L1 := []) (List.Perm.refl _) (rmerge_ev v11 vs1 ss1 M3 hs1) rfl ?_
  rintro v21 _ M4 hM4 ⟨rfl, hmo2⟩
  obtain ⟨a', b, e', outA, outB, hve, hve2, hsa, hoa, hsb, hob, hcab, hal⟩ := merge_same hcc.symm hmo hmo2
  subst hve2
  have haa : a = a' ∧ (e : Int) = e' := by simpa using hve
  obtain ⟨rfl, hee⟩ := haa
  have hee' : e = e' := by omega
  subst hee'
  replace hsa := hsa.mono hM4
  replace hoa : ∀ m ∈ outA, m.ok M4 := fun m hm => (hoa m hm).mono hM4
  replace hs1 := up hM4 hs1
  replace hs2 := up hM4 hs2
  have l4 : M.le M4 := Mem.le_trans l2 (Mem.le_trans hM3 hM4)
  obtain ⟨ad1, cap1, rfl, hcap1, hmax1⟩ := hs1.outer.len
  obtain ⟨ad2, cap2, rfl, hcap2, hmax2⟩ := hs2.outer.len
  have hsl : ss1.length = ss2.length := by have := congrArg List.length hcc; simpa using this
  have hsame1 := hs1.same
  have hsame2 := hs2.same
  have hfew1 := hs1.few
  refine SL.val (OpV.move rfl) rfl ?_
  refine SL.val (OpV.extract rfl rfl) rfl ?_
  refine SL.val (OpV.extract rfl rfl) rfl ?_
  refine SL.val (OpV.assign rfl) rfl ?_
  refine SL.val (OpV.assign rfl) rfl ?_
  refine SL.nil ?_
  refine seqQ.nm ?_
  refine SC.seq ?_
  refine SC.seq ?_
  refine SC.region ?_
  refine SL.val (OpV.move rfl) rfl ?_
  refine SL.val (OpV.llen Tryz.underlying23 rfl) rfl ?_
  refine SL.val (OpV.move rfl) rfl ?_
  refine SL.nil ?_
  refine seqQ.nm ?_
  refine SC.block ?_
  refine SC.loop (ι := Nat) (fun k M' => k ≤ vs1.length ∧ M4 = M') (fun k => [(3, .slice ad1 vs1.length cap1), (4, .slice ad2 vs2.length cap2), (5, a), (6, .int .i64 (e : Nat)), (7, b), (8, .int .i64 (e : Nat)), (25, .int .i64 vs1.length), (26, .int .i64 (k : Nat))]) (fun k => []) (fun k => vs1.length - k) 0 (G := []) ⟨rfl, rfl, rfl, rfl, rfl, rfl, rfl, rfl, trivial⟩ (List.Perm.refl _) ⟨Nat.zero_le _, rfl⟩ ?_
  rintro k _ _ ⟨hk, rfl⟩
  refine SC.seq ?_
  refine SC.region ?_
  refine SL.val (OpV.lss rfl rfl) rfl ?_
  refine SL.nil ?_
  refine seqQ.nm ?_
  refine SC.seq ?_
  first | refine SC.ifp rfl (fun h27 => ?_) (fun h27 => ?_) | refine SC.ite rfl (fun h27 => ?_) (fun h27 => ?_)
  · skip
    have hlt : k < vs1.length := by omega
    obtain ⟨g1, o1, c1, he1, hc1, _⟩ := hs1.outer.at_ (by omega)
    cases he1
    obtain ⟨g2, o2, c2, he2, hc2, _⟩ := hs2.outer.at_ (by omega)
    cases he2
    obtain ⟨u1, hu1⟩ := getElem?_lt hlt
    obtain ⟨u2, hu2⟩ := getElem?_lt (l := vs2) (k := k) (by omega)
    obtain ⟨m1, hm1⟩ := getElem?_lt (l := ss1) (k := k) (by omega)
    obtain ⟨m2, hm2⟩ := getElem?_lt (l := ss2) (k := k) (by omega)
    obtain ⟨p1, q1, r1⟩ := hs1.each k u1 m1 hu1 hm1
    obtain ⟨p2, q2, r2⟩ := hs2.each k u2 m2 hu2 hm2
    have hcm := cores_at hcc hm1 hm2
    have hkn : ((k : Nat) : Int).toNat = k := by omega
    refine SC.skip ?_
    refine seqQ.nm ?_
    refine SC.seq ?_
    refine SC.block ?_
    refine SC.seq ?_
    refine SC.region ?_
    refine SL.val (OpV.move rfl) rfl ?_
    refine SL.val (OpV.assign rfl) rfl ?_
    refine SL.nil ?_
    refine seqQ.nm ?_
    refine SC.seq ?_
    refine SC.quiet mixed (by decide +kernel) ?_
    refine SQ.val (OpV.move rfl) rfl ?_
    refine SQ.val (OpV.move rfl) rfl ?_
    refine SQ.val (OpV.indexAddr1 Tryz.underlying23 sz25 rfl rfl (by omega) (by omega)) rfl ?_
    refine SQ.val (OpV.load _ Tryz.underlying25 rfl rfl (Kn.mem (by rw [hkn]; exact hc1.at_ k hu1))) rfl ?_
    refine SQ.val (OpV.move rfl) rfl ?_
    refine SQ.val (OpV.move rfl) rfl ?_
    refine SQ.val (OpV.indexAddr1 Tryz.underlying23 sz25 rfl rfl (by omega) (by omega)) rfl ?_
    refine SQ.val (OpV.load _ Tryz.underlying25 rfl rfl (Kn.mem (by rw [hkn]; exact hc2.at_ k hu2))) rfl ?_
    refine SQ.call ok7 rfl (eqf_ev u1 u2 m1 m2 M4 hcm p1 p2 q1 q2 (by unfold big; omega)) rfl ?_
    refine SQ.val (OpV.not rfl) rfl ?_
    refine SQ.nil ?_
    refine seqQ.nm ?_
    refine SC.ifF rfl rfl ?_
    refine SC.skip ?_
    refine blockQ.nm ?_
    refine seqQ.nm ?_
    refine SC.region ?_
    refine SL.val (OpV.add rfl rfl (IntWalk.i64_in _ (by omega))) rfl ?_
    refine SL.val (OpV.move rfl) rfl ?_
    refine SL.nil ?_
    exact loopQ.nm (k + 1) (by omega) ⟨rfl, rfl, rfl, rfl, rfl, rfl, rfl, rfl, trivial⟩ (List.Perm.refl _) ⟨by omega, rfl⟩
  · skip
    refine SC.exit ?_
    refine seqQ.e ?_
    refine loopQ.e ?_
    refine blockQ.e ?_
    refine seqQ.nm ?_
    refine SC.seq ?_
    refine SC.region ?_
    refine SL.val (OpV.move rfl) rfl ?_
    refine SL.val (OpV.move rfl) rfl ?_
    refine SL.call ok7 rfl (L1 := []) (List.Perm.refl _) (eqf_ev a b outA outB M4 hcab hsa hsb hoa hob (by unfold big; omega)) rfl ?_
    rintro _ _ _ hM42 ⟨rfl, rfl, rfl⟩
    refine SL.val (OpV.move rfl) rfl ?_
    refine SL.bset (c := 43) (b' := true) rfl rfl ?_
    refine SL.gval rfl (OpV.move rfl) rfl ?_
    refine SL.gval rfl (OpV.move rfl) rfl ?_
    refine SL.gval rfl (OpV.eql rfl rfl) rfl ?_
    refine SL.val (OpV.pickT rfl rfl) rfl ?_
    refine SL.val (OpV.move rfl) rfl ?_
    refine SL.bset (c := 48) (b' := true) rfl (decide_eq_true rfl) ?_
    refine SL.gcall rfl ok9 rfl (L1 := []) (List.Perm.refl _) (wakes_ev M4 (hst.mono l4) (hc.mono l4) (ht.mono l4)) rfl ?_
    rintro _ _ _ hM49 ⟨rfl, rfl, rfl⟩
    refine SL.val (OpV.pickT rfl rfl) rfl ?_
    refine SL.val (OpV.assign rfl) rfl ?_
    refine SL.nil ?_
    refine seqQ.nm ?_
    refine SC.ret ?_
    refine retQ.one rfl (.tmp rfl) ?_ _ (.inr rfl)
    exact rfl
end Go.Proofs.YtceabkfmjffnhaaGreatDoor
set_option linter.unusedVariables false
set_option linter.unusedSimpArgs false
namespace Go.Proofs.YtceabkfmjffnhaaGreatDoor
open Go Go.Eng

/-! ### the count of a reading -/
theorem bulk_one {H : Type} (d : DataW H) : 1 ≤ Rows.uptoBulk d := by
  cases d with
  | lit l => cases l <;> simp [Rows.uptoBulk]
  | nil => simp [Rows.uptoBulk]
  | ptr d => simp [Rows.uptoBulk]
  | slice elems spare => simp [Rows.uptoBulk]
  | agg parts => simp [Rows.uptoBulk]
  | iface t d => simp [Rows.uptoBulk]
  | map entries => simp [Rows.uptoBulk]
  | held h => simp [Rows.uptoBulk]
theorem bulk_len {H : Type} : ∀ l : List (DataW H), l.length ≤ Rows.uptoBulkAll l ∧ ∀ d ∈ l, Rows.uptoBulk d ≤ Rows.uptoBulkAll l
  | [] => ⟨Nat.zero_le _, fun d h => by cases h⟩
  | x :: r => by
    obtain ⟨h1, h2⟩ := bulk_len r
    have h3 := bulk_one x
    simp only [Rows.uptoBulkAll, List.length_cons]
    refine ⟨by omega, fun d hd => ?_⟩
    rcases List.mem_cons.1 hd with rfl | hd
    · omega
    · have := h2 d hd; omega
theorem bulk_ok {H : Type} : BulkOk (H := H) Rows.uptoBulk := by
  refine ⟨fun l => ?_, fun es rs => ?_, fun ps d hd => ?_⟩
  · simp [Rows.uptoBulk]
  · obtain ⟨h1, h2⟩ := bulk_len es
    simp only [Rows.uptoBulk]
    exact ⟨by omega, fun d hd => by have := h2 d hd; omega⟩
  · have := (bulk_len ps).2 d hd
    simp only [Rows.uptoBulk]
    omega

/-! ### readings of what comes in -/
section
variable {H : Type} {enc : TypeId × Value → H} {w : World} {sp : Nat → Bool} {hd : Bool} {N : Nat}
theorem c_one (t : TypeId) (h : Tryz.prog.cellsOf t = 1) (cs : List Value) (i : Nat) : (cs.drop i).take (Tryz.prog.cellsOf t) = (cs.drop i).take 1 := by rw [h]
theorem byte_of {z : Int} (h : (Lit.int .u8 z).wf = true) : ∃ c : UInt8, (c.toNat : Int) = z := by
  have hz : 0 ≤ z ∧ z ≤ 255 := by simpa [Lit.wf, IntKind.min, IntKind.max, IntKind.signed, IntKind.bits] using h
  refine ⟨UInt8.ofNat z.toNat, ?_⟩
  rw [UInt8.toNat_ofNat_of_lt' (by simp [UInt8.size]; omega)]
  omega
theorem flat_one {α : Type} (g : α → Value) (l : List α) : l.flatMap (fun c => [g c]) = l.map g := by
  induction l with
  | nil => rfl
  | cons x l ih => rw [List.flatMap_cons, ih]; rfl
theorem rd_bytes {n : Nat} {cs : List Value} {d : DataW H} (h : Rd enc Tryz.prog w sp hd n 34 cs d) (hN : Rows.uptoBulk d ≤ N) : ∃ (v : Value) (l : Bytes), cs = [v] ∧ ISl (Mem.all w.heap) v 1 l.length (byteCells l) ∧ l.length ≤ N := by
  obtain ⟨v, l, h1, h2, h3, _⟩ := Rd.sl Tryz.underlying34 (show Tryz.prog.cellsOf 5 = 1 by kernel_rfl) (fun c : UInt8 => [.int .u8 c.toNat]) (fun _ => rfl) (by decide) (fun _ => True) bulk_ok hN (fun n cs d h _ => by
    obtain ⟨z, rfl, hw⟩ := Rd.int Tryz.underlying5 h
    obtain ⟨c, rfl⟩ := byte_of hw
    exact ⟨c, rfl, trivial⟩) h
  rw [flat_one] at h2
  exact ⟨v, l, h1, h2, h3⟩
theorem take_one {cs : List Value} {i : Nat} {v : Value} (h : (cs.drop i).take 1 = [v]) : cs[i]? = some v := by
  have := congrArg (·[0]?) h
  simpa [List.getElem?_take, List.getElem?_drop] using this
theorem list2 {cs : List Value} (hl : cs.length = 2) {a b : Value} (h0 : cs[0]? = some a) (h1 : cs[1]? = some b) : cs = [a, b] := by
  match cs, hl with
  | [x, y], _ => simp at h0 h1; rw [h0, h1]
theorem rd_attr {n : Nat} {cs : List Value} {d : DataW H} (h : Rd enc Tryz.prog w sp hd n 50 cs d) (hN : Rows.uptoBulk d ≤ N) : ∃ p : Bytes × Bytes, cs = avF p ∧ (p.1.length ≤ N ∧ p.2.length ≤ N) := by
  obtain ⟨hl, k, hf⟩ := Rd.struct Tryz.underlying50 bulk_ok hN h
  rw [show Tryz.prog.cellsOf 50 = 2 by kernel_rfl] at hl
  obtain ⟨d0, r0, b0⟩ := hf 0 _ rfl
  obtain ⟨d1, r1, b1⟩ := hf 1 _ rfl
  obtain ⟨a, ha, la⟩ := Rd.str Tryz.underlying9 r0 bulk_ok b0
  obtain ⟨b, hb, lb⟩ := Rd.str Tryz.underlying9 r1 bulk_ok b1
  have ha' := take_one (i := 0) ((c_one 9 (by kernel_rfl) cs 0).symm.trans ha)
  have hb' := take_one (i := 1) ((c_one 9 (by kernel_rfl) cs 1).symm.trans hb)
  exact ⟨(a, b), list2 hl ha' hb', la, lb⟩
theorem rd_attrs {n : Nat} {cs : List Value} {d : DataW H} (h : Rd enc Tryz.prog w sp hd n 33 cs d) (hN : Rows.uptoBulk d ≤ N) : ∃ (v : Value) (av : List (Bytes × Bytes)), cs = [v] ∧ ISl (Mem.all w.heap) v 2 av.length (avCells av) ∧ av.length ≤ N ∧ ∀ p ∈ av, p.1.length ≤ N ∧ p.2.length ≤ N :=
  Rd.sl Tryz.underlying33 (show Tryz.prog.cellsOf 50 = 2 by kernel_rfl) avF avF_len (by decide) (fun p => p.1.length ≤ N ∧ p.2.length ≤ N) bulk_ok hN (fun n cs d h hb => rd_attr h hb) h
instance : Inhabited Mb := ⟨⟨[], 0, 0, 0, 0, 0, .slice none 0 0, [], .slice none 0 0, [], []⟩⟩
theorem list8 {cs : List Value} (hl : cs.length = 8) {a0 a1 a2 a3 a4 a5 a6 a7 : Value} (h0 : cs[0]? = some a0) (h1 : cs[1]? = some a1) (h2 : cs[2]? = some a2) (h3 : cs[3]? = some a3) (h4 : cs[4]? = some a4) (h5 : cs[5]? = some a5) (h6 : cs[6]? = some a6) (h7 : cs[7]? = some a7) : cs = [a0, a1, a2, a3, a4, a5, a6, a7] := by
  match cs, hl with
  | [x0, x1, x2, x3, x4, x5, x6, x7], _ =>
    simp at h0 h1 h2 h3 h4 h5 h6 h7
    rw [h0, h1, h2, h3, h4, h5, h6, h7]
theorem rd_node {n : Nat} {cs : List Value} {d : DataW H} (h : Rd enc Tryz.prog w sp hd n 36 cs d) (hN : Rows.uptoBulk d ≤ N) (hN2 : N ≤ big) : ∃ m : Mb, cs = m.node ∧ m.ok (Mem.all w.heap) ∧ m.path = [] := by
  obtain ⟨hl, k, hf⟩ := Rd.struct Tryz.underlying36 bulk_ok hN h
  rw [show Tryz.prog.cellsOf 36 = 8 by kernel_rfl] at hl
  obtain ⟨d0, r0, b0⟩ := hf 0 _ rfl
  obtain ⟨d1, r1, b1⟩ := hf 1 _ rfl
  obtain ⟨d2, r2, b2⟩ := hf 2 _ rfl
  obtain ⟨d3, r3, b3⟩ := hf 3 _ rfl
  obtain ⟨d4, r4, b4⟩ := hf 4 _ rfl
  obtain ⟨d5, r5, b5⟩ := hf 5 _ rfl
  obtain ⟨d6, r6, b6⟩ := hf 6 _ rfl
  obtain ⟨d7, r7, b7⟩ := hf 7 _ rfl
  obtain ⟨z0, e0, _⟩ := Rd.int Tryz.underlying3 r0
  obtain ⟨z1, e1, _⟩ := Rd.int Tryz.underlying32 r1
  obtain ⟨z2, e2, _⟩ := Rd.int Tryz.underlying32 r2
  obtain ⟨z3, e3, _⟩ := Rd.int Tryz.underlying32 r3
  obtain ⟨z4, e4, _⟩ := Rd.int Tryz.underlying2 r4
  obtain ⟨v5, av, e5, i5, l5, n5⟩ := rd_attrs r5 b5
  obtain ⟨v6, dv, e6, i6, l6⟩ := rd_bytes r6 b6
  obtain ⟨lk, e7, l7⟩ := Rd.str Tryz.underlying9 r7 bulk_ok b7
  have f0 := take_one (i := 0) ((c_one 3 (by kernel_rfl) cs 0).symm.trans e0)
  have f1 := take_one (i := 1) ((c_one 32 (by kernel_rfl) cs 1).symm.trans e1)
  have f2 := take_one (i := 2) ((c_one 32 (by kernel_rfl) cs 2).symm.trans e2)
  have f3 := take_one (i := 3) ((c_one 32 (by kernel_rfl) cs 3).symm.trans e3)
  have f4 := take_one (i := 4) ((c_one 2 (by kernel_rfl) cs 4).symm.trans e4)
  have f5 := take_one (i := 5) ((c_one 33 (by kernel_rfl) cs 5).symm.trans e5)
  have f6 := take_one (i := 6) ((c_one 34 (by kernel_rfl) cs 6).symm.trans e6)
  have f7 := take_one (i := 7) ((c_one 9 (by kernel_rfl) cs 7).symm.trans e7)
  refine ⟨⟨[], z0, z1, z2, z3, z4, v5, av, v6, dv, lk⟩, list8 hl f0 f1 f2 f3 f4 f5 f6 f7, ⟨i5, i6, Nat.zero_le _, (show lk.length ≤ big by omega), fun p hp => ?_, (show av.length ≤ big by omega), (show dv.length ≤ big by omega)⟩, rfl⟩
  have := n5 p hp
  omega
theorem rd_member {n : Nat} {cs : List Value} {d : DataW H} (h : Rd enc Tryz.prog w sp hd n 38 cs d) (hN : Rows.uptoBulk d ≤ N) (hN2 : N ≤ big) : ∃ m : Mb, cs = m.cells ∧ m.ok (Mem.all w.heap) := by
  obtain ⟨hl, k, hf⟩ := Rd.struct Tryz.underlying38 bulk_ok hN h
  rw [show Tryz.prog.cellsOf 38 = 9 by kernel_rfl] at hl
  obtain ⟨d0, r0, b0⟩ := hf 0 _ rfl
  obtain ⟨d1, r1, b1⟩ := hf 1 _ rfl
  obtain ⟨p, e0, l0⟩ := Rd.str Tryz.underlying9 r0 bulk_ok b0
  obtain ⟨m, e1, hm, _⟩ := rd_node r1 b1 hN2
  have f0 := take_one (i := 0) ((c_one 9 (by kernel_rfl) cs 0).symm.trans e0)
  have e1' : (cs.drop 1).take 8 = m.node := by
    have h8 : Tryz.prog.cellsOf 36 = 8 := by kernel_rfl
    rw [← h8]; exact e1
  rw [List.take_of_length_le (by rw [List.length_drop]; omega)] at e1'
  refine ⟨{ m with path := p }, ?_, ⟨hm.attrs, hm.data, (show p.length ≤ big by omega), hm.link, hm.names, hm.attrsLen, hm.dataLen⟩⟩
  cases cs with
  | nil => simp at hl
  | cons x r =>
    simp at f0
    simp only [List.drop_succ_cons, List.drop_zero] at e1'
    rw [f0, e1']
    rfl
theorem rd_members {n : Nat} {cs : List Value} {d : DataW H} (h : Rd enc Tryz.prog w sp hd n 25 cs d) (hN : Rows.uptoBulk d ≤ N) (hN2 : N ≤ big) : ∃ (v : Value) (ms : List Mb), cs = [v] ∧ SlM (Mem.all w.heap) v ms ∧ ms.length ≤ N ∧ ∀ m ∈ ms, m.ok (Mem.all w.heap) := by
  obtain ⟨v, ms, h1, h2, h3, h4⟩ := Rd.sl Tryz.underlying25 (show Tryz.prog.cellsOf 38 = 9 by kernel_rfl) Mb.cells (fun _ => rfl) (by decide) (fun m => m.ok (Mem.all w.heap)) bulk_ok hN (fun n cs d h hb => rd_member h hb hN2) h
  exact ⟨v, ms, h1, h2, h3, h4⟩
instance : Inhabited Ly := ⟨⟨.slice none 0 0, [], false⟩⟩
theorem rd_layer {n : Nat} {cs : List Value} {d : DataW H} (h : Rd enc Tryz.prog w sp hd n 43 cs d) (hN : Rows.uptoBulk d ≤ N) (hN2 : N ≤ big) : ∃ x : Ly, cs = x.cells ∧ (SlM (Mem.all w.heap) x.l x.ms ∧ (∀ m ∈ x.ms, m.ok (Mem.all w.heap)) ∧ x.ms.length ≤ big) := by
  obtain ⟨hl, k, hf⟩ := Rd.struct Tryz.underlying43 bulk_ok hN h
  rw [show Tryz.prog.cellsOf 43 = 2 by kernel_rfl] at hl
  obtain ⟨d0, r0, b0⟩ := hf 0 _ rfl
  obtain ⟨d1, r1, b1⟩ := hf 1 _ rfl
  obtain ⟨v, ms, e0, s0, l0, o0⟩ := rd_members r0 b0 hN2
  obtain ⟨b, e1⟩ := Rd.bool Tryz.underlying4 r1
  have f0 := take_one (i := 0) ((c_one 25 (by kernel_rfl) cs 0).symm.trans e0)
  have f1 := take_one (i := 1) ((c_one 4 (by kernel_rfl) cs 1).symm.trans e1)
  exact ⟨⟨v, ms, b⟩, list2 hl f0 f1, s0, o0, (show ms.length ≤ big by omega)⟩
theorem rd_layers {n : Nat} {cs : List Value} {d : DataW H} (h : Rd enc Tryz.prog w sp hd n 22 cs d) (hN : Rows.uptoBulk d ≤ N) (hN2 : N ≤ big) : ∃ (v : Value) (ls : List Ly), cs = [v] ∧ LayersOk (Mem.all w.heap) v ls := by
  obtain ⟨v, ls, h1, h2, h3, h4⟩ := Rd.sl Tryz.underlying22 (show Tryz.prog.cellsOf 43 = 2 by kernel_rfl) Ly.cells ly_len (by decide) (fun x => SlM (Mem.all w.heap) x.l x.ms ∧ (∀ m ∈ x.ms, m.ok (Mem.all w.heap)) ∧ x.ms.length ≤ big) bulk_ok hN (fun n cs d h hb => rd_layer h hb hN2) h
  exact ⟨v, ls, h1, h2, h4, by omega⟩
end
end Go.Proofs.YtceabkfmjffnhaaGreatDoor
set_option linter.unusedVariables false
set_option linter.unusedSimpArgs false
namespace Go.Proofs.YtceabkfmjffnhaaGreatDoor
open Go Go.Eng

/-! ### the listed variables -/
theorem g_steps : Tryz.prog.globalNamed "portolan/squash.steps" = some 0 := by kernel_rfl
theorem g_classes : Tryz.prog.globalNamed "portolan/path.classes" = some 1 := by kernel_rfl
theorem g_types : Tryz.prog.globalNamed "portolan/tar.types" = some 2 := by kernel_rfl
theorem t_steps : (Tryz.prog.globals[0]?).map (·.type) = some 68 := by kernel_rfl
theorem t_classes : (Tryz.prog.globals[1]?).map (·.type) = some 78 := by kernel_rfl
theorem t_types : (Tryz.prog.globals[2]?).map (·.type) = some 79 := by kernel_rfl
theorem cells_one_of {cs : Array Value} {v : Value} (h : cs.toList = [v]) : cs[0]? = some v := by
  have : cs = #[v] := Array.toList_inj.1 (by simpa using h)
  rw [this]; rfl
theorem var_cell {W : World} {n : String} {g : Nat} {cs : Array Value} (hg : Tryz.prog.globalNamed n = some g) (h : W.var? Tryz.prog n = some cs) {i : Nat} {v : Value} (hv : cs[i]? = some v) : (Mem.all W.heap).cell g i v :=
  all_cell ((World.var?_cell hg h i).trans hv)
theorem list4 {α : Type} {cs : List α} (hl : cs.length = 4) : ∃ a b c d, cs = [a, b, c, d] := by
  match cs, hl with
  | [a, b, c, d], _ => exact ⟨a, b, c, d, rfl⟩
theorem steps_tab {W : World} (h : laidMetH Tryz.prog Rows.squashMergesUptoRow.laid W) : StepsTab (Mem.all W.heap) := by
  obtain ⟨g, t, cs, fuel, p, hg, ht, hv, hd⟩ := h.funcs (n := "portolan/squash.steps") (d := _) (by simp [Rows.squashMergesUptoRow, Rows.laid_portolan_squash_steps]; rfl)
  obtain rfl := Option.some.inj (g_steps.symm.trans hg)
  obtain rfl := Option.some.inj (t_steps.symm.trans ht)
  obtain ⟨xs, m, _, hx, hl, hn, hel⟩ := DataW.trod_array Tryz.underlying68 hd
  rw [show Tryz.prog.cellsOf 68 = 4 by kernel_rfl] at hl
  rw [show Tryz.prog.cellsOf 67 = 1 by kernel_rfl] at hel
  obtain ⟨x0, x1, x2, x3, rfl⟩ := list4 hn
  obtain ⟨c0, c1, c2, c3, hcs⟩ := list4 hl
  rw [hcs] at hel
  have h0 := hel 0 (by decide)
  have h1 := hel 1 (by decide)
  have h2 := hel 2 (by decide)
  have h3 := hel 3 (by decide)
  simp only [Prod.mk.injEq] at hx
  have hx1 : DataW.agg [DataW.held [40, 42, 112, 111, 114, 116, 111, 108, 97, 110, 47, 115, 113, 117, 97, 115, 104, 46, 109, 101, 114, 103, 101, 114, 41, 46, 119, 104, 111, 108, 101], DataW.held [40, 42, 112, 111, 114, 116, 111, 108, 97, 110, 47, 115, 113, 117, 97, 115, 104, 46, 109, 101, 114, 103, 101, 114, 41, 46, 112, 108, 97, 105, 110], DataW.held [40, 42, 112, 111, 114, 116, 111, 108, 97, 110, 47, 115, 113, 117, 97, 115, 104, 46, 109, 101, 114, 103, 101, 114, 41, 46, 119, 104, 105, 116, 101], DataW.held [40, 42, 112, 111, 114, 116, 111, 108, 97, 110, 47, 115, 113, 117, 97, 115, 104, 46, 109, 101, 114, 103, 101, 114, 41, 46, 111, 118, 101, 114]] = DataW.agg ([x0, x1, x2, x3].map (·.1)) := hx.1
  simp only [List.map_cons, List.map_nil, DataW.agg.injEq, List.cons.injEq, and_true] at hx1
  obtain ⟨y0, y1, y2, y3⟩ := hx1
  have k : ∀ (c : Value) (x : DataW (List UInt8) × List MemPlace) (f0 : FuncId) (b : UInt8) (r : List UInt8), DataW.trod (funcToken Tryz.prog) Tryz.prog W 0 (fun _ => true) true m 67 [c] = some x → DataW.held (b :: r) = x.1 → ((List.range Tryz.prog.funcs.size).filter fun f => (Tryz.prog.funcs[f]?).any (·.name.toUTF8.data.toList == b :: r)) = [f0] → c = .func (.func f0) #[] #[] := by
    intro c x f0 b r hx hy ho
    obtain ⟨d, q⟩ := x
    dsimp only at hy
    subst hy
    exact func_of_trod Tryz.underlying67 ho hx
  have e0 : c0 = .func (.func (stepFn 0)) #[] #[] := k c0 x0 (stepFn 0) _ _ h0 y0 (by kernel_rfl)
  have e1 : c1 = .func (.func (stepFn 1)) #[] #[] := k c1 x1 (stepFn 1) _ _ h1 y1 (by kernel_rfl)
  have e2 : c2 = .func (.func (stepFn 2)) #[] #[] := k c2 x2 (stepFn 2) _ _ h2 y2 (by kernel_rfl)
  have e3 : c3 = .func (.func (stepFn 3)) #[] #[] := k c3 x3 (stepFn 3) _ _ h3 y3 (by kernel_rfl)
  subst e0 e1 e2 e3
  intro j v hj
  rw [Nat.zero_add]
  refine var_cell g_steps hv ?_
  rw [← hcs] at hj
  simpa using hj
theorem formed_cells {v : Value} {t : TypeId} {P : Program} (h : v.formed P t = true) (hnr : ∀ d, P.underlying t = some d → d.isRow = false) : v.cells.toList = [v] := by
  cases v with
  | agg cs =>
    cases hu : P.underlying t with
    | none => simp [Value.formed, hu] at h
    | some d =>
      have := hnr d hu
      cases d <;> simp [Value.formed, hu, TypeDesc.isRow] at h this
  | tuple cs => simp [Value.formed] at h
  | _ => rfl
theorem class_tab {W : World} (h : laidMetH Tryz.prog Rows.squashMergesUptoRow.laid W) : ClassTab (Mem.all W.heap) := by
  obtain ⟨g, t, cs, fuel, p, hg, ht, hv, hd⟩ := h.funcs (n := "portolan/path.classes") (d := _) (by simp [Rows.squashMergesUptoRow, Rows.laid_portolan_path_classes]; rfl)
  obtain rfl := Option.some.inj (g_classes.symm.trans hg)
  obtain rfl := Option.some.inj (t_classes.symm.trans ht)
  have hd' : Rd (funcToken Tryz.prog) Tryz.prog W (fun _ => true) true fuel 78 cs.toList (.map [(.int .i64 1, .held [112, 111, 114, 116, 111, 108, 97, 110, 47, 112, 97, 116, 104, 46, 99, 108, 97, 115, 115, 101, 115, 36, 49]), (.int .i64 2, .held [112, 111, 114, 116, 111, 108, 97, 110, 47, 112, 97, 116, 104, 46, 99, 108, 97, 115, 115, 101, 115, 36, 50]), (.int .i64 3, .held [112, 111, 114, 116, 111, 108, 97, 110, 47, 112, 97, 116, 104, 46, 99, 108, 97, 115, 115, 101, 115, 36, 51])]) := ⟨p, hd⟩
  obtain ⟨b, es, clock, m, hcs, hb, hz⟩ := hd'.mapInt Tryz.underlying78 Tryz.underlying3
  have hcl : cs[0]? = some (.map (some b)) := cells_one_of hcs
  have k : ∀ (z : Int) (f0 : FuncId) (b : UInt8) (r : List UInt8), (∀ d, (Lit.int .i64 z, d) ∈ ([(.int .i64 1, .held [112, 111, 114, 116, 111, 108, 97, 110, 47, 112, 97, 116, 104, 46, 99, 108, 97, 115, 115, 101, 115, 36, 49]), (.int .i64 2, .held [112, 111, 114, 116, 111, 108, 97, 110, 47, 112, 97, 116, 104, 46, 99, 108, 97, 115, 115, 101, 115, 36, 50]), (.int .i64 3, .held [112, 111, 114, 116, 111, 108, 97, 110, 47, 112, 97, 116, 104, 46, 99, 108, 97, 115, 115, 101, 115, 36, 51])] : List (Lit × DataW (List UInt8))) → d = .held (b :: r)) → (Lit.int .i64 z, DataW.held (b :: r)) ∈ ([(.int .i64 1, .held [112, 111, 114, 116, 111, 108, 97, 110, 47, 112, 97, 116, 104, 46, 99, 108, 97, 115, 115, 101, 115, 36, 49]), (.int .i64 2, .held [112, 111, 114, 116, 111, 108, 97, 110, 47, 112, 97, 116, 104, 46, 99, 108, 97, 115, 115, 101, 115, 36, 50]), (.int .i64 3, .held [112, 111, 114, 116, 111, 108, 97, 110, 47, 112, 97, 116, 104, 46, 99, 108, 97, 115, 115, 101, 115, 36, 51])] : List (Lit × DataW (List UInt8))) → ((List.range Tryz.prog.funcs.size).filter fun f => (Tryz.prog.funcs[f]?).any (·.name.toUTF8.data.toList == b :: r)) = [f0] → ∃ i, Instr.findNow (.int .i64) (.int .i64 z) es.toList 0 = some (some (i, .func (.func f0) #[] #[])) := by
    intro z f0 b r h1 h2 ho
    rcases hz z with ⟨i, v, d, hf, hm, hfm, q, hr⟩ | ⟨_, hno⟩
    · have hde := h1 d hm
      subst hde
      rw [formed_cells hfm (fun d hu => by rw [Tryz.underlying77] at hu; cases hu; rfl)] at hr
      have := func_of_trod Tryz.underlying77 ho hr
      subst this
      exact ⟨i, hf⟩
    · exact absurd h2 (hno _)
  refine ⟨b, es.toList.toArray, clock, var_cell g_classes hv hcl, ?_, ?_⟩
  · rw [Array.toArray_toList]; exact hb
  · intro q h1 h3
    rw [List.toList_toArray]
    obtain rfl | rfl | rfl : q = 1 ∨ q = 2 ∨ q = 3 := by omega
    · exact k 1 (classFn 1) _ _ (fun d hd => by simp at hd; exact hd) (by simp) (by kernel_rfl)
    · exact k 2 (classFn 2) _ _ (fun d hd => by simp at hd; exact hd) (by simp) (by kernel_rfl)
    · exact k 3 (classFn 3) _ _ (fun d hd => by simp at hd; exact hd) (by simp) (by kernel_rfl)
theorem type_tab {W : World} (h : laidMetH Tryz.prog Rows.squashMergesUptoRow.laid W) : TypeTab (Mem.all W.heap) := by
  have h' := (laidMetH_iff.1 h).1
  have hfl : (Rows.squashMergesUptoRow.laid.filter fun x => x.2.handleName?.isNone) = [("unicode/utf8.acceptRanges", Rows.laid_unicode_utf8_acceptRanges), ("portolan/tar.types", Rows.laid_portolan_tar_types), ("unicode/utf8.first", Rows.laid_unicode_utf8_first)] := rfl
  rw [hfl] at h'
  obtain ⟨ps, ⟨g0, t0, cs0, f0, p0, q0, hg0, ht0, hv0, hd0, ⟨g, t, cs, fuel, p, q, hg, ht, hv, hd, _, _⟩, _⟩, _, _⟩ := h'
  obtain rfl := Option.some.inj (g_types.symm.trans hg)
  obtain rfl := Option.some.inj (t_types.symm.trans ht)
  have hd' : Rd (H := Unit) _ Tryz.prog W (fun _ => true) _ fuel 79 cs.toList (.map [(.int .i64 1, .lit (.int .u8 53)), (.int .i64 2, .lit (.int .u8 48)), (.int .i64 3, .lit (.int .u8 50)), (.int .i64 4, .lit (.int .u8 54))]) := ⟨p, hd⟩
  obtain ⟨b, es, clock, m, hcs, hb, hz⟩ := hd'.mapInt Tryz.underlying79 Tryz.underlying3
  have hcl : cs[0]? = some (.map (some b)) := cells_one_of hcs
  refine ⟨b, es.toList.toArray, clock, var_cell g_types hv hcl, ?_, ?_⟩
  · rw [Array.toArray_toList]; exact hb
  · intro k
    rw [List.toList_toArray]
    rcases hz k with ⟨i, v, d, hf, hm, hfm, q, hr⟩ | ⟨hf, hno⟩
    · refine ⟨_, hf, ?_⟩
      obtain ⟨c, hc, hx, _⟩ := DataW.trod_int Tryz.underlying5 hr
      have hvc : v = .int .u8 c := formed_one hfm hc (fun d hu => by rw [Tryz.underlying5] at hu; cases hu; rfl)
      simp only [Prod.mk.injEq] at hx
      rw [hx.1] at hm
      subst hvc
      simp at hm
      show Value.int .u8 c = _
      unfold typeOf
      rcases hm with ⟨rfl, rfl⟩ | ⟨rfl, rfl⟩ | ⟨rfl, rfl⟩ | ⟨rfl, rfl⟩ <;> rfl
    · refine ⟨_, hf, ?_⟩
      show Value.int .u8 0 = _
      have n1 : k ≠ 1 := fun e => hno (.lit (.int .u8 53)) (by subst e; simp)
      have n2 : k ≠ 2 := fun e => hno (.lit (.int .u8 48)) (by subst e; simp)
      have n3 : k ≠ 3 := fun e => hno (.lit (.int .u8 50)) (by subst e; simp)
      have n4 : k ≠ 4 := fun e => hno (.lit (.int .u8 54)) (by subst e; simp)
      unfold typeOf
      rw [if_neg n1, if_neg n2, if_neg n3, if_neg n4]
end Go.Proofs.YtceabkfmjffnhaaGreatDoor
set_option linter.unusedVariables false
set_option linter.unusedSimpArgs false
set_option maxRecDepth 100000
namespace Go.Proofs.YtceabkfmjffnhaaGreatDoor
open Go Go.Eng
open Go.ChangeShapes Go.WideShapes Go.ChangeAt Go.RowKit

theorem own : ownKnob Tryz.prog.godebug = none := by kernel_rfl
theorem laidOutP : laidOutB Tryz.prog = true := by kernel_rfl
theorem readableP : Tryz.prog.readableRec 22 = true := by kernel_rfl
theorem inP : 22 < Tryz.prog.types.size := of_decide_eq_true (by kernel_rfl)
theorem slice_of {W : World} {base : Nat} {v u : Value} (h : Value.okWide Tryz.prog W .any base 22 v) (hc : v.cells.toList = [u]) : v = u := by
  obtain ⟨a, len, cap, rfl⟩ := okWide_slice Tryz.underlying22 h
  simpa [Value.cells] using hc
theorem contract (H : Type) (enc : TypeId × Value → H) (W : World) (base : Nat) (args : Array Value) (ds gs : List (DataW H)) (before : List MemPlace)
    (hval : ∀ (j : Nat) t v, Tryz.f3.params[j]? = some t → args[j]? = some v → Value.okWide Tryz.prog W .any base t v)
    (hW : DataW.Whole enc Tryz.prog Tryz.f3.params.toList Rows.squashMergesSpec.vars false W args.toList ds gs before) (hk : Rows.uptoSmall H (ds ++ gs) = true) (hL : laidMetH Tryz.prog Rows.squashMergesUptoRow.laid W) :
    Calls Tryz.prog 3 args W fun e W' => ∃ v, e = .returned v ∧ Rows.squashMergesSpec.post enc Tryz.prog Tryz.f3 false true false false W args v W' := by
  have hW' := hW
  have hlt := hW.lt
  obtain ⟨p, q, hA0, hV, rfl, hfz, hnd⟩ := hW
  have hA : DataW.TrodAll enc Tryz.prog W 0 (fun _ => true) true Tryz.f3.params.toList args.toList ds p := hA0
  rw [Tryz.params3] at hA hval
  obtain ⟨v0, d0, rfl, rfl, h0⟩ := trodAll_one hA
  obtain ⟨rfl, rfl⟩ := trodVars_none hV
  obtain ⟨fuel, hf⟩ := id h0
  have hb : Rows.uptoBulkAll [d0] ≤ 1048576 := of_decide_eq_true hk
  obtain ⟨v, ls, hc, hls⟩ := rd_layers (N := 1048576) ⟨p, hf⟩ (by simp only [Rows.uptoBulkAll] at hb; omega) (by unfold big; omega)
  obtain rfl := slice_of (hval 0 22 v0 rfl rfl) hc
  refine (Ev.run (sm_ev v0 ls (Mem.all W.heap) (steps_tab hL) (class_tab hL) (type_tab hL) hls)).mono ?_
  rintro e W' ⟨rfl, hbl⟩
  refine ⟨_, rfl, [d0], [], _, [], p, [], hW', ?_, ?_, rfl, hbl.frame _, fun h => by cases h⟩
  · exact trodAll_mk1 (shut_bool Tryz.underlying4 true)
  · exact trodAll_mk1 (hbl.trod laidOutP readableP inP h0 (fun x hx => hlt x (by simp [hx])))

/-- A world for the witness: the settled one, the listed variables laid. -/
noncomputable def setC (cs : Array Value) : Obj → Obj
  | .cells _ t frozen => .cells cs t frozen
  | o => o
noncomputable def firstCells : Array Value := (Go.Pinned.utf8FirstZ.map fun (z : Nat) => Value.int .u8 (Int.ofNat z)).toArray
def acceptCells : Array Value := #[.int .u8 128, .int .u8 191, .int .u8 160, .int .u8 191, .int .u8 128, .int .u8 159, .int .u8 144, .int .u8 191, .int .u8 128, .int .u8 143, .int .u8 0, .int .u8 0, .int .u8 0, .int .u8 0, .int .u8 0, .int .u8 0, .int .u8 0, .int .u8 0, .int .u8 0, .int .u8 0, .int .u8 0, .int .u8 0, .int .u8 0, .int .u8 0, .int .u8 0, .int .u8 0, .int .u8 0, .int .u8 0, .int .u8 0, .int .u8 0, .int .u8 0, .int .u8 0]
def stepCells : Array Value := #[.func (.func (stepFn 0)) #[] #[], .func (.func (stepFn 1)) #[] #[], .func (.func (stepFn 2)) #[] #[], .func (.func (stepFn 3)) #[] #[]]
def classObj : Obj := .map #[⟨.int .i64 1, .func (.func (classFn 1)) #[] #[], 0⟩, ⟨.int .i64 2, .func (.func (classFn 2)) #[] #[], 1⟩, ⟨.int .i64 3, .func (.func (classFn 3)) #[] #[], 2⟩] 3
def typeObj : Obj := .map #[⟨.int .i64 1, .int .u8 53, 0⟩, ⟨.int .i64 2, .int .u8 48, 1⟩, ⟨.int .i64 3, .int .u8 50, 2⟩, ⟨.int .i64 4, .int .u8 54, 3⟩] 4
noncomputable def laidHeap (h : Array Obj) : Array Obj :=
  ((((((h.modify 0 (setC stepCells)).modify 1 (setC #[.map (some h.size)])).modify 2 (setC #[.map (some (h.size + 1))])).modify 4 (setC firstCells)).modify 5 (setC acceptCells)).push classObj).push typeObj
noncomputable def laidWorld (os : Os) : World :=
  { World.holding Tryz.prog os ⟨#[], #[], []⟩ with heap := laidHeap (World.holding Tryz.prog os ⟨#[], #[], []⟩).heap }
theorem laid_met (os : Os) : laidMetH Tryz.prog Rows.squashMergesUptoRow.laid ((laidWorld os).forCall (fun _ _ => 0) ⟨#[], #[.slice none 0 0], []⟩).memory :=
  laidMetH_of_parts3 (fuel := 8) (laidMet_of_run' 8 (by kernel_rfl) (by kernel_rfl)) (by kernel_rfl) (by kernel_rfl)
theorem reads (os : Os) {H : Type} (enc : TypeId × Value → H) : ∃ places, DataW.whole enc Tryz.prog ((laidWorld os).forCall (fun _ _ => 0) ⟨#[], #[.slice none 0 0], []⟩).memory Tryz.f3.params.toList Rows.squashMergesSpec.vars false #[Value.slice none 0 0].toList 8 = some ([.nil], [], places) :=
  ⟨[], by kernel_rfl⟩
theorem lifted (os : Os) (started : os.Started) (H : Type) (enc : TypeId × Value → H) (F : Stop.Interp) :
    ReturnsInHanded {} Tryz.checked os 3 .any ((Rows.OpenSpec.upto Rows.squashMergesSpec).preRow enc Tryz.prog Tryz.f3 Rows.squashMergesUptoRow.domain false Rows.squashMergesUptoRow.laid) (((Rows.OpenSpec.upto Rows.squashMergesSpec).at F).post enc Tryz.prog Tryz.f3 false true false false) := by
  obtain ⟨places, hx⟩ := reads os enc
  refine returnsInHanded_of_row (C := Tryz.checked) (s := Rows.OpenSpec.upto Rows.squashMergesSpec) own started (by kernel_rfl) Tryz.func3
    (witness_row_atRef (enc := enc) (C := Tryz.checked) false (laidWorld os) #[.slice none 0 0] rfl (by kernel_rfl) (by kernel_rfl) (by kernel_rfl)
      (OpenSpec.preRow_of_cond 8 hx (by kernel_rfl) (fun k hk => by cases hk; kernel_rfl) (by kernel_rfl) (laid_met os))) ?_
  intro W base args ds gs before hval hW _ hcond _ hL _ _
  exact contract H enc W base args ds gs before hval hW (hcond _ rfl) hL
theorem saidUpto : Rows.SquashMergesUptoSaid :=
  OpenClaim.holds_of_cond 3 Tryz.f3 rfl rfl rfl rfl rfl rfl rfl ⟨rfl, rfl, rfl, rfl, rfl⟩ rfl rfl rfl rfl rfl (by kernel_rfl) Tryz.func3 (by kernel_rfl)
    (of_decide_eq_true (by kernel_rfl)) (by unfold Func.isWrapper; first | (rw [if_pos (by decide +kernel)]; kernel_rfl) | (rw [if_neg (by decide +kernel)]; exact ⟨rfl, rfl⟩))
    (fun os started H enc _ F => by rw [OpenClaim.pre_eq_preRow]; exact lifted os started H enc F)
theorem plain (f : FuncId) (fn : Func) (hf : Tryz.pinned.checked.prog.funcNamed "portolan/portolanlaw25.SquashMerges" = some f) (hfn : Tryz.pinned.checked.prog.funcs[f]? = some fn) :
    false = Tryz.pinned.checked.prog.looks [] ∧ ∀ (j : Nat) t, fn.params[j]? = some t → Tryz.pinned.checked.prog.wantsStandIn t = false := by
  obtain rfl : f = 3 := Option.some.inj ((show Tryz.prog.funcNamed "portolan/portolanlaw25.SquashMerges" = some 3 by kernel_rfl).symm.trans hf) |>.symm
  obtain rfl : fn = Tryz.f3 := (Option.some.inj (Tryz.func3.symm.trans hfn)).symm
  refine ⟨by kernel_rfl, fun j t ht => ?_⟩
  rw [Tryz.params3] at ht
  obtain rfl : t = 22 := by simpa using Array.mem_of_getElem? ht
  exact (show Tryz.prog.wantsStandIn 22 = false by kernel_rfl)
theorem cardUpto : Rows.SquashMergesUptoCardSaid :=
  Claim7.holds_tied_plain_at .later [] _ _ _ _ saidUpto (fun _ h => by cases h) (by kernel_rfl) (fun _ h => by cases h) squashMergesUpto_row_tie rfl ⟨rfl, rfl⟩ (by kernel_rfl) rfl plain (by kernel_rfl)
end Go.Proofs.YtceabkfmjffnhaaGreatDoor
