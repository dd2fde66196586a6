/- SquashMerges answers true for every input of bulk at most 1048576, and its input reads as it did; the listed variables start as the program's text lays them (closed facts of the translation) -/
import Derived.Test.YtceabkfmjffnhaaGreatDoorProg
import Derived.KernelRfl
import Derived.Test.YtceabkfmjffnhaaGreatDoorE
/- Closed facts of the translation, each by the kernel: sizes and zero values of types, offsets of fields, that a function has a body. -/
namespace Go.Proofs.YtceabkfmjffnhaaGreatDoor
open Go Go.Eng
theorem mixed : Tryz.prog.follows .mixedOrders = true := by kernel_rfl
theorem zr3 : (Tryz.prog.info? 3).bind (·.zero) = some (.int .i64 0) := by kernel_rfl
theorem zr4 : (Tryz.prog.info? 4).bind (·.zero) = some (.bool false) := by kernel_rfl
theorem sz5 : (Tryz.prog.info? 5).map (·.size) = some 1 := by kernel_rfl
theorem zr5 : (Tryz.prog.info? 5).bind (·.zero) = some (.int .u8 0) := by kernel_rfl
theorem sz9 : (Tryz.prog.info? 9).map (·.size) = some 1 := by kernel_rfl
theorem ti9 : (Tryz.prog.info? 9).map (fun i => (i.zero, i.size, i.bytes)) = some (some (.string ⟨#[]⟩), 1, 16) := by kernel_rfl
theorem zs9 : (Tryz.prog.info? 9).map (fun i => (i.zero, i.size)) = some (some (.string ⟨#[]⟩), 1) := by kernel_rfl
theorem sz25 : (Tryz.prog.info? 25).map (·.size) = some 1 := by kernel_rfl
theorem ti25 : (Tryz.prog.info? 25).map (fun i => (i.zero, i.size, i.bytes)) = some (some (.slice none 0 0), 1, 24) := by kernel_rfl
theorem zs25 : (Tryz.prog.info? 25).map (fun i => (i.zero, i.size)) = some (some (.slice none 0 0), 1) := by kernel_rfl
theorem sz33 : (Tryz.prog.info? 33).map (·.size) = some 1 := by kernel_rfl
theorem sz34 : (Tryz.prog.info? 34).map (·.size) = some 1 := by kernel_rfl
theorem sz36 : (Tryz.prog.info? 36).map (·.size) = some 8 := by kernel_rfl
theorem zr36 : (Tryz.prog.info? 36).bind (·.zero) = some (.agg #[.int .i64 0, .int .u32 0, .int .u32 0, .int .u32 0, .int .i64 0, .slice none 0 0, .slice none 0 0, .string ⟨#[]⟩]) := by kernel_rfl
theorem sz38 : (Tryz.prog.info? 38).map (·.size) = some 9 := by kernel_rfl
theorem ti38 : (Tryz.prog.info? 38).map (fun i => (i.zero, i.size, i.bytes)) = some (some (.agg #[.string ⟨#[]⟩, .int .i64 0, .int .u32 0, .int .u32 0, .int .u32 0, .int .i64 0, .slice none 0 0, .slice none 0 0, .string ⟨#[]⟩]), 9, 112) := by kernel_rfl
theorem zr38 : (Tryz.prog.info? 38).bind (·.zero) = some (.agg #[.string ⟨#[]⟩, .int .i64 0, .int .u32 0, .int .u32 0, .int .u32 0, .int .i64 0, .slice none 0 0, .slice none 0 0, .string ⟨#[]⟩]) := by kernel_rfl
theorem zs38 : (Tryz.prog.info? 38).map (fun i => (i.zero, i.size)) = some (some (.agg #[.string ⟨#[]⟩, .int .i64 0, .int .u32 0, .int .u32 0, .int .u32 0, .int .i64 0, .slice none 0 0, .slice none 0 0, .string ⟨#[]⟩]), 9) := by kernel_rfl
theorem sz43 : (Tryz.prog.info? 43).map (·.size) = some 2 := by kernel_rfl
theorem zr43 : (Tryz.prog.info? 43).bind (·.zero) = some (.agg #[.slice none 0 0, .bool false]) := by kernel_rfl
theorem sz50 : (Tryz.prog.info? 50).map (·.size) = some 2 := by kernel_rfl
theorem ti50 : (Tryz.prog.info? 50).map (fun i => (i.zero, i.size, i.bytes)) = some (some (.agg #[.string ⟨#[]⟩, .string ⟨#[]⟩]), 2, 32) := by kernel_rfl
theorem zr50 : (Tryz.prog.info? 50).bind (·.zero) = some (.agg #[.string ⟨#[]⟩, .string ⟨#[]⟩]) := by kernel_rfl
theorem zs50 : (Tryz.prog.info? 50).map (fun i => (i.zero, i.size)) = some (some (.agg #[.string ⟨#[]⟩, .string ⟨#[]⟩]), 2) := by kernel_rfl
theorem sz55 : (Tryz.prog.info? 55).map (·.size) = some 1 := by kernel_rfl
theorem zr55 : (Tryz.prog.info? 55).bind (·.zero) = some (.map none) := by kernel_rfl
theorem zr66 : (Tryz.prog.info? 66).bind (·.zero) = some (.agg #[.slice none 0 0, .slice none 0 0, .map none]) := by kernel_rfl
theorem sz67 : (Tryz.prog.info? 67).map (·.size) = some 1 := by kernel_rfl
theorem sz68 : (Tryz.prog.info? 68).map (·.size) = some 4 := by kernel_rfl
theorem zr77 : (Tryz.prog.info? 77).bind (·.zero) = some (.nilFunc) := by kernel_rfl
theorem sz136 : (Tryz.prog.info? 136).map (·.size) = some 3 := by kernel_rfl
theorem zr136 : (Tryz.prog.info? 136).bind (·.zero) = some (.agg #[.map none, .map none, .map none]) := by kernel_rfl
theorem fa36_0 : FieldAt Tryz.prog 36 0 0 := ⟨_, _, Tryz.underlying36, rfl, rfl, by kernel_rfl⟩
theorem fa36_1 : FieldAt Tryz.prog 36 1 1 := ⟨_, _, Tryz.underlying36, rfl, rfl, by kernel_rfl⟩
theorem fa36_2 : FieldAt Tryz.prog 36 2 2 := ⟨_, _, Tryz.underlying36, rfl, rfl, by kernel_rfl⟩
theorem fa36_3 : FieldAt Tryz.prog 36 3 3 := ⟨_, _, Tryz.underlying36, rfl, rfl, by kernel_rfl⟩
theorem fa36_4 : FieldAt Tryz.prog 36 4 4 := ⟨_, _, Tryz.underlying36, rfl, rfl, by kernel_rfl⟩
theorem fa36_5 : FieldAt Tryz.prog 36 5 5 := ⟨_, _, Tryz.underlying36, rfl, rfl, by kernel_rfl⟩
theorem fa36_6 : FieldAt Tryz.prog 36 6 6 := ⟨_, _, Tryz.underlying36, rfl, rfl, by kernel_rfl⟩
theorem fa36_7 : FieldAt Tryz.prog 36 7 7 := ⟨_, _, Tryz.underlying36, rfl, rfl, by kernel_rfl⟩
theorem fa38_0 : FieldAt Tryz.prog 38 0 0 := ⟨_, _, Tryz.underlying38, rfl, rfl, by kernel_rfl⟩
theorem fa38_1 : FieldAt Tryz.prog 38 1 1 := ⟨_, _, Tryz.underlying38, rfl, rfl, by kernel_rfl⟩
theorem fa43_0 : FieldAt Tryz.prog 43 0 0 := ⟨_, _, Tryz.underlying43, rfl, rfl, by kernel_rfl⟩
theorem fa43_1 : FieldAt Tryz.prog 43 1 1 := ⟨_, _, Tryz.underlying43, rfl, rfl, by kernel_rfl⟩
theorem fa50_0 : FieldAt Tryz.prog 50 0 0 := ⟨_, _, Tryz.underlying50, rfl, rfl, by kernel_rfl⟩
theorem fa50_1 : FieldAt Tryz.prog 50 1 1 := ⟨_, _, Tryz.underlying50, rfl, rfl, by kernel_rfl⟩
theorem fa66_0 : FieldAt Tryz.prog 66 0 0 := ⟨_, _, Tryz.underlying66, rfl, rfl, by kernel_rfl⟩
theorem fa66_1 : FieldAt Tryz.prog 66 1 1 := ⟨_, _, Tryz.underlying66, rfl, rfl, by kernel_rfl⟩
theorem fa66_2 : FieldAt Tryz.prog 66 2 2 := ⟨_, _, Tryz.underlying66, rfl, rfl, by kernel_rfl⟩
theorem fa136_0 : FieldAt Tryz.prog 136 0 0 := ⟨_, _, Tryz.underlying136, rfl, rfl, by kernel_rfl⟩
theorem fa136_1 : FieldAt Tryz.prog 136 1 1 := ⟨_, _, Tryz.underlying136, rfl, rfl, by kernel_rfl⟩
theorem fa136_2 : FieldAt Tryz.prog 136 2 2 := ⟨_, _, Tryz.underlying136, rfl, rfl, by kernel_rfl⟩
theorem ts50 : TwoStr Tryz.prog 50 := ⟨_, _, _, Tryz.underlying50, rfl, rfl, rfl, rfl, rfl, Tryz.underlying9, Tryz.underlying9, by kernel_rfl, by kernel_rfl⟩
theorem bl36 : BuildAt Tryz.prog 36 [(0, 1), (1, 1), (2, 1), (3, 1), (4, 1), (5, 1), (6, 1), (7, 1)] (.agg #[.int .i64 0, .int .u32 0, .int .u32 0, .int .u32 0, .int .i64 0, .slice none 0 0, .slice none 0 0, .string ⟨#[]⟩]) := ⟨_, Tryz.underlying36, zr36, by kernel_rfl⟩
theorem bl38 : BuildAt Tryz.prog 38 [(0, 1), (1, 8)] (.agg #[.string ⟨#[]⟩, .int .i64 0, .int .u32 0, .int .u32 0, .int .u32 0, .int .i64 0, .slice none 0 0, .slice none 0 0, .string ⟨#[]⟩]) := ⟨_, Tryz.underlying38, zr38, by kernel_rfl⟩
theorem bl50 : BuildAt Tryz.prog 50 [(0, 1), (1, 1)] (.agg #[.string ⟨#[]⟩, .string ⟨#[]⟩]) := ⟨_, Tryz.underlying50, zr50, by kernel_rfl⟩
theorem bl66 : BuildAt Tryz.prog 66 [(0, 1), (1, 1), (2, 1)] (.agg #[.slice none 0 0, .slice none 0 0, .map none]) := ⟨_, Tryz.underlying66, zr66, by kernel_rfl⟩
theorem bl136 : BuildAt Tryz.prog 136 [(0, 1), (1, 1), (2, 1)] (.agg #[.map none, .map none, .map none]) := ⟨_, Tryz.underlying136, zr136, by kernel_rfl⟩
theorem ok4 : Fn.ok Tryz.prog 4 := Fn.ok_of Tryz.func4 (by kernel_rfl) rfl
theorem ok5 : Fn.ok Tryz.prog 5 := Fn.ok_of Tryz.func5 (by kernel_rfl) rfl
theorem ok6 : Fn.ok Tryz.prog 6 := Fn.ok_of Tryz.func6 (by kernel_rfl) rfl
theorem ok7 : Fn.ok Tryz.prog 7 := Fn.ok_of Tryz.func7 (by kernel_rfl) rfl
theorem ok8 : Fn.ok Tryz.prog 8 := Fn.ok_of Tryz.func8 (by kernel_rfl) rfl
theorem ok9 : Fn.ok Tryz.prog 9 := Fn.ok_of Tryz.func9 (by kernel_rfl) rfl
theorem ok10 : Fn.ok Tryz.prog 10 := Fn.ok_of Tryz.func10 (by kernel_rfl) rfl
theorem ok11 : Fn.ok Tryz.prog 11 := Fn.ok_of Tryz.func11 (by kernel_rfl) rfl
theorem ok12 : Fn.ok Tryz.prog 12 := Fn.ok_of Tryz.func12 (by kernel_rfl) rfl
theorem ok13 : Fn.ok Tryz.prog 13 := Fn.ok_of Tryz.func13 (by kernel_rfl) rfl
theorem ok14 : Fn.ok Tryz.prog 14 := Fn.ok_of Tryz.func14 (by kernel_rfl) rfl
theorem ok15 : Fn.ok Tryz.prog 15 := Fn.ok_of Tryz.func15 (by kernel_rfl) rfl
theorem ok16 : Fn.ok Tryz.prog 16 := Fn.ok_of Tryz.func16 (by kernel_rfl) rfl
theorem ok17 : Fn.ok Tryz.prog 17 := Fn.ok_of Tryz.func17 (by kernel_rfl) rfl
theorem ok18 : Fn.ok Tryz.prog 18 := Fn.ok_of Tryz.func18 (by kernel_rfl) rfl
theorem ok19 : Fn.ok Tryz.prog 19 := Fn.ok_of Tryz.func19 (by kernel_rfl) rfl
theorem ok20 : Fn.ok Tryz.prog 20 := Fn.ok_of Tryz.func20 (by kernel_rfl) rfl
theorem ok21 : Fn.ok Tryz.prog 21 := Fn.ok_of Tryz.func21 (by kernel_rfl) rfl
theorem ok22 : Fn.ok Tryz.prog 22 := Fn.ok_of Tryz.func22 (by kernel_rfl) rfl
theorem ok23 : Fn.ok Tryz.prog 23 := Fn.ok_of Tryz.func23 (by kernel_rfl) rfl
theorem ok24 : Fn.ok Tryz.prog 24 := Fn.ok_of Tryz.func24 (by kernel_rfl) rfl
theorem ok25 : Fn.ok Tryz.prog 25 := Fn.ok_of Tryz.func25 (by kernel_rfl) rfl
theorem ok26 : Fn.ok Tryz.prog 26 := Fn.ok_of Tryz.func26 (by kernel_rfl) rfl
theorem ok27 : Fn.ok Tryz.prog 27 := Fn.ok_of Tryz.func27 (by kernel_rfl) rfl
theorem ok28 : Fn.ok Tryz.prog 28 := Fn.ok_of Tryz.func28 (by kernel_rfl) rfl
theorem ok29 : Fn.ok Tryz.prog 29 := Fn.ok_of Tryz.func29 (by kernel_rfl) rfl
theorem ok30 : Fn.ok Tryz.prog 30 := Fn.ok_of Tryz.func30 (by kernel_rfl) rfl
theorem ok31 : Fn.ok Tryz.prog 31 := Fn.ok_of Tryz.func31 (by kernel_rfl) rfl
theorem ok32 : Fn.ok Tryz.prog 32 := Fn.ok_of Tryz.func32 (by kernel_rfl) rfl
theorem ok33 : Fn.ok Tryz.prog 33 := Fn.ok_of Tryz.func33 (by kernel_rfl) rfl
theorem ok34 : Fn.ok Tryz.prog 34 := Fn.ok_of Tryz.func34 (by kernel_rfl) rfl
theorem ok35 : Fn.ok Tryz.prog 35 := Fn.ok_of Tryz.func35 (by kernel_rfl) rfl
theorem ok36 : Fn.ok Tryz.prog 36 := Fn.ok_of Tryz.func36 (by kernel_rfl) rfl
theorem ok37 : Fn.ok Tryz.prog 37 := Fn.ok_of Tryz.func37 (by kernel_rfl) rfl
theorem ok38 : Fn.ok Tryz.prog 38 := Fn.ok_of Tryz.func38 (by kernel_rfl) rfl
theorem ok39 : Fn.ok Tryz.prog 39 := Fn.ok_of Tryz.func39 (by kernel_rfl) rfl
theorem ok40 : Fn.ok Tryz.prog 40 := Fn.ok_of Tryz.func40 (by kernel_rfl) rfl
theorem ok41 : Fn.ok Tryz.prog 41 := Fn.ok_of Tryz.func41 (by kernel_rfl) rfl
theorem ok42 : Fn.ok Tryz.prog 42 := Fn.ok_of Tryz.func42 (by kernel_rfl) rfl
theorem ok43 : Fn.ok Tryz.prog 43 := Fn.ok_of Tryz.func43 (by kernel_rfl) rfl
theorem ok44 : Fn.ok Tryz.prog 44 := Fn.ok_of Tryz.func44 (by kernel_rfl) rfl
theorem ok45 : Fn.ok Tryz.prog 45 := Fn.ok_of Tryz.func45 (by kernel_rfl) rfl
theorem ok46 : Fn.ok Tryz.prog 46 := Fn.ok_of Tryz.func46 (by kernel_rfl) rfl
theorem ok47 : Fn.ok Tryz.prog 47 := Fn.ok_of Tryz.func47 (by kernel_rfl) rfl
theorem ok48 : Fn.ok Tryz.prog 48 := Fn.ok_of Tryz.func48 (by kernel_rfl) rfl
theorem ok49 : Fn.ok Tryz.prog 49 := Fn.ok_of Tryz.func49 (by kernel_rfl) rfl
theorem ok50 : Fn.ok Tryz.prog 50 := Fn.ok_of Tryz.func50 (by kernel_rfl) rfl
theorem ok51 : Fn.ok Tryz.prog 51 := Fn.ok_of Tryz.func51 (by kernel_rfl) rfl
theorem ok52 : Fn.ok Tryz.prog 52 := Fn.ok_of Tryz.func52 (by kernel_rfl) rfl
theorem ok53 : Fn.ok Tryz.prog 53 := Fn.ok_of Tryz.func53 (by kernel_rfl) rfl
theorem ok54 : Fn.ok Tryz.prog 54 := Fn.ok_of Tryz.func54 (by kernel_rfl) rfl
theorem ok55 : Fn.ok Tryz.prog 55 := Fn.ok_of Tryz.func55 (by kernel_rfl) rfl
theorem ok56 : Fn.ok Tryz.prog 56 := Fn.ok_of Tryz.func56 (by kernel_rfl) rfl
theorem ok57 : Fn.ok Tryz.prog 57 := Fn.ok_of Tryz.func57 (by kernel_rfl) rfl
theorem ok58 : Fn.ok Tryz.prog 58 := Fn.ok_of Tryz.func58 (by kernel_rfl) rfl
theorem ok59 : Fn.ok Tryz.prog 59 := Fn.ok_of Tryz.func59 (by kernel_rfl) rfl
theorem ok60 : Fn.ok Tryz.prog 60 := Fn.ok_of Tryz.func60 (by kernel_rfl) rfl
theorem ok61 : Fn.ok Tryz.prog 61 := Fn.ok_of Tryz.func61 (by kernel_rfl) rfl
theorem ok62 : Fn.ok Tryz.prog 62 := Fn.ok_of Tryz.func62 (by kernel_rfl) rfl
theorem ok63 : Fn.ok Tryz.prog 63 := Fn.ok_of Tryz.func63 (by kernel_rfl) rfl
theorem ok64 : Fn.ok Tryz.prog 64 := Fn.ok_of Tryz.func64 (by kernel_rfl) rfl
theorem ok65 : Fn.ok Tryz.prog 65 := Fn.ok_of Tryz.func65 (by kernel_rfl) rfl
theorem ok66 : Fn.ok Tryz.prog 66 := Fn.ok_of Tryz.func66 (by kernel_rfl) rfl
theorem ok67 : Fn.ok Tryz.prog 67 := Fn.ok_of Tryz.func67 (by kernel_rfl) rfl
theorem ok68 : Fn.ok Tryz.prog 68 := Fn.ok_of Tryz.func68 (by kernel_rfl) rfl
theorem ok69 : Fn.ok Tryz.prog 69 := Fn.ok_of Tryz.func69 (by kernel_rfl) rfl
theorem ok70 : Fn.ok Tryz.prog 70 := Fn.ok_of Tryz.func70 (by kernel_rfl) rfl
theorem ok71 : Fn.ok Tryz.prog 71 := Fn.ok_of Tryz.func71 (by kernel_rfl) rfl
theorem ok72 : Fn.ok Tryz.prog 72 := Fn.ok_of Tryz.func72 (by kernel_rfl) rfl
theorem ok73 : Fn.ok Tryz.prog 73 := Fn.ok_of Tryz.func73 (by kernel_rfl) rfl
theorem ok74 : Fn.ok Tryz.prog 74 := Fn.ok_of Tryz.func74 (by kernel_rfl) rfl
theorem ok75 : Fn.ok Tryz.prog 75 := Fn.ok_of Tryz.func75 (by kernel_rfl) rfl
theorem ok76 : Fn.ok Tryz.prog 76 := Fn.ok_of Tryz.func76 (by kernel_rfl) rfl
theorem ok77 : Fn.ok Tryz.prog 77 := Fn.ok_of Tryz.func77 (by kernel_rfl) rfl
theorem ok79 : Fn.ok Tryz.prog 79 := Fn.ok_of Tryz.func79 (by kernel_rfl) rfl
theorem ok80 : Fn.ok Tryz.prog 80 := Fn.ok_of Tryz.func80 (by kernel_rfl) rfl
theorem ok82 : Fn.ok Tryz.prog 82 := Fn.ok_of Tryz.func82 (by kernel_rfl) rfl
theorem ok83 : Fn.ok Tryz.prog 83 := Fn.ok_of Tryz.func83 (by kernel_rfl) rfl
theorem ok84 : Fn.ok Tryz.prog 84 := Fn.ok_of Tryz.func84 (by kernel_rfl) rfl
theorem ok88 : Fn.ok Tryz.prog 88 := Fn.ok_of Tryz.func88 (by kernel_rfl) rfl
theorem ok90 : Fn.ok Tryz.prog 90 := Fn.ok_of Tryz.func90 (by kernel_rfl) rfl
theorem ok91 : Fn.ok Tryz.prog 91 := Fn.ok_of Tryz.func91 (by kernel_rfl) rfl
theorem ok92 : Fn.ok Tryz.prog 92 := Fn.ok_of Tryz.func92 (by kernel_rfl) rfl
theorem ok95 : Fn.ok Tryz.prog 95 := Fn.ok_of Tryz.func95 (by kernel_rfl) rfl
theorem ok118 : Fn.ok Tryz.prog 118 := Fn.ok_of Tryz.func118 (by kernel_rfl) rfl
theorem ok120 : Fn.ok Tryz.prog 120 := Fn.ok_of Tryz.func120 (by kernel_rfl) rfl
theorem ok121 : Fn.ok Tryz.prog 121 := Fn.ok_of Tryz.func121 (by kernel_rfl) rfl
theorem ok122 : Fn.ok Tryz.prog 122 := Fn.ok_of Tryz.func122 (by kernel_rfl) rfl
theorem ok123 : Fn.ok Tryz.prog 123 := Fn.ok_of Tryz.func123 (by kernel_rfl) rfl
theorem ok124 : Fn.ok Tryz.prog 124 := Fn.ok_of Tryz.func124 (by kernel_rfl) rfl
theorem ok125 : Fn.ok Tryz.prog 125 := Fn.ok_of Tryz.func125 (by kernel_rfl) rfl
theorem ok126 : Fn.ok Tryz.prog 126 := Fn.ok_of Tryz.func126 (by kernel_rfl) rfl
theorem ok127 : Fn.ok Tryz.prog 127 := Fn.ok_of Tryz.func127 (by kernel_rfl) rfl
theorem ok128 : Fn.ok Tryz.prog 128 := Fn.ok_of Tryz.func128 (by kernel_rfl) rfl
theorem ok129 : Fn.ok Tryz.prog 129 := Fn.ok_of Tryz.func129 (by kernel_rfl) rfl
theorem ok130 : Fn.ok Tryz.prog 130 := Fn.ok_of Tryz.func130 (by kernel_rfl) rfl
theorem ok131 : Fn.ok Tryz.prog 131 := Fn.ok_of Tryz.func131 (by kernel_rfl) rfl
theorem ok132 : Fn.ok Tryz.prog 132 := Fn.ok_of Tryz.func132 (by kernel_rfl) rfl
theorem ok133 : Fn.ok Tryz.prog 133 := Fn.ok_of Tryz.func133 (by kernel_rfl) rfl
theorem ok134 : Fn.ok Tryz.prog 134 := Fn.ok_of Tryz.func134 (by kernel_rfl) rfl
theorem ok143 : Fn.ok Tryz.prog 143 := Fn.ok_of Tryz.func143 (by kernel_rfl) rfl
theorem ok144 : Fn.ok Tryz.prog 144 := Fn.ok_of Tryz.func144 (by kernel_rfl) rfl
theorem ok145 : Fn.ok Tryz.prog 145 := Fn.ok_of Tryz.func145 (by kernel_rfl) rfl
theorem ext81 : ExtF Tryz.prog 81 Extern.BytealgCompare.compare := fun args w => run_callFunc_extern Tryz.func81 (by kernel_rfl) (by kernel_rfl) (by kernel_rfl) (by kernel_rfl) args w
end Go.Proofs.YtceabkfmjffnhaaGreatDoor
