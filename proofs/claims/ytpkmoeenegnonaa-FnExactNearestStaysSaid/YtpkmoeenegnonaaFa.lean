import Derived.Test.YtpkmoeenegnonaaChecked
import Derived.Test.YtpkmoeenegnonaaKg
import Derived.KernelRfl
set_option linter.unusedVariables false
set_option linter.unusedSimpArgs false
namespace Go.Proofs.Ytpkmoeenegnonaa
open Go Go.RowKit K
theorem goes58 : Goes Try.prog 58 := ⟨Try.f58, Try.func58, by kernel_rfl, rfl⟩
theorem goes69 : Goes Try.prog 69 := ⟨Try.f69, Try.func69, by kernel_rfl, rfl⟩
theorem ze55 : zeroB Try.prog 55 = some ([.int .i64 0, .int .i64 0, .int .i64 0]) := by kernel_rfl
theorem fo70_0 : fieldB Try.prog 70 0 = some 0 := by kernel_rfl
theorem sc3 : Scal Try.prog 3 := scal_of (by kernel_rfl)
theorem fo55_0 : fieldB Try.prog 55 0 = some 0 := by kernel_rfl
theorem sz3 : sizeB Try.prog 3 = some 1 := by kernel_rfl
theorem fo70_1 : fieldB Try.prog 70 1 = some 1 := by kernel_rfl
theorem fo55_1 : fieldB Try.prog 55 1 = some 1 := by kernel_rfl
theorem fo70_2 : fieldB Try.prog 70 2 = some 2 := by kernel_rfl
theorem fo55_2 : fieldB Try.prog 55 2 = some 2 := by kernel_rfl
theorem ag55 : Agg Try.prog 55 3 := agg_of (by kernel_rfl)
theorem sz55 : sizeB Try.prog 55 = some 3 := by kernel_rfl
theorem by55 : bytesB Try.prog 55 = some 24 := by kernel_rfl
theorem sz70 : sizeB Try.prog 70 = some 3 := by kernel_rfl
theorem ag70 : Agg Try.prog 70 3 := agg_of (by kernel_rfl)
theorem goes56 : Goes Try.prog 56 := ⟨Try.f56, Try.func56, by kernel_rfl, rfl⟩
theorem goes59 : Goes Try.prog 59 := ⟨Try.f59, Try.func59, by kernel_rfl, rfl⟩
theorem ze75 : zeroB Try.prog 75 = some ([.int .i64 0, .int .i64 0, .int .i64 0]) := by kernel_rfl
theorem fo77_0 : fieldB Try.prog 77 0 = some 0 := by kernel_rfl
theorem fo75_0 : fieldB Try.prog 75 0 = some 0 := by kernel_rfl
theorem fo77_1 : fieldB Try.prog 77 1 = some 1 := by kernel_rfl
theorem fo75_1 : fieldB Try.prog 75 1 = some 1 := by kernel_rfl
theorem fo77_2 : fieldB Try.prog 77 2 = some 2 := by kernel_rfl
theorem fo75_2 : fieldB Try.prog 75 2 = some 2 := by kernel_rfl
theorem ag75 : Agg Try.prog 75 3 := agg_of (by kernel_rfl)
theorem sz75 : sizeB Try.prog 75 = some 3 := by kernel_rfl
theorem by75 : bytesB Try.prog 75 = some 24 := by kernel_rfl
theorem sz77 : sizeB Try.prog 77 = some 3 := by kernel_rfl
theorem ag77 : Agg Try.prog 77 3 := agg_of (by kernel_rfl)
theorem goes61 : Goes Try.prog 61 := ⟨Try.f61, Try.func61, by kernel_rfl, rfl⟩
theorem goes62 : Goes Try.prog 62 := ⟨Try.f62, Try.func62, by kernel_rfl, rfl⟩
theorem goes66 : Goes Try.prog 66 := ⟨Try.f66, Try.func66, by kernel_rfl, rfl⟩
theorem goes57 : Goes Try.prog 57 := ⟨Try.f57, Try.func57, by kernel_rfl, rfl⟩
theorem goes55 : Goes Try.prog 55 := ⟨Try.f55, Try.func55, by kernel_rfl, rfl⟩
theorem goes60 : Goes Try.prog 60 := ⟨Try.f60, Try.func60, by kernel_rfl, rfl⟩
theorem goes15 : Goes Try.prog 15 := ⟨Try.f15, Try.func15, by kernel_rfl, rfl⟩
theorem goes17 : Goes Try.prog 17 := ⟨Try.f17, Try.func17, by kernel_rfl, rfl⟩
theorem goes16 : Goes Try.prog 16 := ⟨Try.f16, Try.func16, by kernel_rfl, rfl⟩
theorem goes18 : Goes Try.prog 18 := ⟨Try.f18, Try.func18, by kernel_rfl, rfl⟩
theorem goes19 : Goes Try.prog 19 := ⟨Try.f19, Try.func19, by kernel_rfl, rfl⟩
theorem goes20 : Goes Try.prog 20 := ⟨Try.f20, Try.func20, by kernel_rfl, rfl⟩
theorem goes22 : Goes Try.prog 22 := ⟨Try.f22, Try.func22, by kernel_rfl, rfl⟩
theorem goes21 : Goes Try.prog 21 := ⟨Try.f21, Try.func21, by kernel_rfl, rfl⟩
theorem goes23 : Goes Try.prog 23 := ⟨Try.f23, Try.func23, by kernel_rfl, rfl⟩
theorem goes24 : Goes Try.prog 24 := ⟨Try.f24, Try.func24, by kernel_rfl, rfl⟩
theorem ze84 : zeroB Try.prog 84 = some (List.replicate 64 (.int .i64 0)) := by kernel_rfl
theorem sz83 : sizeB Try.prog 83 = some 8 := by kernel_rfl
theorem ag84 : Agg Try.prog 84 64 := agg_of (by kernel_rfl)
theorem sz84 : sizeB Try.prog 84 = some 64 := by kernel_rfl
theorem ze3 : zeroB Try.prog 3 = some ([.int .i64 0]) := by kernel_rfl
theorem by3 : bytesB Try.prog 3 = some 8 := by kernel_rfl
theorem goes80 : Goes Try.prog 80 := ⟨Try.f80, Try.func80, by kernel_rfl, rfl⟩
theorem goes68 : Goes Try.prog 68 := ⟨Try.f68, Try.func68, by kernel_rfl, rfl⟩
theorem ag83 : Agg Try.prog 83 8 := agg_of (by kernel_rfl)
theorem goes67 : Goes Try.prog 67 := ⟨Try.f67, Try.func67, by kernel_rfl, rfl⟩
theorem goes27 : Goes Try.prog 27 := ⟨Try.f27, Try.func27, by kernel_rfl, rfl⟩
theorem goes28 : Goes Try.prog 28 := ⟨Try.f28, Try.func28, by kernel_rfl, rfl⟩
theorem goes29 : Goes Try.prog 29 := ⟨Try.f29, Try.func29, by kernel_rfl, rfl⟩
theorem goes30 : Goes Try.prog 30 := ⟨Try.f30, Try.func30, by kernel_rfl, rfl⟩
theorem goes31 : Goes Try.prog 31 := ⟨Try.f31, Try.func31, by kernel_rfl, rfl⟩
theorem goes32 : Goes Try.prog 32 := ⟨Try.f32, Try.func32, by kernel_rfl, rfl⟩
theorem goes33 : Goes Try.prog 33 := ⟨Try.f33, Try.func33, by kernel_rfl, rfl⟩
theorem goes34 : Goes Try.prog 34 := ⟨Try.f34, Try.func34, by kernel_rfl, rfl⟩
theorem ze83 : zeroB Try.prog 83 = some ([.int .i64 0, .int .i64 0, .int .i64 0, .int .i64 0, .int .i64 0, .int .i64 0, .int .i64 0, .int .i64 0]) := by kernel_rfl
theorem goes47 : Goes Try.prog 47 := ⟨Try.f47, Try.func47, by kernel_rfl, rfl⟩
theorem goes48 : Goes Try.prog 48 := ⟨Try.f48, Try.func48, by kernel_rfl, rfl⟩
theorem goes76 : Goes Try.prog 76 := ⟨Try.f76, Try.func76, by kernel_rfl, rfl⟩
theorem goes73 : Goes Try.prog 73 := ⟨Try.f73, Try.func73, by kernel_rfl, rfl⟩
theorem goes49 : Goes Try.prog 49 := ⟨Try.f49, Try.func49, by kernel_rfl, rfl⟩
theorem goes38 : Goes Try.prog 38 := ⟨Try.f38, Try.func38, by kernel_rfl, rfl⟩
theorem goes37 : Goes Try.prog 37 := ⟨Try.f37, Try.func37, by kernel_rfl, rfl⟩
theorem ze5 : zeroB Try.prog 5 = some ([.int .u8 0]) := by kernel_rfl
theorem sz5 : sizeB Try.prog 5 = some 1 := by kernel_rfl
theorem goes63 : Goes Try.prog 63 := ⟨Try.f63, Try.func63, by kernel_rfl, rfl⟩
theorem sz9 : sizeB Try.prog 9 = some 1 := by kernel_rfl
theorem sc9 : Scal Try.prog 9 := scal_of (by kernel_rfl)
theorem goes64 : Goes Try.prog 64 := ⟨Try.f64, Try.func64, by kernel_rfl, rfl⟩
theorem ze9 : zeroB Try.prog 9 = some ([.string ⟨#[]⟩]) := by kernel_rfl
theorem by9 : bytesB Try.prog 9 = some 16 := by kernel_rfl
theorem goes65 : Goes Try.prog 65 := ⟨Try.f65, Try.func65, by kernel_rfl, rfl⟩
theorem goes25 : Goes Try.prog 25 := ⟨Try.f25, Try.func25, by kernel_rfl, rfl⟩
theorem goes26 : Goes Try.prog 26 := ⟨Try.f26, Try.func26, by kernel_rfl, rfl⟩
theorem goes43 : Goes Try.prog 43 := ⟨Try.f43, Try.func43, by kernel_rfl, rfl⟩
theorem goes42 : Goes Try.prog 42 := ⟨Try.f42, Try.func42, by kernel_rfl, rfl⟩
theorem goes54 : Goes Try.prog 54 := ⟨Try.f54, Try.func54, by kernel_rfl, rfl⟩
end Go.Proofs.Ytpkmoeenegnonaa
