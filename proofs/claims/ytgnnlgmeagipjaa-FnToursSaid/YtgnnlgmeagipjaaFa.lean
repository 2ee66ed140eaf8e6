import Derived.Test.YtgnnlgmeagipjaaChecked
import Derived.Test.YtgnnlgmeagipjaaKg
import Derived.KernelRfl
set_option linter.unusedVariables false
set_option linter.unusedSimpArgs false
namespace Go.Proofs.Ytgnnlgmeagipjaa
open Go Go.RowKit K
theorem goes53 : Goes Try.prog 53 := ⟨Try.f53, Try.func53, by kernel_rfl, rfl⟩
theorem goes51 : Goes Try.prog 51 := ⟨Try.f51, Try.func51, by kernel_rfl, rfl⟩
theorem ze44 : zeroB Try.prog 44 = some ([.int .i64 0, .int .i64 0, .int .i64 0]) := by kernel_rfl
theorem fo69_0 : fieldB Try.prog 69 0 = some 0 := by kernel_rfl
theorem sc3 : Scal Try.prog 3 := scal_of (by kernel_rfl)
theorem fo44_0 : fieldB Try.prog 44 0 = some 0 := by kernel_rfl
theorem sz3 : sizeB Try.prog 3 = some 1 := by kernel_rfl
theorem fo69_1 : fieldB Try.prog 69 1 = some 1 := by kernel_rfl
theorem fo44_1 : fieldB Try.prog 44 1 = some 1 := by kernel_rfl
theorem fo69_2 : fieldB Try.prog 69 2 = some 2 := by kernel_rfl
theorem fo44_2 : fieldB Try.prog 44 2 = some 2 := by kernel_rfl
theorem ag44 : Agg Try.prog 44 3 := agg_of (by kernel_rfl)
theorem sz44 : sizeB Try.prog 44 = some 3 := by kernel_rfl
theorem by44 : bytesB Try.prog 44 = some 24 := by kernel_rfl
theorem sz69 : sizeB Try.prog 69 = some 3 := by kernel_rfl
theorem ag69 : Agg Try.prog 69 3 := agg_of (by kernel_rfl)
theorem goes45 : Goes Try.prog 45 := ⟨Try.f45, Try.func45, by kernel_rfl, rfl⟩
theorem goes50 : Goes Try.prog 50 := ⟨Try.f50, Try.func50, by kernel_rfl, rfl⟩
theorem ze65 : zeroB Try.prog 65 = some ([.int .i64 0, .int .i64 0, .int .i64 0]) := by kernel_rfl
theorem fo67_0 : fieldB Try.prog 67 0 = some 0 := by kernel_rfl
theorem fo65_0 : fieldB Try.prog 65 0 = some 0 := by kernel_rfl
theorem fo67_1 : fieldB Try.prog 67 1 = some 1 := by kernel_rfl
theorem fo65_1 : fieldB Try.prog 65 1 = some 1 := by kernel_rfl
theorem fo67_2 : fieldB Try.prog 67 2 = some 2 := by kernel_rfl
theorem fo65_2 : fieldB Try.prog 65 2 = some 2 := by kernel_rfl
theorem ag65 : Agg Try.prog 65 3 := agg_of (by kernel_rfl)
theorem sz65 : sizeB Try.prog 65 = some 3 := by kernel_rfl
theorem by65 : bytesB Try.prog 65 = some 24 := by kernel_rfl
theorem sz67 : sizeB Try.prog 67 = some 3 := by kernel_rfl
theorem ag67 : Agg Try.prog 67 3 := agg_of (by kernel_rfl)
theorem goes44 : Goes Try.prog 44 := ⟨Try.f44, Try.func44, by kernel_rfl, rfl⟩
theorem goes49 : Goes Try.prog 49 := ⟨Try.f49, Try.func49, by kernel_rfl, rfl⟩
theorem goes65 : Goes Try.prog 65 := ⟨Try.f65, Try.func65, by kernel_rfl, rfl⟩
theorem goes63 : Goes Try.prog 63 := ⟨Try.f63, Try.func63, by kernel_rfl, rfl⟩
theorem goes41 : Goes Try.prog 41 := ⟨Try.f41, Try.func41, by kernel_rfl, rfl⟩
theorem ze72 : zeroB Try.prog 72 = some (List.replicate 64 (.int .i64 0)) := by kernel_rfl
theorem sz71 : sizeB Try.prog 71 = some 8 := by kernel_rfl
theorem ag72 : Agg Try.prog 72 64 := agg_of (by kernel_rfl)
theorem sz72 : sizeB Try.prog 72 = some 64 := by kernel_rfl
theorem ze3 : zeroB Try.prog 3 = some ([.int .i64 0]) := by kernel_rfl
theorem by3 : bytesB Try.prog 3 = some 8 := by kernel_rfl
theorem goes43 : Goes Try.prog 43 := ⟨Try.f43, Try.func43, by kernel_rfl, rfl⟩
theorem goes37 : Goes Try.prog 37 := ⟨Try.f37, Try.func37, by kernel_rfl, rfl⟩
theorem goes47 : Goes Try.prog 47 := ⟨Try.f47, Try.func47, by kernel_rfl, rfl⟩
theorem ag71 : Agg Try.prog 71 8 := agg_of (by kernel_rfl)
theorem goes40 : Goes Try.prog 40 := ⟨Try.f40, Try.func40, by kernel_rfl, rfl⟩
theorem goes62 : Goes Try.prog 62 := ⟨Try.f62, Try.func62, by kernel_rfl, rfl⟩
theorem ze71 : zeroB Try.prog 71 = some ([.int .i64 0, .int .i64 0, .int .i64 0, .int .i64 0, .int .i64 0, .int .i64 0, .int .i64 0, .int .i64 0]) := by kernel_rfl
theorem goes25 : Goes Try.prog 25 := ⟨Try.f25, Try.func25, by kernel_rfl, rfl⟩
theorem goes61 : Goes Try.prog 61 := ⟨Try.f61, Try.func61, by kernel_rfl, rfl⟩
theorem goes58 : Goes Try.prog 58 := ⟨Try.f58, Try.func58, by kernel_rfl, rfl⟩
theorem ze5 : zeroB Try.prog 5 = some ([.int .u8 0]) := by kernel_rfl
theorem sz5 : sizeB Try.prog 5 = some 1 := by kernel_rfl
theorem goes69 : Goes Try.prog 69 := ⟨Try.f69, Try.func69, by kernel_rfl, rfl⟩
theorem sz9 : sizeB Try.prog 9 = some 1 := by kernel_rfl
theorem sc9 : Scal Try.prog 9 := scal_of (by kernel_rfl)
theorem goes67 : Goes Try.prog 67 := ⟨Try.f67, Try.func67, by kernel_rfl, rfl⟩
theorem ze9 : zeroB Try.prog 9 = some ([.string ⟨#[]⟩]) := by kernel_rfl
theorem by9 : bytesB Try.prog 9 = some 16 := by kernel_rfl
theorem goes68 : Goes Try.prog 68 := ⟨Try.f68, Try.func68, by kernel_rfl, rfl⟩
theorem sc5 : Scal Try.prog 5 := scal_of (by kernel_rfl)
theorem fo83_1 : fieldB Try.prog 83 1 = some 1 := by kernel_rfl
theorem fo83_0 : fieldB Try.prog 83 0 = some 0 := by kernel_rfl
theorem sc37 : Scal Try.prog 37 := scal_of (by kernel_rfl)
theorem fo83_2 : fieldB Try.prog 83 2 = some 2 := by kernel_rfl
theorem sc81 : Scal Try.prog 81 := scal_of (by kernel_rfl)
theorem sz81 : sizeB Try.prog 81 = some 1 := by kernel_rfl
theorem goes70 : Goes Try.prog 70 := ⟨Try.f70, Try.func70, by kernel_rfl, rfl⟩
theorem goes57 : Goes Try.prog 57 := ⟨Try.f57, Try.func57, by kernel_rfl, rfl⟩
theorem goes59 : Goes Try.prog 59 := ⟨Try.f59, Try.func59, by kernel_rfl, rfl⟩
theorem goes60 : Goes Try.prog 60 := ⟨Try.f60, Try.func60, by kernel_rfl, rfl⟩
theorem bu65_0_1_2 (a0 : Int) (a1 : Int) (a2 : Int) : Try.prog.built 65 [(0, .int .i64 a0), (1, .int .i64 a1), (2, .int .i64 a2)] = some [.int .i64 a0, .int .i64 a1, .int .i64 a2].toArray := by kernel_rfl
theorem bu83_0 (a0 : Option Addr) (l0 c0 : Nat) : Try.prog.built 83 [(0, .slice a0 l0 c0)] = some [.slice a0 l0 c0, .int .i64 0, .int .u64 0].toArray := by kernel_rfl
theorem goes55 : Goes Try.prog 55 := ⟨Try.f55, Try.func55, by kernel_rfl, rfl⟩
theorem goes64 : Goes Try.prog 64 := ⟨Try.f64, Try.func64, by kernel_rfl, rfl⟩
theorem goes66 : Goes Try.prog 66 := ⟨Try.f66, Try.func66, by kernel_rfl, rfl⟩
theorem goes17 : Goes Try.prog 17 := ⟨Try.f17, Try.func17, by kernel_rfl, rfl⟩
theorem goes27 : Goes Try.prog 27 := ⟨Try.f27, Try.func27, by kernel_rfl, rfl⟩
theorem goes28 : Goes Try.prog 28 := ⟨Try.f28, Try.func28, by kernel_rfl, rfl⟩
theorem goes29 : Goes Try.prog 29 := ⟨Try.f29, Try.func29, by kernel_rfl, rfl⟩
theorem goes30 : Goes Try.prog 30 := ⟨Try.f30, Try.func30, by kernel_rfl, rfl⟩
theorem goes31 : Goes Try.prog 31 := ⟨Try.f31, Try.func31, by kernel_rfl, rfl⟩
theorem goes32 : Goes Try.prog 32 := ⟨Try.f32, Try.func32, by kernel_rfl, rfl⟩
theorem goes33 : Goes Try.prog 33 := ⟨Try.f33, Try.func33, by kernel_rfl, rfl⟩
theorem goes23 : Goes Try.prog 23 := ⟨Try.f23, Try.func23, by kernel_rfl, rfl⟩
theorem goes34 : Goes Try.prog 34 := ⟨Try.f34, Try.func34, by kernel_rfl, rfl⟩
theorem goes35 : Goes Try.prog 35 := ⟨Try.f35, Try.func35, by kernel_rfl, rfl⟩
theorem goes36 : Goes Try.prog 36 := ⟨Try.f36, Try.func36, by kernel_rfl, rfl⟩
theorem goes38 : Goes Try.prog 38 := ⟨Try.f38, Try.func38, by kernel_rfl, rfl⟩
theorem goes39 : Goes Try.prog 39 := ⟨Try.f39, Try.func39, by kernel_rfl, rfl⟩
theorem sz4 : sizeB Try.prog 4 = some 1 := by kernel_rfl
theorem sc4 : Scal Try.prog 4 := scal_of (by kernel_rfl)
theorem goes46 : Goes Try.prog 46 := ⟨Try.f46, Try.func46, by kernel_rfl, rfl⟩
theorem goes48 : Goes Try.prog 48 := ⟨Try.f48, Try.func48, by kernel_rfl, rfl⟩
theorem goes54 : Goes Try.prog 54 := ⟨Try.f54, Try.func54, by kernel_rfl, rfl⟩
theorem sc30 : Scal Try.prog 30 := scal_of (by kernel_rfl)
theorem ze4 : zeroB Try.prog 4 = some ([.bool false]) := by kernel_rfl
theorem by4 : bytesB Try.prog 4 = some 1 := by kernel_rfl
theorem ze39 : zeroB Try.prog 39 = some ([.slice none 0 0]) := by kernel_rfl
theorem sz39 : sizeB Try.prog 39 = some 1 := by kernel_rfl
theorem by39 : bytesB Try.prog 39 = some 24 := by kernel_rfl
theorem sc39 : Scal Try.prog 39 := scal_of (by kernel_rfl)
theorem goes42 : Goes Try.prog 42 := ⟨Try.f42, Try.func42, by kernel_rfl, rfl⟩
theorem goes52 : Goes Try.prog 52 := ⟨Try.f52, Try.func52, by kernel_rfl, rfl⟩
theorem goes7 : Goes Try.prog 7 := ⟨Try.f7, Try.func7, by kernel_rfl, rfl⟩
theorem goes8 : Goes Try.prog 8 := ⟨Try.f8, Try.func8, by kernel_rfl, rfl⟩
theorem goes10 : Goes Try.prog 10 := ⟨Try.f10, Try.func10, by kernel_rfl, rfl⟩
theorem goes11 : Goes Try.prog 11 := ⟨Try.f11, Try.func11, by kernel_rfl, rfl⟩
theorem goes9 : Goes Try.prog 9 := ⟨Try.f9, Try.func9, by kernel_rfl, rfl⟩
theorem goes12 : Goes Try.prog 12 := ⟨Try.f12, Try.func12, by kernel_rfl, rfl⟩
theorem goes13 : Goes Try.prog 13 := ⟨Try.f13, Try.func13, by kernel_rfl, rfl⟩
theorem goes14 : Goes Try.prog 14 := ⟨Try.f14, Try.func14, by kernel_rfl, rfl⟩
theorem goes15 : Goes Try.prog 15 := ⟨Try.f15, Try.func15, by kernel_rfl, rfl⟩
theorem goes16 : Goes Try.prog 16 := ⟨Try.f16, Try.func16, by kernel_rfl, rfl⟩
theorem bu44_0_1_2 (a0 : Int) (a1 : Int) (a2 : Int) : Try.prog.built 44 [(0, .int .i64 a0), (1, .int .i64 a1), (2, .int .i64 a2)] = some [.int .i64 a0, .int .i64 a1, .int .i64 a2].toArray := by kernel_rfl
theorem goes56 : Goes Try.prog 56 := ⟨Try.f56, Try.func56, by kernel_rfl, rfl⟩
theorem goes18 : Goes Try.prog 18 := ⟨Try.f18, Try.func18, by kernel_rfl, rfl⟩
theorem goes19 : Goes Try.prog 19 := ⟨Try.f19, Try.func19, by kernel_rfl, rfl⟩
theorem goes20 : Goes Try.prog 20 := ⟨Try.f20, Try.func20, by kernel_rfl, rfl⟩
theorem goes21 : Goes Try.prog 21 := ⟨Try.f21, Try.func21, by kernel_rfl, rfl⟩
theorem goes22 : Goes Try.prog 22 := ⟨Try.f22, Try.func22, by kernel_rfl, rfl⟩
theorem goes24 : Goes Try.prog 24 := ⟨Try.f24, Try.func24, by kernel_rfl, rfl⟩
theorem goes26 : Goes Try.prog 26 := ⟨Try.f26, Try.func26, by kernel_rfl, rfl⟩
end Go.Proofs.Ytgnnlgmeagipjaa
