import Derived.Test.YtbmeoidbplecaaaChecked
import Derived.Test.YtbmeoidbplecaaaKg
import Derived.KernelRfl
set_option linter.unusedVariables false
set_option linter.unusedSimpArgs false
namespace Go.Proofs.Ytbmeoidbplecaaa
open Go Go.RowKit K
theorem ze35 : zeroB Try.prog 35 = some ([.int .i64 0, .int .i64 0]) := by kernel_rfl
theorem sz3 : sizeB Try.prog 3 = some 1 := by kernel_rfl
theorem sc3 : Scal Try.prog 3 := scal_of (by kernel_rfl)
theorem ag35 : Agg Try.prog 35 2 := agg_of (by kernel_rfl)
theorem sz35 : sizeB Try.prog 35 = some 2 := by kernel_rfl
theorem by35 : bytesB Try.prog 35 = some 16 := by kernel_rfl
theorem goes19 : Goes Try.prog 19 := ⟨Try.f19, Try.func19, by kernel_rfl, rfl⟩
theorem goes26 : Goes Try.prog 26 := ⟨Try.f26, Try.func26, by kernel_rfl, rfl⟩
theorem fo28_0 : fieldB Try.prog 28 0 = some 0 := by kernel_rfl
theorem goes22 : Goes Try.prog 22 := ⟨Try.f22, Try.func22, by kernel_rfl, rfl⟩
theorem fo28_1 : fieldB Try.prog 28 1 = some 1 := by kernel_rfl
theorem fo28_2 : fieldB Try.prog 28 2 = some 2 := by kernel_rfl
theorem sc22 : Scal Try.prog 22 := scal_of (by kernel_rfl)
theorem goes16 : Goes Try.prog 16 := ⟨Try.f16, Try.func16, by kernel_rfl, rfl⟩
theorem ag28 : Agg Try.prog 28 3 := agg_of (by kernel_rfl)
theorem goes27 : Goes Try.prog 27 := ⟨Try.f27, Try.func27, by kernel_rfl, rfl⟩
theorem goes11 : Goes Try.prog 11 := ⟨Try.f11, Try.func11, by kernel_rfl, rfl⟩
theorem fo24_2 : fieldB Try.prog 24 2 = some 2 := by kernel_rfl
theorem goes9 : Goes Try.prog 9 := ⟨Try.f9, Try.func9, by kernel_rfl, rfl⟩
theorem ze28 : zeroB Try.prog 28 = some ([.int .i64 0, .int .i64 0, .slice none 0 0]) := by kernel_rfl
theorem fo24_0 : fieldB Try.prog 24 0 = some 0 := by kernel_rfl
theorem fo24_1 : fieldB Try.prog 24 1 = some 1 := by kernel_rfl
theorem goes12 : Goes Try.prog 12 := ⟨Try.f12, Try.func12, by kernel_rfl, rfl⟩
theorem sz22 : sizeB Try.prog 22 = some 1 := by kernel_rfl
theorem sz28 : sizeB Try.prog 28 = some 3 := by kernel_rfl
theorem goes14 : Goes Try.prog 14 := ⟨Try.f14, Try.func14, by kernel_rfl, rfl⟩
theorem bu35_0_1 (a0 : Int) (a1 : Int) : Try.prog.built 35 [(0, .int .i64 a0), (1, .int .i64 a1)] = some [.int .i64 a0, .int .i64 a1].toArray := by kernel_rfl
theorem goes33 : Goes Try.prog 33 := ⟨Try.f33, Try.func33, by kernel_rfl, rfl⟩
theorem goes28 : Goes Try.prog 28 := ⟨Try.f28, Try.func28, by kernel_rfl, rfl⟩
theorem goes29 : Goes Try.prog 29 := ⟨Try.f29, Try.func29, by kernel_rfl, rfl⟩
theorem goes30 : Goes Try.prog 30 := ⟨Try.f30, Try.func30, by kernel_rfl, rfl⟩
theorem bu42_0 (a0 : Int) (a1 : Int) (a2 : Option Addr) (l2 c2 : Nat) : Try.prog.built 42 [(0, .agg [.int .i64 a0, .int .i64 a1, .slice a2 l2 c2].toArray)] = some [.int .i64 a0, .int .i64 a1, .slice a2 l2 c2, .slice none 0 0, .int .i64 0].toArray := by kernel_rfl
theorem fo42_0 : fieldB Try.prog 42 0 = some 0 := by kernel_rfl
theorem bu61_0_1_2 (a0 : Int) (a1 : Int) (a2 : Int) : Try.prog.built 61 [(0, .int .i64 a0), (1, .int .i64 a1), (2, .int .i64 a2)] = some [.int .i64 a0, .int .i64 a1, .int .i64 a2].toArray := by kernel_rfl
theorem ze61 : zeroB Try.prog 61 = some ([.int .i64 0, .int .i64 0, .int .i64 0]) := by kernel_rfl
theorem sz61 : sizeB Try.prog 61 = some 3 := by kernel_rfl
theorem by61 : bytesB Try.prog 61 = some 24 := by kernel_rfl
theorem goes36 : Goes Try.prog 36 := ⟨Try.f36, Try.func36, by kernel_rfl, rfl⟩
theorem fo42_1 : fieldB Try.prog 42 1 = some 3 := by kernel_rfl
theorem sc40 : Scal Try.prog 40 := scal_of (by kernel_rfl)
theorem goes37 : Goes Try.prog 37 := ⟨Try.f37, Try.func37, by kernel_rfl, rfl⟩
theorem sz40 : sizeB Try.prog 40 = some 1 := by kernel_rfl
theorem goes34 : Goes Try.prog 34 := ⟨Try.f34, Try.func34, by kernel_rfl, rfl⟩
theorem goes35 : Goes Try.prog 35 := ⟨Try.f35, Try.func35, by kernel_rfl, rfl⟩
theorem fo42_2 : fieldB Try.prog 42 2 = some 4 := by kernel_rfl
theorem goes31 : Goes Try.prog 31 := ⟨Try.f31, Try.func31, by kernel_rfl, rfl⟩
theorem goes32 : Goes Try.prog 32 := ⟨Try.f32, Try.func32, by kernel_rfl, rfl⟩
theorem goes20 : Goes Try.prog 20 := ⟨Try.f20, Try.func20, by kernel_rfl, rfl⟩
theorem goes21 : Goes Try.prog 21 := ⟨Try.f21, Try.func21, by kernel_rfl, rfl⟩
theorem goes24 : Goes Try.prog 24 := ⟨Try.f24, Try.func24, by kernel_rfl, rfl⟩
theorem goes23 : Goes Try.prog 23 := ⟨Try.f23, Try.func23, by kernel_rfl, rfl⟩
theorem goes25 : Goes Try.prog 25 := ⟨Try.f25, Try.func25, by kernel_rfl, rfl⟩
theorem goes15 : Goes Try.prog 15 := ⟨Try.f15, Try.func15, by kernel_rfl, rfl⟩
theorem goes17 : Goes Try.prog 17 := ⟨Try.f17, Try.func17, by kernel_rfl, rfl⟩
theorem goes18 : Goes Try.prog 18 := ⟨Try.f18, Try.func18, by kernel_rfl, rfl⟩
theorem goes13 : Goes Try.prog 13 := ⟨Try.f13, Try.func13, by kernel_rfl, rfl⟩
theorem goes10 : Goes Try.prog 10 := ⟨Try.f10, Try.func10, by kernel_rfl, rfl⟩
theorem ag24 : Agg Try.prog 24 3 := agg_of (by kernel_rfl)
theorem goes4 : Goes Try.prog 4 := ⟨Try.f4, Try.func4, by kernel_rfl, rfl⟩
theorem goes6 : Goes Try.prog 6 := ⟨Try.f6, Try.func6, by kernel_rfl, rfl⟩
theorem goes5 : Goes Try.prog 5 := ⟨Try.f5, Try.func5, by kernel_rfl, rfl⟩
theorem goes7 : Goes Try.prog 7 := ⟨Try.f7, Try.func7, by kernel_rfl, rfl⟩
theorem goes8 : Goes Try.prog 8 := ⟨Try.f8, Try.func8, by kernel_rfl, rfl⟩
end Go.Proofs.Ytbmeoidbplecaaa
