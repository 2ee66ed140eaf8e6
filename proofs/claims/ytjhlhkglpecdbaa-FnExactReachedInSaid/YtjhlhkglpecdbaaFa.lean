import Derived.Test.YtjhlhkglpecdbaaChecked
import Derived.Test.YtjhlhkglpecdbaaKg
import Derived.KernelRfl
set_option linter.unusedVariables false
set_option linter.unusedSimpArgs false
namespace Go.Proofs.Ytjhlhkglpecdbaa
open Go Go.RowKit K
theorem ze43 : zeroB Try.prog 43 = some ([.int .i64 0, .int .i64 0]) := by kernel_rfl
theorem sz3 : sizeB Try.prog 3 = some 1 := by kernel_rfl
theorem sc3 : Scal Try.prog 3 := scal_of (by kernel_rfl)
theorem ag43 : Agg Try.prog 43 2 := agg_of (by kernel_rfl)
theorem sz43 : sizeB Try.prog 43 = some 2 := by kernel_rfl
theorem by43 : bytesB Try.prog 43 = some 16 := by kernel_rfl
theorem goes27 : Goes Try.prog 27 := ⟨Try.f27, Try.func27, by kernel_rfl, rfl⟩
theorem goes31 : Goes Try.prog 31 := ⟨Try.f31, Try.func31, by kernel_rfl, rfl⟩
theorem fo29_0 : fieldB Try.prog 29 0 = some 0 := by kernel_rfl
theorem goes19 : Goes Try.prog 19 := ⟨Try.f19, Try.func19, by kernel_rfl, rfl⟩
theorem fo29_1 : fieldB Try.prog 29 1 = some 1 := by kernel_rfl
theorem fo29_2 : fieldB Try.prog 29 2 = some 2 := by kernel_rfl
theorem sc22 : Scal Try.prog 22 := scal_of (by kernel_rfl)
theorem goes15 : Goes Try.prog 15 := ⟨Try.f15, Try.func15, by kernel_rfl, rfl⟩
theorem fo24_2 : fieldB Try.prog 24 2 = some 2 := by kernel_rfl
theorem goes13 : Goes Try.prog 13 := ⟨Try.f13, Try.func13, by kernel_rfl, rfl⟩
theorem ze29 : zeroB Try.prog 29 = some ([.int .i64 0, .int .i64 0, .slice none 0 0]) := by kernel_rfl
theorem fo24_0 : fieldB Try.prog 24 0 = some 0 := by kernel_rfl
theorem fo24_1 : fieldB Try.prog 24 1 = some 1 := by kernel_rfl
theorem goes17 : Goes Try.prog 17 := ⟨Try.f17, Try.func17, by kernel_rfl, rfl⟩
theorem sz22 : sizeB Try.prog 22 = some 1 := by kernel_rfl
theorem ag29 : Agg Try.prog 29 3 := agg_of (by kernel_rfl)
theorem sz29 : sizeB Try.prog 29 = some 3 := by kernel_rfl
theorem goes21 : Goes Try.prog 21 := ⟨Try.f21, Try.func21, by kernel_rfl, rfl⟩
theorem goes22 : Goes Try.prog 22 := ⟨Try.f22, Try.func22, by kernel_rfl, rfl⟩
theorem ze3 : zeroB Try.prog 3 = some ([.int .i64 0]) := by kernel_rfl
theorem by3 : bytesB Try.prog 3 = some 8 := by kernel_rfl
theorem bu43_0_1 (a0 : Int) (a1 : Int) : Try.prog.built 43 [(0, .int .i64 a0), (1, .int .i64 a1)] = some [.int .i64 a0, .int .i64 a1].toArray := by kernel_rfl
theorem goes23 : Goes Try.prog 23 := ⟨Try.f23, Try.func23, by kernel_rfl, rfl⟩
theorem goes16 : Goes Try.prog 16 := ⟨Try.f16, Try.func16, by kernel_rfl, rfl⟩
theorem goes24 : Goes Try.prog 24 := ⟨Try.f24, Try.func24, by kernel_rfl, rfl⟩
theorem goes25 : Goes Try.prog 25 := ⟨Try.f25, Try.func25, by kernel_rfl, rfl⟩
theorem goes26 : Goes Try.prog 26 := ⟨Try.f26, Try.func26, by kernel_rfl, rfl⟩
theorem goes14 : Goes Try.prog 14 := ⟨Try.f14, Try.func14, by kernel_rfl, rfl⟩
theorem goes29 : Goes Try.prog 29 := ⟨Try.f29, Try.func29, by kernel_rfl, rfl⟩
theorem goes28 : Goes Try.prog 28 := ⟨Try.f28, Try.func28, by kernel_rfl, rfl⟩
theorem goes30 : Goes Try.prog 30 := ⟨Try.f30, Try.func30, by kernel_rfl, rfl⟩
theorem goes20 : Goes Try.prog 20 := ⟨Try.f20, Try.func20, by kernel_rfl, rfl⟩
theorem goes18 : Goes Try.prog 18 := ⟨Try.f18, Try.func18, by kernel_rfl, rfl⟩
theorem ag24 : Agg Try.prog 24 3 := agg_of (by kernel_rfl)
theorem goes4 : Goes Try.prog 4 := ⟨Try.f4, Try.func4, by kernel_rfl, rfl⟩
theorem goes6 : Goes Try.prog 6 := ⟨Try.f6, Try.func6, by kernel_rfl, rfl⟩
theorem goes5 : Goes Try.prog 5 := ⟨Try.f5, Try.func5, by kernel_rfl, rfl⟩
theorem goes7 : Goes Try.prog 7 := ⟨Try.f7, Try.func7, by kernel_rfl, rfl⟩
theorem goes8 : Goes Try.prog 8 := ⟨Try.f8, Try.func8, by kernel_rfl, rfl⟩
theorem goes9 : Goes Try.prog 9 := ⟨Try.f9, Try.func9, by kernel_rfl, rfl⟩
theorem goes10 : Goes Try.prog 10 := ⟨Try.f10, Try.func10, by kernel_rfl, rfl⟩
theorem goes11 : Goes Try.prog 11 := ⟨Try.f11, Try.func11, by kernel_rfl, rfl⟩
theorem goes12 : Goes Try.prog 12 := ⟨Try.f12, Try.func12, by kernel_rfl, rfl⟩
end Go.Proofs.Ytjhlhkglpecdbaa
