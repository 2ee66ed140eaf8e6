import Derived.Test.YtnnhkpecgchgiaaChecked
import Derived.Test.YtnnhkpecgchgiaaKg
import Derived.KernelRfl
set_option linter.unusedVariables false
set_option linter.unusedSimpArgs false
namespace Go.Proofs.Ytnnhkpecgchgiaa
open Go Go.RowKit K
theorem ze81 : zeroB Try.prog 81 = some ([.int .i64 0, .int .i64 0]) := by kernel_rfl
theorem sz3 : sizeB Try.prog 3 = some 1 := by kernel_rfl
theorem sc3 : Scal Try.prog 3 := scal_of (by kernel_rfl)
theorem ag81 : Agg Try.prog 81 2 := agg_of (by kernel_rfl)
theorem sz81 : sizeB Try.prog 81 = some 2 := by kernel_rfl
theorem by81 : bytesB Try.prog 81 = some 16 := by kernel_rfl
theorem goes132 : Goes Try.prog 132 := ⟨Try.f132, Try.func132, by kernel_rfl, rfl⟩
theorem goes134 : Goes Try.prog 134 := ⟨Try.f134, Try.func134, by kernel_rfl, rfl⟩
theorem fo26_0 : fieldB Try.prog 26 0 = some 0 := by kernel_rfl
theorem goes112 : Goes Try.prog 112 := ⟨Try.f112, Try.func112, by kernel_rfl, rfl⟩
theorem fo26_1 : fieldB Try.prog 26 1 = some 1 := by kernel_rfl
theorem fo26_2 : fieldB Try.prog 26 2 = some 2 := by kernel_rfl
theorem sc22 : Scal Try.prog 22 := scal_of (by kernel_rfl)
theorem goes116 : Goes Try.prog 116 := ⟨Try.f116, Try.func116, by kernel_rfl, rfl⟩
theorem ag26 : Agg Try.prog 26 3 := agg_of (by kernel_rfl)
theorem goes126 : Goes Try.prog 126 := ⟨Try.f126, Try.func126, by kernel_rfl, rfl⟩
theorem goes84 : Goes Try.prog 84 := ⟨Try.f84, Try.func84, by kernel_rfl, rfl⟩
theorem fo24_2 : fieldB Try.prog 24 2 = some 2 := by kernel_rfl
theorem goes73 : Goes Try.prog 73 := ⟨Try.f73, Try.func73, by kernel_rfl, rfl⟩
theorem ze26 : zeroB Try.prog 26 = some ([.int .i64 0, .int .i64 0, .slice none 0 0]) := by kernel_rfl
theorem fo24_0 : fieldB Try.prog 24 0 = some 0 := by kernel_rfl
theorem fo24_1 : fieldB Try.prog 24 1 = some 1 := by kernel_rfl
theorem goes76 : Goes Try.prog 76 := ⟨Try.f76, Try.func76, by kernel_rfl, rfl⟩
theorem sz22 : sizeB Try.prog 22 = some 1 := by kernel_rfl
theorem sz26 : sizeB Try.prog 26 = some 3 := by kernel_rfl
theorem goes80 : Goes Try.prog 80 := ⟨Try.f80, Try.func80, by kernel_rfl, rfl⟩
theorem goes81 : Goes Try.prog 81 := ⟨Try.f81, Try.func81, by kernel_rfl, rfl⟩
theorem goes99 : Goes Try.prog 99 := ⟨Try.f99, Try.func99, by kernel_rfl, rfl⟩
theorem bu81_0_1 (a0 : Int) (a1 : Int) : Try.prog.built 81 [(0, .int .i64 a0), (1, .int .i64 a1)] = some [.int .i64 a0, .int .i64 a1].toArray := by kernel_rfl
theorem goes145 : Goes Try.prog 145 := ⟨Try.f145, Try.func145, by kernel_rfl, rfl⟩
theorem bu26_0_1_2 (a0 : Int) (a1 : Int) (a2 : Option Addr) (l2 c2 : Nat) : Try.prog.built 26 [(0, .int .i64 a0), (1, .int .i64 a1), (2, .slice a2 l2 c2)] = some [.int .i64 a0, .int .i64 a1, .slice a2 l2 c2].toArray := by kernel_rfl
theorem goes78 : Goes Try.prog 78 := ⟨Try.f78, Try.func78, by kernel_rfl, rfl⟩
theorem goes122 : Goes Try.prog 122 := ⟨Try.f122, Try.func122, by kernel_rfl, rfl⟩
theorem goes107 : Goes Try.prog 107 := ⟨Try.f107, Try.func107, by kernel_rfl, rfl⟩
theorem goes124 : Goes Try.prog 124 := ⟨Try.f124, Try.func124, by kernel_rfl, rfl⟩
theorem goes113 : Goes Try.prog 113 := ⟨Try.f113, Try.func113, by kernel_rfl, rfl⟩
theorem goes133 : Goes Try.prog 133 := ⟨Try.f133, Try.func133, by kernel_rfl, rfl⟩
theorem bu91_0 (a0 : Int) (a1 : Int) (a2 : Option Addr) (l2 c2 : Nat) : Try.prog.built 91 [(0, .agg [.int .i64 a0, .int .i64 a1, .slice a2 l2 c2].toArray)] = some [.int .i64 a0, .int .i64 a1, .slice a2 l2 c2, .slice none 0 0, .int .i64 0].toArray := by kernel_rfl
theorem fo91_0 : fieldB Try.prog 91 0 = some 0 := by kernel_rfl
theorem bu128_0_1_2 (a0 : Int) (a1 : Int) (a2 : Int) : Try.prog.built 128 [(0, .int .i64 a0), (1, .int .i64 a1), (2, .int .i64 a2)] = some [.int .i64 a0, .int .i64 a1, .int .i64 a2].toArray := by kernel_rfl
theorem ze128 : zeroB Try.prog 128 = some ([.int .i64 0, .int .i64 0, .int .i64 0]) := by kernel_rfl
theorem sz128 : sizeB Try.prog 128 = some 3 := by kernel_rfl
theorem by128 : bytesB Try.prog 128 = some 24 := by kernel_rfl
theorem fo91_1 : fieldB Try.prog 91 1 = some 3 := by kernel_rfl
theorem sc86 : Scal Try.prog 86 := scal_of (by kernel_rfl)
theorem goes153 : Goes Try.prog 153 := ⟨Try.f153, Try.func153, by kernel_rfl, rfl⟩
theorem sz86 : sizeB Try.prog 86 = some 1 := by kernel_rfl
theorem goes151 : Goes Try.prog 151 := ⟨Try.f151, Try.func151, by kernel_rfl, rfl⟩
theorem goes152 : Goes Try.prog 152 := ⟨Try.f152, Try.func152, by kernel_rfl, rfl⟩
theorem fo91_2 : fieldB Try.prog 91 2 = some 4 := by kernel_rfl
theorem ze3 : zeroB Try.prog 3 = some ([.int .i64 0]) := by kernel_rfl
theorem by3 : bytesB Try.prog 3 = some 8 := by kernel_rfl
theorem goes114 : Goes Try.prog 114 := ⟨Try.f114, Try.func114, by kernel_rfl, rfl⟩
theorem goes88 : Goes Try.prog 88 := ⟨Try.f88, Try.func88, by kernel_rfl, rfl⟩
theorem goes77 : Goes Try.prog 77 := ⟨Try.f77, Try.func77, by kernel_rfl, rfl⟩
theorem goes138 : Goes Try.prog 138 := ⟨Try.f138, Try.func138, by kernel_rfl, rfl⟩
theorem goes87 : Goes Try.prog 87 := ⟨Try.f87, Try.func87, by kernel_rfl, rfl⟩
theorem goes139 : Goes Try.prog 139 := ⟨Try.f139, Try.func139, by kernel_rfl, rfl⟩
theorem goes121 : Goes Try.prog 121 := ⟨Try.f121, Try.func121, by kernel_rfl, rfl⟩
theorem goes140 : Goes Try.prog 140 := ⟨Try.f140, Try.func140, by kernel_rfl, rfl⟩
theorem goes135 : Goes Try.prog 135 := ⟨Try.f135, Try.func135, by kernel_rfl, rfl⟩
theorem goes136 : Goes Try.prog 136 := ⟨Try.f136, Try.func136, by kernel_rfl, rfl⟩
theorem goes96 : Goes Try.prog 96 := ⟨Try.f96, Try.func96, by kernel_rfl, rfl⟩
theorem bu26_  : Try.prog.built 26 [] = some [.int .i64 0, .int .i64 0, .slice none 0 0].toArray := by kernel_rfl
theorem goes98 : Goes Try.prog 98 := ⟨Try.f98, Try.func98, by kernel_rfl, rfl⟩
theorem goes91 : Goes Try.prog 91 := ⟨Try.f91, Try.func91, by kernel_rfl, rfl⟩
theorem goes102 : Goes Try.prog 102 := ⟨Try.f102, Try.func102, by kernel_rfl, rfl⟩
theorem goes74 : Goes Try.prog 74 := ⟨Try.f74, Try.func74, by kernel_rfl, rfl⟩
theorem goes127 : Goes Try.prog 127 := ⟨Try.f127, Try.func127, by kernel_rfl, rfl⟩
theorem goes93 : Goes Try.prog 93 := ⟨Try.f93, Try.func93, by kernel_rfl, rfl⟩
theorem goes137 : Goes Try.prog 137 := ⟨Try.f137, Try.func137, by kernel_rfl, rfl⟩
theorem goes94 : Goes Try.prog 94 := ⟨Try.f94, Try.func94, by kernel_rfl, rfl⟩
theorem goes95 : Goes Try.prog 95 := ⟨Try.f95, Try.func95, by kernel_rfl, rfl⟩
theorem goes101 : Goes Try.prog 101 := ⟨Try.f101, Try.func101, by kernel_rfl, rfl⟩
theorem goes92 : Goes Try.prog 92 := ⟨Try.f92, Try.func92, by kernel_rfl, rfl⟩
theorem goes103 : Goes Try.prog 103 := ⟨Try.f103, Try.func103, by kernel_rfl, rfl⟩
theorem goes97 : Goes Try.prog 97 := ⟨Try.f97, Try.func97, by kernel_rfl, rfl⟩
theorem goes89 : Goes Try.prog 89 := ⟨Try.f89, Try.func89, by kernel_rfl, rfl⟩
theorem goes90 : Goes Try.prog 90 := ⟨Try.f90, Try.func90, by kernel_rfl, rfl⟩
theorem goes100 : Goes Try.prog 100 := ⟨Try.f100, Try.func100, by kernel_rfl, rfl⟩
theorem ag24 : Agg Try.prog 24 3 := agg_of (by kernel_rfl)
theorem goes15 : Goes Try.prog 15 := ⟨Try.f15, Try.func15, by kernel_rfl, rfl⟩
theorem goes17 : Goes Try.prog 17 := ⟨Try.f17, Try.func17, by kernel_rfl, rfl⟩
theorem goes35 : Goes Try.prog 35 := ⟨Try.f35, Try.func35, by kernel_rfl, rfl⟩
theorem goes36 : Goes Try.prog 36 := ⟨Try.f36, Try.func36, by kernel_rfl, rfl⟩
theorem goes20 : Goes Try.prog 20 := ⟨Try.f20, Try.func20, by kernel_rfl, rfl⟩
theorem goes21 : Goes Try.prog 21 := ⟨Try.f21, Try.func21, by kernel_rfl, rfl⟩
theorem goes37 : Goes Try.prog 37 := ⟨Try.f37, Try.func37, by kernel_rfl, rfl⟩
theorem goes38 : Goes Try.prog 38 := ⟨Try.f38, Try.func38, by kernel_rfl, rfl⟩
theorem goes39 : Goes Try.prog 39 := ⟨Try.f39, Try.func39, by kernel_rfl, rfl⟩
theorem goes42 : Goes Try.prog 42 := ⟨Try.f42, Try.func42, by kernel_rfl, rfl⟩
theorem goes43 : Goes Try.prog 43 := ⟨Try.f43, Try.func43, by kernel_rfl, rfl⟩
theorem goes40 : Goes Try.prog 40 := ⟨Try.f40, Try.func40, by kernel_rfl, rfl⟩
theorem goes41 : Goes Try.prog 41 := ⟨Try.f41, Try.func41, by kernel_rfl, rfl⟩
theorem goes33 : Goes Try.prog 33 := ⟨Try.f33, Try.func33, by kernel_rfl, rfl⟩
theorem goes34 : Goes Try.prog 34 := ⟨Try.f34, Try.func34, by kernel_rfl, rfl⟩
theorem goes31 : Goes Try.prog 31 := ⟨Try.f31, Try.func31, by kernel_rfl, rfl⟩
theorem goes32 : Goes Try.prog 32 := ⟨Try.f32, Try.func32, by kernel_rfl, rfl⟩
theorem fo39_0 : fieldB Try.prog 39 0 = some 0 := by kernel_rfl
theorem fo39_1 : fieldB Try.prog 39 1 = some 3 := by kernel_rfl
theorem sc27 : Scal Try.prog 27 := scal_of (by kernel_rfl)
theorem goes82 : Goes Try.prog 82 := ⟨Try.f82, Try.func82, by kernel_rfl, rfl⟩
theorem fo39_2 : fieldB Try.prog 39 2 = some 4 := by kernel_rfl
theorem ze29 : zeroB Try.prog 29 = some ([.int .i64 0, .int .i64 0, .slice none 0 0, .slice none 0 0, .slice none 0 0, .int .i64 0, .int .i64 0]) := by kernel_rfl
theorem fo29_0 : fieldB Try.prog 29 0 = some 0 := by kernel_rfl
theorem goes85 : Goes Try.prog 85 := ⟨Try.f85, Try.func85, by kernel_rfl, rfl⟩
theorem fo29_1 : fieldB Try.prog 29 1 = some 3 := by kernel_rfl
theorem sz27 : sizeB Try.prog 27 = some 1 := by kernel_rfl
theorem fo29_2 : fieldB Try.prog 29 2 = some 4 := by kernel_rfl
theorem fo39_3 : fieldB Try.prog 39 3 = some 5 := by kernel_rfl
theorem fo29_3 : fieldB Try.prog 29 3 = some 5 := by kernel_rfl
theorem fo39_4 : fieldB Try.prog 39 4 = some 6 := by kernel_rfl
theorem fo29_4 : fieldB Try.prog 29 4 = some 6 := by kernel_rfl
theorem ag29 : Agg Try.prog 29 7 := agg_of (by kernel_rfl)
theorem sz29 : sizeB Try.prog 29 = some 7 := by kernel_rfl
theorem goes28 : Goes Try.prog 28 := ⟨Try.f28, Try.func28, by kernel_rfl, rfl⟩
theorem goes29 : Goes Try.prog 29 := ⟨Try.f29, Try.func29, by kernel_rfl, rfl⟩
theorem goes86 : Goes Try.prog 86 := ⟨Try.f86, Try.func86, by kernel_rfl, rfl⟩
theorem goes83 : Goes Try.prog 83 := ⟨Try.f83, Try.func83, by kernel_rfl, rfl⟩
theorem ag39 : Agg Try.prog 39 7 := agg_of (by kernel_rfl)
theorem goes24 : Goes Try.prog 24 := ⟨Try.f24, Try.func24, by kernel_rfl, rfl⟩
theorem goes26 : Goes Try.prog 26 := ⟨Try.f26, Try.func26, by kernel_rfl, rfl⟩
theorem goes25 : Goes Try.prog 25 := ⟨Try.f25, Try.func25, by kernel_rfl, rfl⟩
theorem goes27 : Goes Try.prog 27 := ⟨Try.f27, Try.func27, by kernel_rfl, rfl⟩
theorem goes19 : Goes Try.prog 19 := ⟨Try.f19, Try.func19, by kernel_rfl, rfl⟩
theorem goes22 : Goes Try.prog 22 := ⟨Try.f22, Try.func22, by kernel_rfl, rfl⟩
theorem goes30 : Goes Try.prog 30 := ⟨Try.f30, Try.func30, by kernel_rfl, rfl⟩
theorem goes106 : Goes Try.prog 106 := ⟨Try.f106, Try.func106, by kernel_rfl, rfl⟩
theorem goes115 : Goes Try.prog 115 := ⟨Try.f115, Try.func115, by kernel_rfl, rfl⟩
theorem goes143 : Goes Try.prog 143 := ⟨Try.f143, Try.func143, by kernel_rfl, rfl⟩
theorem goes141 : Goes Try.prog 141 := ⟨Try.f141, Try.func141, by kernel_rfl, rfl⟩
theorem goes144 : Goes Try.prog 144 := ⟨Try.f144, Try.func144, by kernel_rfl, rfl⟩
theorem bu103_0_1_2 (a0 : Int) (a1 : Int) (a2 : Int) : Try.prog.built 103 [(0, .int .i64 a0), (1, .int .i64 a1), (2, .int .i64 a2)] = some [.int .i64 a0, .int .i64 a1, .int .i64 a2].toArray := by kernel_rfl
theorem ze103 : zeroB Try.prog 103 = some ([.int .i64 0, .int .i64 0, .int .i64 0]) := by kernel_rfl
theorem sz103 : sizeB Try.prog 103 = some 3 := by kernel_rfl
theorem by103 : bytesB Try.prog 103 = some 24 := by kernel_rfl
theorem goes142 : Goes Try.prog 142 := ⟨Try.f142, Try.func142, by kernel_rfl, rfl⟩
theorem goes108 : Goes Try.prog 108 := ⟨Try.f108, Try.func108, by kernel_rfl, rfl⟩
theorem goes48 : Goes Try.prog 48 := ⟨Try.f48, Try.func48, by kernel_rfl, rfl⟩
theorem goes109 : Goes Try.prog 109 := ⟨Try.f109, Try.func109, by kernel_rfl, rfl⟩
theorem ag103 : Agg Try.prog 103 3 := agg_of (by kernel_rfl)
theorem goes110 : Goes Try.prog 110 := ⟨Try.f110, Try.func110, by kernel_rfl, rfl⟩
theorem goes104 : Goes Try.prog 104 := ⟨Try.f104, Try.func104, by kernel_rfl, rfl⟩
theorem goes105 : Goes Try.prog 105 := ⟨Try.f105, Try.func105, by kernel_rfl, rfl⟩
theorem goes44 : Goes Try.prog 44 := ⟨Try.f44, Try.func44, by kernel_rfl, rfl⟩
theorem goes45 : Goes Try.prog 45 := ⟨Try.f45, Try.func45, by kernel_rfl, rfl⟩
theorem bu29_0_1_2_3_4 (a0 : Int) (a1 : Int) (a2 : Option Addr) (l2 c2 : Nat) (a3 : Option Addr) (l3 c3 : Nat) (a4 : Option Addr) (l4 c4 : Nat) (a5 : Int) (a6 : Int) : Try.prog.built 29 [(0, .agg [.int .i64 a0, .int .i64 a1, .slice a2 l2 c2].toArray), (1, .slice a3 l3 c3), (2, .slice a4 l4 c4), (3, .int .i64 a5), (4, .int .i64 a6)] = some [.int .i64 a0, .int .i64 a1, .slice a2 l2 c2, .slice a3 l3 c3, .slice a4 l4 c4, .int .i64 a5, .int .i64 a6].toArray := by kernel_rfl
theorem bu29_  : Try.prog.built 29 [] = some [.int .i64 0, .int .i64 0, .slice none 0 0, .slice none 0 0, .slice none 0 0, .int .i64 0, .int .i64 0].toArray := by kernel_rfl
theorem bu29_0 (a0 : Int) (a1 : Int) (a2 : Option Addr) (l2 c2 : Nat) : Try.prog.built 29 [(0, .agg [.int .i64 a0, .int .i64 a1, .slice a2 l2 c2].toArray)] = some [.int .i64 a0, .int .i64 a1, .slice a2 l2 c2, .slice none 0 0, .slice none 0 0, .int .i64 0, .int .i64 0].toArray := by kernel_rfl
theorem goes79 : Goes Try.prog 79 := ⟨Try.f79, Try.func79, by kernel_rfl, rfl⟩
theorem goes75 : Goes Try.prog 75 := ⟨Try.f75, Try.func75, by kernel_rfl, rfl⟩
theorem goes16 : Goes Try.prog 16 := ⟨Try.f16, Try.func16, by kernel_rfl, rfl⟩
theorem goes18 : Goes Try.prog 18 := ⟨Try.f18, Try.func18, by kernel_rfl, rfl⟩
theorem goes23 : Goes Try.prog 23 := ⟨Try.f23, Try.func23, by kernel_rfl, rfl⟩
end Go.Proofs.Ytnnhkpecgchgiaa
