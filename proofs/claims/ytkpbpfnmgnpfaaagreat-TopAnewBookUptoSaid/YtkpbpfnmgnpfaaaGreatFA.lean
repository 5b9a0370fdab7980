/- book: static facts of the program (written by wip/tools/Facts.lean). -/
import Derived.Test.YtkpbpfnmgnpfaaaGreatGB
import Derived.Test.YtkpbpfnmgnpfaaaGreatRows
import Derived.KernelRfl
set_option linter.all false
set_option linter.constructorNameAsVariable false
set_option linter.unusedSimpArgs false
set_option linter.unusedVariables false
set_option linter.unusedSectionVars false
set_option linter.unnecessarySimpa false
namespace Go.Proofs.YtkpbpfnmgnpfaaaGreat
open Go Go.E
theorem mx : Tryz.prog.follows .mixedOrders = true := Checked.mixed Tryz.checked
theorem fo3 : fnOk Tryz.prog 3 = true := by kernel_rfl
theorem co3 : codeOk Tryz.f3.ntmps (bodyC Tryz.f3) = true := by kernel_rfl
theorem zc34 : zcD Tryz.prog 34 = some [.slice none 0 0, .slice none 0 0] := by kernel_rfl
theorem ag31 : agD Tryz.prog 31 = some 13 := by kernel_rfl
theorem ag34 : agD Tryz.prog 34 = some 2 := by kernel_rfl
theorem fo4 : fnOk Tryz.prog 4 = true := by kernel_rfl
theorem co4 : codeOk Tryz.f4.ntmps (bodyC Tryz.f4) = true := by kernel_rfl
theorem fa31_0 : faD Tryz.prog 31 0 = some 0 := by kernel_rfl
theorem ag28 : agD Tryz.prog 28 = some 7 := by kernel_rfl
theorem fa31_1 : faD Tryz.prog 31 1 = some 7 := by kernel_rfl
theorem sc3 : scD Tryz.prog 3 = true := by kernel_rfl
theorem fa31_2 : faD Tryz.prog 31 2 = some 8 := by kernel_rfl
theorem fa31_3 : faD Tryz.prog 31 3 = some 9 := by kernel_rfl
theorem sc29 : scD Tryz.prog 29 = true := by kernel_rfl
theorem fa31_4 : faD Tryz.prog 31 4 = some 10 := by kernel_rfl
theorem fa31_5 : faD Tryz.prog 31 5 = some 11 := by kernel_rfl
theorem fa31_6 : faD Tryz.prog 31 6 = some 12 := by kernel_rfl
theorem fo5 : fnOk Tryz.prog 5 = true := by kernel_rfl
theorem co5 : codeOk Tryz.f5.ntmps (bodyC Tryz.f5) = true := by kernel_rfl
theorem fo6 : fnOk Tryz.prog 6 = true := by kernel_rfl
theorem co6 : codeOk Tryz.f6.ntmps (bodyC Tryz.f6) = true := by kernel_rfl
theorem fo7 : fnOk Tryz.prog 7 = true := by kernel_rfl
theorem co7 : codeOk Tryz.f7.ntmps (bodyC Tryz.f7) = true := by kernel_rfl
theorem fa28_0 : faD Tryz.prog 28 0 = some 0 := by kernel_rfl
theorem sc22 : scD Tryz.prog 22 = true := by kernel_rfl
theorem el22 : elD Tryz.prog 22 = some 1 := by kernel_rfl
theorem ez22 : (elZ Tryz.prog 22).isSome = true := by kernel_rfl
theorem el32 : elD Tryz.prog 32 = some 1 := by kernel_rfl
theorem ez32 : (elZ Tryz.prog 32).isSome = true := by kernel_rfl
theorem fa28_1 : faD Tryz.prog 28 1 = some 1 := by kernel_rfl
theorem sc23 : scD Tryz.prog 23 = true := by kernel_rfl
theorem el23 : elD Tryz.prog 23 = some 4 := by kernel_rfl
theorem ez23 : (elZ Tryz.prog 23).isSome = true := by kernel_rfl
theorem fa28_5 : faD Tryz.prog 28 5 = some 6 := by kernel_rfl
theorem sc26 : scD Tryz.prog 26 = true := by kernel_rfl
theorem el26 : elD Tryz.prog 26 = some 2 := by kernel_rfl
theorem ez26 : (elZ Tryz.prog 26).isSome = true := by kernel_rfl
theorem fa28_2 : faD Tryz.prog 28 2 = some 2 := by kernel_rfl
theorem fa28_3 : faD Tryz.prog 28 3 = some 3 := by kernel_rfl
theorem fa28_4 : faD Tryz.prog 28 4 = some 4 := by kernel_rfl
theorem fa25_0 : faD Tryz.prog 25 0 = some 0 := by kernel_rfl
theorem fa25_1 : faD Tryz.prog 25 1 = some 1 := by kernel_rfl
theorem ag74 : agD Tryz.prog 74 = some 4 := by kernel_rfl
theorem zc74 : zcD Tryz.prog 74 = some [.string .empty, .int .i64 0, .int .i64 0, .int .i64 0] := by kernel_rfl
theorem fa74_1 : faD Tryz.prog 74 1 = some 1 := by kernel_rfl
theorem fa74_2 : faD Tryz.prog 74 2 = some 2 := by kernel_rfl
theorem fa74_3 : faD Tryz.prog 74 3 = some 3 := by kernel_rfl
theorem ag78 : agD Tryz.prog 78 = some 2 := by kernel_rfl
theorem zc78 : zcD Tryz.prog 78 = some [.int .i64 0, .int .i64 0] := by kernel_rfl
theorem fa78_0 : faD Tryz.prog 78 0 = some 0 := by kernel_rfl
theorem fa78_1 : faD Tryz.prog 78 1 = some 1 := by kernel_rfl
theorem fo8 : fnOk Tryz.prog 8 = true := by kernel_rfl
theorem co8 : codeOk Tryz.f8.ntmps (bodyC Tryz.f8) = true := by kernel_rfl
theorem fa34_0 : faD Tryz.prog 34 0 = some 0 := by kernel_rfl
theorem sc32 : scD Tryz.prog 32 = true := by kernel_rfl
theorem ap32_32 : appSz Tryz.prog 32 32 = some 1 := by kernel_rfl
theorem fo9 : fnOk Tryz.prog 9 = true := by kernel_rfl
theorem co9 : codeOk Tryz.f9.ntmps (bodyC Tryz.f9) = true := by kernel_rfl
theorem fo10 : fnOk Tryz.prog 10 = true := by kernel_rfl
theorem co10 : codeOk Tryz.f10.ntmps (bodyC Tryz.f10) = true := by kernel_rfl
theorem fo11 : fnOk Tryz.prog 11 = true := by kernel_rfl
theorem co11 : codeOk Tryz.f11.ntmps (bodyC Tryz.f11) = true := by kernel_rfl
theorem fo12 : fnOk Tryz.prog 12 = true := by kernel_rfl
theorem co12 : codeOk Tryz.f12.ntmps (bodyC Tryz.f12) = true := by kernel_rfl
theorem fo13 : fnOk Tryz.prog 13 = true := by kernel_rfl
theorem co13 : codeOk Tryz.f13.ntmps (bodyC Tryz.f13) = true := by kernel_rfl
theorem zc46 : zcD Tryz.prog 46 = some [.slice none 0 0] := by kernel_rfl
theorem zc49 : zcD Tryz.prog 49 = some [.slice none 0 0, .slice none 0 0, .slice none 0 0, .slice none 0 0] := by kernel_rfl
theorem sc46 : scD Tryz.prog 46 = true := by kernel_rfl
theorem ag49 : agD Tryz.prog 49 = some 4 := by kernel_rfl
theorem fo14 : fnOk Tryz.prog 14 = true := by kernel_rfl
theorem co14 : codeOk Tryz.f14.ntmps (bodyC Tryz.f14) = true := by kernel_rfl
theorem bo49 : boD Tryz.prog 49 = true := by kernel_rfl
theorem fa85_1 : faD Tryz.prog 85 1 = some 7 := by kernel_rfl
theorem fo15 : fnOk Tryz.prog 15 = true := by kernel_rfl
theorem co15 : codeOk Tryz.f15.ntmps (bodyC Tryz.f15) = true := by kernel_rfl
theorem fo16 : fnOk Tryz.prog 16 = true := by kernel_rfl
theorem co16 : codeOk Tryz.f16.ntmps (bodyC Tryz.f16) = true := by kernel_rfl
theorem fa49_0 : faD Tryz.prog 49 0 = some 0 := by kernel_rfl
theorem sc47 : scD Tryz.prog 47 = true := by kernel_rfl
theorem fa49_1 : faD Tryz.prog 49 1 = some 1 := by kernel_rfl
theorem fa49_2 : faD Tryz.prog 49 2 = some 2 := by kernel_rfl
theorem fa49_3 : faD Tryz.prog 49 3 = some 3 := by kernel_rfl
theorem fo17 : fnOk Tryz.prog 17 = true := by kernel_rfl
theorem co17 : codeOk Tryz.f17.ntmps (bodyC Tryz.f17) = true := by kernel_rfl
theorem fo18 : fnOk Tryz.prog 18 = true := by kernel_rfl
theorem co18 : codeOk Tryz.f18.ntmps (bodyC Tryz.f18) = true := by kernel_rfl
theorem fo19 : fnOk Tryz.prog 19 = true := by kernel_rfl
theorem co19 : codeOk Tryz.f19.ntmps (bodyC Tryz.f19) = true := by kernel_rfl
theorem fo20 : fnOk Tryz.prog 20 = true := by kernel_rfl
theorem co20 : codeOk Tryz.f20.ntmps (bodyC Tryz.f20) = true := by kernel_rfl
theorem zc58 : zcD Tryz.prog 58 = some [.slice none 0 0] := by kernel_rfl
theorem sc58 : scD Tryz.prog 58 = true := by kernel_rfl
theorem fo21 : fnOk Tryz.prog 21 = true := by kernel_rfl
theorem co21 : codeOk Tryz.f21.ntmps (bodyC Tryz.f21) = true := by kernel_rfl
theorem fa85_3 : faD Tryz.prog 85 3 = some 12 := by kernel_rfl
theorem fo22 : fnOk Tryz.prog 22 = true := by kernel_rfl
theorem co22 : codeOk Tryz.f22.ntmps (bodyC Tryz.f22) = true := by kernel_rfl
theorem fo23 : fnOk Tryz.prog 23 = true := by kernel_rfl
theorem co23 : codeOk Tryz.f23.ntmps (bodyC Tryz.f23) = true := by kernel_rfl
theorem fo24 : fnOk Tryz.prog 24 = true := by kernel_rfl
theorem co24 : codeOk Tryz.f24.ntmps (bodyC Tryz.f24) = true := by kernel_rfl
theorem fo25 : fnOk Tryz.prog 25 = true := by kernel_rfl
theorem co25 : codeOk Tryz.f25.ntmps (bodyC Tryz.f25) = true := by kernel_rfl
theorem fo26 : fnOk Tryz.prog 26 = true := by kernel_rfl
theorem co26 : codeOk Tryz.f26.ntmps (bodyC Tryz.f26) = true := by kernel_rfl
theorem zc80 : zcD Tryz.prog 80 = some [.pointer none] := by kernel_rfl
theorem sc80 : scD Tryz.prog 80 = true := by kernel_rfl
theorem zc102 : zcD Tryz.prog 102 = some [.int .i64 0, .int .i64 0, .int .i64 0, .int .i64 0, .int .i64 0] := by kernel_rfl
theorem bo102 : boD Tryz.prog 102 = true := by kernel_rfl
theorem fz102_0 : fzD Tryz.prog 102 0 = some (0, 1) := by kernel_rfl
theorem fz102_1 : fzD Tryz.prog 102 1 = some (1, 1) := by kernel_rfl
theorem fz102_2 : fzD Tryz.prog 102 2 = some (2, 1) := by kernel_rfl
theorem fz102_3 : fzD Tryz.prog 102 3 = some (3, 1) := by kernel_rfl
theorem ag102 : agD Tryz.prog 102 = some 5 := by kernel_rfl
theorem fa102_2 : faD Tryz.prog 102 2 = some 2 := by kernel_rfl
theorem fo27 : fnOk Tryz.prog 27 = true := by kernel_rfl
theorem co27 : codeOk Tryz.f27.ntmps (bodyC Tryz.f27) = true := by kernel_rfl
theorem fa34_1 : faD Tryz.prog 34 1 = some 1 := by kernel_rfl
theorem sc9 : scD Tryz.prog 9 = true := by kernel_rfl
theorem fo29 : fnOk Tryz.prog 29 = true := by kernel_rfl
theorem co29 : codeOk Tryz.f29.ntmps (bodyC Tryz.f29) = true := by kernel_rfl
theorem ag25 : agD Tryz.prog 25 = some 2 := by kernel_rfl
theorem fo30 : fnOk Tryz.prog 30 = true := by kernel_rfl
theorem co30 : codeOk Tryz.f30.ntmps (bodyC Tryz.f30) = true := by kernel_rfl
theorem fo31 : fnOk Tryz.prog 31 = true := by kernel_rfl
theorem co31 : codeOk Tryz.f31.ntmps (bodyC Tryz.f31) = true := by kernel_rfl
theorem fo32 : fnOk Tryz.prog 32 = true := by kernel_rfl
theorem co32 : codeOk Tryz.f32.ntmps (bodyC Tryz.f32) = true := by kernel_rfl
theorem sc72 : scD Tryz.prog 72 = true := by kernel_rfl
theorem zc9 : zcD Tryz.prog 9 = some [.string .empty] := by kernel_rfl
theorem fo33 : fnOk Tryz.prog 33 = true := by kernel_rfl
theorem co33 : codeOk Tryz.f33.ntmps (bodyC Tryz.f33) = true := by kernel_rfl
theorem fo34 : fnOk Tryz.prog 34 = true := by kernel_rfl
theorem co34 : codeOk Tryz.f34.ntmps (bodyC Tryz.f34) = true := by kernel_rfl
theorem sc76 : scD Tryz.prog 76 = true := by kernel_rfl
theorem fo35 : fnOk Tryz.prog 35 = true := by kernel_rfl
theorem co35 : codeOk Tryz.f35.ntmps (bodyC Tryz.f35) = true := by kernel_rfl
theorem fa74_0 : faD Tryz.prog 74 0 = some 0 := by kernel_rfl
theorem fo36 : fnOk Tryz.prog 36 = true := by kernel_rfl
theorem co36 : codeOk Tryz.f36.ntmps (bodyC Tryz.f36) = true := by kernel_rfl
theorem fo37 : fnOk Tryz.prog 37 = true := by kernel_rfl
theorem co37 : codeOk Tryz.f37.ntmps (bodyC Tryz.f37) = true := by kernel_rfl
theorem el29 : elD Tryz.prog 29 = some 11 := by kernel_rfl
theorem ez29 : (elZ Tryz.prog 29).isSome = true := by kernel_rfl
theorem ag117 : agD Tryz.prog 117 = some 11 := by kernel_rfl
theorem zc117 : zcD Tryz.prog 117 = some [.int .i64 0, .int .i64 0, .int .i64 0, .int .i64 0, .int .i64 0, .int .i64 0, .int .i64 0, .int .i64 0, .int .i64 0, .int .i64 0, .int .i64 0] := by kernel_rfl
theorem el46 : elD Tryz.prog 46 = some 1 := by kernel_rfl
theorem ez46 : (elZ Tryz.prog 46).isSome = true := by kernel_rfl
theorem ap46_46 : appSz Tryz.prog 46 46 = some 1 := by kernel_rfl
theorem fo38 : fnOk Tryz.prog 38 = true := by kernel_rfl
theorem co38 : codeOk Tryz.f38.ntmps (bodyC Tryz.f38) = true := by kernel_rfl
theorem sc38 : scD Tryz.prog 38 = true := by kernel_rfl
theorem fo39 : fnOk Tryz.prog 39 = true := by kernel_rfl
theorem co39 : codeOk Tryz.f39.ntmps (bodyC Tryz.f39) = true := by kernel_rfl
theorem fo40 : fnOk Tryz.prog 40 = true := by kernel_rfl
theorem co40 : codeOk Tryz.f40.ntmps (bodyC Tryz.f40) = true := by kernel_rfl
theorem fo41 : fnOk Tryz.prog 41 = true := by kernel_rfl
theorem co41 : codeOk Tryz.f41.ntmps (bodyC Tryz.f41) = true := by kernel_rfl
theorem fo42 : fnOk Tryz.prog 42 = true := by kernel_rfl
theorem co42 : codeOk Tryz.f42.ntmps (bodyC Tryz.f42) = true := by kernel_rfl
theorem fo43 : fnOk Tryz.prog 43 = true := by kernel_rfl
theorem co43 : codeOk Tryz.f43.ntmps (bodyC Tryz.f43) = true := by kernel_rfl
theorem fo44 : fnOk Tryz.prog 44 = true := by kernel_rfl
theorem co44 : codeOk Tryz.f44.ntmps (bodyC Tryz.f44) = true := by kernel_rfl
theorem fo45 : fnOk Tryz.prog 45 = true := by kernel_rfl
theorem co45 : codeOk Tryz.f45.ntmps (bodyC Tryz.f45) = true := by kernel_rfl
theorem el58 : elD Tryz.prog 58 = some 4 := by kernel_rfl
theorem ez58 : (elZ Tryz.prog 58).isSome = true := by kernel_rfl
theorem ag97 : agD Tryz.prog 97 = some 4 := by kernel_rfl
theorem fo46 : fnOk Tryz.prog 46 = true := by kernel_rfl
theorem co46 : codeOk Tryz.f46.ntmps (bodyC Tryz.f46) = true := by kernel_rfl
theorem fa97_0 : faD Tryz.prog 97 0 = some 0 := by kernel_rfl
theorem fa97_1 : faD Tryz.prog 97 1 = some 1 := by kernel_rfl
theorem fa97_2 : faD Tryz.prog 97 2 = some 2 := by kernel_rfl
theorem fa97_3 : faD Tryz.prog 97 3 = some 3 := by kernel_rfl
theorem fo47 : fnOk Tryz.prog 47 = true := by kernel_rfl
theorem co47 : codeOk Tryz.f47.ntmps (bodyC Tryz.f47) = true := by kernel_rfl
theorem fo48 : fnOk Tryz.prog 48 = true := by kernel_rfl
theorem co48 : codeOk Tryz.f48.ntmps (bodyC Tryz.f48) = true := by kernel_rfl
theorem fo49 : fnOk Tryz.prog 49 = true := by kernel_rfl
theorem co49 : codeOk Tryz.f49.ntmps (bodyC Tryz.f49) = true := by kernel_rfl
theorem zc38 : zcD Tryz.prog 38 = some [.int .i64 0] := by kernel_rfl
theorem fo50 : fnOk Tryz.prog 50 = true := by kernel_rfl
theorem co50 : codeOk Tryz.f50.ntmps (bodyC Tryz.f50) = true := by kernel_rfl
theorem fa85_4 : faD Tryz.prog 85 4 = some 13 := by kernel_rfl
theorem fo51 : fnOk Tryz.prog 51 = true := by kernel_rfl
theorem co51 : codeOk Tryz.f51.ntmps (bodyC Tryz.f51) = true := by kernel_rfl
theorem fa85_0 : faD Tryz.prog 85 0 = some 0 := by kernel_rfl
theorem fa102_0 : faD Tryz.prog 102 0 = some 0 := by kernel_rfl
theorem fa102_1 : faD Tryz.prog 102 1 = some 1 := by kernel_rfl
theorem fa102_3 : faD Tryz.prog 102 3 = some 3 := by kernel_rfl
theorem fo60 : fnOk Tryz.prog 60 = true := by kernel_rfl
theorem co60 : codeOk Tryz.f60.ntmps (bodyC Tryz.f60) = true := by kernel_rfl
theorem fo61 : fnOk Tryz.prog 61 = true := by kernel_rfl
theorem co61 : codeOk Tryz.f61.ntmps (bodyC Tryz.f61) = true := by kernel_rfl
theorem fo62 : fnOk Tryz.prog 62 = true := by kernel_rfl
theorem co62 : codeOk Tryz.f62.ntmps (bodyC Tryz.f62) = true := by kernel_rfl
theorem fo63 : fnOk Tryz.prog 63 = true := by kernel_rfl
theorem co63 : codeOk Tryz.f63.ntmps (bodyC Tryz.f63) = true := by kernel_rfl
theorem fo64 : fnOk Tryz.prog 64 = true := by kernel_rfl
theorem co64 : codeOk Tryz.f64.ntmps (bodyC Tryz.f64) = true := by kernel_rfl
theorem fo65 : fnOk Tryz.prog 65 = true := by kernel_rfl
theorem co65 : codeOk Tryz.f65.ntmps (bodyC Tryz.f65) = true := by kernel_rfl
theorem fa117_0 : faD Tryz.prog 117 0 = some 0 := by kernel_rfl
theorem fa117_1 : faD Tryz.prog 117 1 = some 1 := by kernel_rfl
theorem fa117_2 : faD Tryz.prog 117 2 = some 2 := by kernel_rfl
theorem fa117_3 : faD Tryz.prog 117 3 = some 3 := by kernel_rfl
theorem fa117_4 : faD Tryz.prog 117 4 = some 4 := by kernel_rfl
theorem fa117_5 : faD Tryz.prog 117 5 = some 5 := by kernel_rfl
theorem fa117_6 : faD Tryz.prog 117 6 = some 6 := by kernel_rfl
theorem fa117_7 : faD Tryz.prog 117 7 = some 7 := by kernel_rfl
theorem fa117_8 : faD Tryz.prog 117 8 = some 8 := by kernel_rfl
theorem fa117_9 : faD Tryz.prog 117 9 = some 9 := by kernel_rfl
theorem fa117_10 : faD Tryz.prog 117 10 = some 10 := by kernel_rfl
theorem fo66 : fnOk Tryz.prog 66 = true := by kernel_rfl
theorem co66 : codeOk Tryz.f66.ntmps (bodyC Tryz.f66) = true := by kernel_rfl
theorem fo67 : fnOk Tryz.prog 67 = true := by kernel_rfl
theorem co67 : codeOk Tryz.f67.ntmps (bodyC Tryz.f67) = true := by kernel_rfl
theorem fo68 : fnOk Tryz.prog 68 = true := by kernel_rfl
theorem co68 : codeOk Tryz.f68.ntmps (bodyC Tryz.f68) = true := by kernel_rfl
theorem st9 : isStrD Tryz.prog 9 = true := by kernel_rfl
theorem fo69 : fnOk Tryz.prog 69 = true := by kernel_rfl
theorem co69 : codeOk Tryz.f69.ntmps (bodyC Tryz.f69) = true := by kernel_rfl
theorem fo70 : fnOk Tryz.prog 70 = true := by kernel_rfl
theorem co70 : codeOk Tryz.f70.ntmps (bodyC Tryz.f70) = true := by kernel_rfl
theorem fo71 : fnOk Tryz.prog 71 = true := by kernel_rfl
theorem co71 : codeOk Tryz.f71.ntmps (bodyC Tryz.f71) = true := by kernel_rfl
theorem fo72 : fnOk Tryz.prog 72 = true := by kernel_rfl
theorem co72 : codeOk Tryz.f72.ntmps (bodyC Tryz.f72) = true := by kernel_rfl
theorem fo73 : fnOk Tryz.prog 73 = true := by kernel_rfl
theorem co73 : codeOk Tryz.f73.ntmps (bodyC Tryz.f73) = true := by kernel_rfl
theorem fo74 : fnOk Tryz.prog 74 = true := by kernel_rfl
theorem co74 : codeOk Tryz.f74.ntmps (bodyC Tryz.f74) = true := by kernel_rfl
theorem fo75 : fnOk Tryz.prog 75 = true := by kernel_rfl
theorem co75 : codeOk Tryz.f75.ntmps (bodyC Tryz.f75) = true := by kernel_rfl
theorem zc85 : zcD Tryz.prog 85 = some [.slice none 0 0, .slice none 0 0, .int .i64 0, .int .i64 0, .int .i64 0, .int .i64 0, .slice none 0 0, .slice none 0 0, .slice none 0 0, .slice none 0 0, .slice none 0 0, .map none, .slice none 0 0, .int .i64 0, .int .i64 0] := by kernel_rfl
theorem bo85 : boD Tryz.prog 85 = true := by kernel_rfl
theorem fz85_0 : fzD Tryz.prog 85 0 = some (0, 7) := by kernel_rfl
theorem fz85_2 : fzD Tryz.prog 85 2 = some (11, 1) := by kernel_rfl
theorem ze32 : elZ Tryz.prog 32 = some [.int .i64 0] := by kernel_rfl
theorem fo76 : fnOk Tryz.prog 76 = true := by kernel_rfl
theorem co76 : codeOk Tryz.f76.ntmps (bodyC Tryz.f76) = true := by kernel_rfl
theorem fo77 : fnOk Tryz.prog 77 = true := by kernel_rfl
theorem co77 : codeOk Tryz.f77.ntmps (bodyC Tryz.f77) = true := by kernel_rfl
theorem el47 : elD Tryz.prog 47 = some 5 := by kernel_rfl
theorem ez47 : (elZ Tryz.prog 47).isSome = true := by kernel_rfl
theorem fo78 : fnOk Tryz.prog 78 = true := by kernel_rfl
theorem co78 : codeOk Tryz.f78.ntmps (bodyC Tryz.f78) = true := by kernel_rfl
theorem fa102_4 : faD Tryz.prog 102 4 = some 4 := by kernel_rfl
theorem fo79 : fnOk Tryz.prog 79 = true := by kernel_rfl
theorem co79 : codeOk Tryz.f79.ntmps (bodyC Tryz.f79) = true := by kernel_rfl
theorem fo80 : fnOk Tryz.prog 80 = true := by kernel_rfl
theorem co80 : codeOk Tryz.f80.ntmps (bodyC Tryz.f80) = true := by kernel_rfl
theorem fo81 : fnOk Tryz.prog 81 = true := by kernel_rfl
theorem co81 : codeOk Tryz.f81.ntmps (bodyC Tryz.f81) = true := by kernel_rfl
theorem fo82 : fnOk Tryz.prog 82 = true := by kernel_rfl
theorem co82 : codeOk Tryz.f82.ntmps (bodyC Tryz.f82) = true := by kernel_rfl
theorem fo83 : fnOk Tryz.prog 83 = true := by kernel_rfl
theorem co83 : codeOk Tryz.f83.ntmps (bodyC Tryz.f83) = true := by kernel_rfl
theorem fo84 : fnOk Tryz.prog 84 = true := by kernel_rfl
theorem co84 : codeOk Tryz.f84.ntmps (bodyC Tryz.f84) = true := by kernel_rfl
theorem ni38 : niD Tryz.prog 38 = true := by kernel_rfl
theorem fo85 : fnOk Tryz.prog 85 = true := by kernel_rfl
theorem co85 : codeOk Tryz.f85.ntmps (bodyC Tryz.f85) = true := by kernel_rfl
theorem fo86 : fnOk Tryz.prog 86 = true := by kernel_rfl
theorem co86 : codeOk Tryz.f86.ntmps (bodyC Tryz.f86) = true := by kernel_rfl
theorem fa85_2 : faD Tryz.prog 85 2 = some 11 := by kernel_rfl
theorem sc83 : scD Tryz.prog 83 = true := by kernel_rfl
theorem mp83 : mpD Tryz.prog 83 = true := by kernel_rfl
theorem fo87 : fnOk Tryz.prog 87 = true := by kernel_rfl
theorem co87 : codeOk Tryz.f87.ntmps (bodyC Tryz.f87) = true := by kernel_rfl
theorem zc4 : zcD Tryz.prog 4 = some [.bool false] := by kernel_rfl
theorem zc157 : zcD Tryz.prog 157 = some [.nilFunc] := by kernel_rfl
theorem sc157 : scD Tryz.prog 157 = true := by kernel_rfl
theorem sc4 : scD Tryz.prog 4 = true := by kernel_rfl
theorem fo89 : fnOk Tryz.prog 89 = true := by kernel_rfl
theorem co89 : codeOk Tryz.f89.ntmps (bodyC Tryz.f89) = true := by kernel_rfl
theorem fo90 : fnOk Tryz.prog 90 = true := by kernel_rfl
theorem co90 : codeOk Tryz.f90.ntmps (bodyC Tryz.f90) = true := by kernel_rfl
theorem ap22_22 : appSz Tryz.prog 22 22 = some 1 := by kernel_rfl
theorem fo91 : fnOk Tryz.prog 91 = true := by kernel_rfl
theorem co91 : codeOk Tryz.f91.ntmps (bodyC Tryz.f91) = true := by kernel_rfl
theorem fo92 : fnOk Tryz.prog 92 = true := by kernel_rfl
theorem co92 : codeOk Tryz.f92.ntmps (bodyC Tryz.f92) = true := by kernel_rfl
theorem fo93 : fnOk Tryz.prog 93 = true := by kernel_rfl
theorem co93 : codeOk Tryz.f93.ntmps (bodyC Tryz.f93) = true := by kernel_rfl
theorem fo94 : fnOk Tryz.prog 94 = true := by kernel_rfl
theorem co94 : codeOk Tryz.f94.ntmps (bodyC Tryz.f94) = true := by kernel_rfl
theorem fo95 : fnOk Tryz.prog 95 = true := by kernel_rfl
theorem co95 : codeOk Tryz.f95.ntmps (bodyC Tryz.f95) = true := by kernel_rfl
theorem fo96 : fnOk Tryz.prog 96 = true := by kernel_rfl
theorem co96 : codeOk Tryz.f96.ntmps (bodyC Tryz.f96) = true := by kernel_rfl
theorem fo97 : fnOk Tryz.prog 97 = true := by kernel_rfl
theorem co97 : codeOk Tryz.f97.ntmps (bodyC Tryz.f97) = true := by kernel_rfl
theorem fo98 : fnOk Tryz.prog 98 = true := by kernel_rfl
theorem co98 : codeOk Tryz.f98.ntmps (bodyC Tryz.f98) = true := by kernel_rfl
theorem fo99 : fnOk Tryz.prog 99 = true := by kernel_rfl
theorem co99 : codeOk Tryz.f99.ntmps (bodyC Tryz.f99) = true := by kernel_rfl
theorem fa85_5 : faD Tryz.prog 85 5 = some 14 := by kernel_rfl
theorem fo100 : fnOk Tryz.prog 100 = true := by kernel_rfl
theorem co100 : codeOk Tryz.f100.ntmps (bodyC Tryz.f100) = true := by kernel_rfl
theorem zc154 : zcD Tryz.prog 154 = some [.nilFunc, .nilFunc, .nilFunc, .nilFunc, .nilFunc, .nilFunc, .nilFunc] := by kernel_rfl
theorem az154 : azD Tryz.prog 154 = some 7 := by kernel_rfl
theorem ag154 : agD Tryz.prog 154 = some 7 := by kernel_rfl
theorem fo101 : fnOk Tryz.prog 101 = true := by kernel_rfl
theorem co101 : codeOk Tryz.f101.ntmps (bodyC Tryz.f101) = true := by kernel_rfl
theorem fo102 : fnOk Tryz.prog 102 = true := by kernel_rfl
theorem co102 : codeOk Tryz.f102.ntmps (bodyC Tryz.f102) = true := by kernel_rfl
theorem fo103 : fnOk Tryz.prog 103 = true := by kernel_rfl
theorem co103 : codeOk Tryz.f103.ntmps (bodyC Tryz.f103) = true := by kernel_rfl
theorem fo104 : fnOk Tryz.prog 104 = true := by kernel_rfl
theorem co104 : codeOk Tryz.f104.ntmps (bodyC Tryz.f104) = true := by kernel_rfl
theorem ap47_47 : appSz Tryz.prog 47 47 = some 5 := by kernel_rfl
theorem fo105 : fnOk Tryz.prog 105 = true := by kernel_rfl
theorem co105 : codeOk Tryz.f105.ntmps (bodyC Tryz.f105) = true := by kernel_rfl
theorem fo106 : fnOk Tryz.prog 106 = true := by kernel_rfl
theorem co106 : codeOk Tryz.f106.ntmps (bodyC Tryz.f106) = true := by kernel_rfl
theorem fo107 : fnOk Tryz.prog 107 = true := by kernel_rfl
theorem co107 : codeOk Tryz.f107.ntmps (bodyC Tryz.f107) = true := by kernel_rfl
theorem fo108 : fnOk Tryz.prog 108 = true := by kernel_rfl
theorem co108 : codeOk Tryz.f108.ntmps (bodyC Tryz.f108) = true := by kernel_rfl
theorem fo109 : fnOk Tryz.prog 109 = true := by kernel_rfl
theorem co109 : codeOk Tryz.f109.ntmps (bodyC Tryz.f109) = true := by kernel_rfl
theorem fo110 : fnOk Tryz.prog 110 = true := by kernel_rfl
theorem co110 : codeOk Tryz.f110.ntmps (bodyC Tryz.f110) = true := by kernel_rfl
theorem fo111 : fnOk Tryz.prog 111 = true := by kernel_rfl
theorem co111 : codeOk Tryz.f111.ntmps (bodyC Tryz.f111) = true := by kernel_rfl
theorem fo112 : fnOk Tryz.prog 112 = true := by kernel_rfl
theorem co112 : codeOk Tryz.f112.ntmps (bodyC Tryz.f112) = true := by kernel_rfl
theorem fo113 : fnOk Tryz.prog 113 = true := by kernel_rfl
theorem co113 : codeOk Tryz.f113.ntmps (bodyC Tryz.f113) = true := by kernel_rfl
theorem zc97 : zcD Tryz.prog 97 = some [.int .i64 0, .int .i64 0, .int .i64 0, .int .i64 0] := by kernel_rfl
theorem bo97 : boD Tryz.prog 97 = true := by kernel_rfl
theorem fz97_0 : fzD Tryz.prog 97 0 = some (0, 1) := by kernel_rfl
theorem fz97_1 : fzD Tryz.prog 97 1 = some (1, 1) := by kernel_rfl
theorem fz97_2 : fzD Tryz.prog 97 2 = some (2, 1) := by kernel_rfl
theorem fz97_3 : fzD Tryz.prog 97 3 = some (3, 1) := by kernel_rfl
theorem ap58_58 : appSz Tryz.prog 58 58 = some 4 := by kernel_rfl
theorem fo114 : fnOk Tryz.prog 114 = true := by kernel_rfl
theorem co114 : codeOk Tryz.f114.ntmps (bodyC Tryz.f114) = true := by kernel_rfl
theorem fo115 : fnOk Tryz.prog 115 = true := by kernel_rfl
theorem co115 : codeOk Tryz.f115.ntmps (bodyC Tryz.f115) = true := by kernel_rfl
theorem fo116 : fnOk Tryz.prog 116 = true := by kernel_rfl
theorem co116 : codeOk Tryz.f116.ntmps (bodyC Tryz.f116) = true := by kernel_rfl
theorem fo117 : fnOk Tryz.prog 117 = true := by kernel_rfl
theorem co117 : codeOk Tryz.f117.ntmps (bodyC Tryz.f117) = true := by kernel_rfl
theorem fo118 : fnOk Tryz.prog 118 = true := by kernel_rfl
theorem co118 : codeOk Tryz.f118.ntmps (bodyC Tryz.f118) = true := by kernel_rfl
theorem fo119 : fnOk Tryz.prog 119 = true := by kernel_rfl
theorem co119 : codeOk Tryz.f119.ntmps (bodyC Tryz.f119) = true := by kernel_rfl
def ly9 : List Lay := [.str]
theorem le9 {hr : RO} {a : Option Addr} {k : Nat} : decL hr a k ly9 0 = [.string (sv (el hr a k))] := rfl
def wy9 : List Lay := [.str]
theorem lw9 {hr : RO} {a : Option Addr} {k : Nat} : decL hr a k wy9 0 = [.string (sv (el hr a k))] := rfl
theorem wk9 : wkL ly9 = wy9 := rfl
def ly74 : List Lay := [.str, .int .i64, .int .i64, .int .i64]
theorem le74 {hr : RO} {a : Option Addr} {k : Nat} : decL hr a k ly74 0 = [.string (sv (el hr a k)), .int .i64 (iv (el hr a (k + 1))), .int .i64 (iv (el hr a (k + 2))), .int .i64 (iv (el hr a (k + 3)))] := rfl
def wy74 : List Lay := [.str, .int .i64 false, .int .i64 false, .int .i64 false]
theorem lw74 {hr : RO} {a : Option Addr} {k : Nat} : decL hr a k wy74 0 = [.string (sv (el hr a k)), .int .i64 (iv (el hr a (k + 1))), .int .i64 (iv (el hr a (k + 2))), .int .i64 (iv (el hr a (k + 3)))] := rfl
theorem wk74 : wkL ly74 = wy74 := rfl
def ly78 : List Lay := [.int .i64, .int .i64]
theorem le78 {hr : RO} {a : Option Addr} {k : Nat} : decL hr a k ly78 0 = [.int .i64 (iv (el hr a k)), .int .i64 (iv (el hr a (k + 1)))] := rfl
def wy78 : List Lay := [.int .i64 false, .int .i64 false]
theorem lw78 {hr : RO} {a : Option Addr} {k : Nat} : decL hr a k wy78 0 = [.int .i64 (iv (el hr a k)), .int .i64 (iv (el hr a (k + 1)))] := rfl
theorem wk78 : wkL ly78 = wy78 := rfl
def ly117 : List Lay := [.int .i64, .int .i64, .int .i64, .int .i64, .int .i64, .int .i64, .int .i64, .int .i64, .int .i64, .int .i64, .int .i64]
theorem le117 {hr : RO} {a : Option Addr} {k : Nat} : decL hr a k ly117 0 = [.int .i64 (iv (el hr a k)), .int .i64 (iv (el hr a (k + 1))), .int .i64 (iv (el hr a (k + 2))), .int .i64 (iv (el hr a (k + 3))), .int .i64 (iv (el hr a (k + 4))), .int .i64 (iv (el hr a (k + 5))), .int .i64 (iv (el hr a (k + 6))), .int .i64 (iv (el hr a (k + 7))), .int .i64 (iv (el hr a (k + 8))), .int .i64 (iv (el hr a (k + 9))), .int .i64 (iv (el hr a (k + 10)))] := rfl
def wy117 : List Lay := [.int .i64 false, .int .i64 false, .int .i64 false, .int .i64 false, .int .i64 false, .int .i64 false, .int .i64 false, .int .i64 false, .int .i64 false, .int .i64 false, .int .i64 false]
theorem lw117 {hr : RO} {a : Option Addr} {k : Nat} : decL hr a k wy117 0 = [.int .i64 (iv (el hr a k)), .int .i64 (iv (el hr a (k + 1))), .int .i64 (iv (el hr a (k + 2))), .int .i64 (iv (el hr a (k + 3))), .int .i64 (iv (el hr a (k + 4))), .int .i64 (iv (el hr a (k + 5))), .int .i64 (iv (el hr a (k + 6))), .int .i64 (iv (el hr a (k + 7))), .int .i64 (iv (el hr a (k + 8))), .int .i64 (iv (el hr a (k + 9))), .int .i64 (iv (el hr a (k + 10)))] := rfl
theorem wk117 : wkL ly117 = wy117 := rfl
def ly31 : List Lay := [.sl ly9, .sl ly74, .int .i64, .int .i64, .int .i64, .int .i64, .sl ly78, .int .i64, .int .i64, .sl ly117, .int .i64, .int .i64, .int .i64]
theorem le31 {hr : RO} {a : Option Addr} {k : Nat} : decL hr a k ly31 0 = [.slice (sa (el hr a k)) (sn (el hr a k)) (sc (el hr a k)), .slice (sa (el hr a (k + 1))) (sn (el hr a (k + 1))) (sc (el hr a (k + 1))), .int .i64 (iv (el hr a (k + 2))), .int .i64 (iv (el hr a (k + 3))), .int .i64 (iv (el hr a (k + 4))), .int .i64 (iv (el hr a (k + 5))), .slice (sa (el hr a (k + 6))) (sn (el hr a (k + 6))) (sc (el hr a (k + 6))), .int .i64 (iv (el hr a (k + 7))), .int .i64 (iv (el hr a (k + 8))), .slice (sa (el hr a (k + 9))) (sn (el hr a (k + 9))) (sc (el hr a (k + 9))), .int .i64 (iv (el hr a (k + 10))), .int .i64 (iv (el hr a (k + 11))), .int .i64 (iv (el hr a (k + 12)))] := rfl
def wy31 : List Lay := [.sl wy9, .sl wy74, .int .i64 false, .int .i64 false, .int .i64 false, .int .i64 false, .sl wy78, .int .i64 false, .int .i64 false, .sl wy117, .int .i64 false, .int .i64 false, .int .i64 false]
theorem lw31 {hr : RO} {a : Option Addr} {k : Nat} : decL hr a k wy31 0 = [.slice (sa (el hr a k)) (sn (el hr a k)) (sc (el hr a k)), .slice (sa (el hr a (k + 1))) (sn (el hr a (k + 1))) (sc (el hr a (k + 1))), .int .i64 (iv (el hr a (k + 2))), .int .i64 (iv (el hr a (k + 3))), .int .i64 (iv (el hr a (k + 4))), .int .i64 (iv (el hr a (k + 5))), .slice (sa (el hr a (k + 6))) (sn (el hr a (k + 6))) (sc (el hr a (k + 6))), .int .i64 (iv (el hr a (k + 7))), .int .i64 (iv (el hr a (k + 8))), .slice (sa (el hr a (k + 9))) (sn (el hr a (k + 9))) (sc (el hr a (k + 9))), .int .i64 (iv (el hr a (k + 10))), .int .i64 (iv (el hr a (k + 11))), .int .i64 (iv (el hr a (k + 12)))] := rfl
theorem wk31 : wkL ly31 = wy31 := rfl
def ly3 : List Lay := [.int .i64]
theorem le3 {hr : RO} {a : Option Addr} {k : Nat} : decL hr a k ly3 0 = [.int .i64 (iv (el hr a k))] := rfl
def wy3 : List Lay := [.int .i64 false]
theorem lw3 {hr : RO} {a : Option Addr} {k : Nat} : decL hr a k wy3 0 = [.int .i64 (iv (el hr a k))] := rfl
theorem wk3 : wkL ly3 = wy3 := rfl
def ly34 : List Lay := [.sl ly3, .sl ly9]
theorem le34 {hr : RO} {a : Option Addr} {k : Nat} : decL hr a k ly34 0 = [.slice (sa (el hr a k)) (sn (el hr a k)) (sc (el hr a k)), .slice (sa (el hr a (k + 1))) (sn (el hr a (k + 1))) (sc (el hr a (k + 1)))] := rfl
def wy34 : List Lay := [.sl wy3, .sl wy9]
theorem lw34 {hr : RO} {a : Option Addr} {k : Nat} : decL hr a k wy34 0 = [.slice (sa (el hr a k)) (sn (el hr a k)) (sc (el hr a k)), .slice (sa (el hr a (k + 1))) (sn (el hr a (k + 1))) (sc (el hr a (k + 1)))] := rfl
theorem wk34 : wkL ly34 = wy34 := rfl
def ly28 : List Lay := [.sl ly9, .sl ly74, .int .i64, .int .i64, .int .i64, .int .i64, .sl ly78]
theorem le28 {hr : RO} {a : Option Addr} {k : Nat} : decL hr a k ly28 0 = [.slice (sa (el hr a k)) (sn (el hr a k)) (sc (el hr a k)), .slice (sa (el hr a (k + 1))) (sn (el hr a (k + 1))) (sc (el hr a (k + 1))), .int .i64 (iv (el hr a (k + 2))), .int .i64 (iv (el hr a (k + 3))), .int .i64 (iv (el hr a (k + 4))), .int .i64 (iv (el hr a (k + 5))), .slice (sa (el hr a (k + 6))) (sn (el hr a (k + 6))) (sc (el hr a (k + 6)))] := rfl
def wy28 : List Lay := [.sl wy9, .sl wy74, .int .i64 false, .int .i64 false, .int .i64 false, .int .i64 false, .sl wy78]
theorem lw28 {hr : RO} {a : Option Addr} {k : Nat} : decL hr a k wy28 0 = [.slice (sa (el hr a k)) (sn (el hr a k)) (sc (el hr a k)), .slice (sa (el hr a (k + 1))) (sn (el hr a (k + 1))) (sc (el hr a (k + 1))), .int .i64 (iv (el hr a (k + 2))), .int .i64 (iv (el hr a (k + 3))), .int .i64 (iv (el hr a (k + 4))), .int .i64 (iv (el hr a (k + 5))), .slice (sa (el hr a (k + 6))) (sn (el hr a (k + 6))) (sc (el hr a (k + 6)))] := rfl
theorem wk28 : wkL ly28 = wy28 := rfl
def ly38 : List Lay := [.int .i64]
theorem le38 {hr : RO} {a : Option Addr} {k : Nat} : decL hr a k ly38 0 = [.int .i64 (iv (el hr a k))] := rfl
def wy38 : List Lay := [.int .i64 false]
theorem lw38 {hr : RO} {a : Option Addr} {k : Nat} : decL hr a k wy38 0 = [.int .i64 (iv (el hr a k))] := rfl
theorem wk38 : wkL ly38 = wy38 := rfl
def ly102 : List Lay := [.int .i64, .int .i64, .int .i64, .int .i64, .int .i64]
theorem le102 {hr : RO} {a : Option Addr} {k : Nat} : decL hr a k ly102 0 = [.int .i64 (iv (el hr a k)), .int .i64 (iv (el hr a (k + 1))), .int .i64 (iv (el hr a (k + 2))), .int .i64 (iv (el hr a (k + 3))), .int .i64 (iv (el hr a (k + 4)))] := rfl
def wy102 : List Lay := [.int .i64 false, .int .i64 false, .int .i64 false, .int .i64 false, .int .i64 false]
theorem lw102 {hr : RO} {a : Option Addr} {k : Nat} : decL hr a k wy102 0 = [.int .i64 (iv (el hr a k)), .int .i64 (iv (el hr a (k + 1))), .int .i64 (iv (el hr a (k + 2))), .int .i64 (iv (el hr a (k + 3))), .int .i64 (iv (el hr a (k + 4)))] := rfl
theorem wk102 : wkL ly102 = wy102 := rfl
def ly49 : List Lay := [.sl ly102, .sl ly3, .sl ly3, .sl ly3]
theorem le49 {hr : RO} {a : Option Addr} {k : Nat} : decL hr a k ly49 0 = [.slice (sa (el hr a k)) (sn (el hr a k)) (sc (el hr a k)), .slice (sa (el hr a (k + 1))) (sn (el hr a (k + 1))) (sc (el hr a (k + 1))), .slice (sa (el hr a (k + 2))) (sn (el hr a (k + 2))) (sc (el hr a (k + 2))), .slice (sa (el hr a (k + 3))) (sn (el hr a (k + 3))) (sc (el hr a (k + 3)))] := rfl
def wy49 : List Lay := [.sl wy102, .sl wy3, .sl wy3, .sl wy3]
theorem lw49 {hr : RO} {a : Option Addr} {k : Nat} : decL hr a k wy49 0 = [.slice (sa (el hr a k)) (sn (el hr a k)) (sc (el hr a k)), .slice (sa (el hr a (k + 1))) (sn (el hr a (k + 1))) (sc (el hr a (k + 1))), .slice (sa (el hr a (k + 2))) (sn (el hr a (k + 2))) (sc (el hr a (k + 2))), .slice (sa (el hr a (k + 3))) (sn (el hr a (k + 3))) (sc (el hr a (k + 3)))] := rfl
theorem wk49 : wkL ly49 = wy49 := rfl
def ly97 : List Lay := [.int .i64, .int .i64, .int .i64, .int .i64]
theorem le97 {hr : RO} {a : Option Addr} {k : Nat} : decL hr a k ly97 0 = [.int .i64 (iv (el hr a k)), .int .i64 (iv (el hr a (k + 1))), .int .i64 (iv (el hr a (k + 2))), .int .i64 (iv (el hr a (k + 3)))] := rfl
def wy97 : List Lay := [.int .i64 false, .int .i64 false, .int .i64 false, .int .i64 false]
theorem lw97 {hr : RO} {a : Option Addr} {k : Nat} : decL hr a k wy97 0 = [.int .i64 (iv (el hr a k)), .int .i64 (iv (el hr a (k + 1))), .int .i64 (iv (el hr a (k + 2))), .int .i64 (iv (el hr a (k + 3)))] := rfl
theorem wk97 : wkL ly97 = wy97 := rfl
def ly25 : List Lay := [.int .i64, .int .i64]
theorem le25 {hr : RO} {a : Option Addr} {k : Nat} : decL hr a k ly25 0 = [.int .i64 (iv (el hr a k)), .int .i64 (iv (el hr a (k + 1)))] := rfl
def wy25 : List Lay := [.int .i64 false, .int .i64 false]
theorem lw25 {hr : RO} {a : Option Addr} {k : Nat} : decL hr a k wy25 0 = [.int .i64 (iv (el hr a k)), .int .i64 (iv (el hr a (k + 1)))] := rfl
theorem wk25 : wkL ly25 = wy25 := rfl
end Go.Proofs.YtkpbpfnmgnpfaaaGreat
