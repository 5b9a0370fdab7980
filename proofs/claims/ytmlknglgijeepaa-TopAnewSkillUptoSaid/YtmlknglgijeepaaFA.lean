/- skill: static facts of the program (written by wip/tools/Facts.lean). -/
import Derived.Test.YtmlknglgijeepaaGB
import Derived.Test.YtmlknglgijeepaaRows
import Derived.KernelRfl
set_option linter.all false
set_option linter.constructorNameAsVariable false
set_option linter.unusedSimpArgs false
set_option linter.unusedVariables false
set_option linter.unusedSectionVars false
set_option linter.unnecessarySimpa false
namespace Go.Proofs.Ytmlknglgijeepaa
open Go Go.E
theorem mx : Try.prog.follows .mixedOrders = true := Checked.mixed Try.checked
theorem fo3 : fnOk Try.prog 3 = true := by kernel_rfl
theorem co3 : codeOk Try.f3.ntmps (bodyC Try.f3) = true := by kernel_rfl
theorem zc36 : zcD Try.prog 36 = some [.slice none 0 0, .slice none 0 0] := by kernel_rfl
theorem ag33 : agD Try.prog 33 = some 13 := by kernel_rfl
theorem ag36 : agD Try.prog 36 = some 2 := by kernel_rfl
theorem fo4 : fnOk Try.prog 4 = true := by kernel_rfl
theorem co4 : codeOk Try.f4.ntmps (bodyC Try.f4) = true := by kernel_rfl
theorem fa33_0 : faD Try.prog 33 0 = some 0 := by kernel_rfl
theorem ag25 : agD Try.prog 25 = some 2 := by kernel_rfl
theorem fa33_1 : faD Try.prog 33 1 = some 2 := by kernel_rfl
theorem sc3 : scD Try.prog 3 = true := by kernel_rfl
theorem fa33_2 : faD Try.prog 33 2 = some 3 := by kernel_rfl
theorem fa33_3 : faD Try.prog 33 3 = some 4 := by kernel_rfl
theorem fa33_4 : faD Try.prog 33 4 = some 5 := by kernel_rfl
theorem sc26 : scD Try.prog 26 = true := by kernel_rfl
theorem fa33_5 : faD Try.prog 33 5 = some 6 := by kernel_rfl
theorem sc27 : scD Try.prog 27 = true := by kernel_rfl
theorem fa33_6 : faD Try.prog 33 6 = some 7 := by kernel_rfl
theorem fa33_7 : faD Try.prog 33 7 = some 8 := by kernel_rfl
theorem ag30 : agD Try.prog 30 = some 2 := by kernel_rfl
theorem fa33_8 : faD Try.prog 33 8 = some 10 := by kernel_rfl
theorem sc31 : scD Try.prog 31 = true := by kernel_rfl
theorem fa33_9 : faD Try.prog 33 9 = some 11 := by kernel_rfl
theorem fa33_10 : faD Try.prog 33 10 = some 12 := by kernel_rfl
theorem fo5 : fnOk Try.prog 5 = true := by kernel_rfl
theorem co5 : codeOk Try.f5.ntmps (bodyC Try.f5) = true := by kernel_rfl
theorem fo6 : fnOk Try.prog 6 = true := by kernel_rfl
theorem co6 : codeOk Try.f6.ntmps (bodyC Try.f6) = true := by kernel_rfl
theorem fo7 : fnOk Try.prog 7 = true := by kernel_rfl
theorem co7 : codeOk Try.f7.ntmps (bodyC Try.f7) = true := by kernel_rfl
theorem fa25_0 : faD Try.prog 25 0 = some 0 := by kernel_rfl
theorem sc22 : scD Try.prog 22 = true := by kernel_rfl
theorem el22 : elD Try.prog 22 = some 5 := by kernel_rfl
theorem ez22 : (elZ Try.prog 22).isSome = true := by kernel_rfl
theorem el31 : elD Try.prog 31 = some 1 := by kernel_rfl
theorem ez31 : (elZ Try.prog 31).isSome = true := by kernel_rfl
theorem fa25_1 : faD Try.prog 25 1 = some 1 := by kernel_rfl
theorem sc23 : scD Try.prog 23 = true := by kernel_rfl
theorem el23 : elD Try.prog 23 = some 3 := by kernel_rfl
theorem ez23 : (elZ Try.prog 23).isSome = true := by kernel_rfl
theorem ag75 : agD Try.prog 75 = some 5 := by kernel_rfl
theorem zc75 : zcD Try.prog 75 = some [.string .empty, .int .i64 0, .int .i64 0, .int .i64 0, .int .i64 0] := by kernel_rfl
theorem fa75_0 : faD Try.prog 75 0 = some 0 := by kernel_rfl
theorem sc9 : scD Try.prog 9 = true := by kernel_rfl
theorem fa75_1 : faD Try.prog 75 1 = some 1 := by kernel_rfl
theorem fa47_0 : faD Try.prog 47 0 = some 0 := by kernel_rfl
theorem fa47_1 : faD Try.prog 47 1 = some 1 := by kernel_rfl
theorem fa75_2 : faD Try.prog 75 2 = some 3 := by kernel_rfl
theorem ag80 : agD Try.prog 80 = some 3 := by kernel_rfl
theorem zc80 : zcD Try.prog 80 = some [.string .empty, .int .i64 0, .int .i64 0] := by kernel_rfl
theorem fa80_0 : faD Try.prog 80 0 = some 0 := by kernel_rfl
theorem fa80_1 : faD Try.prog 80 1 = some 1 := by kernel_rfl
theorem ag47 : agD Try.prog 47 = some 2 := by kernel_rfl
theorem fo8 : fnOk Try.prog 8 = true := by kernel_rfl
theorem co8 : codeOk Try.f8.ntmps (bodyC Try.f8) = true := by kernel_rfl
theorem fa36_0 : faD Try.prog 36 0 = some 0 := by kernel_rfl
theorem ap31_31 : appSz Try.prog 31 31 = some 1 := by kernel_rfl
theorem fo9 : fnOk Try.prog 9 = true := by kernel_rfl
theorem co9 : codeOk Try.f9.ntmps (bodyC Try.f9) = true := by kernel_rfl
theorem fo10 : fnOk Try.prog 10 = true := by kernel_rfl
theorem co10 : codeOk Try.f10.ntmps (bodyC Try.f10) = true := by kernel_rfl
theorem fo11 : fnOk Try.prog 11 = true := by kernel_rfl
theorem co11 : codeOk Try.f11.ntmps (bodyC Try.f11) = true := by kernel_rfl
theorem zc47 : zcD Try.prog 47 = some [.int .i64 0, .int .i64 0] := by kernel_rfl
theorem fo12 : fnOk Try.prog 12 = true := by kernel_rfl
theorem co12 : codeOk Try.f12.ntmps (bodyC Try.f12) = true := by kernel_rfl
theorem bo47 : boD Try.prog 47 = true := by kernel_rfl
theorem fz47_0 : fzD Try.prog 47 0 = some (0, 1) := by kernel_rfl
theorem fz47_1 : fzD Try.prog 47 1 = some (1, 1) := by kernel_rfl
theorem fo13 : fnOk Try.prog 13 = true := by kernel_rfl
theorem co13 : codeOk Try.f13.ntmps (bodyC Try.f13) = true := by kernel_rfl
theorem fo14 : fnOk Try.prog 14 = true := by kernel_rfl
theorem co14 : codeOk Try.f14.ntmps (bodyC Try.f14) = true := by kernel_rfl
theorem fo15 : fnOk Try.prog 15 = true := by kernel_rfl
theorem co15 : codeOk Try.f15.ntmps (bodyC Try.f15) = true := by kernel_rfl
theorem fo16 : fnOk Try.prog 16 = true := by kernel_rfl
theorem co16 : codeOk Try.f16.ntmps (bodyC Try.f16) = true := by kernel_rfl
theorem zc26 : zcD Try.prog 26 = some [.slice none 0 0] := by kernel_rfl
theorem fo17 : fnOk Try.prog 17 = true := by kernel_rfl
theorem co17 : codeOk Try.f17.ntmps (bodyC Try.f17) = true := by kernel_rfl
theorem el27 : elD Try.prog 27 = some 5 := by kernel_rfl
theorem ez27 : (elZ Try.prog 27).isSome = true := by kernel_rfl
theorem fa89_0 : faD Try.prog 89 0 = some 0 := by kernel_rfl
theorem fa95_1 : faD Try.prog 95 1 = some 2 := by kernel_rfl
theorem fo18 : fnOk Try.prog 18 = true := by kernel_rfl
theorem co18 : codeOk Try.f18.ntmps (bodyC Try.f18) = true := by kernel_rfl
theorem fo19 : fnOk Try.prog 19 = true := by kernel_rfl
theorem co19 : codeOk Try.f19.ntmps (bodyC Try.f19) = true := by kernel_rfl
theorem fo20 : fnOk Try.prog 20 = true := by kernel_rfl
theorem co20 : codeOk Try.f20.ntmps (bodyC Try.f20) = true := by kernel_rfl
theorem fo21 : fnOk Try.prog 21 = true := by kernel_rfl
theorem co21 : codeOk Try.f21.ntmps (bodyC Try.f21) = true := by kernel_rfl
theorem fo22 : fnOk Try.prog 22 = true := by kernel_rfl
theorem co22 : codeOk Try.f22.ntmps (bodyC Try.f22) = true := by kernel_rfl
theorem fo23 : fnOk Try.prog 23 = true := by kernel_rfl
theorem co23 : codeOk Try.f23.ntmps (bodyC Try.f23) = true := by kernel_rfl
theorem fo24 : fnOk Try.prog 24 = true := by kernel_rfl
theorem co24 : codeOk Try.f24.ntmps (bodyC Try.f24) = true := by kernel_rfl
theorem fo25 : fnOk Try.prog 25 = true := by kernel_rfl
theorem co25 : codeOk Try.f25.ntmps (bodyC Try.f25) = true := by kernel_rfl
theorem fo26 : fnOk Try.prog 26 = true := by kernel_rfl
theorem co26 : codeOk Try.f26.ntmps (bodyC Try.f26) = true := by kernel_rfl
theorem fo27 : fnOk Try.prog 27 = true := by kernel_rfl
theorem co27 : codeOk Try.f27.ntmps (bodyC Try.f27) = true := by kernel_rfl
theorem fo28 : fnOk Try.prog 28 = true := by kernel_rfl
theorem co28 : codeOk Try.f28.ntmps (bodyC Try.f28) = true := by kernel_rfl
theorem zc31 : zcD Try.prog 31 = some [.slice none 0 0] := by kernel_rfl
theorem fo29 : fnOk Try.prog 29 = true := by kernel_rfl
theorem co29 : codeOk Try.f29.ntmps (bodyC Try.f29) = true := by kernel_rfl
theorem zc40 : zcD Try.prog 40 = some [.int .i64 0] := by kernel_rfl
theorem zc3 : zcD Try.prog 3 = some [.int .i64 0] := by kernel_rfl
theorem sc40 : scD Try.prog 40 = true := by kernel_rfl
theorem fo30 : fnOk Try.prog 30 = true := by kernel_rfl
theorem co30 : codeOk Try.f30.ntmps (bodyC Try.f30) = true := by kernel_rfl
theorem fo31 : fnOk Try.prog 31 = true := by kernel_rfl
theorem co31 : codeOk Try.f31.ntmps (bodyC Try.f31) = true := by kernel_rfl
theorem fo32 : fnOk Try.prog 32 = true := by kernel_rfl
theorem co32 : codeOk Try.f32.ntmps (bodyC Try.f32) = true := by kernel_rfl
theorem fo33 : fnOk Try.prog 33 = true := by kernel_rfl
theorem co33 : codeOk Try.f33.ntmps (bodyC Try.f33) = true := by kernel_rfl
theorem fa36_1 : faD Try.prog 36 1 = some 1 := by kernel_rfl
theorem sc34 : scD Try.prog 34 = true := by kernel_rfl
theorem el34 : elD Try.prog 34 = some 1 := by kernel_rfl
theorem ez34 : (elZ Try.prog 34).isSome = true := by kernel_rfl
theorem fo35 : fnOk Try.prog 35 = true := by kernel_rfl
theorem co35 : codeOk Try.f35.ntmps (bodyC Try.f35) = true := by kernel_rfl
theorem fo36 : fnOk Try.prog 36 = true := by kernel_rfl
theorem co36 : codeOk Try.f36.ntmps (bodyC Try.f36) = true := by kernel_rfl
theorem fo37 : fnOk Try.prog 37 = true := by kernel_rfl
theorem co37 : codeOk Try.f37.ntmps (bodyC Try.f37) = true := by kernel_rfl
theorem fa30_0 : faD Try.prog 30 0 = some 0 := by kernel_rfl
theorem sc28 : scD Try.prog 28 = true := by kernel_rfl
theorem fa30_1 : faD Try.prog 30 1 = some 1 := by kernel_rfl
theorem fo38 : fnOk Try.prog 38 = true := by kernel_rfl
theorem co38 : codeOk Try.f38.ntmps (bodyC Try.f38) = true := by kernel_rfl
theorem fo39 : fnOk Try.prog 39 = true := by kernel_rfl
theorem co39 : codeOk Try.f39.ntmps (bodyC Try.f39) = true := by kernel_rfl
theorem st9 : isStrD Try.prog 9 = true := by kernel_rfl
theorem fo40 : fnOk Try.prog 40 = true := by kernel_rfl
theorem co40 : codeOk Try.f40.ntmps (bodyC Try.f40) = true := by kernel_rfl
theorem fo41 : fnOk Try.prog 41 = true := by kernel_rfl
theorem co41 : codeOk Try.f41.ntmps (bodyC Try.f41) = true := by kernel_rfl
theorem fo42 : fnOk Try.prog 42 = true := by kernel_rfl
theorem co42 : codeOk Try.f42.ntmps (bodyC Try.f42) = true := by kernel_rfl
theorem fo43 : fnOk Try.prog 43 = true := by kernel_rfl
theorem co43 : codeOk Try.f43.ntmps (bodyC Try.f43) = true := by kernel_rfl
theorem fo44 : fnOk Try.prog 44 = true := by kernel_rfl
theorem co44 : codeOk Try.f44.ntmps (bodyC Try.f44) = true := by kernel_rfl
theorem fo45 : fnOk Try.prog 45 = true := by kernel_rfl
theorem co45 : codeOk Try.f45.ntmps (bodyC Try.f45) = true := by kernel_rfl
theorem fo46 : fnOk Try.prog 46 = true := by kernel_rfl
theorem co46 : codeOk Try.f46.ntmps (bodyC Try.f46) = true := by kernel_rfl
theorem fo47 : fnOk Try.prog 47 = true := by kernel_rfl
theorem co47 : codeOk Try.f47.ntmps (bodyC Try.f47) = true := by kernel_rfl
theorem fo48 : fnOk Try.prog 48 = true := by kernel_rfl
theorem co48 : codeOk Try.f48.ntmps (bodyC Try.f48) = true := by kernel_rfl
theorem ag89 : agD Try.prog 89 = some 5 := by kernel_rfl
theorem zc89 : zcD Try.prog 89 = some [.int .i64 0, .int .i64 0, .int .i64 0, .int .i64 0, .int .i64 0] := by kernel_rfl
theorem fa89_1 : faD Try.prog 89 1 = some 1 := by kernel_rfl
theorem fa89_2 : faD Try.prog 89 2 = some 2 := by kernel_rfl
theorem fa89_3 : faD Try.prog 89 3 = some 3 := by kernel_rfl
theorem fa89_4 : faD Try.prog 89 4 = some 4 := by kernel_rfl
theorem fo49 : fnOk Try.prog 49 = true := by kernel_rfl
theorem co49 : codeOk Try.f49.ntmps (bodyC Try.f49) = true := by kernel_rfl
theorem zc90 : zcD Try.prog 90 = some [.pointer none] := by kernel_rfl
theorem zc95 : zcD Try.prog 95 = some [.slice none 0 0, .slice none 0 0, .slice none 0 0, .int .i64 0] := by kernel_rfl
theorem bo95 : boD Try.prog 95 = true := by kernel_rfl
theorem fz95_0 : fzD Try.prog 95 0 = some (0, 2) := by kernel_rfl
theorem fz95_1 : fzD Try.prog 95 1 = some (2, 1) := by kernel_rfl
theorem sc90 : scD Try.prog 90 = true := by kernel_rfl
theorem zc129 : zcD Try.prog 129 = some [.nilFunc, .nilFunc] := by kernel_rfl
theorem az129 : azD Try.prog 129 = some 2 := by kernel_rfl
theorem ag129 : agD Try.prog 129 = some 2 := by kernel_rfl
theorem sc128 : scD Try.prog 128 = true := by kernel_rfl
theorem fo50 : fnOk Try.prog 50 = true := by kernel_rfl
theorem co50 : codeOk Try.f50.ntmps (bodyC Try.f50) = true := by kernel_rfl
theorem fa95_0 : faD Try.prog 95 0 = some 0 := by kernel_rfl
theorem el26 : elD Try.prog 26 = some 2 := by kernel_rfl
theorem ez26 : (elZ Try.prog 26).isSome = true := by kernel_rfl
theorem fa95_2 : faD Try.prog 95 2 = some 3 := by kernel_rfl
theorem fo51 : fnOk Try.prog 51 = true := by kernel_rfl
theorem co51 : codeOk Try.f51.ntmps (bodyC Try.f51) = true := by kernel_rfl
theorem fo52 : fnOk Try.prog 52 = true := by kernel_rfl
theorem co52 : codeOk Try.f52.ntmps (bodyC Try.f52) = true := by kernel_rfl
theorem fo53 : fnOk Try.prog 53 = true := by kernel_rfl
theorem co53 : codeOk Try.f53.ntmps (bodyC Try.f53) = true := by kernel_rfl
theorem fo54 : fnOk Try.prog 54 = true := by kernel_rfl
theorem co54 : codeOk Try.f54.ntmps (bodyC Try.f54) = true := by kernel_rfl
theorem ap23_23 : appSz Try.prog 23 23 = some 3 := by kernel_rfl
theorem fo55 : fnOk Try.prog 55 = true := by kernel_rfl
theorem co55 : codeOk Try.f55.ntmps (bodyC Try.f55) = true := by kernel_rfl
theorem el28 : elD Try.prog 28 = some 2 := by kernel_rfl
theorem ez28 : (elZ Try.prog 28).isSome = true := by kernel_rfl
theorem ag134 : agD Try.prog 134 = some 2 := by kernel_rfl
theorem zc134 : zcD Try.prog 134 = some [.int .i64 0, .int .i64 0] := by kernel_rfl
theorem fa134_0 : faD Try.prog 134 0 = some 0 := by kernel_rfl
theorem fa134_1 : faD Try.prog 134 1 = some 1 := by kernel_rfl
theorem fo56 : fnOk Try.prog 56 = true := by kernel_rfl
theorem co56 : codeOk Try.f56.ntmps (bodyC Try.f56) = true := by kernel_rfl
theorem ze31 : elZ Try.prog 31 = some [.int .i64 0] := by kernel_rfl
theorem fo57 : fnOk Try.prog 57 = true := by kernel_rfl
theorem co57 : codeOk Try.f57.ntmps (bodyC Try.f57) = true := by kernel_rfl
theorem fo58 : fnOk Try.prog 58 = true := by kernel_rfl
theorem co58 : codeOk Try.f58.ntmps (bodyC Try.f58) = true := by kernel_rfl
theorem fo59 : fnOk Try.prog 59 = true := by kernel_rfl
theorem co59 : codeOk Try.f59.ntmps (bodyC Try.f59) = true := by kernel_rfl
theorem fo60 : fnOk Try.prog 60 = true := by kernel_rfl
theorem co60 : codeOk Try.f60.ntmps (bodyC Try.f60) = true := by kernel_rfl
theorem fo61 : fnOk Try.prog 61 = true := by kernel_rfl
theorem co61 : codeOk Try.f61.ntmps (bodyC Try.f61) = true := by kernel_rfl
theorem fo62 : fnOk Try.prog 62 = true := by kernel_rfl
theorem co62 : codeOk Try.f62.ntmps (bodyC Try.f62) = true := by kernel_rfl
theorem fo63 : fnOk Try.prog 63 = true := by kernel_rfl
theorem co63 : codeOk Try.f63.ntmps (bodyC Try.f63) = true := by kernel_rfl
theorem fo64 : fnOk Try.prog 64 = true := by kernel_rfl
theorem co64 : codeOk Try.f64.ntmps (bodyC Try.f64) = true := by kernel_rfl
theorem fo65 : fnOk Try.prog 65 = true := by kernel_rfl
theorem co65 : codeOk Try.f65.ntmps (bodyC Try.f65) = true := by kernel_rfl
theorem fo73 : fnOk Try.prog 73 = true := by kernel_rfl
theorem co73 : codeOk Try.f73.ntmps (bodyC Try.f73) = true := by kernel_rfl
theorem fo74 : fnOk Try.prog 74 = true := by kernel_rfl
theorem co74 : codeOk Try.f74.ntmps (bodyC Try.f74) = true := by kernel_rfl
theorem fo75 : fnOk Try.prog 75 = true := by kernel_rfl
theorem co75 : codeOk Try.f75.ntmps (bodyC Try.f75) = true := by kernel_rfl
theorem fo76 : fnOk Try.prog 76 = true := by kernel_rfl
theorem co76 : codeOk Try.f76.ntmps (bodyC Try.f76) = true := by kernel_rfl
theorem fo77 : fnOk Try.prog 77 = true := by kernel_rfl
theorem co77 : codeOk Try.f77.ntmps (bodyC Try.f77) = true := by kernel_rfl
theorem fo78 : fnOk Try.prog 78 = true := by kernel_rfl
theorem co78 : codeOk Try.f78.ntmps (bodyC Try.f78) = true := by kernel_rfl
theorem fo79 : fnOk Try.prog 79 = true := by kernel_rfl
theorem co79 : codeOk Try.f79.ntmps (bodyC Try.f79) = true := by kernel_rfl
theorem fo80 : fnOk Try.prog 80 = true := by kernel_rfl
theorem co80 : codeOk Try.f80.ntmps (bodyC Try.f80) = true := by kernel_rfl
theorem fo81 : fnOk Try.prog 81 = true := by kernel_rfl
theorem co81 : codeOk Try.f81.ntmps (bodyC Try.f81) = true := by kernel_rfl
theorem fo82 : fnOk Try.prog 82 = true := by kernel_rfl
theorem co82 : codeOk Try.f82.ntmps (bodyC Try.f82) = true := by kernel_rfl
theorem fo83 : fnOk Try.prog 83 = true := by kernel_rfl
theorem co83 : codeOk Try.f83.ntmps (bodyC Try.f83) = true := by kernel_rfl
theorem fo84 : fnOk Try.prog 84 = true := by kernel_rfl
theorem co84 : codeOk Try.f84.ntmps (bodyC Try.f84) = true := by kernel_rfl
theorem fo85 : fnOk Try.prog 85 = true := by kernel_rfl
theorem co85 : codeOk Try.f85.ntmps (bodyC Try.f85) = true := by kernel_rfl
theorem ap26_26 : appSz Try.prog 26 26 = some 2 := by kernel_rfl
theorem fo86 : fnOk Try.prog 86 = true := by kernel_rfl
theorem co86 : codeOk Try.f86.ntmps (bodyC Try.f86) = true := by kernel_rfl
theorem ni40 : niD Try.prog 40 = true := by kernel_rfl
theorem fo87 : fnOk Try.prog 87 = true := by kernel_rfl
theorem co87 : codeOk Try.f87.ntmps (bodyC Try.f87) = true := by kernel_rfl
theorem fo88 : fnOk Try.prog 88 = true := by kernel_rfl
theorem co88 : codeOk Try.f88.ntmps (bodyC Try.f88) = true := by kernel_rfl
theorem fo89 : fnOk Try.prog 89 = true := by kernel_rfl
theorem co89 : codeOk Try.f89.ntmps (bodyC Try.f89) = true := by kernel_rfl
theorem fo90 : fnOk Try.prog 90 = true := by kernel_rfl
theorem co90 : codeOk Try.f90.ntmps (bodyC Try.f90) = true := by kernel_rfl
theorem zc136 : zcD Try.prog 136 = some [.nilFunc] := by kernel_rfl
theorem sc136 : scD Try.prog 136 = true := by kernel_rfl
theorem fo91 : fnOk Try.prog 91 = true := by kernel_rfl
theorem co91 : codeOk Try.f91.ntmps (bodyC Try.f91) = true := by kernel_rfl
theorem sc135 : scD Try.prog 135 = true := by kernel_rfl
theorem fo92 : fnOk Try.prog 92 = true := by kernel_rfl
theorem co92 : codeOk Try.f92.ntmps (bodyC Try.f92) = true := by kernel_rfl
theorem fo93 : fnOk Try.prog 93 = true := by kernel_rfl
theorem co93 : codeOk Try.f93.ntmps (bodyC Try.f93) = true := by kernel_rfl
theorem fo94 : fnOk Try.prog 94 = true := by kernel_rfl
theorem co94 : codeOk Try.f94.ntmps (bodyC Try.f94) = true := by kernel_rfl
theorem fo95 : fnOk Try.prog 95 = true := by kernel_rfl
theorem co95 : codeOk Try.f95.ntmps (bodyC Try.f95) = true := by kernel_rfl
theorem fo96 : fnOk Try.prog 96 = true := by kernel_rfl
theorem co96 : codeOk Try.f96.ntmps (bodyC Try.f96) = true := by kernel_rfl
theorem fo97 : fnOk Try.prog 97 = true := by kernel_rfl
theorem co97 : codeOk Try.f97.ntmps (bodyC Try.f97) = true := by kernel_rfl
theorem fo98 : fnOk Try.prog 98 = true := by kernel_rfl
theorem co98 : codeOk Try.f98.ntmps (bodyC Try.f98) = true := by kernel_rfl
theorem fo99 : fnOk Try.prog 99 = true := by kernel_rfl
theorem co99 : codeOk Try.f99.ntmps (bodyC Try.f99) = true := by kernel_rfl
theorem fo100 : fnOk Try.prog 100 = true := by kernel_rfl
theorem co100 : codeOk Try.f100.ntmps (bodyC Try.f100) = true := by kernel_rfl
theorem ap34_34 : appSz Try.prog 34 34 = some 1 := by kernel_rfl
def ly75 : List Lay := [.str, .int .i64, .int .i64, .int .i64, .int .i64]
theorem le75 {hr : RO} {a : Option Addr} {k : Nat} : decL hr a k ly75 0 = [.string (sv (el hr a k)), .int .i64 (iv (el hr a (k + 1))), .int .i64 (iv (el hr a (k + 2))), .int .i64 (iv (el hr a (k + 3))), .int .i64 (iv (el hr a (k + 4)))] := rfl
def wy75 : List Lay := [.str, .int .i64 false, .int .i64 false, .int .i64 false, .int .i64 false]
theorem lw75 {hr : RO} {a : Option Addr} {k : Nat} : decL hr a k wy75 0 = [.string (sv (el hr a k)), .int .i64 (iv (el hr a (k + 1))), .int .i64 (iv (el hr a (k + 2))), .int .i64 (iv (el hr a (k + 3))), .int .i64 (iv (el hr a (k + 4)))] := rfl
theorem wk75 : wkL ly75 = wy75 := rfl
def ly80 : List Lay := [.str, .int .i64, .int .i64]
theorem le80 {hr : RO} {a : Option Addr} {k : Nat} : decL hr a k ly80 0 = [.string (sv (el hr a k)), .int .i64 (iv (el hr a (k + 1))), .int .i64 (iv (el hr a (k + 2)))] := rfl
def wy80 : List Lay := [.str, .int .i64 false, .int .i64 false]
theorem lw80 {hr : RO} {a : Option Addr} {k : Nat} : decL hr a k wy80 0 = [.string (sv (el hr a k)), .int .i64 (iv (el hr a (k + 1))), .int .i64 (iv (el hr a (k + 2)))] := rfl
theorem wk80 : wkL ly80 = wy80 := rfl
def ly47 : List Lay := [.int .i64, .int .i64]
theorem le47 {hr : RO} {a : Option Addr} {k : Nat} : decL hr a k ly47 0 = [.int .i64 (iv (el hr a k)), .int .i64 (iv (el hr a (k + 1)))] := rfl
def wy47 : List Lay := [.int .i64 false, .int .i64 false]
theorem lw47 {hr : RO} {a : Option Addr} {k : Nat} : decL hr a k wy47 0 = [.int .i64 (iv (el hr a k)), .int .i64 (iv (el hr a (k + 1)))] := rfl
theorem wk47 : wkL ly47 = wy47 := rfl
def ly89 : List Lay := [.int .i64, .int .i64, .int .i64, .int .i64, .int .i64]
theorem le89 {hr : RO} {a : Option Addr} {k : Nat} : decL hr a k ly89 0 = [.int .i64 (iv (el hr a k)), .int .i64 (iv (el hr a (k + 1))), .int .i64 (iv (el hr a (k + 2))), .int .i64 (iv (el hr a (k + 3))), .int .i64 (iv (el hr a (k + 4)))] := rfl
def wy89 : List Lay := [.int .i64 false, .int .i64 false, .int .i64 false, .int .i64 false, .int .i64 false]
theorem lw89 {hr : RO} {a : Option Addr} {k : Nat} : decL hr a k wy89 0 = [.int .i64 (iv (el hr a k)), .int .i64 (iv (el hr a (k + 1))), .int .i64 (iv (el hr a (k + 2))), .int .i64 (iv (el hr a (k + 3))), .int .i64 (iv (el hr a (k + 4)))] := rfl
theorem wk89 : wkL ly89 = wy89 := rfl
def ly134 : List Lay := [.int .i64, .int .i64]
theorem le134 {hr : RO} {a : Option Addr} {k : Nat} : decL hr a k ly134 0 = [.int .i64 (iv (el hr a k)), .int .i64 (iv (el hr a (k + 1)))] := rfl
def wy134 : List Lay := [.int .i64 false, .int .i64 false]
theorem lw134 {hr : RO} {a : Option Addr} {k : Nat} : decL hr a k wy134 0 = [.int .i64 (iv (el hr a k)), .int .i64 (iv (el hr a (k + 1)))] := rfl
theorem wk134 : wkL ly134 = wy134 := rfl
def ly3 : List Lay := [.int .i64]
theorem le3 {hr : RO} {a : Option Addr} {k : Nat} : decL hr a k ly3 0 = [.int .i64 (iv (el hr a k))] := rfl
def wy3 : List Lay := [.int .i64 false]
theorem lw3 {hr : RO} {a : Option Addr} {k : Nat} : decL hr a k wy3 0 = [.int .i64 (iv (el hr a k))] := rfl
theorem wk3 : wkL ly3 = wy3 := rfl
def ly33 : List Lay := [.sl ly75, .sl ly80, .int .i64, .int .i64, .int .i64, .sl ly47, .sl ly89, .int .i64, .sl ly134, .int .i64, .sl ly3, .sl ly47, .int .i64]
theorem le33 {hr : RO} {a : Option Addr} {k : Nat} : decL hr a k ly33 0 = [.slice (sa (el hr a k)) (sn (el hr a k)) (sc (el hr a k)), .slice (sa (el hr a (k + 1))) (sn (el hr a (k + 1))) (sc (el hr a (k + 1))), .int .i64 (iv (el hr a (k + 2))), .int .i64 (iv (el hr a (k + 3))), .int .i64 (iv (el hr a (k + 4))), .slice (sa (el hr a (k + 5))) (sn (el hr a (k + 5))) (sc (el hr a (k + 5))), .slice (sa (el hr a (k + 6))) (sn (el hr a (k + 6))) (sc (el hr a (k + 6))), .int .i64 (iv (el hr a (k + 7))), .slice (sa (el hr a (k + 8))) (sn (el hr a (k + 8))) (sc (el hr a (k + 8))), .int .i64 (iv (el hr a (k + 9))), .slice (sa (el hr a (k + 10))) (sn (el hr a (k + 10))) (sc (el hr a (k + 10))), .slice (sa (el hr a (k + 11))) (sn (el hr a (k + 11))) (sc (el hr a (k + 11))), .int .i64 (iv (el hr a (k + 12)))] := rfl
def wy33 : List Lay := [.sl wy75, .sl wy80, .int .i64 false, .int .i64 false, .int .i64 false, .sl wy47, .sl wy89, .int .i64 false, .sl wy134, .int .i64 false, .sl wy3, .sl wy47, .int .i64 false]
theorem lw33 {hr : RO} {a : Option Addr} {k : Nat} : decL hr a k wy33 0 = [.slice (sa (el hr a k)) (sn (el hr a k)) (sc (el hr a k)), .slice (sa (el hr a (k + 1))) (sn (el hr a (k + 1))) (sc (el hr a (k + 1))), .int .i64 (iv (el hr a (k + 2))), .int .i64 (iv (el hr a (k + 3))), .int .i64 (iv (el hr a (k + 4))), .slice (sa (el hr a (k + 5))) (sn (el hr a (k + 5))) (sc (el hr a (k + 5))), .slice (sa (el hr a (k + 6))) (sn (el hr a (k + 6))) (sc (el hr a (k + 6))), .int .i64 (iv (el hr a (k + 7))), .slice (sa (el hr a (k + 8))) (sn (el hr a (k + 8))) (sc (el hr a (k + 8))), .int .i64 (iv (el hr a (k + 9))), .slice (sa (el hr a (k + 10))) (sn (el hr a (k + 10))) (sc (el hr a (k + 10))), .slice (sa (el hr a (k + 11))) (sn (el hr a (k + 11))) (sc (el hr a (k + 11))), .int .i64 (iv (el hr a (k + 12)))] := rfl
theorem wk33 : wkL ly33 = wy33 := rfl
def ly9 : List Lay := [.str]
theorem le9 {hr : RO} {a : Option Addr} {k : Nat} : decL hr a k ly9 0 = [.string (sv (el hr a k))] := rfl
def wy9 : List Lay := [.str]
theorem lw9 {hr : RO} {a : Option Addr} {k : Nat} : decL hr a k wy9 0 = [.string (sv (el hr a k))] := rfl
theorem wk9 : wkL ly9 = wy9 := rfl
def ly36 : List Lay := [.sl ly3, .sl ly9]
theorem le36 {hr : RO} {a : Option Addr} {k : Nat} : decL hr a k ly36 0 = [.slice (sa (el hr a k)) (sn (el hr a k)) (sc (el hr a k)), .slice (sa (el hr a (k + 1))) (sn (el hr a (k + 1))) (sc (el hr a (k + 1)))] := rfl
def wy36 : List Lay := [.sl wy3, .sl wy9]
theorem lw36 {hr : RO} {a : Option Addr} {k : Nat} : decL hr a k wy36 0 = [.slice (sa (el hr a k)) (sn (el hr a k)) (sc (el hr a k)), .slice (sa (el hr a (k + 1))) (sn (el hr a (k + 1))) (sc (el hr a (k + 1)))] := rfl
theorem wk36 : wkL ly36 = wy36 := rfl
def ly25 : List Lay := [.sl ly75, .sl ly80]
theorem le25 {hr : RO} {a : Option Addr} {k : Nat} : decL hr a k ly25 0 = [.slice (sa (el hr a k)) (sn (el hr a k)) (sc (el hr a k)), .slice (sa (el hr a (k + 1))) (sn (el hr a (k + 1))) (sc (el hr a (k + 1)))] := rfl
def wy25 : List Lay := [.sl wy75, .sl wy80]
theorem lw25 {hr : RO} {a : Option Addr} {k : Nat} : decL hr a k wy25 0 = [.slice (sa (el hr a k)) (sn (el hr a k)) (sc (el hr a k)), .slice (sa (el hr a (k + 1))) (sn (el hr a (k + 1))) (sc (el hr a (k + 1)))] := rfl
theorem wk25 : wkL ly25 = wy25 := rfl
def ly30 : List Lay := [.sl ly134, .int .i64]
theorem le30 {hr : RO} {a : Option Addr} {k : Nat} : decL hr a k ly30 0 = [.slice (sa (el hr a k)) (sn (el hr a k)) (sc (el hr a k)), .int .i64 (iv (el hr a (k + 1)))] := rfl
def wy30 : List Lay := [.sl wy134, .int .i64 false]
theorem lw30 {hr : RO} {a : Option Addr} {k : Nat} : decL hr a k wy30 0 = [.slice (sa (el hr a k)) (sn (el hr a k)) (sc (el hr a k)), .int .i64 (iv (el hr a (k + 1)))] := rfl
theorem wk30 : wkL ly30 = wy30 := rfl
end Go.Proofs.Ytmlknglgijeepaa
