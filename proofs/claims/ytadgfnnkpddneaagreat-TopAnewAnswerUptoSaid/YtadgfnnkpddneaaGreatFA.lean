/- answer: static facts of the program (written by wip/tools/Facts.lean). -/
import Derived.Test.YtadgfnnkpddneaaGreatGC
import Derived.Test.YtadgfnnkpddneaaGreatRows
import Derived.KernelRfl
set_option linter.all false
set_option linter.constructorNameAsVariable false
set_option linter.unusedSimpArgs false
set_option linter.unusedVariables false
set_option linter.unusedSectionVars false
set_option linter.unnecessarySimpa false
namespace Go.Proofs.YtadgfnnkpddneaaGreat
open Go Go.E
theorem mx : Tryz.prog.follows .mixedOrders = true := Checked.mixed Tryz.checked
theorem co3 : codeOk Tryz.f3.ntmps (bodyC Tryz.f3) = true := by kernel_rfl
theorem zc32 : zcD Tryz.prog 32 = some [.slice none 0 0, .slice none 0 0] := by kernel_rfl
theorem ag29 : agD Tryz.prog 29 = some 6 := by kernel_rfl
theorem ag32 : agD Tryz.prog 32 = some 2 := by kernel_rfl
theorem fo4 : fnOk Tryz.prog 4 = true := by kernel_rfl
theorem co4 : codeOk Tryz.f4.ntmps (bodyC Tryz.f4) = true := by kernel_rfl
theorem fa29_0 : faD Tryz.prog 29 0 = some 0 := by kernel_rfl
theorem ag25 : agD Tryz.prog 25 = some 3 := by kernel_rfl
theorem fa29_1 : faD Tryz.prog 29 1 = some 3 := by kernel_rfl
theorem sc26 : scD Tryz.prog 26 = true := by kernel_rfl
theorem fa29_2 : faD Tryz.prog 29 2 = some 4 := by kernel_rfl
theorem sc3 : scD Tryz.prog 3 = true := by kernel_rfl
theorem fa29_3 : faD Tryz.prog 29 3 = some 5 := by kernel_rfl
theorem sc27 : scD Tryz.prog 27 = true := by kernel_rfl
theorem fo5 : fnOk Tryz.prog 5 = true := by kernel_rfl
theorem co5 : codeOk Tryz.f5.ntmps (bodyC Tryz.f5) = true := by kernel_rfl
theorem fo6 : fnOk Tryz.prog 6 = true := by kernel_rfl
theorem co6 : codeOk Tryz.f6.ntmps (bodyC Tryz.f6) = true := by kernel_rfl
theorem fo7 : fnOk Tryz.prog 7 = true := by kernel_rfl
theorem co7 : codeOk Tryz.f7.ntmps (bodyC Tryz.f7) = true := by kernel_rfl
theorem fa25_0 : faD Tryz.prog 25 0 = some 0 := by kernel_rfl
theorem sc22 : scD Tryz.prog 22 = true := by kernel_rfl
theorem el22 : elD Tryz.prog 22 = some 5 := by kernel_rfl
theorem ez22 : (elZ Tryz.prog 22).isSome = true := by kernel_rfl
theorem el23 : elD Tryz.prog 23 = some 1 := by kernel_rfl
theorem ez23 : (elZ Tryz.prog 23).isSome = true := by kernel_rfl
theorem fa25_1 : faD Tryz.prog 25 1 = some 1 := by kernel_rfl
theorem sc23 : scD Tryz.prog 23 = true := by kernel_rfl
theorem ag81 : agD Tryz.prog 81 = some 5 := by kernel_rfl
theorem zc81 : zcD Tryz.prog 81 = some [.int .i64 0, .int .i64 0, .int .i64 0, .int .i64 0, .int .i64 0] := by kernel_rfl
theorem fa81_0 : faD Tryz.prog 81 0 = some 0 := by kernel_rfl
theorem fa81_1 : faD Tryz.prog 81 1 = some 1 := by kernel_rfl
theorem fa81_2 : faD Tryz.prog 81 2 = some 2 := by kernel_rfl
theorem fa81_3 : faD Tryz.prog 81 3 = some 3 := by kernel_rfl
theorem fa81_4 : faD Tryz.prog 81 4 = some 4 := by kernel_rfl
theorem fa25_2 : faD Tryz.prog 25 2 = some 2 := by kernel_rfl
theorem fo8 : fnOk Tryz.prog 8 = true := by kernel_rfl
theorem co8 : codeOk Tryz.f8.ntmps (bodyC Tryz.f8) = true := by kernel_rfl
theorem fa32_0 : faD Tryz.prog 32 0 = some 0 := by kernel_rfl
theorem ap23_23 : appSz Tryz.prog 23 23 = some 1 := by kernel_rfl
theorem fo9 : fnOk Tryz.prog 9 = true := by kernel_rfl
theorem co9 : codeOk Tryz.f9.ntmps (bodyC Tryz.f9) = true := by kernel_rfl
theorem fo10 : fnOk Tryz.prog 10 = true := by kernel_rfl
theorem co10 : codeOk Tryz.f10.ntmps (bodyC Tryz.f10) = true := by kernel_rfl
theorem fo11 : fnOk Tryz.prog 11 = true := by kernel_rfl
theorem co11 : codeOk Tryz.f11.ntmps (bodyC Tryz.f11) = true := by kernel_rfl
theorem zc23 : zcD Tryz.prog 23 = some [.slice none 0 0] := by kernel_rfl
theorem fo12 : fnOk Tryz.prog 12 = true := by kernel_rfl
theorem co12 : codeOk Tryz.f12.ntmps (bodyC Tryz.f12) = true := by kernel_rfl
theorem fa86_2 : faD Tryz.prog 86 2 = some 4 := by kernel_rfl
theorem sc52 : scD Tryz.prog 52 = true := by kernel_rfl
theorem el52 : elD Tryz.prog 52 = some 2 := by kernel_rfl
theorem ez52 : (elZ Tryz.prog 52).isSome = true := by kernel_rfl
theorem fo13 : fnOk Tryz.prog 13 = true := by kernel_rfl
theorem co13 : codeOk Tryz.f13.ntmps (bodyC Tryz.f13) = true := by kernel_rfl
theorem fo14 : fnOk Tryz.prog 14 = true := by kernel_rfl
theorem co14 : codeOk Tryz.f14.ntmps (bodyC Tryz.f14) = true := by kernel_rfl
theorem fo15 : fnOk Tryz.prog 15 = true := by kernel_rfl
theorem co15 : codeOk Tryz.f15.ntmps (bodyC Tryz.f15) = true := by kernel_rfl
theorem fo16 : fnOk Tryz.prog 16 = true := by kernel_rfl
theorem co16 : codeOk Tryz.f16.ntmps (bodyC Tryz.f16) = true := by kernel_rfl
theorem fo17 : fnOk Tryz.prog 17 = true := by kernel_rfl
theorem co17 : codeOk Tryz.f17.ntmps (bodyC Tryz.f17) = true := by kernel_rfl
theorem fo18 : fnOk Tryz.prog 18 = true := by kernel_rfl
theorem co18 : codeOk Tryz.f18.ntmps (bodyC Tryz.f18) = true := by kernel_rfl
theorem fo19 : fnOk Tryz.prog 19 = true := by kernel_rfl
theorem co19 : codeOk Tryz.f19.ntmps (bodyC Tryz.f19) = true := by kernel_rfl
theorem fo20 : fnOk Tryz.prog 20 = true := by kernel_rfl
theorem co20 : codeOk Tryz.f20.ntmps (bodyC Tryz.f20) = true := by kernel_rfl
theorem zc82 : zcD Tryz.prog 82 = some [.pointer none] := by kernel_rfl
theorem sc82 : scD Tryz.prog 82 = true := by kernel_rfl
theorem fo21 : fnOk Tryz.prog 21 = true := by kernel_rfl
theorem co21 : codeOk Tryz.f21.ntmps (bodyC Tryz.f21) = true := by kernel_rfl
theorem fo22 : fnOk Tryz.prog 22 = true := by kernel_rfl
theorem co22 : codeOk Tryz.f22.ntmps (bodyC Tryz.f22) = true := by kernel_rfl
theorem zc52 : zcD Tryz.prog 52 = some [.slice none 0 0] := by kernel_rfl
theorem fo23 : fnOk Tryz.prog 23 = true := by kernel_rfl
theorem co23 : codeOk Tryz.f23.ntmps (bodyC Tryz.f23) = true := by kernel_rfl
theorem ag59 : agD Tryz.prog 59 = some 2 := by kernel_rfl
theorem zc3 : zcD Tryz.prog 3 = some [.int .i64 0] := by kernel_rfl
theorem zc59 : zcD Tryz.prog 59 = some [.int .i64 0, .int .i64 0] := by kernel_rfl
theorem ap52_52 : appSz Tryz.prog 52 52 = some 2 := by kernel_rfl
theorem fo24 : fnOk Tryz.prog 24 = true := by kernel_rfl
theorem co24 : codeOk Tryz.f24.ntmps (bodyC Tryz.f24) = true := by kernel_rfl
theorem fo25 : fnOk Tryz.prog 25 = true := by kernel_rfl
theorem co25 : codeOk Tryz.f25.ntmps (bodyC Tryz.f25) = true := by kernel_rfl
theorem fo26 : fnOk Tryz.prog 26 = true := by kernel_rfl
theorem co26 : codeOk Tryz.f26.ntmps (bodyC Tryz.f26) = true := by kernel_rfl
theorem fo27 : fnOk Tryz.prog 27 = true := by kernel_rfl
theorem co27 : codeOk Tryz.f27.ntmps (bodyC Tryz.f27) = true := by kernel_rfl
theorem fo28 : fnOk Tryz.prog 28 = true := by kernel_rfl
theorem co28 : codeOk Tryz.f28.ntmps (bodyC Tryz.f28) = true := by kernel_rfl
theorem el104 : elD Tryz.prog 104 = some 1 := by kernel_rfl
theorem ze104 : elZ Tryz.prog 104 = some [.bool false] := by kernel_rfl
theorem zc104 : zcD Tryz.prog 104 = some [.slice none 0 0] := by kernel_rfl
theorem sc104 : scD Tryz.prog 104 = true := by kernel_rfl
theorem sc4 : scD Tryz.prog 4 = true := by kernel_rfl
theorem zc105 : zcD Tryz.prog 105 = some [.map none] := by kernel_rfl
theorem sc105 : scD Tryz.prog 105 = true := by kernel_rfl
theorem zc106 : zcD Tryz.prog 106 = some [.nilFunc] := by kernel_rfl
theorem sc106 : scD Tryz.prog 106 = true := by kernel_rfl
theorem zc107 : zcD Tryz.prog 107 = some [.int .i64 0, .int .i64 0] := by kernel_rfl
theorem ag107 : agD Tryz.prog 107 = some 2 := by kernel_rfl
theorem fo29 : fnOk Tryz.prog 29 = true := by kernel_rfl
theorem co29 : codeOk Tryz.f29.ntmps (bodyC Tryz.f29) = true := by kernel_rfl
theorem fa59_0 : faD Tryz.prog 59 0 = some 0 := by kernel_rfl
theorem fa59_1 : faD Tryz.prog 59 1 = some 1 := by kernel_rfl
theorem fo30 : fnOk Tryz.prog 30 = true := by kernel_rfl
theorem co30 : codeOk Tryz.f30.ntmps (bodyC Tryz.f30) = true := by kernel_rfl
theorem zc25 : zcD Tryz.prog 25 = some [.slice none 0 0, .slice none 0 0, .int .i64 0] := by kernel_rfl
theorem fo31 : fnOk Tryz.prog 31 = true := by kernel_rfl
theorem co31 : codeOk Tryz.f31.ntmps (bodyC Tryz.f31) = true := by kernel_rfl
theorem bo25 : boD Tryz.prog 25 = true := by kernel_rfl
theorem fo32 : fnOk Tryz.prog 32 = true := by kernel_rfl
theorem co32 : codeOk Tryz.f32.ntmps (bodyC Tryz.f32) = true := by kernel_rfl
theorem fo33 : fnOk Tryz.prog 33 = true := by kernel_rfl
theorem co33 : codeOk Tryz.f33.ntmps (bodyC Tryz.f33) = true := by kernel_rfl
theorem fo34 : fnOk Tryz.prog 34 = true := by kernel_rfl
theorem co34 : codeOk Tryz.f34.ntmps (bodyC Tryz.f34) = true := by kernel_rfl
theorem fo35 : fnOk Tryz.prog 35 = true := by kernel_rfl
theorem co35 : codeOk Tryz.f35.ntmps (bodyC Tryz.f35) = true := by kernel_rfl
theorem zc68 : zcD Tryz.prog 68 = some [.slice none 0 0] := by kernel_rfl
theorem sc68 : scD Tryz.prog 68 = true := by kernel_rfl
theorem fo36 : fnOk Tryz.prog 36 = true := by kernel_rfl
theorem co36 : codeOk Tryz.f36.ntmps (bodyC Tryz.f36) = true := by kernel_rfl
theorem el27 : elD Tryz.prog 27 = some 1 := by kernel_rfl
theorem ez27 : (elZ Tryz.prog 27).isSome = true := by kernel_rfl
theorem el68 : elD Tryz.prog 68 = some 2 := by kernel_rfl
theorem fa120_0 : faD Tryz.prog 120 0 = some 0 := by kernel_rfl
theorem fa120_1 : faD Tryz.prog 120 1 = some 1 := by kernel_rfl
theorem fo37 : fnOk Tryz.prog 37 = true := by kernel_rfl
theorem co37 : codeOk Tryz.f37.ntmps (bodyC Tryz.f37) = true := by kernel_rfl
theorem fo38 : fnOk Tryz.prog 38 = true := by kernel_rfl
theorem co38 : codeOk Tryz.f38.ntmps (bodyC Tryz.f38) = true := by kernel_rfl
theorem fo39 : fnOk Tryz.prog 39 = true := by kernel_rfl
theorem co39 : codeOk Tryz.f39.ntmps (bodyC Tryz.f39) = true := by kernel_rfl
theorem fo40 : fnOk Tryz.prog 40 = true := by kernel_rfl
theorem co40 : codeOk Tryz.f40.ntmps (bodyC Tryz.f40) = true := by kernel_rfl
theorem fa32_1 : faD Tryz.prog 32 1 = some 1 := by kernel_rfl
theorem sc30 : scD Tryz.prog 30 = true := by kernel_rfl
theorem el30 : elD Tryz.prog 30 = some 1 := by kernel_rfl
theorem sc9 : scD Tryz.prog 9 = true := by kernel_rfl
theorem fo42 : fnOk Tryz.prog 42 = true := by kernel_rfl
theorem co42 : codeOk Tryz.f42.ntmps (bodyC Tryz.f42) = true := by kernel_rfl
theorem fo43 : fnOk Tryz.prog 43 = true := by kernel_rfl
theorem co43 : codeOk Tryz.f43.ntmps (bodyC Tryz.f43) = true := by kernel_rfl
theorem fo44 : fnOk Tryz.prog 44 = true := by kernel_rfl
theorem co44 : codeOk Tryz.f44.ntmps (bodyC Tryz.f44) = true := by kernel_rfl
theorem fo45 : fnOk Tryz.prog 45 = true := by kernel_rfl
theorem co45 : codeOk Tryz.f45.ntmps (bodyC Tryz.f45) = true := by kernel_rfl
theorem fo46 : fnOk Tryz.prog 46 = true := by kernel_rfl
theorem co46 : codeOk Tryz.f46.ntmps (bodyC Tryz.f46) = true := by kernel_rfl
theorem fa86_0 : faD Tryz.prog 86 0 = some 0 := by kernel_rfl
theorem ze23 : elZ Tryz.prog 23 = some [.int .i64 0] := by kernel_rfl
theorem fo47 : fnOk Tryz.prog 47 = true := by kernel_rfl
theorem co47 : codeOk Tryz.f47.ntmps (bodyC Tryz.f47) = true := by kernel_rfl
theorem fo48 : fnOk Tryz.prog 48 = true := by kernel_rfl
theorem co48 : codeOk Tryz.f48.ntmps (bodyC Tryz.f48) = true := by kernel_rfl
theorem fo49 : fnOk Tryz.prog 49 = true := by kernel_rfl
theorem co49 : codeOk Tryz.f49.ntmps (bodyC Tryz.f49) = true := by kernel_rfl
theorem fo50 : fnOk Tryz.prog 50 = true := by kernel_rfl
theorem co50 : codeOk Tryz.f50.ntmps (bodyC Tryz.f50) = true := by kernel_rfl
theorem fo51 : fnOk Tryz.prog 51 = true := by kernel_rfl
theorem co51 : codeOk Tryz.f51.ntmps (bodyC Tryz.f51) = true := by kernel_rfl
theorem fo52 : fnOk Tryz.prog 52 = true := by kernel_rfl
theorem co52 : codeOk Tryz.f52.ntmps (bodyC Tryz.f52) = true := by kernel_rfl
theorem zc4 : zcD Tryz.prog 4 = some [.bool false] := by kernel_rfl
theorem sc88 : scD Tryz.prog 88 = true := by kernel_rfl
theorem fo53 : fnOk Tryz.prog 53 = true := by kernel_rfl
theorem co53 : codeOk Tryz.f53.ntmps (bodyC Tryz.f53) = true := by kernel_rfl
theorem fo54 : fnOk Tryz.prog 54 = true := by kernel_rfl
theorem co54 : codeOk Tryz.f54.ntmps (bodyC Tryz.f54) = true := by kernel_rfl
theorem fo55 : fnOk Tryz.prog 55 = true := by kernel_rfl
theorem co55 : codeOk Tryz.f55.ntmps (bodyC Tryz.f55) = true := by kernel_rfl
theorem us3 : (Tryz.prog.underlying 3).isSome = true := by kernel_rfl
theorem in136 : inD Tryz.prog 136 = some .u64 := by kernel_rfl
theorem fo56 : fnOk Tryz.prog 56 = true := by kernel_rfl
theorem co56 : codeOk Tryz.f56.ntmps (bodyC Tryz.f56) = true := by kernel_rfl
theorem fo57 : fnOk Tryz.prog 57 = true := by kernel_rfl
theorem co57 : codeOk Tryz.f57.ntmps (bodyC Tryz.f57) = true := by kernel_rfl
theorem fo58 : fnOk Tryz.prog 58 = true := by kernel_rfl
theorem co58 : codeOk Tryz.f58.ntmps (bodyC Tryz.f58) = true := by kernel_rfl
theorem fo59 : fnOk Tryz.prog 59 = true := by kernel_rfl
theorem co59 : codeOk Tryz.f59.ntmps (bodyC Tryz.f59) = true := by kernel_rfl
theorem fo60 : fnOk Tryz.prog 60 = true := by kernel_rfl
theorem co60 : codeOk Tryz.f60.ntmps (bodyC Tryz.f60) = true := by kernel_rfl
theorem fo61 : fnOk Tryz.prog 61 = true := by kernel_rfl
theorem co61 : codeOk Tryz.f61.ntmps (bodyC Tryz.f61) = true := by kernel_rfl
theorem az107 : azD Tryz.prog 107 = some 2 := by kernel_rfl
theorem fo62 : fnOk Tryz.prog 62 = true := by kernel_rfl
theorem co62 : codeOk Tryz.f62.ntmps (bodyC Tryz.f62) = true := by kernel_rfl
theorem fo63 : fnOk Tryz.prog 63 = true := by kernel_rfl
theorem co63 : codeOk Tryz.f63.ntmps (bodyC Tryz.f63) = true := by kernel_rfl
theorem sc109 : scD Tryz.prog 109 = true := by kernel_rfl
theorem fo64 : fnOk Tryz.prog 64 = true := by kernel_rfl
theorem co64 : codeOk Tryz.f64.ntmps (bodyC Tryz.f64) = true := by kernel_rfl
theorem fo65 : fnOk Tryz.prog 65 = true := by kernel_rfl
theorem co65 : codeOk Tryz.f65.ntmps (bodyC Tryz.f65) = true := by kernel_rfl
theorem ap22_22 : appSz Tryz.prog 22 22 = some 5 := by kernel_rfl
theorem fo66 : fnOk Tryz.prog 66 = true := by kernel_rfl
theorem co66 : codeOk Tryz.f66.ntmps (bodyC Tryz.f66) = true := by kernel_rfl
theorem fo67 : fnOk Tryz.prog 67 = true := by kernel_rfl
theorem co67 : codeOk Tryz.f67.ntmps (bodyC Tryz.f67) = true := by kernel_rfl
theorem fo68 : fnOk Tryz.prog 68 = true := by kernel_rfl
theorem co68 : codeOk Tryz.f68.ntmps (bodyC Tryz.f68) = true := by kernel_rfl
theorem fo69 : fnOk Tryz.prog 69 = true := by kernel_rfl
theorem co69 : codeOk Tryz.f69.ntmps (bodyC Tryz.f69) = true := by kernel_rfl
theorem fo70 : fnOk Tryz.prog 70 = true := by kernel_rfl
theorem co70 : codeOk Tryz.f70.ntmps (bodyC Tryz.f70) = true := by kernel_rfl
theorem el26 : elD Tryz.prog 26 = some 1 := by kernel_rfl
theorem ez26 : (elZ Tryz.prog 26).isSome = true := by kernel_rfl
theorem zc86 : zcD Tryz.prog 86 = some [.slice none 0 0, .slice none 0 0, .int .i64 0, .slice none 0 0, .slice none 0 0] := by kernel_rfl
theorem bo86 : boD Tryz.prog 86 = true := by kernel_rfl
theorem fz86_0 : fzD Tryz.prog 86 0 = some (0, 3) := by kernel_rfl
theorem fz86_1 : fzD Tryz.prog 86 1 = some (3, 1) := by kernel_rfl
theorem bo59 : boD Tryz.prog 59 = true := by kernel_rfl
theorem fz59_0 : fzD Tryz.prog 59 0 = some (0, 1) := by kernel_rfl
theorem fz59_1 : fzD Tryz.prog 59 1 = some (1, 1) := by kernel_rfl
theorem fo71 : fnOk Tryz.prog 71 = true := by kernel_rfl
theorem co71 : codeOk Tryz.f71.ntmps (bodyC Tryz.f71) = true := by kernel_rfl
theorem fo72 : fnOk Tryz.prog 72 = true := by kernel_rfl
theorem co72 : codeOk Tryz.f72.ntmps (bodyC Tryz.f72) = true := by kernel_rfl
theorem fa86_1 : faD Tryz.prog 86 1 = some 3 := by kernel_rfl
theorem fo73 : fnOk Tryz.prog 73 = true := by kernel_rfl
theorem co73 : codeOk Tryz.f73.ntmps (bodyC Tryz.f73) = true := by kernel_rfl
theorem ag120 : agD Tryz.prog 120 = some 2 := by kernel_rfl
theorem fo74 : fnOk Tryz.prog 74 = true := by kernel_rfl
theorem co74 : codeOk Tryz.f74.ntmps (bodyC Tryz.f74) = true := by kernel_rfl
theorem fo75 : fnOk Tryz.prog 75 = true := by kernel_rfl
theorem co75 : codeOk Tryz.f75.ntmps (bodyC Tryz.f75) = true := by kernel_rfl
theorem fo76 : fnOk Tryz.prog 76 = true := by kernel_rfl
theorem co76 : codeOk Tryz.f76.ntmps (bodyC Tryz.f76) = true := by kernel_rfl
theorem fo83 : fnOk Tryz.prog 83 = true := by kernel_rfl
theorem co83 : codeOk Tryz.f83.ntmps (bodyC Tryz.f83) = true := by kernel_rfl
theorem fo84 : fnOk Tryz.prog 84 = true := by kernel_rfl
theorem co84 : codeOk Tryz.f84.ntmps (bodyC Tryz.f84) = true := by kernel_rfl
theorem fo85 : fnOk Tryz.prog 85 = true := by kernel_rfl
theorem co85 : codeOk Tryz.f85.ntmps (bodyC Tryz.f85) = true := by kernel_rfl
theorem fo86 : fnOk Tryz.prog 86 = true := by kernel_rfl
theorem co86 : codeOk Tryz.f86.ntmps (bodyC Tryz.f86) = true := by kernel_rfl
theorem fo87 : fnOk Tryz.prog 87 = true := by kernel_rfl
theorem co87 : codeOk Tryz.f87.ntmps (bodyC Tryz.f87) = true := by kernel_rfl
theorem fo88 : fnOk Tryz.prog 88 = true := by kernel_rfl
theorem co88 : codeOk Tryz.f88.ntmps (bodyC Tryz.f88) = true := by kernel_rfl
theorem fo89 : fnOk Tryz.prog 89 = true := by kernel_rfl
theorem co89 : codeOk Tryz.f89.ntmps (bodyC Tryz.f89) = true := by kernel_rfl
theorem us136 : (Tryz.prog.underlying 136).isSome = true := by kernel_rfl
theorem fo90 : fnOk Tryz.prog 90 = true := by kernel_rfl
theorem co90 : codeOk Tryz.f90.ntmps (bodyC Tryz.f90) = true := by kernel_rfl
theorem fo91 : fnOk Tryz.prog 91 = true := by kernel_rfl
theorem co91 : codeOk Tryz.f91.ntmps (bodyC Tryz.f91) = true := by kernel_rfl
theorem fo92 : fnOk Tryz.prog 92 = true := by kernel_rfl
theorem co92 : codeOk Tryz.f92.ntmps (bodyC Tryz.f92) = true := by kernel_rfl
theorem fo93 : fnOk Tryz.prog 93 = true := by kernel_rfl
theorem co93 : codeOk Tryz.f93.ntmps (bodyC Tryz.f93) = true := by kernel_rfl
theorem fo94 : fnOk Tryz.prog 94 = true := by kernel_rfl
theorem co94 : codeOk Tryz.f94.ntmps (bodyC Tryz.f94) = true := by kernel_rfl
theorem fo95 : fnOk Tryz.prog 95 = true := by kernel_rfl
theorem co95 : codeOk Tryz.f95.ntmps (bodyC Tryz.f95) = true := by kernel_rfl
theorem fo96 : fnOk Tryz.prog 96 = true := by kernel_rfl
theorem co96 : codeOk Tryz.f96.ntmps (bodyC Tryz.f96) = true := by kernel_rfl
theorem fo97 : fnOk Tryz.prog 97 = true := by kernel_rfl
theorem co97 : codeOk Tryz.f97.ntmps (bodyC Tryz.f97) = true := by kernel_rfl
theorem fo98 : fnOk Tryz.prog 98 = true := by kernel_rfl
theorem co98 : codeOk Tryz.f98.ntmps (bodyC Tryz.f98) = true := by kernel_rfl
theorem fo99 : fnOk Tryz.prog 99 = true := by kernel_rfl
theorem co99 : codeOk Tryz.f99.ntmps (bodyC Tryz.f99) = true := by kernel_rfl
theorem in161 : inD Tryz.prog 161 = some .u64 := by kernel_rfl
theorem zc161 : zcD Tryz.prog 161 = some [.int .u64 0] := by kernel_rfl
theorem sc161 : scD Tryz.prog 161 = true := by kernel_rfl
theorem in3 : inD Tryz.prog 3 = some .i64 := by kernel_rfl
theorem fo100 : fnOk Tryz.prog 100 = true := by kernel_rfl
theorem co100 : codeOk Tryz.f100.ntmps (bodyC Tryz.f100) = true := by kernel_rfl
theorem fo101 : fnOk Tryz.prog 101 = true := by kernel_rfl
theorem co101 : codeOk Tryz.f101.ntmps (bodyC Tryz.f101) = true := by kernel_rfl
theorem fo102 : fnOk Tryz.prog 102 = true := by kernel_rfl
theorem co102 : codeOk Tryz.f102.ntmps (bodyC Tryz.f102) = true := by kernel_rfl
theorem fo103 : fnOk Tryz.prog 103 = true := by kernel_rfl
theorem co103 : codeOk Tryz.f103.ntmps (bodyC Tryz.f103) = true := by kernel_rfl
theorem fo104 : fnOk Tryz.prog 104 = true := by kernel_rfl
theorem co104 : codeOk Tryz.f104.ntmps (bodyC Tryz.f104) = true := by kernel_rfl
theorem fo105 : fnOk Tryz.prog 105 = true := by kernel_rfl
theorem co105 : codeOk Tryz.f105.ntmps (bodyC Tryz.f105) = true := by kernel_rfl
theorem in5 : inD Tryz.prog 5 = some .u8 := by kernel_rfl
theorem st9 : isStrD Tryz.prog 9 = true := by kernel_rfl
theorem us5 : (Tryz.prog.underlying 5).isSome = true := by kernel_rfl
theorem fo107 : fnOk Tryz.prog 107 = true := by kernel_rfl
theorem co107 : codeOk Tryz.f107.ntmps (bodyC Tryz.f107) = true := by kernel_rfl
theorem us159 : (Tryz.prog.underlying 159).isSome = true := by kernel_rfl
theorem fo108 : fnOk Tryz.prog 108 = true := by kernel_rfl
theorem co108 : codeOk Tryz.f108.ntmps (bodyC Tryz.f108) = true := by kernel_rfl
theorem fo109 : fnOk Tryz.prog 109 = true := by kernel_rfl
theorem co109 : codeOk Tryz.f109.ntmps (bodyC Tryz.f109) = true := by kernel_rfl
theorem fo110 : fnOk Tryz.prog 110 = true := by kernel_rfl
theorem co110 : codeOk Tryz.f110.ntmps (bodyC Tryz.f110) = true := by kernel_rfl
theorem fo111 : fnOk Tryz.prog 111 = true := by kernel_rfl
theorem co111 : codeOk Tryz.f111.ntmps (bodyC Tryz.f111) = true := by kernel_rfl
theorem fo112 : fnOk Tryz.prog 112 = true := by kernel_rfl
theorem co112 : codeOk Tryz.f112.ntmps (bodyC Tryz.f112) = true := by kernel_rfl
theorem fo113 : fnOk Tryz.prog 113 = true := by kernel_rfl
theorem co113 : codeOk Tryz.f113.ntmps (bodyC Tryz.f113) = true := by kernel_rfl
theorem fo114 : fnOk Tryz.prog 114 = true := by kernel_rfl
theorem co114 : codeOk Tryz.f114.ntmps (bodyC Tryz.f114) = true := by kernel_rfl
def ly81 : List Lay := [.int .i64, .int .i64, .int .i64, .int .i64, .int .i64]
theorem le81 {hr : RO} {a : Option Addr} {k : Nat} : decL hr a k ly81 0 = [.int .i64 (iv (el hr a k)), .int .i64 (iv (el hr a (k + 1))), .int .i64 (iv (el hr a (k + 2))), .int .i64 (iv (el hr a (k + 3))), .int .i64 (iv (el hr a (k + 4)))] := rfl
def wy81 : List Lay := [.int .i64 false, .int .i64 false, .int .i64 false, .int .i64 false, .int .i64 false]
def ly3 : List Lay := [.int .i64]
def wy3 : List Lay := [.int .i64 false]
def ly23 : List Lay := [.sl ly3]
def wy23 : List Lay := [.sl wy3]
def ly26 : List Lay := [.sl ly23]
def wy26 : List Lay := [.sl wy23]
def ly59 : List Lay := [.int .i64, .int .i64]
theorem le59 {hr : RO} {a : Option Addr} {k : Nat} : decL hr a k ly59 0 = [.int .i64 (iv (el hr a k)), .int .i64 (iv (el hr a (k + 1)))] := rfl
def wy59 : List Lay := [.int .i64 false, .int .i64 false]
def wy4 : List Lay := [.bool]
def ly120 : List Lay := [.int .i64, .int .i64]
theorem le120 {hr : RO} {a : Option Addr} {k : Nat} : decL hr a k ly120 0 = [.int .i64 (iv (el hr a k)), .int .i64 (iv (el hr a (k + 1)))] := rfl
def wy120 : List Lay := [.int .i64 false, .int .i64 false]
end Go.Proofs.YtadgfnnkpddneaaGreat
namespace Go.Proofs.YtadgfnnkpddneaaGreat
open Go Go.E
theorem fo41 : fnOk Tryz.prog 41 = true := by kernel_rfl
theorem co41 : codeOk Tryz.f41.ntmps (bodyC Tryz.f41) = true := by kernel_rfl
theorem fz25_0 : fzD Tryz.prog 25 0 = some (0, 1) := by kernel_rfl
theorem fz25_1 : fzD Tryz.prog 25 1 = some (1, 1) := by kernel_rfl
theorem fz25_2 : fzD Tryz.prog 25 2 = some (2, 1) := by kernel_rfl
theorem zc120 : zcD Tryz.prog 120 = some [.int .i64 0, .int .i64 0] := by kernel_rfl
theorem bo120 : boD Tryz.prog 120 = true := by kernel_rfl
theorem fz120_0 : fzD Tryz.prog 120 0 = some (0, 1) := by kernel_rfl
theorem fz120_1 : fzD Tryz.prog 120 1 = some (1, 1) := by kernel_rfl
theorem fo77 : fnOk Tryz.prog 77 = true := by kernel_rfl
theorem fo78 : fnOk Tryz.prog 78 = true := by kernel_rfl
theorem fo79 : fnOk Tryz.prog 79 = true := by kernel_rfl
theorem fo80 : fnOk Tryz.prog 80 = true := by kernel_rfl
theorem fo81 : fnOk Tryz.prog 81 = true := by kernel_rfl
theorem fo82 : fnOk Tryz.prog 82 = true := by kernel_rfl
end Go.Proofs.YtadgfnnkpddneaaGreat
