/- paper: static facts of the program (written by wip/tools/Facts.lean). -/
import Derived.Test.YtenkebdjlajanaaGC
import Derived.Test.YtenkebdjlajanaaRows
import Derived.KernelRfl
set_option linter.all false
set_option linter.constructorNameAsVariable false
set_option linter.unusedSimpArgs false
set_option linter.unusedVariables false
set_option linter.unusedSectionVars false
set_option linter.unnecessarySimpa false
namespace Go.Proofs.Ytenkebdjlajanaa
open Go Go.E
theorem mx : Try.prog.follows .mixedOrders = true := Checked.mixed Try.checked
theorem co3 : codeOk Try.f3.ntmps (bodyC Try.f3) = true := by kernel_rfl
theorem zc35 : zcD Try.prog 35 = some [.slice none 0 0, .slice none 0 0] := by kernel_rfl
theorem ag32 : agD Try.prog 32 = some 12 := by kernel_rfl
theorem ag35 : agD Try.prog 35 = some 2 := by kernel_rfl
theorem fo4 : fnOk Try.prog 4 = true := by kernel_rfl
theorem co4 : codeOk Try.f4.ntmps (bodyC Try.f4) = true := by kernel_rfl
theorem fa32_0 : faD Try.prog 32 0 = some 0 := by kernel_rfl
theorem ag27 : agD Try.prog 27 = some 4 := by kernel_rfl
theorem fa32_1 : faD Try.prog 32 1 = some 4 := by kernel_rfl
theorem sc3 : scD Try.prog 3 = true := by kernel_rfl
theorem fa32_2 : faD Try.prog 32 2 = some 5 := by kernel_rfl
theorem sc23 : scD Try.prog 23 = true := by kernel_rfl
theorem fa32_3 : faD Try.prog 32 3 = some 6 := by kernel_rfl
theorem ag29 : agD Try.prog 29 = some 3 := by kernel_rfl
theorem fa32_4 : faD Try.prog 32 4 = some 9 := by kernel_rfl
theorem fa32_5 : faD Try.prog 32 5 = some 10 := by kernel_rfl
theorem sc30 : scD Try.prog 30 = true := by kernel_rfl
theorem fa32_6 : faD Try.prog 32 6 = some 11 := by kernel_rfl
theorem fo5 : fnOk Try.prog 5 = true := by kernel_rfl
theorem co5 : codeOk Try.f5.ntmps (bodyC Try.f5) = true := by kernel_rfl
theorem fo6 : fnOk Try.prog 6 = true := by kernel_rfl
theorem co6 : codeOk Try.f6.ntmps (bodyC Try.f6) = true := by kernel_rfl
theorem fo7 : fnOk Try.prog 7 = true := by kernel_rfl
theorem co7 : codeOk Try.f7.ntmps (bodyC Try.f7) = true := by kernel_rfl
theorem fa27_1 : faD Try.prog 27 1 = some 1 := by kernel_rfl
theorem el23 : elD Try.prog 23 = some 1 := by kernel_rfl
theorem ez23 : (elZ Try.prog 23).isSome = true := by kernel_rfl
theorem fa27_0 : faD Try.prog 27 0 = some 0 := by kernel_rfl
theorem sc22 : scD Try.prog 22 = true := by kernel_rfl
theorem el22 : elD Try.prog 22 = some 3 := by kernel_rfl
theorem fa27_2 : faD Try.prog 27 2 = some 2 := by kernel_rfl
theorem fa25_0 : faD Try.prog 25 0 = some 0 := by kernel_rfl
theorem fa25_1 : faD Try.prog 25 1 = some 1 := by kernel_rfl
theorem zc69 : zcD Try.prog 69 = some [.int .i64 0, .int .i64 0, .int .i64 0, .int .i64 0] := by kernel_rfl
theorem ag71 : agD Try.prog 71 = some 3 := by kernel_rfl
theorem zc71 : zcD Try.prog 71 = some [.int .i64 0, .int .i64 0, .int .i64 0] := by kernel_rfl
theorem fa71_0 : faD Try.prog 71 0 = some 0 := by kernel_rfl
theorem fa71_1 : faD Try.prog 71 1 = some 1 := by kernel_rfl
theorem fa71_2 : faD Try.prog 71 2 = some 2 := by kernel_rfl
theorem fo8 : fnOk Try.prog 8 = true := by kernel_rfl
theorem co8 : codeOk Try.f8.ntmps (bodyC Try.f8) = true := by kernel_rfl
theorem fa35_0 : faD Try.prog 35 0 = some 0 := by kernel_rfl
theorem ap23_23 : appSz Try.prog 23 23 = some 1 := by kernel_rfl
theorem fo9 : fnOk Try.prog 9 = true := by kernel_rfl
theorem co9 : codeOk Try.f9.ntmps (bodyC Try.f9) = true := by kernel_rfl
theorem fo10 : fnOk Try.prog 10 = true := by kernel_rfl
theorem co10 : codeOk Try.f10.ntmps (bodyC Try.f10) = true := by kernel_rfl
theorem fo11 : fnOk Try.prog 11 = true := by kernel_rfl
theorem co11 : codeOk Try.f11.ntmps (bodyC Try.f11) = true := by kernel_rfl
theorem zc23 : zcD Try.prog 23 = some [.slice none 0 0] := by kernel_rfl
theorem fo12 : fnOk Try.prog 12 = true := by kernel_rfl
theorem co12 : codeOk Try.f12.ntmps (bodyC Try.f12) = true := by kernel_rfl
theorem fa77_1 : faD Try.prog 77 1 = some 4 := by kernel_rfl
theorem fo13 : fnOk Try.prog 13 = true := by kernel_rfl
theorem co13 : codeOk Try.f13.ntmps (bodyC Try.f13) = true := by kernel_rfl
theorem fo14 : fnOk Try.prog 14 = true := by kernel_rfl
theorem co14 : codeOk Try.f14.ntmps (bodyC Try.f14) = true := by kernel_rfl
theorem fo15 : fnOk Try.prog 15 = true := by kernel_rfl
theorem co15 : codeOk Try.f15.ntmps (bodyC Try.f15) = true := by kernel_rfl
theorem fo16 : fnOk Try.prog 16 = true := by kernel_rfl
theorem co16 : codeOk Try.f16.ntmps (bodyC Try.f16) = true := by kernel_rfl
theorem fo17 : fnOk Try.prog 17 = true := by kernel_rfl
theorem co17 : codeOk Try.f17.ntmps (bodyC Try.f17) = true := by kernel_rfl
theorem fo18 : fnOk Try.prog 18 = true := by kernel_rfl
theorem co18 : codeOk Try.f18.ntmps (bodyC Try.f18) = true := by kernel_rfl
theorem fo19 : fnOk Try.prog 19 = true := by kernel_rfl
theorem co19 : codeOk Try.f19.ntmps (bodyC Try.f19) = true := by kernel_rfl
theorem fo20 : fnOk Try.prog 20 = true := by kernel_rfl
theorem co20 : codeOk Try.f20.ntmps (bodyC Try.f20) = true := by kernel_rfl
theorem fo21 : fnOk Try.prog 21 = true := by kernel_rfl
theorem co21 : codeOk Try.f21.ntmps (bodyC Try.f21) = true := by kernel_rfl
theorem fo22 : fnOk Try.prog 22 = true := by kernel_rfl
theorem co22 : codeOk Try.f22.ntmps (bodyC Try.f22) = true := by kernel_rfl
theorem fo23 : fnOk Try.prog 23 = true := by kernel_rfl
theorem co23 : codeOk Try.f23.ntmps (bodyC Try.f23) = true := by kernel_rfl
theorem zc30 : zcD Try.prog 30 = some [.slice none 0 0] := by kernel_rfl
theorem fo24 : fnOk Try.prog 24 = true := by kernel_rfl
theorem co24 : codeOk Try.f24.ntmps (bodyC Try.f24) = true := by kernel_rfl
theorem el30 : elD Try.prog 30 = some 1 := by kernel_rfl
theorem ez30 : (elZ Try.prog 30).isSome = true := by kernel_rfl
theorem ap30_30 : appSz Try.prog 30 30 = some 1 := by kernel_rfl
theorem fo25 : fnOk Try.prog 25 = true := by kernel_rfl
theorem co25 : codeOk Try.f25.ntmps (bodyC Try.f25) = true := by kernel_rfl
theorem fo26 : fnOk Try.prog 26 = true := by kernel_rfl
theorem co26 : codeOk Try.f26.ntmps (bodyC Try.f26) = true := by kernel_rfl
theorem fo27 : fnOk Try.prog 27 = true := by kernel_rfl
theorem co27 : codeOk Try.f27.ntmps (bodyC Try.f27) = true := by kernel_rfl
theorem fo28 : fnOk Try.prog 28 = true := by kernel_rfl
theorem co28 : codeOk Try.f28.ntmps (bodyC Try.f28) = true := by kernel_rfl
theorem fo29 : fnOk Try.prog 29 = true := by kernel_rfl
theorem co29 : codeOk Try.f29.ntmps (bodyC Try.f29) = true := by kernel_rfl
theorem fo30 : fnOk Try.prog 30 = true := by kernel_rfl
theorem co30 : codeOk Try.f30.ntmps (bodyC Try.f30) = true := by kernel_rfl
theorem zc25 : zcD Try.prog 25 = some [.int .i64 0, .int .i64 0] := by kernel_rfl
theorem ag25 : agD Try.prog 25 = some 2 := by kernel_rfl
theorem fo31 : fnOk Try.prog 31 = true := by kernel_rfl
theorem co31 : codeOk Try.f31.ntmps (bodyC Try.f31) = true := by kernel_rfl
theorem zc72 : zcD Try.prog 72 = some [.pointer none] := by kernel_rfl
theorem sc72 : scD Try.prog 72 = true := by kernel_rfl
theorem zc93 : zcD Try.prog 93 = some [.nilFunc] := by kernel_rfl
theorem sc93 : scD Try.prog 93 = true := by kernel_rfl
theorem bo25 : boD Try.prog 25 = true := by kernel_rfl
theorem fz25_0 : fzD Try.prog 25 0 = some (0, 1) := by kernel_rfl
theorem fz25_1 : fzD Try.prog 25 1 = some (1, 1) := by kernel_rfl
theorem fo32 : fnOk Try.prog 32 = true := by kernel_rfl
theorem co32 : codeOk Try.f32.ntmps (bodyC Try.f32) = true := by kernel_rfl
theorem fo33 : fnOk Try.prog 33 = true := by kernel_rfl
theorem co33 : codeOk Try.f33.ntmps (bodyC Try.f33) = true := by kernel_rfl
theorem fa35_1 : faD Try.prog 35 1 = some 1 := by kernel_rfl
theorem sc33 : scD Try.prog 33 = true := by kernel_rfl
theorem el33 : elD Try.prog 33 = some 1 := by kernel_rfl
theorem sc9 : scD Try.prog 9 = true := by kernel_rfl
theorem fo34 : fnOk Try.prog 34 = true := by kernel_rfl
theorem co34 : codeOk Try.f34.ntmps (bodyC Try.f34) = true := by kernel_rfl
theorem fo35 : fnOk Try.prog 35 = true := by kernel_rfl
theorem co35 : codeOk Try.f35.ntmps (bodyC Try.f35) = true := by kernel_rfl
theorem fo36 : fnOk Try.prog 36 = true := by kernel_rfl
theorem co36 : codeOk Try.f36.ntmps (bodyC Try.f36) = true := by kernel_rfl
theorem fa29_0 : faD Try.prog 29 0 = some 0 := by kernel_rfl
theorem fa29_1 : faD Try.prog 29 1 = some 1 := by kernel_rfl
theorem fa29_2 : faD Try.prog 29 2 = some 2 := by kernel_rfl
theorem fo37 : fnOk Try.prog 37 = true := by kernel_rfl
theorem co37 : codeOk Try.f37.ntmps (bodyC Try.f37) = true := by kernel_rfl
theorem fo38 : fnOk Try.prog 38 = true := by kernel_rfl
theorem co38 : codeOk Try.f38.ntmps (bodyC Try.f38) = true := by kernel_rfl
theorem zc77 : zcD Try.prog 77 = some [.slice none 0 0, .slice none 0 0, .int .i64 0, .int .i64 0, .slice none 0 0, .map none] := by kernel_rfl
theorem bo77 : boD Try.prog 77 = true := by kernel_rfl
theorem fz77_0 : fzD Try.prog 77 0 = some (0, 4) := by kernel_rfl
theorem fz77_2 : fzD Try.prog 77 2 = some (5, 1) := by kernel_rfl
theorem fo39 : fnOk Try.prog 39 = true := by kernel_rfl
theorem co39 : codeOk Try.f39.ntmps (bodyC Try.f39) = true := by kernel_rfl
theorem fo40 : fnOk Try.prog 40 = true := by kernel_rfl
theorem co40 : codeOk Try.f40.ntmps (bodyC Try.f40) = true := by kernel_rfl
theorem fo41 : fnOk Try.prog 41 = true := by kernel_rfl
theorem co41 : codeOk Try.f41.ntmps (bodyC Try.f41) = true := by kernel_rfl
theorem fo42 : fnOk Try.prog 42 = true := by kernel_rfl
theorem co42 : codeOk Try.f42.ntmps (bodyC Try.f42) = true := by kernel_rfl
theorem fa84_2 : faD Try.prog 84 2 = some 2 := by kernel_rfl
theorem ag82 : agD Try.prog 82 = some 4 := by kernel_rfl
theorem zc82 : zcD Try.prog 82 = some [.int .i64 0, .int .i64 0, .int .i64 0, .int .i64 0] := by kernel_rfl
theorem az82 : azD Try.prog 82 = some 4 := by kernel_rfl
theorem fa77_0 : faD Try.prog 77 0 = some 0 := by kernel_rfl
theorem fa84_1 : faD Try.prog 84 1 = some 1 := by kernel_rfl
theorem fa77_2 : faD Try.prog 77 2 = some 5 := by kernel_rfl
theorem sc75 : scD Try.prog 75 = true := by kernel_rfl
theorem ag84 : agD Try.prog 84 = some 6 := by kernel_rfl
theorem fa84_0 : faD Try.prog 84 0 = some 0 := by kernel_rfl
theorem zc84 : zcD Try.prog 84 = some [.int .i64 0, .int .i64 0, .int .i64 0, .int .i64 0, .int .i64 0, .int .i64 0] := by kernel_rfl
theorem fo43 : fnOk Try.prog 43 = true := by kernel_rfl
theorem co43 : codeOk Try.f43.ntmps (bodyC Try.f43) = true := by kernel_rfl
theorem fo44 : fnOk Try.prog 44 = true := by kernel_rfl
theorem co44 : codeOk Try.f44.ntmps (bodyC Try.f44) = true := by kernel_rfl
theorem fo45 : fnOk Try.prog 45 = true := by kernel_rfl
theorem co45 : codeOk Try.f45.ntmps (bodyC Try.f45) = true := by kernel_rfl
theorem fo46 : fnOk Try.prog 46 = true := by kernel_rfl
theorem co46 : codeOk Try.f46.ntmps (bodyC Try.f46) = true := by kernel_rfl
theorem fo47 : fnOk Try.prog 47 = true := by kernel_rfl
theorem co47 : codeOk Try.f47.ntmps (bodyC Try.f47) = true := by kernel_rfl
theorem zc4 : zcD Try.prog 4 = some [.bool false] := by kernel_rfl
theorem sc4 : scD Try.prog 4 = true := by kernel_rfl
theorem fo48 : fnOk Try.prog 48 = true := by kernel_rfl
theorem co48 : codeOk Try.f48.ntmps (bodyC Try.f48) = true := by kernel_rfl
theorem fo49 : fnOk Try.prog 49 = true := by kernel_rfl
theorem co49 : codeOk Try.f49.ntmps (bodyC Try.f49) = true := by kernel_rfl
theorem fo50 : fnOk Try.prog 50 = true := by kernel_rfl
theorem co50 : codeOk Try.f50.ntmps (bodyC Try.f50) = true := by kernel_rfl
theorem fo51 : fnOk Try.prog 51 = true := by kernel_rfl
theorem co51 : codeOk Try.f51.ntmps (bodyC Try.f51) = true := by kernel_rfl
theorem fo52 : fnOk Try.prog 52 = true := by kernel_rfl
theorem co52 : codeOk Try.f52.ntmps (bodyC Try.f52) = true := by kernel_rfl
theorem us3 : (Try.prog.underlying 3).isSome = true := by kernel_rfl
theorem in111 : inD Try.prog 111 = some .u64 := by kernel_rfl
theorem fo53 : fnOk Try.prog 53 = true := by kernel_rfl
theorem fo54 : fnOk Try.prog 54 = true := by kernel_rfl
theorem fo55 : fnOk Try.prog 55 = true := by kernel_rfl
theorem fo56 : fnOk Try.prog 56 = true := by kernel_rfl
theorem fo57 : fnOk Try.prog 57 = true := by kernel_rfl
theorem co57 : codeOk Try.f57.ntmps (bodyC Try.f57) = true := by kernel_rfl
theorem fo58 : fnOk Try.prog 58 = true := by kernel_rfl
theorem co58 : codeOk Try.f58.ntmps (bodyC Try.f58) = true := by kernel_rfl
theorem fo59 : fnOk Try.prog 59 = true := by kernel_rfl
theorem co59 : codeOk Try.f59.ntmps (bodyC Try.f59) = true := by kernel_rfl
theorem fo60 : fnOk Try.prog 60 = true := by kernel_rfl
theorem co60 : codeOk Try.f60.ntmps (bodyC Try.f60) = true := by kernel_rfl
theorem fo61 : fnOk Try.prog 61 = true := by kernel_rfl
theorem co61 : codeOk Try.f61.ntmps (bodyC Try.f61) = true := by kernel_rfl
theorem fo62 : fnOk Try.prog 62 = true := by kernel_rfl
theorem co62 : codeOk Try.f62.ntmps (bodyC Try.f62) = true := by kernel_rfl
theorem fo63 : fnOk Try.prog 63 = true := by kernel_rfl
theorem co63 : codeOk Try.f63.ntmps (bodyC Try.f63) = true := by kernel_rfl
theorem us111 : (Try.prog.underlying 111).isSome = true := by kernel_rfl
theorem fo64 : fnOk Try.prog 64 = true := by kernel_rfl
theorem co64 : codeOk Try.f64.ntmps (bodyC Try.f64) = true := by kernel_rfl
theorem fo65 : fnOk Try.prog 65 = true := by kernel_rfl
theorem co65 : codeOk Try.f65.ntmps (bodyC Try.f65) = true := by kernel_rfl
theorem fo66 : fnOk Try.prog 66 = true := by kernel_rfl
theorem co66 : codeOk Try.f66.ntmps (bodyC Try.f66) = true := by kernel_rfl
theorem fo67 : fnOk Try.prog 67 = true := by kernel_rfl
theorem co67 : codeOk Try.f67.ntmps (bodyC Try.f67) = true := by kernel_rfl
theorem fo68 : fnOk Try.prog 68 = true := by kernel_rfl
theorem co68 : codeOk Try.f68.ntmps (bodyC Try.f68) = true := by kernel_rfl
theorem fo69 : fnOk Try.prog 69 = true := by kernel_rfl
theorem co69 : codeOk Try.f69.ntmps (bodyC Try.f69) = true := by kernel_rfl
theorem fo70 : fnOk Try.prog 70 = true := by kernel_rfl
theorem co70 : codeOk Try.f70.ntmps (bodyC Try.f70) = true := by kernel_rfl
theorem fo71 : fnOk Try.prog 71 = true := by kernel_rfl
theorem co71 : codeOk Try.f71.ntmps (bodyC Try.f71) = true := by kernel_rfl
theorem in129 : inD Try.prog 129 = some .u64 := by kernel_rfl
theorem zc129 : zcD Try.prog 129 = some [.int .u64 0] := by kernel_rfl
theorem sc129 : scD Try.prog 129 = true := by kernel_rfl
theorem in3 : inD Try.prog 3 = some .i64 := by kernel_rfl
theorem fo72 : fnOk Try.prog 72 = true := by kernel_rfl
theorem co72 : codeOk Try.f72.ntmps (bodyC Try.f72) = true := by kernel_rfl
theorem zc3 : zcD Try.prog 3 = some [.int .i64 0] := by kernel_rfl
theorem fo73 : fnOk Try.prog 73 = true := by kernel_rfl
theorem co73 : codeOk Try.f73.ntmps (bodyC Try.f73) = true := by kernel_rfl
theorem fo74 : fnOk Try.prog 74 = true := by kernel_rfl
theorem co74 : codeOk Try.f74.ntmps (bodyC Try.f74) = true := by kernel_rfl
theorem fo75 : fnOk Try.prog 75 = true := by kernel_rfl
theorem co75 : codeOk Try.f75.ntmps (bodyC Try.f75) = true := by kernel_rfl
theorem fo76 : fnOk Try.prog 76 = true := by kernel_rfl
theorem co76 : codeOk Try.f76.ntmps (bodyC Try.f76) = true := by kernel_rfl
theorem fo77 : fnOk Try.prog 77 = true := by kernel_rfl
theorem co77 : codeOk Try.f77.ntmps (bodyC Try.f77) = true := by kernel_rfl
theorem in5 : inD Try.prog 5 = some .u8 := by kernel_rfl
theorem st9 : isStrD Try.prog 9 = true := by kernel_rfl
theorem us5 : (Try.prog.underlying 5).isSome = true := by kernel_rfl
theorem fo79 : fnOk Try.prog 79 = true := by kernel_rfl
theorem co79 : codeOk Try.f79.ntmps (bodyC Try.f79) = true := by kernel_rfl
theorem us127 : (Try.prog.underlying 127).isSome = true := by kernel_rfl
theorem fo80 : fnOk Try.prog 80 = true := by kernel_rfl
theorem co80 : codeOk Try.f80.ntmps (bodyC Try.f80) = true := by kernel_rfl
theorem fo81 : fnOk Try.prog 81 = true := by kernel_rfl
theorem co81 : codeOk Try.f81.ntmps (bodyC Try.f81) = true := by kernel_rfl
theorem fo82 : fnOk Try.prog 82 = true := by kernel_rfl
theorem co82 : codeOk Try.f82.ntmps (bodyC Try.f82) = true := by kernel_rfl
theorem fo83 : fnOk Try.prog 83 = true := by kernel_rfl
theorem co83 : codeOk Try.f83.ntmps (bodyC Try.f83) = true := by kernel_rfl
theorem fo84 : fnOk Try.prog 84 = true := by kernel_rfl
theorem co84 : codeOk Try.f84.ntmps (bodyC Try.f84) = true := by kernel_rfl
theorem fo85 : fnOk Try.prog 85 = true := by kernel_rfl
theorem co85 : codeOk Try.f85.ntmps (bodyC Try.f85) = true := by kernel_rfl
theorem fo86 : fnOk Try.prog 86 = true := by kernel_rfl
theorem co86 : codeOk Try.f86.ntmps (bodyC Try.f86) = true := by kernel_rfl
theorem fo87 : fnOk Try.prog 87 = true := by kernel_rfl
theorem co87 : codeOk Try.f87.ntmps (bodyC Try.f87) = true := by kernel_rfl
def ly71 : List Lay := [.int .i64, .int .i64, .int .i64]
theorem le71 {hr : RO} {a : Option Addr} {k : Nat} : decL hr a k ly71 0 = [.int .i64 (iv (el hr a k)), .int .i64 (iv (el hr a (k + 1))), .int .i64 (iv (el hr a (k + 2)))] := rfl
def wy71 : List Lay := [.int .i64 false, .int .i64 false, .int .i64 false]
def ly3 : List Lay := [.int .i64]
def wy3 : List Lay := [.int .i64 false]
def ly23 : List Lay := [.sl ly3]
def wy23 : List Lay := [.sl wy3]
end Go.Proofs.Ytenkebdjlajanaa
namespace Go.Proofs.Ytenkebdjlajanaa
open Go Go.E

end Go.Proofs.Ytenkebdjlajanaa
