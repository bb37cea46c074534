/- The program's functions as a trie, for the evaluator; the library's calls that it takes by their contracts, which hold where MaxLen is an int. -/
import Derived.Test.YtchaedgajgdchaaGreatDoorQB
import Derived.Test.YtchaedgajgdchaaGreatDoorProg
import Derived.KernelRfl
import Derived.Lib.Index
import Derived.Lib.Bytealg
import Derived.Test.YtchaedgajgdchaaGreatDoorQD
import Derived.Shelf.Lays
import Derived.Shelf.Strings.Search2
import Derived.Laws.Externs
section
set_option linter.unusedVariables false
set_option linter.unusedSimpArgs false
namespace Go.Proofs
open Go.Qe
set_option maxRecDepth 100000
noncomputable def Tryz.qt0 : Tr Func := Tr.n (Tr.n (Tr.n (Tr.n Tr.e (some Tryz.f255) Tr.e) (some Tryz.f127) Tr.e) (some Tryz.f63) (Tr.n (Tr.n Tr.e (some Tryz.f319) Tr.e) (some Tryz.f191) Tr.e)) (some Tryz.f31) (Tr.n (Tr.n (Tr.n Tr.e (some Tryz.f287) Tr.e) (some Tryz.f159) Tr.e) (some Tryz.f95) (Tr.n (Tr.n Tr.e (some Tryz.f351) Tr.e) (some Tryz.f223) Tr.e))
noncomputable def Tryz.qt1 : Tr Func := Tr.n (Tr.n (Tr.n (Tr.n Tr.e (some Tryz.f271) Tr.e) (some Tryz.f143) Tr.e) (some Tryz.f79) (Tr.n (Tr.n Tr.e (some Tryz.f335) Tr.e) (some Tryz.f207) Tr.e)) (some Tryz.f47) (Tr.n (Tr.n (Tr.n Tr.e (some Tryz.f303) Tr.e) (some Tryz.f175) Tr.e) (some Tryz.f111) (Tr.n Tr.e (some Tryz.f239) Tr.e))
noncomputable def Tryz.qt2 : Tr Func := Tr.n (Tr.n (Tr.n (Tr.n Tr.e (some Tryz.f263) Tr.e) (some Tryz.f135) Tr.e) (some Tryz.f71) (Tr.n (Tr.n Tr.e (some Tryz.f327) Tr.e) (some Tryz.f199) Tr.e)) (some Tryz.f39) (Tr.n (Tr.n (Tr.n Tr.e (some Tryz.f295) Tr.e) (some Tryz.f167) Tr.e) (some Tryz.f103) (Tr.n Tr.e (some Tryz.f231) Tr.e))
noncomputable def Tryz.qt3 : Tr Func := Tr.n (Tr.n (Tr.n (Tr.n Tr.e (some Tryz.f279) Tr.e) (some Tryz.f151) Tr.e) (some Tryz.f87) (Tr.n (Tr.n Tr.e (some Tryz.f343) Tr.e) (some Tryz.f215) Tr.e)) (some Tryz.f55) (Tr.n (Tr.n (Tr.n Tr.e (some Tryz.f311) Tr.e) (some Tryz.f183) Tr.e) (some Tryz.f119) (Tr.n Tr.e (some Tryz.f247) Tr.e))
noncomputable def Tryz.qt4 : Tr Func := Tr.n (Tr.n (Tr.n (Tr.n Tr.e (some Tryz.f259) Tr.e) (some Tryz.f131) Tr.e) (some Tryz.f67) (Tr.n (Tr.n Tr.e (some Tryz.f323) Tr.e) (some Tryz.f195) Tr.e)) (some Tryz.f35) (Tr.n (Tr.n (Tr.n Tr.e (some Tryz.f291) Tr.e) (some Tryz.f163) Tr.e) (some Tryz.f99) (Tr.n Tr.e (some Tryz.f227) Tr.e))
noncomputable def Tryz.qt5 : Tr Func := Tr.n (Tr.n (Tr.n (Tr.n Tr.e (some Tryz.f275) Tr.e) (some Tryz.f147) Tr.e) (some Tryz.f83) (Tr.n (Tr.n Tr.e (some Tryz.f339) Tr.e) (some Tryz.f211) Tr.e)) (some Tryz.f51) (Tr.n (Tr.n (Tr.n Tr.e (some Tryz.f307) Tr.e) (some Tryz.f179) Tr.e) (some Tryz.f115) (Tr.n Tr.e (some Tryz.f243) Tr.e))
noncomputable def Tryz.qt6 : Tr Func := Tr.n (Tr.n (Tr.n (Tr.n Tr.e (some Tryz.f267) Tr.e) (some Tryz.f139) Tr.e) (some Tryz.f75) (Tr.n (Tr.n Tr.e (some Tryz.f331) Tr.e) (some Tryz.f203) Tr.e)) (some Tryz.f43) (Tr.n (Tr.n (Tr.n Tr.e (some Tryz.f299) Tr.e) (some Tryz.f171) Tr.e) (some Tryz.f107) (Tr.n Tr.e (some Tryz.f235) Tr.e))
noncomputable def Tryz.qt7 : Tr Func := Tr.n (Tr.n (Tr.n (Tr.n Tr.e (some Tryz.f283) Tr.e) (some Tryz.f155) Tr.e) (some Tryz.f91) (Tr.n (Tr.n Tr.e (some Tryz.f347) Tr.e) (some Tryz.f219) Tr.e)) (some Tryz.f59) (Tr.n (Tr.n (Tr.n Tr.e (some Tryz.f315) Tr.e) (some Tryz.f187) Tr.e) (some Tryz.f123) (Tr.n Tr.e (some Tryz.f251) Tr.e))
noncomputable def Tryz.qt8 : Tr Func := Tr.n (Tr.n (Tr.n Tryz.qt0 (some Tryz.f15) Tryz.qt1) (some Tryz.f7) (Tr.n Tryz.qt2 (some Tryz.f23) Tryz.qt3)) (some Tryz.f3) (Tr.n (Tr.n Tryz.qt4 (some Tryz.f19) Tryz.qt5) (some Tryz.f11) (Tr.n Tryz.qt6 (some Tryz.f27) Tryz.qt7))
noncomputable def Tryz.qt9 : Tr Func := Tr.n (Tr.n (Tr.n (Tr.n Tr.e (some Tryz.f257) Tr.e) (some Tryz.f129) Tr.e) (some Tryz.f65) (Tr.n (Tr.n Tr.e (some Tryz.f321) Tr.e) (some Tryz.f193) Tr.e)) (some Tryz.f33) (Tr.n (Tr.n (Tr.n Tr.e (some Tryz.f289) Tr.e) (some Tryz.f161) Tr.e) (some Tryz.f97) (Tr.n (Tr.n Tr.e (some Tryz.f353) Tr.e) (some Tryz.f225) Tr.e))
noncomputable def Tryz.qt10 : Tr Func := Tr.n (Tr.n (Tr.n (Tr.n Tr.e (some Tryz.f273) Tr.e) (some Tryz.f145) Tr.e) (some Tryz.f81) (Tr.n (Tr.n Tr.e (some Tryz.f337) Tr.e) (some Tryz.f209) Tr.e)) (some Tryz.f49) (Tr.n (Tr.n (Tr.n Tr.e (some Tryz.f305) Tr.e) (some Tryz.f177) Tr.e) (some Tryz.f113) (Tr.n Tr.e (some Tryz.f241) Tr.e))
noncomputable def Tryz.qt11 : Tr Func := Tr.n (Tr.n (Tr.n (Tr.n Tr.e (some Tryz.f265) Tr.e) (some Tryz.f137) Tr.e) (some Tryz.f73) (Tr.n (Tr.n Tr.e (some Tryz.f329) Tr.e) (some Tryz.f201) Tr.e)) (some Tryz.f41) (Tr.n (Tr.n (Tr.n Tr.e (some Tryz.f297) Tr.e) (some Tryz.f169) Tr.e) (some Tryz.f105) (Tr.n Tr.e (some Tryz.f233) Tr.e))
noncomputable def Tryz.qt12 : Tr Func := Tr.n (Tr.n (Tr.n (Tr.n Tr.e (some Tryz.f281) Tr.e) (some Tryz.f153) Tr.e) (some Tryz.f89) (Tr.n (Tr.n Tr.e (some Tryz.f345) Tr.e) (some Tryz.f217) Tr.e)) (some Tryz.f57) (Tr.n (Tr.n (Tr.n Tr.e (some Tryz.f313) Tr.e) (some Tryz.f185) Tr.e) (some Tryz.f121) (Tr.n Tr.e (some Tryz.f249) Tr.e))
noncomputable def Tryz.qt13 : Tr Func := Tr.n (Tr.n (Tr.n (Tr.n Tr.e (some Tryz.f261) Tr.e) (some Tryz.f133) Tr.e) (some Tryz.f69) (Tr.n (Tr.n Tr.e (some Tryz.f325) Tr.e) (some Tryz.f197) Tr.e)) (some Tryz.f37) (Tr.n (Tr.n (Tr.n Tr.e (some Tryz.f293) Tr.e) (some Tryz.f165) Tr.e) (some Tryz.f101) (Tr.n Tr.e (some Tryz.f229) Tr.e))
noncomputable def Tryz.qt14 : Tr Func := Tr.n (Tr.n (Tr.n (Tr.n Tr.e (some Tryz.f277) Tr.e) (some Tryz.f149) Tr.e) (some Tryz.f85) (Tr.n (Tr.n Tr.e (some Tryz.f341) Tr.e) (some Tryz.f213) Tr.e)) (some Tryz.f53) (Tr.n (Tr.n (Tr.n Tr.e (some Tryz.f309) Tr.e) (some Tryz.f181) Tr.e) (some Tryz.f117) (Tr.n Tr.e (some Tryz.f245) Tr.e))
noncomputable def Tryz.qt15 : Tr Func := Tr.n (Tr.n (Tr.n (Tr.n Tr.e (some Tryz.f269) Tr.e) (some Tryz.f141) Tr.e) (some Tryz.f77) (Tr.n (Tr.n Tr.e (some Tryz.f333) Tr.e) (some Tryz.f205) Tr.e)) (some Tryz.f45) (Tr.n (Tr.n (Tr.n Tr.e (some Tryz.f301) Tr.e) (some Tryz.f173) Tr.e) (some Tryz.f109) (Tr.n Tr.e (some Tryz.f237) Tr.e))
noncomputable def Tryz.qt16 : Tr Func := Tr.n (Tr.n (Tr.n (Tr.n Tr.e (some Tryz.f285) Tr.e) (some Tryz.f157) Tr.e) (some Tryz.f93) (Tr.n (Tr.n Tr.e (some Tryz.f349) Tr.e) (some Tryz.f221) Tr.e)) (some Tryz.f61) (Tr.n (Tr.n (Tr.n Tr.e (some Tryz.f317) Tr.e) (some Tryz.f189) Tr.e) (some Tryz.f125) (Tr.n Tr.e (some Tryz.f253) Tr.e))
noncomputable def Tryz.qt17 : Tr Func := Tr.n (Tr.n (Tr.n Tryz.qt9 (some Tryz.f17) Tryz.qt10) (some Tryz.f9) (Tr.n Tryz.qt11 (some Tryz.f25) Tryz.qt12)) (some Tryz.f5) (Tr.n (Tr.n Tryz.qt13 (some Tryz.f21) Tryz.qt14) (some Tryz.f13) (Tr.n Tryz.qt15 (some Tryz.f29) Tryz.qt16))
noncomputable def Tryz.qt18 : Tr Func := Tr.n (Tr.n (Tr.n (Tr.n Tr.e (some Tryz.f256) Tr.e) (some Tryz.f128) Tr.e) (some Tryz.f64) (Tr.n (Tr.n Tr.e (some Tryz.f320) Tr.e) (some Tryz.f192) Tr.e)) (some Tryz.f32) (Tr.n (Tr.n (Tr.n Tr.e (some Tryz.f288) Tr.e) (some Tryz.f160) Tr.e) (some Tryz.f96) (Tr.n (Tr.n Tr.e (some Tryz.f352) Tr.e) (some Tryz.f224) Tr.e))
noncomputable def Tryz.qt19 : Tr Func := Tr.n (Tr.n (Tr.n (Tr.n Tr.e (some Tryz.f272) Tr.e) (some Tryz.f144) Tr.e) (some Tryz.f80) (Tr.n (Tr.n Tr.e (some Tryz.f336) Tr.e) (some Tryz.f208) Tr.e)) (some Tryz.f48) (Tr.n (Tr.n (Tr.n Tr.e (some Tryz.f304) Tr.e) (some Tryz.f176) Tr.e) (some Tryz.f112) (Tr.n Tr.e (some Tryz.f240) Tr.e))
noncomputable def Tryz.qt20 : Tr Func := Tr.n (Tr.n (Tr.n (Tr.n Tr.e (some Tryz.f264) Tr.e) (some Tryz.f136) Tr.e) (some Tryz.f72) (Tr.n (Tr.n Tr.e (some Tryz.f328) Tr.e) (some Tryz.f200) Tr.e)) (some Tryz.f40) (Tr.n (Tr.n (Tr.n Tr.e (some Tryz.f296) Tr.e) (some Tryz.f168) Tr.e) (some Tryz.f104) (Tr.n Tr.e (some Tryz.f232) Tr.e))
noncomputable def Tryz.qt21 : Tr Func := Tr.n (Tr.n (Tr.n (Tr.n Tr.e (some Tryz.f280) Tr.e) (some Tryz.f152) Tr.e) (some Tryz.f88) (Tr.n (Tr.n Tr.e (some Tryz.f344) Tr.e) (some Tryz.f216) Tr.e)) (some Tryz.f56) (Tr.n (Tr.n (Tr.n Tr.e (some Tryz.f312) Tr.e) (some Tryz.f184) Tr.e) (some Tryz.f120) (Tr.n Tr.e (some Tryz.f248) Tr.e))
noncomputable def Tryz.qt22 : Tr Func := Tr.n (Tr.n (Tr.n (Tr.n Tr.e (some Tryz.f260) Tr.e) (some Tryz.f132) Tr.e) (some Tryz.f68) (Tr.n (Tr.n Tr.e (some Tryz.f324) Tr.e) (some Tryz.f196) Tr.e)) (some Tryz.f36) (Tr.n (Tr.n (Tr.n Tr.e (some Tryz.f292) Tr.e) (some Tryz.f164) Tr.e) (some Tryz.f100) (Tr.n Tr.e (some Tryz.f228) Tr.e))
noncomputable def Tryz.qt23 : Tr Func := Tr.n (Tr.n (Tr.n (Tr.n Tr.e (some Tryz.f276) Tr.e) (some Tryz.f148) Tr.e) (some Tryz.f84) (Tr.n (Tr.n Tr.e (some Tryz.f340) Tr.e) (some Tryz.f212) Tr.e)) (some Tryz.f52) (Tr.n (Tr.n (Tr.n Tr.e (some Tryz.f308) Tr.e) (some Tryz.f180) Tr.e) (some Tryz.f116) (Tr.n Tr.e (some Tryz.f244) Tr.e))
noncomputable def Tryz.qt24 : Tr Func := Tr.n (Tr.n (Tr.n (Tr.n Tr.e (some Tryz.f268) Tr.e) (some Tryz.f140) Tr.e) (some Tryz.f76) (Tr.n (Tr.n Tr.e (some Tryz.f332) Tr.e) (some Tryz.f204) Tr.e)) (some Tryz.f44) (Tr.n (Tr.n (Tr.n Tr.e (some Tryz.f300) Tr.e) (some Tryz.f172) Tr.e) (some Tryz.f108) (Tr.n Tr.e (some Tryz.f236) Tr.e))
noncomputable def Tryz.qt25 : Tr Func := Tr.n (Tr.n (Tr.n (Tr.n Tr.e (some Tryz.f284) Tr.e) (some Tryz.f156) Tr.e) (some Tryz.f92) (Tr.n (Tr.n Tr.e (some Tryz.f348) Tr.e) (some Tryz.f220) Tr.e)) (some Tryz.f60) (Tr.n (Tr.n (Tr.n Tr.e (some Tryz.f316) Tr.e) (some Tryz.f188) Tr.e) (some Tryz.f124) (Tr.n Tr.e (some Tryz.f252) Tr.e))
noncomputable def Tryz.qt26 : Tr Func := Tr.n (Tr.n (Tr.n Tryz.qt18 (some Tryz.f16) Tryz.qt19) (some Tryz.f8) (Tr.n Tryz.qt20 (some Tryz.f24) Tryz.qt21)) (some Tryz.f4) (Tr.n (Tr.n Tryz.qt22 (some Tryz.f20) Tryz.qt23) (some Tryz.f12) (Tr.n Tryz.qt24 (some Tryz.f28) Tryz.qt25))
noncomputable def Tryz.qt27 : Tr Func := Tr.n (Tr.n (Tr.n (Tr.n Tr.e (some Tryz.f258) Tr.e) (some Tryz.f130) Tr.e) (some Tryz.f66) (Tr.n (Tr.n Tr.e (some Tryz.f322) Tr.e) (some Tryz.f194) Tr.e)) (some Tryz.f34) (Tr.n (Tr.n (Tr.n Tr.e (some Tryz.f290) Tr.e) (some Tryz.f162) Tr.e) (some Tryz.f98) (Tr.n Tr.e (some Tryz.f226) Tr.e))
noncomputable def Tryz.qt28 : Tr Func := Tr.n (Tr.n (Tr.n (Tr.n Tr.e (some Tryz.f274) Tr.e) (some Tryz.f146) Tr.e) (some Tryz.f82) (Tr.n (Tr.n Tr.e (some Tryz.f338) Tr.e) (some Tryz.f210) Tr.e)) (some Tryz.f50) (Tr.n (Tr.n (Tr.n Tr.e (some Tryz.f306) Tr.e) (some Tryz.f178) Tr.e) (some Tryz.f114) (Tr.n Tr.e (some Tryz.f242) Tr.e))
noncomputable def Tryz.qt29 : Tr Func := Tr.n (Tr.n (Tr.n (Tr.n Tr.e (some Tryz.f266) Tr.e) (some Tryz.f138) Tr.e) (some Tryz.f74) (Tr.n (Tr.n Tr.e (some Tryz.f330) Tr.e) (some Tryz.f202) Tr.e)) (some Tryz.f42) (Tr.n (Tr.n (Tr.n Tr.e (some Tryz.f298) Tr.e) (some Tryz.f170) Tr.e) (some Tryz.f106) (Tr.n Tr.e (some Tryz.f234) Tr.e))
noncomputable def Tryz.qt30 : Tr Func := Tr.n (Tr.n (Tr.n (Tr.n Tr.e (some Tryz.f282) Tr.e) (some Tryz.f154) Tr.e) (some Tryz.f90) (Tr.n (Tr.n Tr.e (some Tryz.f346) Tr.e) (some Tryz.f218) Tr.e)) (some Tryz.f58) (Tr.n (Tr.n (Tr.n Tr.e (some Tryz.f314) Tr.e) (some Tryz.f186) Tr.e) (some Tryz.f122) (Tr.n Tr.e (some Tryz.f250) Tr.e))
noncomputable def Tryz.qt31 : Tr Func := Tr.n (Tr.n (Tr.n (Tr.n Tr.e (some Tryz.f262) Tr.e) (some Tryz.f134) Tr.e) (some Tryz.f70) (Tr.n (Tr.n Tr.e (some Tryz.f326) Tr.e) (some Tryz.f198) Tr.e)) (some Tryz.f38) (Tr.n (Tr.n (Tr.n Tr.e (some Tryz.f294) Tr.e) (some Tryz.f166) Tr.e) (some Tryz.f102) (Tr.n Tr.e (some Tryz.f230) Tr.e))
noncomputable def Tryz.qt32 : Tr Func := Tr.n (Tr.n (Tr.n (Tr.n Tr.e (some Tryz.f278) Tr.e) (some Tryz.f150) Tr.e) (some Tryz.f86) (Tr.n (Tr.n Tr.e (some Tryz.f342) Tr.e) (some Tryz.f214) Tr.e)) (some Tryz.f54) (Tr.n (Tr.n (Tr.n Tr.e (some Tryz.f310) Tr.e) (some Tryz.f182) Tr.e) (some Tryz.f118) (Tr.n Tr.e (some Tryz.f246) Tr.e))
noncomputable def Tryz.qt33 : Tr Func := Tr.n (Tr.n (Tr.n (Tr.n Tr.e (some Tryz.f270) Tr.e) (some Tryz.f142) Tr.e) (some Tryz.f78) (Tr.n (Tr.n Tr.e (some Tryz.f334) Tr.e) (some Tryz.f206) Tr.e)) (some Tryz.f46) (Tr.n (Tr.n (Tr.n Tr.e (some Tryz.f302) Tr.e) (some Tryz.f174) Tr.e) (some Tryz.f110) (Tr.n Tr.e (some Tryz.f238) Tr.e))
noncomputable def Tryz.qt34 : Tr Func := Tr.n (Tr.n (Tr.n (Tr.n Tr.e (some Tryz.f286) Tr.e) (some Tryz.f158) Tr.e) (some Tryz.f94) (Tr.n (Tr.n Tr.e (some Tryz.f350) Tr.e) (some Tryz.f222) Tr.e)) (some Tryz.f62) (Tr.n (Tr.n (Tr.n Tr.e (some Tryz.f318) Tr.e) (some Tryz.f190) Tr.e) (some Tryz.f126) (Tr.n Tr.e (some Tryz.f254) Tr.e))
noncomputable def Tryz.qt35 : Tr Func := Tr.n (Tr.n (Tr.n Tryz.qt27 (some Tryz.f18) Tryz.qt28) (some Tryz.f10) (Tr.n Tryz.qt29 (some Tryz.f26) Tryz.qt30)) (some Tryz.f6) (Tr.n (Tr.n Tryz.qt31 (some Tryz.f22) Tryz.qt32) (some Tryz.f14) (Tr.n Tryz.qt33 (some Tryz.f30) Tryz.qt34))
noncomputable def Tryz.qfns : Tr Func := Tr.n (Tr.n Tryz.qt8 (some Tryz.f1) Tryz.qt17) (some Tryz.f0) (Tr.n Tryz.qt26 (some Tryz.f2) Tryz.qt35)
def Tryz.qorc : Nat → Option (List Value → Option Value)
  | 229 => some fun
    | [.string s, .string t] => match Nat.blt s.data.toList.length 4294967281 with
      | true => some (.int .i64 (Lib.index s.data.toList t.data.toList))
      | false => none
    | _ => none
  | 285 => some fun
    | [.string s, .int .u8 c] => some (.int .i64 (Lib.indexByte s.data.toList c.toNat.toUInt8))
    | _ => none
  | 179 => some fun
    | [.int .u64 (.ofNat x), .int .u64 (.ofNat y), .int .u64 (.ofNat c)] => match Nat.ble c 1 with
      | true => some (.tuple #[.int .u64 (Int.ofNat ((x + y + c) % 18446744073709551616)), .int .u64 (Int.ofNat ((x + y + c) / 18446744073709551616))])
      | false => none
    | _ => none
  | _ => none
noncomputable def Tryz.qenv : Env := { P := Tryz.prog, fns := Tryz.qfns, orc := Tryz.qorc, idf := fun f => Nat.beq f 267, G := 10 }
def isRet : Option (Ot × Nat × Heap) → Bool
  | some (.ret (.bool true) _, _, _) => true
  | _ => false
end Go.Proofs
end
section
set_option linter.unusedVariables false
set_option linter.unusedSimpArgs false
namespace Go.Qe
def ofL {α : Type} : List α → Nat → Tr α → Tr α
  | [], _, t => t
  | v :: l, i, t => ofL l (i + 1) (t.set i v)
theorem ofL_get {α : Type} : ∀ (l : List α) (i : Nat) (t : Tr α) (j : Nat), (ofL l i t).get j = if i ≤ j ∧ j < i + l.length then l[j - i]? else t.get j := by
  intro l
  induction l with
  | nil => intro i t j; simp [ofL]; omega
  | cons v l ih =>
    intro i t j
    simp only [ofL, ih, Tr.get_set, List.length_cons]
    by_cases h1 : i + 1 ≤ j ∧ j < i + 1 + l.length
    · rw [if_pos h1, if_pos (by omega), show j - i = (j - (i + 1)) + 1 by omega]; rfl
    · rw [if_neg h1]
      by_cases h2 : i = j
      · subst h2; simp
      · rw [if_neg h2, if_neg (by omega)]
theorem ofL_some {α : Type} {a : Array α} {j : Nat} {v : α} (h : (ofL a.toList 0 .e).get j = some v) : a[j]? = some v := by
  rw [ofL_get] at h
  split at h
  · simpa using h
  · simp at h
theorem quiet_refl (w : World) : Quiet w w := ⟨Nat.le_refl _, fun _ _ => rfl, rfl, rfl, rfl⟩
end Go.Qe
namespace Go.Proofs
open Go.Qe Go.Shelf
set_option maxRecDepth 1000000
theorem Tryz.qfns_eq : ofL Tryz.funcs.toList 0 .e = Tryz.qfns := by kernel_rfl
theorem Tryz.qnames : (Tryz.funcs.toList.all fun f => !(f.name == "runtime.NumGoroutine")) = true := by kernel_rfl
theorem Tryz.qfns_ok (f : Nat) (fn : Func) (h : Tryz.qfns.get f = some fn) : Tryz.prog.funcs[f]? = some fn ∧ (fn.name == "runtime.NumGoroutine") = false := by
  rw [← Tryz.qfns_eq] at h
  have h1 := ofL_some h
  refine ⟨h1, ?_⟩
  have hm : fn ∈ Tryz.funcs.toList := by
    have := Array.mem_of_getElem? h1
    simpa using this
  have := List.all_eq_true.1 Tryz.qnames _ hm
  simpa using this
def Tryz.ren219 : Ren := ⟨fun | 219 => 229 | 217 => 259 | 225 => 248 | 224 => 247 | 267 => 260 | 266 => 285 | 314 => 286 | n => n, fun | 46 => 87 | 146 => 349 | 51 => 120 | n => n, fun | 1 => 4 | n => n⟩
theorem Tryz.lays219 : Lays.n219 Tryz.prog Tryz.ren219 := {
  mixed := by kernel_rfl
  f217 := Tryz.func259.trans (congrArg some (by kernel_rfl))
  f219 := Tryz.func229.trans (congrArg some (by kernel_rfl))
  f224 := Tryz.func247.trans (congrArg some (by kernel_rfl))
  f225 := Tryz.func248.trans (congrArg some (by kernel_rfl))
  f266 := Tryz.func285.trans (congrArg some (by kernel_rfl))
  f267 := Tryz.func260.trans (congrArg some (by kernel_rfl))
  f314 := Tryz.func286.trans (congrArg some (by kernel_rfl))
  t3 := Tryz.underlying3
  a3 := Tryz.isAgg3
  z3 := Tryz.sizeOf3
  v3 := Tryz.zeroValue3
  t4 := Tryz.underlying4
  a4 := Tryz.isAgg4
  z4 := Tryz.sizeOf4
  v4 := Tryz.zeroValue4
  t5 := Tryz.underlying5
  a5 := Tryz.isAgg5
  z5 := Tryz.sizeOf5
  v5 := Tryz.zeroValue5
  t9 := Tryz.underlying9
  a9 := Tryz.isAgg9
  z9 := Tryz.sizeOf9
  v9 := Tryz.zeroValue9
  t46 := Tryz.underlying87
  a46 := Tryz.isAgg87
  z46 := Tryz.sizeOf87
  v46 := Tryz.zeroValue87
  t51 := Tryz.underlying120
  a51 := Tryz.isAgg120
  z51 := Tryz.sizeOf120
  v51 := Tryz.zeroValue120
  t146 := Tryz.underlying349
  a146 := Tryz.isAgg349
  z146 := Tryz.sizeOf349
  v146 := Tryz.zeroValue349
  g1 := by kernel_rfl }
theorem Tryz.run285 (s : ByteArray) (c : Int) (w : World) : (callFunc 285 #[.string s, .int .u8 c]).run Tryz.prog w = .ok (.value (.int .i64 (Lib.indexByte s.data.toList c.toNat.toUInt8))) w := by
  rw [run_callFunc_extern Tryz.func285 (by kernel_rfl) (by kernel_rfl) (by kernel_rfl) (e := Extern.BytealgIndexByte.indexByte) (by kernel_rfl), Lib.run_indexByteString]
  rfl
theorem Tryz.run179 (x y c : Nat) (hc : c ≤ 1) (w : World) : (callFunc 179 #[.int .u64 (.ofNat x), .int .u64 (.ofNat y), .int .u64 (.ofNat c)]).run Tryz.prog w =
    .ok (.value (.tuple #[.int .u64 (Int.ofNat ((x + y + c) % 18446744073709551616)), .int .u64 (Int.ofNat ((x + y + c) / 18446744073709551616))])) w := by
  rw [run_callFunc_extern Tryz.func179 (by kernel_rfl) (by kernel_rfl) (by kernel_rfl) (e := add64Entry) (by kernel_rfl),
    run_add64 (Int.ofNat x) (Int.ofNat y) (Int.ofNat c) (Int.natCast_nonneg _) (Int.natCast_nonneg _) (Int.natCast_nonneg _) (by show (c : Int) ≤ 1; omega)]
  rfl
theorem Tryz.run229 (s t : ByteArray) (m : Int) (w : World) (hs : s.size < 4294967281) (hm : w.cell? ⟨4, 0, none⟩ = some (.int .i64 m)) :
    Ran Tryz.prog 229 #[.string s, .string t] w fun e w' => e = .returned (.int .i64 (Lib.index s.data.toList t.data.toList)) ∧ Quiet w w' := by
  refine .inr ⟨callFunc_enter Tryz.func229 (by kernel_rfl) (bd := (Tryz.f229.body).get rfl) rfl _ _, ?_⟩
  refine (Any.stringslite_Index Tryz.lays219 s t m w hs hm).mono ?_
  rintro e w' ⟨rfl, rfl⟩
  exact ⟨rfl, quiet_refl _⟩
theorem Tryz.idf267 (v : Value) (w : World) : (callFunc 267 #[v]).run Tryz.prog w = .ok (.value v) w := by
  rw [run_callFunc_extern Tryz.func267 (by kernel_rfl) (by kernel_rfl) (by kernel_rfl) (e := (Extern.find Tryz.f267).get rfl) (by kernel_rfl)]
  rfl

theorem Tryz.env_ok (κ : Nat → Value) (B : Bd) (m : Int) (hn : 4 < B.n) (hm : B.w.cell? ⟨4, 0, none⟩ = some (.int .i64 m)) : EnvOk κ Tryz.qenv B where
  memo := by intro f l m h; simp [Tryz.qenv] at h
  fns := fun f fn h => Tryz.qfns_ok f fn h
  orc := by
    intro f g h args v hg hx1 hx2 w _ hb
    clear hx1 hx2
    have hm' : w.cell? ⟨4, 0, none⟩ = some (.int .i64 m) := by
      have := hb 4 hn
      simp only [World.cell?] at hm ⊢
      rw [this]; exact hm
    change Tryz.qorc f = some g at h
    unfold Tryz.qorc at h
    split at h
    · cases h
      dsimp only at hg
      split at hg
      · split at hg
        · cases hg
          rename_i hlt
          refine Tryz.run229 _ _ m w ?_ hm'
          have := Nat.le_of_ble_eq_true hlt
          rw [Array.length_toList] at this
          exact this
        · cases hg
      · cases hg
    · cases h
      dsimp only at hg
      split at hg
      · cases hg
        exact .inl ⟨_, w, Tryz.run285 _ _ _, rfl, quiet_refl _⟩
      · cases hg
    · cases h
      dsimp only at hg
      split at hg
      · split at hg
        · cases hg
          rename_i hc
          exact .inl ⟨_, w, Tryz.run179 _ _ _ (Nat.le_of_ble_eq_true hc) _, rfl, quiet_refl _⟩
        · cases hg
      · cases hg
    · cases h
  idf := by
    intro f hf v w
    obtain rfl : f = 267 := Nat.eq_of_beq_eq_true hf
    exact Tryz.idf267 v w
  mix := by kernel_rfl
end Go.Proofs
end
