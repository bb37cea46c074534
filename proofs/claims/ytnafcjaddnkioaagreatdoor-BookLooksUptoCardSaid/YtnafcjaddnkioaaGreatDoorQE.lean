/- The program's functions as a trie, for the evaluator; the library's calls that it takes by their contracts. -/
import Derived.Test.YtnafcjaddnkioaaGreatDoorQB
import Derived.Test.YtnafcjaddnkioaaGreatDoorProg
import Derived.KernelRfl
import Derived.Lib.Index
import Derived.Lib.Bytealg
section
set_option linter.unusedVariables false
set_option linter.unusedSimpArgs false
namespace Go.Proofs
open Go.Qe
set_option maxRecDepth 100000
noncomputable def Tryz.qt0 : Tr Func := Tr.n (Tr.n (Tr.n Tr.e (some Tryz.f255) Tr.e) (some Tryz.f127) (Tr.n Tr.e (some Tryz.f383) Tr.e)) (some Tryz.f63) (Tr.n (Tr.n Tr.e (some Tryz.f319) Tr.e) (some Tryz.f191) Tr.e)
noncomputable def Tryz.qt1 : Tr Func := Tr.n (Tr.n (Tr.n Tr.e (some Tryz.f287) Tr.e) (some Tryz.f159) (Tr.n Tr.e (some Tryz.f415) Tr.e)) (some Tryz.f95) (Tr.n (Tr.n Tr.e (some Tryz.f351) Tr.e) (some Tryz.f223) Tr.e)
noncomputable def Tryz.qt2 : Tr Func := Tr.n Tryz.qt0 (some Tryz.f31) Tryz.qt1
noncomputable def Tryz.qt3 : Tr Func := Tr.n (Tr.n (Tr.n Tr.e (some Tryz.f271) Tr.e) (some Tryz.f143) (Tr.n Tr.e (some Tryz.f399) Tr.e)) (some Tryz.f79) (Tr.n (Tr.n Tr.e (some Tryz.f335) Tr.e) (some Tryz.f207) Tr.e)
noncomputable def Tryz.qt4 : Tr Func := Tr.n (Tr.n (Tr.n Tr.e (some Tryz.f303) Tr.e) (some Tryz.f175) (Tr.n Tr.e (some Tryz.f431) Tr.e)) (some Tryz.f111) (Tr.n (Tr.n Tr.e (some Tryz.f367) Tr.e) (some Tryz.f239) Tr.e)
noncomputable def Tryz.qt5 : Tr Func := Tr.n Tryz.qt3 (some Tryz.f47) Tryz.qt4
noncomputable def Tryz.qt6 : Tr Func := Tr.n (Tr.n (Tr.n Tr.e (some Tryz.f263) Tr.e) (some Tryz.f135) (Tr.n Tr.e (some Tryz.f391) Tr.e)) (some Tryz.f71) (Tr.n (Tr.n Tr.e (some Tryz.f327) Tr.e) (some Tryz.f199) Tr.e)
noncomputable def Tryz.qt7 : Tr Func := Tr.n (Tr.n (Tr.n Tr.e (some Tryz.f295) Tr.e) (some Tryz.f167) (Tr.n Tr.e (some Tryz.f423) Tr.e)) (some Tryz.f103) (Tr.n (Tr.n Tr.e (some Tryz.f359) Tr.e) (some Tryz.f231) Tr.e)
noncomputable def Tryz.qt8 : Tr Func := Tr.n Tryz.qt6 (some Tryz.f39) Tryz.qt7
noncomputable def Tryz.qt9 : Tr Func := Tr.n (Tr.n (Tr.n Tr.e (some Tryz.f279) Tr.e) (some Tryz.f151) (Tr.n Tr.e (some Tryz.f407) Tr.e)) (some Tryz.f87) (Tr.n (Tr.n Tr.e (some Tryz.f343) Tr.e) (some Tryz.f215) Tr.e)
noncomputable def Tryz.qt10 : Tr Func := Tr.n Tryz.qt9 (some Tryz.f55) (Tr.n (Tr.n (Tr.n Tr.e (some Tryz.f311) Tr.e) (some Tryz.f183) Tr.e) (some Tryz.f119) (Tr.n (Tr.n Tr.e (some Tryz.f375) Tr.e) (some Tryz.f247) Tr.e))
noncomputable def Tryz.qt11 : Tr Func := Tr.n (Tr.n (Tr.n Tr.e (some Tryz.f259) Tr.e) (some Tryz.f131) (Tr.n Tr.e (some Tryz.f387) Tr.e)) (some Tryz.f67) (Tr.n (Tr.n Tr.e (some Tryz.f323) Tr.e) (some Tryz.f195) Tr.e)
noncomputable def Tryz.qt12 : Tr Func := Tr.n (Tr.n (Tr.n Tr.e (some Tryz.f291) Tr.e) (some Tryz.f163) (Tr.n Tr.e (some Tryz.f419) Tr.e)) (some Tryz.f99) (Tr.n (Tr.n Tr.e (some Tryz.f355) Tr.e) (some Tryz.f227) Tr.e)
noncomputable def Tryz.qt13 : Tr Func := Tr.n Tryz.qt11 (some Tryz.f35) Tryz.qt12
noncomputable def Tryz.qt14 : Tr Func := Tr.n (Tr.n (Tr.n Tr.e (some Tryz.f275) Tr.e) (some Tryz.f147) (Tr.n Tr.e (some Tryz.f403) Tr.e)) (some Tryz.f83) (Tr.n (Tr.n Tr.e (some Tryz.f339) Tr.e) (some Tryz.f211) Tr.e)
noncomputable def Tryz.qt15 : Tr Func := Tr.n Tryz.qt14 (some Tryz.f51) (Tr.n (Tr.n (Tr.n Tr.e (some Tryz.f307) Tr.e) (some Tryz.f179) Tr.e) (some Tryz.f115) (Tr.n (Tr.n Tr.e (some Tryz.f371) Tr.e) (some Tryz.f243) Tr.e))
noncomputable def Tryz.qt16 : Tr Func := Tr.n (Tr.n (Tr.n Tr.e (some Tryz.f267) Tr.e) (some Tryz.f139) (Tr.n Tr.e (some Tryz.f395) Tr.e)) (some Tryz.f75) (Tr.n (Tr.n Tr.e (some Tryz.f331) Tr.e) (some Tryz.f203) Tr.e)
noncomputable def Tryz.qt17 : Tr Func := Tr.n (Tr.n (Tr.n Tr.e (some Tryz.f299) Tr.e) (some Tryz.f171) (Tr.n Tr.e (some Tryz.f427) Tr.e)) (some Tryz.f107) (Tr.n (Tr.n Tr.e (some Tryz.f363) Tr.e) (some Tryz.f235) Tr.e)
noncomputable def Tryz.qt18 : Tr Func := Tr.n Tryz.qt16 (some Tryz.f43) Tryz.qt17
noncomputable def Tryz.qt19 : Tr Func := Tr.n (Tr.n (Tr.n Tr.e (some Tryz.f283) Tr.e) (some Tryz.f155) (Tr.n Tr.e (some Tryz.f411) Tr.e)) (some Tryz.f91) (Tr.n (Tr.n Tr.e (some Tryz.f347) Tr.e) (some Tryz.f219) Tr.e)
noncomputable def Tryz.qt20 : Tr Func := Tr.n Tryz.qt19 (some Tryz.f59) (Tr.n (Tr.n (Tr.n Tr.e (some Tryz.f315) Tr.e) (some Tryz.f187) Tr.e) (some Tryz.f123) (Tr.n (Tr.n Tr.e (some Tryz.f379) Tr.e) (some Tryz.f251) Tr.e))
noncomputable def Tryz.qt21 : Tr Func := Tr.n (Tr.n (Tr.n Tr.e (some Tryz.f257) Tr.e) (some Tryz.f129) (Tr.n Tr.e (some Tryz.f385) Tr.e)) (some Tryz.f65) (Tr.n (Tr.n Tr.e (some Tryz.f321) Tr.e) (some Tryz.f193) Tr.e)
noncomputable def Tryz.qt22 : Tr Func := Tr.n (Tr.n (Tr.n Tr.e (some Tryz.f289) Tr.e) (some Tryz.f161) (Tr.n Tr.e (some Tryz.f417) Tr.e)) (some Tryz.f97) (Tr.n (Tr.n Tr.e (some Tryz.f353) Tr.e) (some Tryz.f225) Tr.e)
noncomputable def Tryz.qt23 : Tr Func := Tr.n Tryz.qt21 (some Tryz.f33) Tryz.qt22
noncomputable def Tryz.qt24 : Tr Func := Tr.n (Tr.n (Tr.n Tr.e (some Tryz.f273) Tr.e) (some Tryz.f145) (Tr.n Tr.e (some Tryz.f401) Tr.e)) (some Tryz.f81) (Tr.n (Tr.n Tr.e (some Tryz.f337) Tr.e) (some Tryz.f209) Tr.e)
noncomputable def Tryz.qt25 : Tr Func := Tr.n Tryz.qt24 (some Tryz.f49) (Tr.n (Tr.n (Tr.n Tr.e (some Tryz.f305) Tr.e) (some Tryz.f177) Tr.e) (some Tryz.f113) (Tr.n (Tr.n Tr.e (some Tryz.f369) Tr.e) (some Tryz.f241) Tr.e))
noncomputable def Tryz.qt26 : Tr Func := Tr.n (Tr.n (Tr.n Tr.e (some Tryz.f265) Tr.e) (some Tryz.f137) (Tr.n Tr.e (some Tryz.f393) Tr.e)) (some Tryz.f73) (Tr.n (Tr.n Tr.e (some Tryz.f329) Tr.e) (some Tryz.f201) Tr.e)
noncomputable def Tryz.qt27 : Tr Func := Tr.n (Tr.n (Tr.n Tr.e (some Tryz.f297) Tr.e) (some Tryz.f169) (Tr.n Tr.e (some Tryz.f425) Tr.e)) (some Tryz.f105) (Tr.n (Tr.n Tr.e (some Tryz.f361) Tr.e) (some Tryz.f233) Tr.e)
noncomputable def Tryz.qt28 : Tr Func := Tr.n Tryz.qt26 (some Tryz.f41) Tryz.qt27
noncomputable def Tryz.qt29 : Tr Func := Tr.n (Tr.n (Tr.n Tr.e (some Tryz.f281) Tr.e) (some Tryz.f153) (Tr.n Tr.e (some Tryz.f409) Tr.e)) (some Tryz.f89) (Tr.n (Tr.n Tr.e (some Tryz.f345) Tr.e) (some Tryz.f217) Tr.e)
noncomputable def Tryz.qt30 : Tr Func := Tr.n Tryz.qt29 (some Tryz.f57) (Tr.n (Tr.n (Tr.n Tr.e (some Tryz.f313) Tr.e) (some Tryz.f185) Tr.e) (some Tryz.f121) (Tr.n (Tr.n Tr.e (some Tryz.f377) Tr.e) (some Tryz.f249) Tr.e))
noncomputable def Tryz.qt31 : Tr Func := Tr.n (Tr.n (Tr.n Tr.e (some Tryz.f261) Tr.e) (some Tryz.f133) (Tr.n Tr.e (some Tryz.f389) Tr.e)) (some Tryz.f69) (Tr.n (Tr.n Tr.e (some Tryz.f325) Tr.e) (some Tryz.f197) Tr.e)
noncomputable def Tryz.qt32 : Tr Func := Tr.n (Tr.n (Tr.n Tr.e (some Tryz.f293) Tr.e) (some Tryz.f165) (Tr.n Tr.e (some Tryz.f421) Tr.e)) (some Tryz.f101) (Tr.n (Tr.n Tr.e (some Tryz.f357) Tr.e) (some Tryz.f229) Tr.e)
noncomputable def Tryz.qt33 : Tr Func := Tr.n Tryz.qt31 (some Tryz.f37) Tryz.qt32
noncomputable def Tryz.qt34 : Tr Func := Tr.n (Tr.n (Tr.n Tr.e (some Tryz.f277) Tr.e) (some Tryz.f149) (Tr.n Tr.e (some Tryz.f405) Tr.e)) (some Tryz.f85) (Tr.n (Tr.n Tr.e (some Tryz.f341) Tr.e) (some Tryz.f213) Tr.e)
noncomputable def Tryz.qt35 : Tr Func := Tr.n Tryz.qt34 (some Tryz.f53) (Tr.n (Tr.n (Tr.n Tr.e (some Tryz.f309) Tr.e) (some Tryz.f181) Tr.e) (some Tryz.f117) (Tr.n (Tr.n Tr.e (some Tryz.f373) Tr.e) (some Tryz.f245) Tr.e))
noncomputable def Tryz.qt36 : Tr Func := Tr.n (Tr.n (Tr.n Tr.e (some Tryz.f269) Tr.e) (some Tryz.f141) (Tr.n Tr.e (some Tryz.f397) Tr.e)) (some Tryz.f77) (Tr.n (Tr.n Tr.e (some Tryz.f333) Tr.e) (some Tryz.f205) Tr.e)
noncomputable def Tryz.qt37 : Tr Func := Tr.n (Tr.n (Tr.n Tr.e (some Tryz.f301) Tr.e) (some Tryz.f173) (Tr.n Tr.e (some Tryz.f429) Tr.e)) (some Tryz.f109) (Tr.n (Tr.n Tr.e (some Tryz.f365) Tr.e) (some Tryz.f237) Tr.e)
noncomputable def Tryz.qt38 : Tr Func := Tr.n Tryz.qt36 (some Tryz.f45) Tryz.qt37
noncomputable def Tryz.qt39 : Tr Func := Tr.n (Tr.n (Tr.n Tr.e (some Tryz.f285) Tr.e) (some Tryz.f157) (Tr.n Tr.e (some Tryz.f413) Tr.e)) (some Tryz.f93) (Tr.n (Tr.n Tr.e (some Tryz.f349) Tr.e) (some Tryz.f221) Tr.e)
noncomputable def Tryz.qt40 : Tr Func := Tr.n Tryz.qt39 (some Tryz.f61) (Tr.n (Tr.n (Tr.n Tr.e (some Tryz.f317) Tr.e) (some Tryz.f189) Tr.e) (some Tryz.f125) (Tr.n (Tr.n Tr.e (some Tryz.f381) Tr.e) (some Tryz.f253) Tr.e))
noncomputable def Tryz.qt41 : Tr Func := Tr.n (Tr.n (Tr.n Tr.e (some Tryz.f256) Tr.e) (some Tryz.f128) (Tr.n Tr.e (some Tryz.f384) Tr.e)) (some Tryz.f64) (Tr.n (Tr.n Tr.e (some Tryz.f320) Tr.e) (some Tryz.f192) Tr.e)
noncomputable def Tryz.qt42 : Tr Func := Tr.n (Tr.n (Tr.n Tr.e (some Tryz.f288) Tr.e) (some Tryz.f160) (Tr.n Tr.e (some Tryz.f416) Tr.e)) (some Tryz.f96) (Tr.n (Tr.n Tr.e (some Tryz.f352) Tr.e) (some Tryz.f224) Tr.e)
noncomputable def Tryz.qt43 : Tr Func := Tr.n Tryz.qt41 (some Tryz.f32) Tryz.qt42
noncomputable def Tryz.qt44 : Tr Func := Tr.n (Tr.n (Tr.n Tr.e (some Tryz.f272) Tr.e) (some Tryz.f144) (Tr.n Tr.e (some Tryz.f400) Tr.e)) (some Tryz.f80) (Tr.n (Tr.n Tr.e (some Tryz.f336) Tr.e) (some Tryz.f208) Tr.e)
noncomputable def Tryz.qt45 : Tr Func := Tr.n (Tr.n (Tr.n Tr.e (some Tryz.f304) Tr.e) (some Tryz.f176) (Tr.n Tr.e (some Tryz.f432) Tr.e)) (some Tryz.f112) (Tr.n (Tr.n Tr.e (some Tryz.f368) Tr.e) (some Tryz.f240) Tr.e)
noncomputable def Tryz.qt46 : Tr Func := Tr.n Tryz.qt44 (some Tryz.f48) Tryz.qt45
noncomputable def Tryz.qt47 : Tr Func := Tr.n (Tr.n (Tr.n Tr.e (some Tryz.f264) Tr.e) (some Tryz.f136) (Tr.n Tr.e (some Tryz.f392) Tr.e)) (some Tryz.f72) (Tr.n (Tr.n Tr.e (some Tryz.f328) Tr.e) (some Tryz.f200) Tr.e)
noncomputable def Tryz.qt48 : Tr Func := Tr.n (Tr.n (Tr.n Tr.e (some Tryz.f296) Tr.e) (some Tryz.f168) (Tr.n Tr.e (some Tryz.f424) Tr.e)) (some Tryz.f104) (Tr.n (Tr.n Tr.e (some Tryz.f360) Tr.e) (some Tryz.f232) Tr.e)
noncomputable def Tryz.qt49 : Tr Func := Tr.n Tryz.qt47 (some Tryz.f40) Tryz.qt48
noncomputable def Tryz.qt50 : Tr Func := Tr.n (Tr.n (Tr.n Tr.e (some Tryz.f280) Tr.e) (some Tryz.f152) (Tr.n Tr.e (some Tryz.f408) Tr.e)) (some Tryz.f88) (Tr.n (Tr.n Tr.e (some Tryz.f344) Tr.e) (some Tryz.f216) Tr.e)
noncomputable def Tryz.qt51 : Tr Func := Tr.n Tryz.qt50 (some Tryz.f56) (Tr.n (Tr.n (Tr.n Tr.e (some Tryz.f312) Tr.e) (some Tryz.f184) Tr.e) (some Tryz.f120) (Tr.n (Tr.n Tr.e (some Tryz.f376) Tr.e) (some Tryz.f248) Tr.e))
noncomputable def Tryz.qt52 : Tr Func := Tr.n (Tr.n (Tr.n Tr.e (some Tryz.f260) Tr.e) (some Tryz.f132) (Tr.n Tr.e (some Tryz.f388) Tr.e)) (some Tryz.f68) (Tr.n (Tr.n Tr.e (some Tryz.f324) Tr.e) (some Tryz.f196) Tr.e)
noncomputable def Tryz.qt53 : Tr Func := Tr.n (Tr.n (Tr.n Tr.e (some Tryz.f292) Tr.e) (some Tryz.f164) (Tr.n Tr.e (some Tryz.f420) Tr.e)) (some Tryz.f100) (Tr.n (Tr.n Tr.e (some Tryz.f356) Tr.e) (some Tryz.f228) Tr.e)
noncomputable def Tryz.qt54 : Tr Func := Tr.n Tryz.qt52 (some Tryz.f36) Tryz.qt53
noncomputable def Tryz.qt55 : Tr Func := Tr.n (Tr.n (Tr.n Tr.e (some Tryz.f276) Tr.e) (some Tryz.f148) (Tr.n Tr.e (some Tryz.f404) Tr.e)) (some Tryz.f84) (Tr.n (Tr.n Tr.e (some Tryz.f340) Tr.e) (some Tryz.f212) Tr.e)
noncomputable def Tryz.qt56 : Tr Func := Tr.n Tryz.qt55 (some Tryz.f52) (Tr.n (Tr.n (Tr.n Tr.e (some Tryz.f308) Tr.e) (some Tryz.f180) Tr.e) (some Tryz.f116) (Tr.n (Tr.n Tr.e (some Tryz.f372) Tr.e) (some Tryz.f244) Tr.e))
noncomputable def Tryz.qt57 : Tr Func := Tr.n (Tr.n (Tr.n Tr.e (some Tryz.f268) Tr.e) (some Tryz.f140) (Tr.n Tr.e (some Tryz.f396) Tr.e)) (some Tryz.f76) (Tr.n (Tr.n Tr.e (some Tryz.f332) Tr.e) (some Tryz.f204) Tr.e)
noncomputable def Tryz.qt58 : Tr Func := Tr.n (Tr.n (Tr.n Tr.e (some Tryz.f300) Tr.e) (some Tryz.f172) (Tr.n Tr.e (some Tryz.f428) Tr.e)) (some Tryz.f108) (Tr.n (Tr.n Tr.e (some Tryz.f364) Tr.e) (some Tryz.f236) Tr.e)
noncomputable def Tryz.qt59 : Tr Func := Tr.n Tryz.qt57 (some Tryz.f44) Tryz.qt58
noncomputable def Tryz.qt60 : Tr Func := Tr.n (Tr.n (Tr.n Tr.e (some Tryz.f284) Tr.e) (some Tryz.f156) (Tr.n Tr.e (some Tryz.f412) Tr.e)) (some Tryz.f92) (Tr.n (Tr.n Tr.e (some Tryz.f348) Tr.e) (some Tryz.f220) Tr.e)
noncomputable def Tryz.qt61 : Tr Func := Tr.n Tryz.qt60 (some Tryz.f60) (Tr.n (Tr.n (Tr.n Tr.e (some Tryz.f316) Tr.e) (some Tryz.f188) Tr.e) (some Tryz.f124) (Tr.n (Tr.n Tr.e (some Tryz.f380) Tr.e) (some Tryz.f252) Tr.e))
noncomputable def Tryz.qt62 : Tr Func := Tr.n (Tr.n (Tr.n Tr.e (some Tryz.f258) Tr.e) (some Tryz.f130) (Tr.n Tr.e (some Tryz.f386) Tr.e)) (some Tryz.f66) (Tr.n (Tr.n Tr.e (some Tryz.f322) Tr.e) (some Tryz.f194) Tr.e)
noncomputable def Tryz.qt63 : Tr Func := Tr.n (Tr.n (Tr.n Tr.e (some Tryz.f290) Tr.e) (some Tryz.f162) (Tr.n Tr.e (some Tryz.f418) Tr.e)) (some Tryz.f98) (Tr.n (Tr.n Tr.e (some Tryz.f354) Tr.e) (some Tryz.f226) Tr.e)
noncomputable def Tryz.qt64 : Tr Func := Tr.n Tryz.qt62 (some Tryz.f34) Tryz.qt63
noncomputable def Tryz.qt65 : Tr Func := Tr.n (Tr.n (Tr.n Tr.e (some Tryz.f274) Tr.e) (some Tryz.f146) (Tr.n Tr.e (some Tryz.f402) Tr.e)) (some Tryz.f82) (Tr.n (Tr.n Tr.e (some Tryz.f338) Tr.e) (some Tryz.f210) Tr.e)
noncomputable def Tryz.qt66 : Tr Func := Tr.n Tryz.qt65 (some Tryz.f50) (Tr.n (Tr.n (Tr.n Tr.e (some Tryz.f306) Tr.e) (some Tryz.f178) Tr.e) (some Tryz.f114) (Tr.n (Tr.n Tr.e (some Tryz.f370) Tr.e) (some Tryz.f242) Tr.e))
noncomputable def Tryz.qt67 : Tr Func := Tr.n (Tr.n (Tr.n Tr.e (some Tryz.f266) Tr.e) (some Tryz.f138) (Tr.n Tr.e (some Tryz.f394) Tr.e)) (some Tryz.f74) (Tr.n (Tr.n Tr.e (some Tryz.f330) Tr.e) (some Tryz.f202) Tr.e)
noncomputable def Tryz.qt68 : Tr Func := Tr.n (Tr.n (Tr.n Tr.e (some Tryz.f298) Tr.e) (some Tryz.f170) (Tr.n Tr.e (some Tryz.f426) Tr.e)) (some Tryz.f106) (Tr.n (Tr.n Tr.e (some Tryz.f362) Tr.e) (some Tryz.f234) Tr.e)
noncomputable def Tryz.qt69 : Tr Func := Tr.n Tryz.qt67 (some Tryz.f42) Tryz.qt68
noncomputable def Tryz.qt70 : Tr Func := Tr.n (Tr.n (Tr.n Tr.e (some Tryz.f282) Tr.e) (some Tryz.f154) (Tr.n Tr.e (some Tryz.f410) Tr.e)) (some Tryz.f90) (Tr.n (Tr.n Tr.e (some Tryz.f346) Tr.e) (some Tryz.f218) Tr.e)
noncomputable def Tryz.qt71 : Tr Func := Tr.n Tryz.qt70 (some Tryz.f58) (Tr.n (Tr.n (Tr.n Tr.e (some Tryz.f314) Tr.e) (some Tryz.f186) Tr.e) (some Tryz.f122) (Tr.n (Tr.n Tr.e (some Tryz.f378) Tr.e) (some Tryz.f250) Tr.e))
noncomputable def Tryz.qt72 : Tr Func := Tr.n (Tr.n (Tr.n Tr.e (some Tryz.f262) Tr.e) (some Tryz.f134) (Tr.n Tr.e (some Tryz.f390) Tr.e)) (some Tryz.f70) (Tr.n (Tr.n Tr.e (some Tryz.f326) Tr.e) (some Tryz.f198) Tr.e)
noncomputable def Tryz.qt73 : Tr Func := Tr.n (Tr.n (Tr.n Tr.e (some Tryz.f294) Tr.e) (some Tryz.f166) (Tr.n Tr.e (some Tryz.f422) Tr.e)) (some Tryz.f102) (Tr.n (Tr.n Tr.e (some Tryz.f358) Tr.e) (some Tryz.f230) Tr.e)
noncomputable def Tryz.qt74 : Tr Func := Tr.n Tryz.qt72 (some Tryz.f38) Tryz.qt73
noncomputable def Tryz.qt75 : Tr Func := Tr.n (Tr.n (Tr.n Tr.e (some Tryz.f278) Tr.e) (some Tryz.f150) (Tr.n Tr.e (some Tryz.f406) Tr.e)) (some Tryz.f86) (Tr.n (Tr.n Tr.e (some Tryz.f342) Tr.e) (some Tryz.f214) Tr.e)
noncomputable def Tryz.qt76 : Tr Func := Tr.n Tryz.qt75 (some Tryz.f54) (Tr.n (Tr.n (Tr.n Tr.e (some Tryz.f310) Tr.e) (some Tryz.f182) Tr.e) (some Tryz.f118) (Tr.n (Tr.n Tr.e (some Tryz.f374) Tr.e) (some Tryz.f246) Tr.e))
noncomputable def Tryz.qt77 : Tr Func := Tr.n (Tr.n (Tr.n Tr.e (some Tryz.f270) Tr.e) (some Tryz.f142) (Tr.n Tr.e (some Tryz.f398) Tr.e)) (some Tryz.f78) (Tr.n (Tr.n Tr.e (some Tryz.f334) Tr.e) (some Tryz.f206) Tr.e)
noncomputable def Tryz.qt78 : Tr Func := Tr.n (Tr.n (Tr.n Tr.e (some Tryz.f302) Tr.e) (some Tryz.f174) (Tr.n Tr.e (some Tryz.f430) Tr.e)) (some Tryz.f110) (Tr.n (Tr.n Tr.e (some Tryz.f366) Tr.e) (some Tryz.f238) Tr.e)
noncomputable def Tryz.qt79 : Tr Func := Tr.n Tryz.qt77 (some Tryz.f46) Tryz.qt78
noncomputable def Tryz.qt80 : Tr Func := Tr.n (Tr.n (Tr.n Tr.e (some Tryz.f286) Tr.e) (some Tryz.f158) (Tr.n Tr.e (some Tryz.f414) Tr.e)) (some Tryz.f94) (Tr.n (Tr.n Tr.e (some Tryz.f350) Tr.e) (some Tryz.f222) Tr.e)
noncomputable def Tryz.qt81 : Tr Func := Tr.n Tryz.qt80 (some Tryz.f62) (Tr.n (Tr.n (Tr.n Tr.e (some Tryz.f318) Tr.e) (some Tryz.f190) Tr.e) (some Tryz.f126) (Tr.n (Tr.n Tr.e (some Tryz.f382) Tr.e) (some Tryz.f254) Tr.e))
noncomputable def Tryz.qfns : Tr Func := Tr.n (Tr.n (Tr.n (Tr.n (Tr.n Tryz.qt2 (some Tryz.f15) Tryz.qt5) (some Tryz.f7) (Tr.n Tryz.qt8 (some Tryz.f23) Tryz.qt10)) (some Tryz.f3) (Tr.n (Tr.n Tryz.qt13 (some Tryz.f19) Tryz.qt15) (some Tryz.f11) (Tr.n Tryz.qt18 (some Tryz.f27) Tryz.qt20))) (some Tryz.f1) (Tr.n (Tr.n (Tr.n Tryz.qt23 (some Tryz.f17) Tryz.qt25) (some Tryz.f9) (Tr.n Tryz.qt28 (some Tryz.f25) Tryz.qt30)) (some Tryz.f5) (Tr.n (Tr.n Tryz.qt33 (some Tryz.f21) Tryz.qt35) (some Tryz.f13) (Tr.n Tryz.qt38 (some Tryz.f29) Tryz.qt40)))) (some Tryz.f0) (Tr.n (Tr.n (Tr.n (Tr.n Tryz.qt43 (some Tryz.f16) Tryz.qt46) (some Tryz.f8) (Tr.n Tryz.qt49 (some Tryz.f24) Tryz.qt51)) (some Tryz.f4) (Tr.n (Tr.n Tryz.qt54 (some Tryz.f20) Tryz.qt56) (some Tryz.f12) (Tr.n Tryz.qt59 (some Tryz.f28) Tryz.qt61))) (some Tryz.f2) (Tr.n (Tr.n (Tr.n Tryz.qt64 (some Tryz.f18) Tryz.qt66) (some Tryz.f10) (Tr.n Tryz.qt69 (some Tryz.f26) Tryz.qt71)) (some Tryz.f6) (Tr.n (Tr.n Tryz.qt74 (some Tryz.f22) Tryz.qt76) (some Tryz.f14) (Tr.n Tryz.qt79 (some Tryz.f30) Tryz.qt81))))
def Tryz.qorc : Nat → Option (List Value → Option Value)
  | 314 => some fun
    | [.string s, .string t] => match Nat.blt s.data.toList.length 4294967281 with
      | true => some (.int .i64 (Lib.index s.data.toList t.data.toList))
      | false => none
    | _ => none
  | 367 => some fun
    | [.string s, .int .u8 c] => some (.int .i64 (Lib.indexByte s.data.toList c.toNat.toUInt8))
    | _ => none
  | 264 => some fun
    | [.int .u64 (.ofNat x), .int .u64 (.ofNat y), .int .u64 (.ofNat c)] => match Nat.ble c 1 with
      | true => some (.tuple #[.int .u64 (Int.ofNat ((x + y + c) % 18446744073709551616)), .int .u64 (Int.ofNat ((x + y + c) / 18446744073709551616))])
      | false => none
    | _ => none
  | _ => none
noncomputable def Tryz.qenv : Env := { P := Tryz.prog, fns := Tryz.qfns, orc := Tryz.qorc, idf := fun f => Nat.beq f 326, G := 10 }
def isRet : Option (Ot × Nat × Heap) → Bool
  | some (.ret (.bool true) _, _, _) => true
  | _ => false
end Go.Proofs
end
