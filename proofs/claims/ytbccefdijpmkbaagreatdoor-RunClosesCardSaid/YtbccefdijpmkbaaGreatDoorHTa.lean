/-
  The tables of this seat's program for the evaluator, and that they fit it.
-/
import Derived.Test.YtbccefdijpmkbaaGreatDoorChecked
import Derived.Test.YtbccefdijpmkbaaGreatDoorHvF
import Derived.Shelf.Vars
import Derived.Lib.Space
import Derived.Lib.LaidTab
set_option linter.constructorNameAsVariable false
set_option linter.unusedVariables false
set_option linter.unusedSimpArgs false
set_option linter.unusedSectionVars false
set_option linter.unusedVariables false
set_option linter.unusedSectionVars false
set_option linter.unusedSimpArgs false
set_option maxRecDepth 100000
set_option maxHeartbeats 4000000
namespace Go.Proofs.YtbccefdijpmkbaaGreatDoor
open Go Go.Ev
noncomputable section
noncomputable def ftab_0 : R (Option Func) := .mk (some Tryz.f0) (some Tryz.f1) (some Tryz.f2) (some Tryz.f3) (some Tryz.f4) (some Tryz.f5) (some Tryz.f6) (some Tryz.f7) (some Tryz.f8) (some Tryz.f9) (some Tryz.f10) (some Tryz.f11) (some Tryz.f12) (some Tryz.f13) (some Tryz.f14) (some Tryz.f15)
noncomputable def ftab_1 : R (Option Func) := .mk (some Tryz.f16) (some Tryz.f17) (some Tryz.f18) (some Tryz.f19) (some Tryz.f20) (some Tryz.f21) (some Tryz.f22) (some Tryz.f23) (some Tryz.f24) (some Tryz.f25) (some Tryz.f26) (some Tryz.f27) (some Tryz.f28) (some Tryz.f29) (some Tryz.f30) (some Tryz.f31)
noncomputable def ftab_2 : R (Option Func) := .mk (some Tryz.f32) (some Tryz.f33) (some Tryz.f34) (some Tryz.f35) (some Tryz.f36) (some Tryz.f37) (some Tryz.f38) (some Tryz.f39) (some Tryz.f40) (some Tryz.f41) (some Tryz.f42) (some Tryz.f43) (some Tryz.f44) (some Tryz.f45) (some Tryz.f46) (some Tryz.f47)
noncomputable def ftab_3 : R (Option Func) := .mk (some Tryz.f48) (some Tryz.f49) (some Tryz.f50) (some Tryz.f51) (some Tryz.f52) (some Tryz.f53) (some Tryz.f54) (some Tryz.f55) (some Tryz.f56) (some Tryz.f57) (some Tryz.f58) (some Tryz.f59) (some Tryz.f60) (some Tryz.f61) (some Tryz.f62) (some Tryz.f63)
noncomputable def ftab_4 : R (Option Func) := .mk (some Tryz.f64) (some Tryz.f65) (some Tryz.f66) (some Tryz.f67) (some Tryz.f68) (some Tryz.f69) (some Tryz.f70) (some Tryz.f71) (some Tryz.f72) (some Tryz.f73) (some Tryz.f74) (some Tryz.f75) (some Tryz.f76) (some Tryz.f77) (some Tryz.f78) (some Tryz.f79)
noncomputable def ftab_5 : R (Option Func) := .mk (some Tryz.f80) (some Tryz.f81) (some Tryz.f82) (some Tryz.f83) (some Tryz.f84) (some Tryz.f85) (some Tryz.f86) (some Tryz.f87) (some Tryz.f88) (some Tryz.f89) (some Tryz.f90) (some Tryz.f91) (some Tryz.f92) (some Tryz.f93) (some Tryz.f94) (some Tryz.f95)
noncomputable def ftab_6 : R (Option Func) := .mk (some Tryz.f96) (some Tryz.f97) (some Tryz.f98) (some Tryz.f99) (some Tryz.f100) (some Tryz.f101) (some Tryz.f102) (some Tryz.f103) (some Tryz.f104) (some Tryz.f105) (some Tryz.f106) (some Tryz.f107) (some Tryz.f108) (some Tryz.f109) (some Tryz.f110) (some Tryz.f111)
noncomputable def ftab_7 : R (Option Func) := .mk (some Tryz.f112) (some Tryz.f113) (some Tryz.f114) (some Tryz.f115) (some Tryz.f116) (some Tryz.f117) (some Tryz.f118) (some Tryz.f119) (some Tryz.f120) (some Tryz.f121) (some Tryz.f122) (some Tryz.f123) (some Tryz.f124) (some Tryz.f125) (some Tryz.f126) (some Tryz.f127)
noncomputable def ftab_8 : R (Option Func) := .mk (some Tryz.f128) (some Tryz.f129) (some Tryz.f130) (some Tryz.f131) (some Tryz.f132) (some Tryz.f133) (some Tryz.f134) (some Tryz.f135) (some Tryz.f136) (some Tryz.f137) (some Tryz.f138) (some Tryz.f139) (some Tryz.f140) (some Tryz.f141) (some Tryz.f142) (some Tryz.f143)
noncomputable def ftab_9 : R (Option Func) := .mk (some Tryz.f144) (some Tryz.f145) (some Tryz.f146) (some Tryz.f147) (some Tryz.f148) (some Tryz.f149) (some Tryz.f150) (some Tryz.f151) (some Tryz.f152) (some Tryz.f153) (some Tryz.f154) (some Tryz.f155) (some Tryz.f156) (some Tryz.f157) (some Tryz.f158) (some Tryz.f159)
noncomputable def ftab_10 : R (Option Func) := .mk (some Tryz.f160) (some Tryz.f161) (some Tryz.f162) (some Tryz.f163) (some Tryz.f164) (some Tryz.f165) (some Tryz.f166) (some Tryz.f167) (some Tryz.f168) (some Tryz.f169) (some Tryz.f170) (some Tryz.f171) (some Tryz.f172) (some Tryz.f173) (some Tryz.f174) (some Tryz.f175)
noncomputable def ftab_11 : R (Option Func) := .mk (some Tryz.f176) (some Tryz.f177) (some Tryz.f178) (some Tryz.f179) (some Tryz.f180) (some Tryz.f181) (some Tryz.f182) (some Tryz.f183) (some Tryz.f184) (some Tryz.f185) (some Tryz.f186) (some Tryz.f187) (some Tryz.f188) (some Tryz.f189) (some Tryz.f190) (some Tryz.f191)
noncomputable def ftab_12 : R (Option Func) := .mk (some Tryz.f192) (some Tryz.f193) (some Tryz.f194) (some Tryz.f195) (some Tryz.f196) (some Tryz.f197) (some Tryz.f198) (some Tryz.f199) (some Tryz.f200) (some Tryz.f201) (some Tryz.f202) (some Tryz.f203) (some Tryz.f204) (some Tryz.f205) (some Tryz.f206) (some Tryz.f207)
noncomputable def ftab_13 : R (Option Func) := .mk (some Tryz.f208) (some Tryz.f209) (some Tryz.f210) (some Tryz.f211) (some Tryz.f212) (some Tryz.f213) (some Tryz.f214) (some Tryz.f215) (some Tryz.f216) (some Tryz.f217) (some Tryz.f218) (some Tryz.f219) (some Tryz.f220) (some Tryz.f221) (some Tryz.f222) (some Tryz.f223)
noncomputable def ftab_14 : R (Option Func) := .mk (some Tryz.f224) (some Tryz.f225) (some Tryz.f226) (some Tryz.f227) (some Tryz.f228) (some Tryz.f229) (some Tryz.f230) (some Tryz.f231) (some Tryz.f232) (some Tryz.f233) (some Tryz.f234) (some Tryz.f235) (some Tryz.f236) (some Tryz.f237) (some Tryz.f238) (some Tryz.f239)
noncomputable def ftab_15 : R (Option Func) := .mk (some Tryz.f240) (some Tryz.f241) (some Tryz.f242) (some Tryz.f243) (some Tryz.f244) (some Tryz.f245) (some Tryz.f246) (some Tryz.f247) (some Tryz.f248) (some Tryz.f249) (some Tryz.f250) (some Tryz.f251) (some Tryz.f252) (some Tryz.f253) (some Tryz.f254) (some Tryz.f255)
noncomputable def ftab_16 : R (Option Func) := .mk (some Tryz.f256) (some Tryz.f257) (some Tryz.f258) (some Tryz.f259) (some Tryz.f260) (some Tryz.f261) (some Tryz.f262) (some Tryz.f263) (some Tryz.f264) (some Tryz.f265) (some Tryz.f266) (some Tryz.f267) (some Tryz.f268) (some Tryz.f269) (some Tryz.f270) (some Tryz.f271)
noncomputable def ftab_17 : R (Option Func) := .mk (some Tryz.f272) (some Tryz.f273) (some Tryz.f274) (some Tryz.f275) (some Tryz.f276) (some Tryz.f277) (some Tryz.f278) (some Tryz.f279) (some Tryz.f280) (some Tryz.f281) (some Tryz.f282) (some Tryz.f283) (some Tryz.f284) (some Tryz.f285) (some Tryz.f286) (some Tryz.f287)
noncomputable def ftab_18 : R (Option Func) := .mk (some Tryz.f288) (some Tryz.f289) (some Tryz.f290) (some Tryz.f291) (some Tryz.f292) (some Tryz.f293) (some Tryz.f294) (some Tryz.f295) (some Tryz.f296) (some Tryz.f297) (some Tryz.f298) (some Tryz.f299) (some Tryz.f300) (some Tryz.f301) (some Tryz.f302) (some Tryz.f303)
noncomputable def ftab_19 : R (Option Func) := .mk (some Tryz.f304) (some Tryz.f305) (some Tryz.f306) (some Tryz.f307) (some Tryz.f308) (some Tryz.f309) (some Tryz.f310) (some Tryz.f311) (some Tryz.f312) (some Tryz.f313) (some Tryz.f314) (some Tryz.f315) (some Tryz.f316) (some Tryz.f317) (some Tryz.f318) (some Tryz.f319)
noncomputable def ftab_20 : R (Option Func) := .mk (some Tryz.f320) (some Tryz.f321) (some Tryz.f322) (some Tryz.f323) (some Tryz.f324) (some Tryz.f325) (some Tryz.f326) (some Tryz.f327) (some Tryz.f328) (some Tryz.f329) (some Tryz.f330) (some Tryz.f331) (some Tryz.f332) (some Tryz.f333) (some Tryz.f334) (some Tryz.f335)
noncomputable def ftab_21 : R (Option Func) := .mk (some Tryz.f336) (some Tryz.f337) (some Tryz.f338) (some Tryz.f339) (some Tryz.f340) (some Tryz.f341) (some Tryz.f342) (some Tryz.f343) (some Tryz.f344) (some Tryz.f345) (some Tryz.f346) (some Tryz.f347) (some Tryz.f348) (some Tryz.f349) (some Tryz.f350) (some Tryz.f351)
noncomputable def ftab_22 : R (Option Func) := .mk (some Tryz.f352) (some Tryz.f353) (some Tryz.f354) (some Tryz.f355) (some Tryz.f356) (some Tryz.f357) (some Tryz.f358) (some Tryz.f359) (some Tryz.f360) (some Tryz.f361) (some Tryz.f362) (some Tryz.f363) (some Tryz.f364) (some Tryz.f365) (some Tryz.f366) (some Tryz.f367)
noncomputable def ftab_23 : R (Option Func) := .mk (some Tryz.f368) (some Tryz.f369) (some Tryz.f370) (some Tryz.f371) (some Tryz.f372) (some Tryz.f373) (some Tryz.f374) (some Tryz.f375) (some Tryz.f376) (some Tryz.f377) (some Tryz.f378) (some Tryz.f379) (some Tryz.f380) (some Tryz.f381) (some Tryz.f382) (some Tryz.f383)
noncomputable def ftab_24 : R (Option Func) := .mk (some Tryz.f384) (some Tryz.f385) (some Tryz.f386) (some Tryz.f387) (some Tryz.f388) (some Tryz.f389) (some Tryz.f390) (some Tryz.f391) (some Tryz.f392) (some Tryz.f393) (some Tryz.f394) (some Tryz.f395) (some Tryz.f396) (some Tryz.f397) (some Tryz.f398) (some Tryz.f399)
noncomputable def ftab_25 : R (Option Func) := .mk (some Tryz.f400) (some Tryz.f401) (some Tryz.f402) (some Tryz.f403) (some Tryz.f404) (some Tryz.f405) (some Tryz.f406) (some Tryz.f407) (some Tryz.f408) (some Tryz.f409) (some Tryz.f410) (some Tryz.f411) (some Tryz.f412) (some Tryz.f413) (some Tryz.f414) (some Tryz.f415)
noncomputable def ftab_26 : R (Option Func) := .mk (some Tryz.f416) (some Tryz.f417) (some Tryz.f418) (some Tryz.f419) (some Tryz.f420) (some Tryz.f421) (some Tryz.f422) (some Tryz.f423) (some Tryz.f424) (some Tryz.f425) (some Tryz.f426) (some Tryz.f427) (some Tryz.f428) (some Tryz.f429) (some Tryz.f430) (some Tryz.f431)
noncomputable def ftab_27 : R (Option Func) := .mk (some Tryz.f432) (some Tryz.f433) (some Tryz.f434) (some Tryz.f435) (some Tryz.f436) (some Tryz.f437) (some Tryz.f438) (some Tryz.f439) (some Tryz.f440) (some Tryz.f441) (some Tryz.f442) (some Tryz.f443) (some Tryz.f444) (some Tryz.f445) (some Tryz.f446) (some Tryz.f447)
noncomputable def ftab_28 : R (Option Func) := .mk (some Tryz.f448) (some Tryz.f449) (some Tryz.f450) (some Tryz.f451) (some Tryz.f452) (some Tryz.f453) (some Tryz.f454) (some Tryz.f455) (some Tryz.f456) (some Tryz.f457) (some Tryz.f458) (some Tryz.f459) (some Tryz.f460) (some Tryz.f461) (some Tryz.f462) (some Tryz.f463)
noncomputable def ftab_29 : R (Option Func) := .mk (some Tryz.f464) (some Tryz.f465) (some Tryz.f466) (some Tryz.f467) (some Tryz.f468) (some Tryz.f469) (some Tryz.f470) (some Tryz.f471) (some Tryz.f472) (some Tryz.f473) (some Tryz.f474) (some Tryz.f475) (some Tryz.f476) (some Tryz.f477) (some Tryz.f478) (some Tryz.f479)
noncomputable def ftab_30 : R (Option Func) := .mk (some Tryz.f480) (some Tryz.f481) (some Tryz.f482) (some Tryz.f483) (some Tryz.f484) (some Tryz.f485) (some Tryz.f486) (some Tryz.f487) (some Tryz.f488) (some Tryz.f489) (some Tryz.f490) (some Tryz.f491) (some Tryz.f492) (some Tryz.f493) (some Tryz.f494) (some Tryz.f495)
noncomputable def ftab_31 : R (Option Func) := .mk (some Tryz.f496) (some Tryz.f497) (some Tryz.f498) (some Tryz.f499) (some Tryz.f500) (some Tryz.f501) (some Tryz.f502) (some Tryz.f503) (some Tryz.f504) (some Tryz.f505) (some Tryz.f506) (some Tryz.f507) (some Tryz.f508) (some Tryz.f509) (some Tryz.f510) (some Tryz.f511)
noncomputable def ftab_32 : R (Option Func) := .mk (some Tryz.f512) (some Tryz.f513) (some Tryz.f514) (some Tryz.f515) (some Tryz.f516) (some Tryz.f517) (some Tryz.f518) (some Tryz.f519) (some Tryz.f520) (some Tryz.f521) (some Tryz.f522) (some Tryz.f523) (some Tryz.f524) (some Tryz.f525) (some Tryz.f526) (some Tryz.f527)
noncomputable def ftab_33 : R (Option Func) := .mk (some Tryz.f528) (some Tryz.f529) (some Tryz.f530) (some Tryz.f531) (some Tryz.f532) (some Tryz.f533) (some Tryz.f534) (some Tryz.f535) (some Tryz.f536) (some Tryz.f537) (some Tryz.f538) (some Tryz.f539) (some Tryz.f540) (some Tryz.f541) (some Tryz.f542) (some Tryz.f543)
noncomputable def ftab_34 : R (Option Func) := .mk (some Tryz.f544) (some Tryz.f545) (some Tryz.f546) (some Tryz.f547) (some Tryz.f548) (some Tryz.f549) (some Tryz.f550) (some Tryz.f551) (some Tryz.f552) (some Tryz.f553) (some Tryz.f554) (some Tryz.f555) (some Tryz.f556) none none none
noncomputable def ftab_e : R (Option Func) := R.all none
noncomputable def ftab__0 : R (R (Option Func)) := .mk ftab_0 ftab_1 ftab_2 ftab_3 ftab_4 ftab_5 ftab_6 ftab_7 ftab_8 ftab_9 ftab_10 ftab_11 ftab_12 ftab_13 ftab_14 ftab_15
noncomputable def ftab__1 : R (R (Option Func)) := .mk ftab_16 ftab_17 ftab_18 ftab_19 ftab_20 ftab_21 ftab_22 ftab_23 ftab_24 ftab_25 ftab_26 ftab_27 ftab_28 ftab_29 ftab_30 ftab_31
noncomputable def ftab__2 : R (R (Option Func)) := .mk ftab_32 ftab_33 ftab_34 ftab_e ftab_e ftab_e ftab_e ftab_e ftab_e ftab_e ftab_e ftab_e ftab_e ftab_e ftab_e ftab_e
noncomputable def ftab__e : R (R (Option Func)) := R.all ftab_e
noncomputable def ftab : R (R (R (Option Func))) := .mk ftab__0 ftab__1 ftab__2 ftab__e ftab__e ftab__e ftab__e ftab__e ftab__e ftab__e ftab__e ftab__e ftab__e ftab__e ftab__e ftab__e
noncomputable def ttab_0 : R (Option TypeInfo) := .mk (some Tryz.t0) (some Tryz.t1) (some Tryz.t2) (some Tryz.t3) (some Tryz.t4) (some Tryz.t5) (some Tryz.t6) (some Tryz.t7) (some Tryz.t8) (some Tryz.t9) (some Tryz.t10) (some Tryz.t11) (some Tryz.t12) (some Tryz.t13) (some Tryz.t14) (some Tryz.t15)
noncomputable def ttab_1 : R (Option TypeInfo) := .mk (some Tryz.t16) (some Tryz.t17) (some Tryz.t18) (some Tryz.t19) (some Tryz.t20) (some Tryz.t21) (some Tryz.t22) (some Tryz.t23) (some Tryz.t24) (some Tryz.t25) (some Tryz.t26) (some Tryz.t27) (some Tryz.t28) (some Tryz.t29) (some Tryz.t30) (some Tryz.t31)
noncomputable def ttab_2 : R (Option TypeInfo) := .mk (some Tryz.t32) (some Tryz.t33) (some Tryz.t34) (some Tryz.t35) (some Tryz.t36) (some Tryz.t37) (some Tryz.t38) (some Tryz.t39) (some Tryz.t40) (some Tryz.t41) (some Tryz.t42) (some Tryz.t43) (some Tryz.t44) (some Tryz.t45) (some Tryz.t46) (some Tryz.t47)
noncomputable def ttab_3 : R (Option TypeInfo) := .mk (some Tryz.t48) (some Tryz.t49) (some Tryz.t50) (some Tryz.t51) (some Tryz.t52) (some Tryz.t53) (some Tryz.t54) (some Tryz.t55) (some Tryz.t56) (some Tryz.t57) (some Tryz.t58) (some Tryz.t59) (some Tryz.t60) (some Tryz.t61) (some Tryz.t62) (some Tryz.t63)
noncomputable def ttab_4 : R (Option TypeInfo) := .mk (some Tryz.t64) (some Tryz.t65) (some Tryz.t66) (some Tryz.t67) (some Tryz.t68) (some Tryz.t69) (some Tryz.t70) (some Tryz.t71) (some Tryz.t72) (some Tryz.t73) (some Tryz.t74) (some Tryz.t75) (some Tryz.t76) (some Tryz.t77) (some Tryz.t78) (some Tryz.t79)
noncomputable def ttab_5 : R (Option TypeInfo) := .mk (some Tryz.t80) (some Tryz.t81) (some Tryz.t82) (some Tryz.t83) (some Tryz.t84) (some Tryz.t85) (some Tryz.t86) (some Tryz.t87) (some Tryz.t88) (some Tryz.t89) (some Tryz.t90) (some Tryz.t91) (some Tryz.t92) (some Tryz.t93) (some Tryz.t94) (some Tryz.t95)
noncomputable def ttab_6 : R (Option TypeInfo) := .mk (some Tryz.t96) (some Tryz.t97) (some Tryz.t98) (some Tryz.t99) (some Tryz.t100) (some Tryz.t101) (some Tryz.t102) (some Tryz.t103) (some Tryz.t104) (some Tryz.t105) (some Tryz.t106) (some Tryz.t107) (some Tryz.t108) (some Tryz.t109) (some Tryz.t110) (some Tryz.t111)
noncomputable def ttab_7 : R (Option TypeInfo) := .mk (some Tryz.t112) (some Tryz.t113) (some Tryz.t114) (some Tryz.t115) (some Tryz.t116) (some Tryz.t117) (some Tryz.t118) (some Tryz.t119) (some Tryz.t120) (some Tryz.t121) (some Tryz.t122) (some Tryz.t123) (some Tryz.t124) (some Tryz.t125) (some Tryz.t126) (some Tryz.t127)
noncomputable def ttab_8 : R (Option TypeInfo) := .mk (some Tryz.t128) (some Tryz.t129) (some Tryz.t130) (some Tryz.t131) (some Tryz.t132) (some Tryz.t133) (some Tryz.t134) (some Tryz.t135) (some Tryz.t136) (some Tryz.t137) (some Tryz.t138) (some Tryz.t139) (some Tryz.t140) (some Tryz.t141) (some Tryz.t142) (some Tryz.t143)
noncomputable def ttab_9 : R (Option TypeInfo) := .mk (some Tryz.t144) (some Tryz.t145) (some Tryz.t146) (some Tryz.t147) (some Tryz.t148) (some Tryz.t149) (some Tryz.t150) (some Tryz.t151) (some Tryz.t152) (some Tryz.t153) (some Tryz.t154) (some Tryz.t155) (some Tryz.t156) (some Tryz.t157) (some Tryz.t158) (some Tryz.t159)
noncomputable def ttab_10 : R (Option TypeInfo) := .mk (some Tryz.t160) (some Tryz.t161) (some Tryz.t162) (some Tryz.t163) (some Tryz.t164) (some Tryz.t165) (some Tryz.t166) (some Tryz.t167) (some Tryz.t168) (some Tryz.t169) (some Tryz.t170) (some Tryz.t171) (some Tryz.t172) (some Tryz.t173) (some Tryz.t174) (some Tryz.t175)
noncomputable def ttab_11 : R (Option TypeInfo) := .mk (some Tryz.t176) (some Tryz.t177) (some Tryz.t178) (some Tryz.t179) (some Tryz.t180) (some Tryz.t181) (some Tryz.t182) (some Tryz.t183) (some Tryz.t184) (some Tryz.t185) (some Tryz.t186) (some Tryz.t187) (some Tryz.t188) (some Tryz.t189) (some Tryz.t190) (some Tryz.t191)
noncomputable def ttab_12 : R (Option TypeInfo) := .mk (some Tryz.t192) (some Tryz.t193) (some Tryz.t194) (some Tryz.t195) (some Tryz.t196) (some Tryz.t197) (some Tryz.t198) (some Tryz.t199) (some Tryz.t200) (some Tryz.t201) (some Tryz.t202) (some Tryz.t203) (some Tryz.t204) (some Tryz.t205) (some Tryz.t206) (some Tryz.t207)
noncomputable def ttab_13 : R (Option TypeInfo) := .mk (some Tryz.t208) (some Tryz.t209) (some Tryz.t210) (some Tryz.t211) (some Tryz.t212) (some Tryz.t213) (some Tryz.t214) (some Tryz.t215) (some Tryz.t216) (some Tryz.t217) (some Tryz.t218) (some Tryz.t219) (some Tryz.t220) (some Tryz.t221) (some Tryz.t222) (some Tryz.t223)
noncomputable def ttab_14 : R (Option TypeInfo) := .mk (some Tryz.t224) (some Tryz.t225) (some Tryz.t226) (some Tryz.t227) (some Tryz.t228) (some Tryz.t229) (some Tryz.t230) (some Tryz.t231) (some Tryz.t232) (some Tryz.t233) (some Tryz.t234) (some Tryz.t235) (some Tryz.t236) (some Tryz.t237) (some Tryz.t238) (some Tryz.t239)
noncomputable def ttab_15 : R (Option TypeInfo) := .mk (some Tryz.t240) (some Tryz.t241) (some Tryz.t242) (some Tryz.t243) (some Tryz.t244) (some Tryz.t245) (some Tryz.t246) (some Tryz.t247) (some Tryz.t248) (some Tryz.t249) (some Tryz.t250) (some Tryz.t251) (some Tryz.t252) (some Tryz.t253) (some Tryz.t254) (some Tryz.t255)
noncomputable def ttab_16 : R (Option TypeInfo) := .mk (some Tryz.t256) (some Tryz.t257) (some Tryz.t258) (some Tryz.t259) (some Tryz.t260) (some Tryz.t261) (some Tryz.t262) (some Tryz.t263) (some Tryz.t264) (some Tryz.t265) (some Tryz.t266) (some Tryz.t267) (some Tryz.t268) (some Tryz.t269) (some Tryz.t270) (some Tryz.t271)
noncomputable def ttab_17 : R (Option TypeInfo) := .mk (some Tryz.t272) (some Tryz.t273) (some Tryz.t274) (some Tryz.t275) (some Tryz.t276) (some Tryz.t277) (some Tryz.t278) (some Tryz.t279) (some Tryz.t280) (some Tryz.t281) (some Tryz.t282) (some Tryz.t283) (some Tryz.t284) (some Tryz.t285) (some Tryz.t286) (some Tryz.t287)
noncomputable def ttab_18 : R (Option TypeInfo) := .mk (some Tryz.t288) (some Tryz.t289) (some Tryz.t290) (some Tryz.t291) (some Tryz.t292) (some Tryz.t293) (some Tryz.t294) (some Tryz.t295) (some Tryz.t296) (some Tryz.t297) (some Tryz.t298) (some Tryz.t299) (some Tryz.t300) (some Tryz.t301) (some Tryz.t302) (some Tryz.t303)
noncomputable def ttab_19 : R (Option TypeInfo) := .mk (some Tryz.t304) (some Tryz.t305) (some Tryz.t306) (some Tryz.t307) (some Tryz.t308) (some Tryz.t309) (some Tryz.t310) (some Tryz.t311) (some Tryz.t312) (some Tryz.t313) (some Tryz.t314) (some Tryz.t315) (some Tryz.t316) (some Tryz.t317) (some Tryz.t318) (some Tryz.t319)
noncomputable def ttab_20 : R (Option TypeInfo) := .mk (some Tryz.t320) (some Tryz.t321) (some Tryz.t322) (some Tryz.t323) (some Tryz.t324) (some Tryz.t325) (some Tryz.t326) (some Tryz.t327) (some Tryz.t328) (some Tryz.t329) (some Tryz.t330) (some Tryz.t331) (some Tryz.t332) (some Tryz.t333) (some Tryz.t334) (some Tryz.t335)
noncomputable def ttab_21 : R (Option TypeInfo) := .mk (some Tryz.t336) (some Tryz.t337) (some Tryz.t338) (some Tryz.t339) (some Tryz.t340) (some Tryz.t341) (some Tryz.t342) (some Tryz.t343) (some Tryz.t344) (some Tryz.t345) (some Tryz.t346) (some Tryz.t347) (some Tryz.t348) (some Tryz.t349) (some Tryz.t350) (some Tryz.t351)
noncomputable def ttab_22 : R (Option TypeInfo) := .mk (some Tryz.t352) (some Tryz.t353) (some Tryz.t354) (some Tryz.t355) (some Tryz.t356) (some Tryz.t357) (some Tryz.t358) (some Tryz.t359) (some Tryz.t360) (some Tryz.t361) (some Tryz.t362) (some Tryz.t363) (some Tryz.t364) (some Tryz.t365) (some Tryz.t366) (some Tryz.t367)
noncomputable def ttab_23 : R (Option TypeInfo) := .mk (some Tryz.t368) (some Tryz.t369) (some Tryz.t370) (some Tryz.t371) (some Tryz.t372) (some Tryz.t373) (some Tryz.t374) (some Tryz.t375) (some Tryz.t376) (some Tryz.t377) (some Tryz.t378) (some Tryz.t379) (some Tryz.t380) (some Tryz.t381) (some Tryz.t382) (some Tryz.t383)
noncomputable def ttab_24 : R (Option TypeInfo) := .mk (some Tryz.t384) (some Tryz.t385) (some Tryz.t386) (some Tryz.t387) (some Tryz.t388) (some Tryz.t389) (some Tryz.t390) (some Tryz.t391) (some Tryz.t392) (some Tryz.t393) (some Tryz.t394) (some Tryz.t395) (some Tryz.t396) (some Tryz.t397) (some Tryz.t398) (some Tryz.t399)
noncomputable def ttab_25 : R (Option TypeInfo) := .mk (some Tryz.t400) (some Tryz.t401) (some Tryz.t402) (some Tryz.t403) (some Tryz.t404) (some Tryz.t405) (some Tryz.t406) (some Tryz.t407) (some Tryz.t408) (some Tryz.t409) (some Tryz.t410) (some Tryz.t411) (some Tryz.t412) (some Tryz.t413) (some Tryz.t414) (some Tryz.t415)
noncomputable def ttab_26 : R (Option TypeInfo) := .mk (some Tryz.t416) (some Tryz.t417) (some Tryz.t418) (some Tryz.t419) (some Tryz.t420) (some Tryz.t421) (some Tryz.t422) (some Tryz.t423) (some Tryz.t424) (some Tryz.t425) (some Tryz.t426) (some Tryz.t427) (some Tryz.t428) (some Tryz.t429) (some Tryz.t430) (some Tryz.t431)
noncomputable def ttab_27 : R (Option TypeInfo) := .mk (some Tryz.t432) (some Tryz.t433) (some Tryz.t434) (some Tryz.t435) (some Tryz.t436) (some Tryz.t437) (some Tryz.t438) (some Tryz.t439) (some Tryz.t440) (some Tryz.t441) (some Tryz.t442) (some Tryz.t443) (some Tryz.t444) (some Tryz.t445) (some Tryz.t446) (some Tryz.t447)
noncomputable def ttab_28 : R (Option TypeInfo) := .mk (some Tryz.t448) (some Tryz.t449) (some Tryz.t450) (some Tryz.t451) (some Tryz.t452) (some Tryz.t453) (some Tryz.t454) (some Tryz.t455) (some Tryz.t456) (some Tryz.t457) (some Tryz.t458) (some Tryz.t459) (some Tryz.t460) (some Tryz.t461) (some Tryz.t462) (some Tryz.t463)
noncomputable def ttab_e : R (Option TypeInfo) := R.all none
noncomputable def ttab__0 : R (R (Option TypeInfo)) := .mk ttab_0 ttab_1 ttab_2 ttab_3 ttab_4 ttab_5 ttab_6 ttab_7 ttab_8 ttab_9 ttab_10 ttab_11 ttab_12 ttab_13 ttab_14 ttab_15
noncomputable def ttab__1 : R (R (Option TypeInfo)) := .mk ttab_16 ttab_17 ttab_18 ttab_19 ttab_20 ttab_21 ttab_22 ttab_23 ttab_24 ttab_25 ttab_26 ttab_27 ttab_28 ttab_e ttab_e ttab_e
noncomputable def ttab__e : R (R (Option TypeInfo)) := R.all ttab_e
noncomputable def ttab : R (R (R (Option TypeInfo))) := .mk ttab__0 ttab__1 ttab__e ttab__e ttab__e ttab__e ttab__e ttab__e ttab__e ttab__e ttab__e ttab__e ttab__e ttab__e ttab__e ttab__e
noncomputable def smS (f : Nat) : Sm := Bool.casesOn (Nat.beq f 523) (Bool.casesOn (Nat.beq f 352) (Bool.casesOn (Nat.beq f 351) (Bool.casesOn (Nat.beq f 309) (Bool.casesOn (Nat.beq f 244) (Sm.no) (.pure (gContains 0))) (.pure gIndexByte)) (.pure gCount)) (.pure gSame)) (.mkz 5)
noncomputable def dsS (f : Nat) : Bool := Bool.casesOn (Nat.beq f 343) (Bool.casesOn (Nat.beq f 57) (false) true) true
noncomputable def ESu (un : BinOp → Nat → V → V → Option V) : Env := { ft := fun f => Bool.casesOn (Nat.ble (Nat.succ f) 557) none (get3 ftab f), tt := fun t => Bool.casesOn (Nat.ble (Nat.succ t) 464) none (get3 ttab t), sm := smS, ds := dsS, un := un, pg := Tryz.prog }
noncomputable def ES : Env := ESu fun _ _ _ _ => none
theorem ft_flat : (flat3 ftab).take 557 = Tryz.prog.funcs.toList.map some := by kernel_rfl
theorem tt_flat : (flat3 ttab).take 464 = Tryz.prog.types.toList.map some := by kernel_rfl
theorem names_ok : (Tryz.prog.funcs.toList.all fun fn => !(fn.name == "runtime.NumGoroutine")) = true := by kernel_rfl
theorem mixed_ok : Tryz.prog.follows .mixedOrders = true := by kernel_rfl
theorem envOK [Un] {un : BinOp → Nat → V → V → Option V} (hu : UnS Tryz.prog un) : EnvOK (ESu un) Tryz.prog := env_of ft_flat tt_flat names_ok mixed_ok hu (by decide) (by decide)
theorem un_none [Un] : UnS Tryz.prog (fun _ _ _ _ => none) := fun _ _ _ _ _ h => (by cases h)
def ren144 : Shelf.Ren := ⟨fun | 143 => 239 | 144 => 244 | 217 => 282 | 219 => 283 | 224 => 311 | 225 => 310 | 266 => 309 | 267 => 312 | 314 => 338 | n => n, fun | 3 => 3 | 4 => 4 | 5 => 5 | 9 => 9 | 46 => 256 | 51 => 318 | 146 => 344 | n => n, fun | 1 => 0 | n => n⟩
theorem lays144 : Lays.n144 Tryz.prog ren144 := {
  mixed := by kernel_rfl
  f143 := Tryz.func239.trans (congrArg some (by kernel_rfl))
  f144 := Tryz.func244.trans (congrArg some (by kernel_rfl))
  f217 := Tryz.func282.trans (congrArg some (by kernel_rfl))
  f219 := Tryz.func283.trans (congrArg some (by kernel_rfl))
  f224 := Tryz.func311.trans (congrArg some (by kernel_rfl))
  f225 := Tryz.func310.trans (congrArg some (by kernel_rfl))
  f266 := Tryz.func309.trans (congrArg some (by kernel_rfl))
  f267 := Tryz.func312.trans (congrArg some (by kernel_rfl))
  f314 := Tryz.func338.trans (congrArg some (by kernel_rfl))
  t3 := Tryz.underlying3
  z3 := Tryz.sizeOf3
  v3 := Tryz.zeroValue3
  a3 := Tryz.isAgg3
  t4 := Tryz.underlying4
  z4 := Tryz.sizeOf4
  v4 := Tryz.zeroValue4
  a4 := Tryz.isAgg4
  t5 := Tryz.underlying5
  z5 := Tryz.sizeOf5
  v5 := Tryz.zeroValue5
  a5 := Tryz.isAgg5
  t9 := Tryz.underlying9
  z9 := Tryz.sizeOf9
  v9 := Tryz.zeroValue9
  a9 := Tryz.isAgg9
  t46 := Tryz.underlying256
  z46 := Tryz.sizeOf256
  v46 := Tryz.zeroValue256
  a46 := Tryz.isAgg256
  t51 := Tryz.underlying318
  z51 := Tryz.sizeOf318
  v51 := Tryz.zeroValue318
  a51 := Tryz.isAgg318
  t146 := Tryz.underlying344
  z146 := Tryz.sizeOf344
  v146 := Tryz.zeroValue344
  a146 := Tryz.isAgg344
  g1 := by kernel_rfl }
theorem sm_0 [Un] : PureS Tryz.prog 244 ((gContains 0)) := pure_contains lays144 (by decide)
theorem sm_1 [Un] : PureS Tryz.prog 309 (gIndexByte) := pure_indexByte (ext_of Tryz.func309 (by kernel_rfl) (by kernel_rfl) (by kernel_rfl) (by kernel_rfl))
theorem sm_2 [Un] : PureS Tryz.prog 351 (gCount) := pure_count (ext_of Tryz.func351 (by kernel_rfl) (by kernel_rfl) (by kernel_rfl) (by kernel_rfl))
theorem sm_3 [Un] : PureS Tryz.prog 352 (gSame) := pure_same (ext_of Tryz.func352 (by kernel_rfl) (by kernel_rfl) (by kernel_rfl) (by kernel_rfl))
theorem sm_z [Un] : MkzS Tryz.prog 523 5 := mkz_of (ps := #[3]) (t := 29) (ext_of (e := Extern.BytealgMakeNoZero.makeNoZero #[3] #[29]) Tryz.func523 (by kernel_rfl) (by kernel_rfl) (by kernel_rfl) (by kernel_rfl)) Tryz.underlying29
theorem ds_0 [Un] : DefS Tryz.prog 57 := defS_of Tryz.func57 (by kernel_rfl) rfl rfl rfl rfl rfl rfl rfl Tryz.underlying20 rfl rfl rfl (by decide) (by decide)
theorem ds_1 [Un] : DefS Tryz.prog 343 := defS_of Tryz.func343 (by kernel_rfl) rfl rfl rfl rfl rfl rfl rfl Tryz.underlying20 rfl rfl rfl (by decide) (by decide)
theorem sumOK [Un] {un : BinOp → Nat → V → V → Option V} : SumOK (ESu un) Tryz.prog where
  pure f g h := by
    have h : smS f = .pure g := h
    unfold smS at h
    cases h523 : Nat.beq f 523 with
    | true => rw [h523] at h; cases h
    | false =>
    rw [h523] at h
    cases h352 : Nat.beq f 352 with
    | true => rw [h352] at h; rw [Nat.beq_eq] at h352; subst h352; obtain rfl := Sm.pure.inj h; exact sm_3
    | false =>
    rw [h352] at h
    cases h351 : Nat.beq f 351 with
    | true => rw [h351] at h; rw [Nat.beq_eq] at h351; subst h351; obtain rfl := Sm.pure.inj h; exact sm_2
    | false =>
    rw [h351] at h
    cases h309 : Nat.beq f 309 with
    | true => rw [h309] at h; rw [Nat.beq_eq] at h309; subst h309; obtain rfl := Sm.pure.inj h; exact sm_1
    | false =>
    rw [h309] at h
    cases h244 : Nat.beq f 244 with
    | true => rw [h244] at h; rw [Nat.beq_eq] at h244; subst h244; obtain rfl := Sm.pure.inj h; exact sm_0
    | false =>
    rw [h244] at h
    cases h
  mkz f e h := by
    have h : smS f = .mkz e := h
    unfold smS at h
    cases h523 : Nat.beq f 523 with
    | true => rw [h523] at h; rw [Nat.beq_eq] at h523; subst h523; obtain rfl := Sm.mkz.inj h; exact sm_z
    | false =>
    rw [h523] at h
    cases h352 : Nat.beq f 352 with
    | true => rw [h352] at h; cases h
    | false =>
    rw [h352] at h
    cases h351 : Nat.beq f 351 with
    | true => rw [h351] at h; cases h
    | false =>
    rw [h351] at h
    cases h309 : Nat.beq f 309 with
    | true => rw [h309] at h; cases h
    | false =>
    rw [h309] at h
    cases h244 : Nat.beq f 244 with
    | true => rw [h244] at h; cases h
    | false =>
    rw [h244] at h
    cases h
  ds f h := by
    have h : dsS f = true := h
    unfold dsS at h
    cases h343 : Nat.beq f 343 with
    | true => rw [Nat.beq_eq] at h343; subst h343; exact ds_1
    | false =>
    rw [h343] at h
    cases h57 : Nat.beq f 57 with
    | true => rw [Nat.beq_eq] at h57; subst h57; exact ds_0
    | false =>
    rw [h57] at h
    cases h
  seg f g h := by
    have h : smS f = .seg g := h
    unfold smS at h
    cases h523 : Nat.beq f 523 with
    | true => rw [h523] at h; cases h
    | false =>
    rw [h523] at h
    cases h352 : Nat.beq f 352 with
    | true => rw [h352] at h; cases h
    | false =>
    rw [h352] at h
    cases h351 : Nat.beq f 351 with
    | true => rw [h351] at h; cases h
    | false =>
    rw [h351] at h
    cases h309 : Nat.beq f 309 with
    | true => rw [h309] at h; cases h
    | false =>
    rw [h309] at h
    cases h244 : Nat.beq f 244 with
    | true => rw [h244] at h; cases h
    | false =>
    rw [h244] at h
    cases h
noncomputable def h0 : H := h0N 0
theorem maxLen_cell {W : World} (h : W.ShapedOpen Tryz.prog) : ∃ m, W.cell? ⟨0, 0, none⟩ = some (.int .i64 m) := Go.Proofs.cell_of_shapedOpen_int (zero := #[.int .i64 0]) (t := 3) h (of_decide_eq_true (by kernel_rfl)) (by kernel_rfl) rfl (by kernel_rfl) (by kernel_rfl) Tryz.underlying3
end
end Go.Proofs.YtbccefdijpmkbaaGreatDoor
