import Derived.Orders
import Derived.Laws.Sem
import Derived.Laws.World
import Derived.Laws.Strings
import Derived.KernelRfl
import Derived.Lib.Bytealg
import Derived.Test.YtmadknpaljaecaaGreatDoorKaa
import Derived.Test.YtmadknpaljaecaaGreatDoorKab
import Derived.Test.YtmadknpaljaecaaGreatDoorKac
set_option linter.all false
set_option maxRecDepth 100000
set_option maxHeartbeats 4000000
namespace Go.Proofs.YtmadknpaljaecaaGreatDoor.Ev.D
open Go Go.Proofs.YtmadknpaljaecaaGreatDoor.Ev
def fnsT : T XFn := (.node (.node (.node (.node (.node (.node (.node (.node (.node .nil (some X255) .nil) none .nil) none .nil) (some X31) (.node (.node .nil (some X159) .nil) (some X95) (.node .nil (some X223) .nil))) (some X15) (.node .nil none (.node .nil (some X111) .nil))) none (.node (.node (.node (.node (.node .nil (some X263) .nil) none .nil) (some X71) (.node .nil (some X199) .nil)) (some X39) (.node .nil (some X103) .nil)) none (.node (.node (.node .nil (some X151) .nil) none (.node .nil (some X215) .nil)) none (.node .nil (some X119) (.node .nil (some X247) .nil))))) none (.node (.node (.node (.node (.node (.node .nil (some X259) .nil) none .nil) (some X67) .nil) (some X35) (.node .nil (some X99) .nil)) (some X19) (.node (.node (.node (.node .nil (some X275) .nil) none .nil) (some X83) (.node .nil (some X211) .nil)) (some X51) (.node .nil none (.node .nil (some X243) .nil)))) none (.node (.node (.node (.node .nil (some X139) .nil) (some X75) .nil) none .nil) (some X27) (.node (.node (.node .nil (some X155) .nil) (some X91) (.node .nil (some X219) .nil)) (some X59) (.node .nil none (.node .nil (some X251) .nil)))))) none (.node (.node (.node (.node (.node (.node (.node .nil (some X257) .nil) none .nil) none .nil) (some X33) (.node (.node (.node .nil (some X289) .nil) none .nil) none (.node .nil (some X225) .nil))) none (.node (.node (.node .nil (some X145) .nil) (some X81) .nil) none .nil)) none (.node (.node .nil (some X41) (.node (.node .nil (some X169) .nil) (some X105) (.node .nil (some X233) .nil))) none (.node (.node (.node (.node .nil (some X281) .nil) (some X153) .nil) none .nil) none (.node (.node .nil (some X185) .nil) (some X121) (.node .nil (some X249) .nil))))) none (.node (.node (.node (.node .nil (some X69) .nil) none (.node .nil (some X101) (.node .nil (some X229) .nil))) none (.node (.node (.node .nil (some X149) .nil) none .nil) none (.node .nil none (.node .nil (some X245) .nil)))) none (.node (.node (.node (.node .nil (some X141) .nil) (some X77) .nil) (some X45) (.node .nil (some X109) .nil)) (some X29) (.node (.node .nil none (.node .nil (some X221) .nil)) (some X61) (.node .nil (some X125) .nil)))))) none (.node (.node (.node (.node (.node (.node (.node (.node .nil (some X256) .nil) none .nil) none (.node .nil (some X192) .nil)) (some X32) (.node (.node .nil (some X160) .nil) (some X96) .nil)) (some X16) (.node (.node (.node (.node .nil (some X272) .nil) none .nil) none .nil) (some X48) (.node (.node .nil (some X176) .nil) (some X112) .nil))) none (.node (.node (.node (.node (.node .nil (some X264) .nil) none .nil) none .nil) (some X40) (.node .nil (some X104) .nil)) (some X24) (.node (.node (.node .nil (some X152) .nil) none (.node .nil (some X216) .nil)) none (.node .nil (some X120) (.node .nil (some X248) .nil))))) none (.node (.node (.node (.node (.node .nil (some X132) .nil) none .nil) none (.node .nil none (.node .nil (some X228) .nil))) none (.node (.node (.node .nil (some X148) .nil) (some X84) (.node .nil (some X212) .nil)) (some X52) (.node .nil none (.node .nil (some X244) .nil)))) none (.node (.node (.node .nil (some X76) .nil) (some X44) (.node (.node .nil (some X172) .nil) none .nil)) (some X28) (.node (.node .nil (some X92) (.node .nil (some X220) .nil)) (some X60) (.node .nil none (.node .nil (some X252) .nil)))))) none (.node (.node (.node (.node .nil none (.node .nil (some X98) (.node .nil (some X226) .nil))) none (.node (.node (.node (.node .nil (some X274) .nil) none .nil) (some X82) .nil) (some X50) (.node (.node .nil (some X178) .nil) none (.node .nil (some X242) .nil)))) none (.node (.node (.node (.node .nil (some X138) .nil) (some X74) .nil) none .nil) none (.node (.node (.node .nil (some X154) .nil) none (.node .nil (some X218) .nil)) none (.node .nil none (.node .nil (some X250) .nil))))) none (.node (.node (.node (.node .nil (some X70) .nil) none (.node (.node .nil (some X166) .nil) (some X102) .nil)) (some X22) (.node (.node (.node .nil (some X150) .nil) none (.node .nil (some X214) .nil)) none (.node .nil (some X118) (.node .nil (some X246) .nil)))) none (.node (.node (.node .nil (some X78) .nil) (some X46) (.node .nil (some X110) .nil)) (some X30) (.node (.node .nil (some X94) .nil) (some X62) (.node (.node .nil (some X190) .nil) none (.node .nil (some X254) .nil))))))))
def L2 : List AV := [(.int .u8 240), (.int .u8 240), (.int .u8 240), (.int .u8 240), (.int .u8 240), (.int .u8 240), (.int .u8 240), (.int .u8 240), (.int .u8 240), (.int .u8 240), (.int .u8 240), (.int .u8 240), (.int .u8 240), (.int .u8 240), (.int .u8 240), (.int .u8 240), (.int .u8 240), (.int .u8 240), (.int .u8 240), (.int .u8 240), (.int .u8 240), (.int .u8 240), (.int .u8 240), (.int .u8 240), (.int .u8 240), (.int .u8 240), (.int .u8 240), (.int .u8 240), (.int .u8 240), (.int .u8 240), (.int .u8 240), (.int .u8 240), (.int .u8 240), (.int .u8 240), (.int .u8 240), (.int .u8 240), (.int .u8 240), (.int .u8 240), (.int .u8 240), (.int .u8 240), (.int .u8 240), (.int .u8 240), (.int .u8 240), (.int .u8 240), (.int .u8 240), (.int .u8 240), (.int .u8 240), (.int .u8 240), (.int .u8 240), (.int .u8 240), (.int .u8 240), (.int .u8 240), (.int .u8 240), (.int .u8 240), (.int .u8 240), (.int .u8 240), (.int .u8 240), (.int .u8 240), (.int .u8 240), (.int .u8 240), (.int .u8 240), (.int .u8 240), (.int .u8 240), (.int .u8 240), (.int .u8 240), (.int .u8 240), (.int .u8 240), (.int .u8 240), (.int .u8 240), (.int .u8 240), (.int .u8 240), (.int .u8 240), (.int .u8 240), (.int .u8 240), (.int .u8 240), (.int .u8 240), (.int .u8 240), (.int .u8 240), (.int .u8 240), (.int .u8 240), (.int .u8 240), (.int .u8 240), (.int .u8 240), (.int .u8 240), (.int .u8 240), (.int .u8 240), (.int .u8 240), (.int .u8 240), (.int .u8 240), (.int .u8 240), (.int .u8 240), (.int .u8 240), (.int .u8 240), (.int .u8 240), (.int .u8 240), (.int .u8 240), (.int .u8 240), (.int .u8 240), (.int .u8 240), (.int .u8 240), (.int .u8 240), (.int .u8 240), (.int .u8 240), (.int .u8 240), (.int .u8 240), (.int .u8 240), (.int .u8 240), (.int .u8 240), (.int .u8 240), (.int .u8 240), (.int .u8 240), (.int .u8 240), (.int .u8 240), (.int .u8 240), (.int .u8 240), (.int .u8 240), (.int .u8 240), (.int .u8 240), (.int .u8 240), (.int .u8 240), (.int .u8 240), (.int .u8 240), (.int .u8 240), (.int .u8 240), (.int .u8 240), (.int .u8 240), (.int .u8 240), (.int .u8 240), (.int .u8 241), (.int .u8 241), (.int .u8 241), (.int .u8 241), (.int .u8 241), (.int .u8 241), (.int .u8 241), (.int .u8 241), (.int .u8 241), (.int .u8 241), (.int .u8 241), (.int .u8 241), (.int .u8 241), (.int .u8 241), (.int .u8 241), (.int .u8 241), (.int .u8 241), (.int .u8 241), (.int .u8 241), (.int .u8 241), (.int .u8 241), (.int .u8 241), (.int .u8 241), (.int .u8 241), (.int .u8 241), (.int .u8 241), (.int .u8 241), (.int .u8 241), (.int .u8 241), (.int .u8 241), (.int .u8 241), (.int .u8 241), (.int .u8 241), (.int .u8 241), (.int .u8 241), (.int .u8 241), (.int .u8 241), (.int .u8 241), (.int .u8 241), (.int .u8 241), (.int .u8 241), (.int .u8 241), (.int .u8 241), (.int .u8 241), (.int .u8 241), (.int .u8 241), (.int .u8 241), (.int .u8 241), (.int .u8 241), (.int .u8 241), (.int .u8 241), (.int .u8 241), (.int .u8 241), (.int .u8 241), (.int .u8 241), (.int .u8 241), (.int .u8 241), (.int .u8 241), (.int .u8 241), (.int .u8 241), (.int .u8 241), (.int .u8 241), (.int .u8 241), (.int .u8 241), (.int .u8 241), (.int .u8 241), (.int .u8 2), (.int .u8 2), (.int .u8 2), (.int .u8 2), (.int .u8 2), (.int .u8 2), (.int .u8 2), (.int .u8 2), (.int .u8 2), (.int .u8 2), (.int .u8 2), (.int .u8 2), (.int .u8 2), (.int .u8 2), (.int .u8 2), (.int .u8 2), (.int .u8 2), (.int .u8 2), (.int .u8 2), (.int .u8 2), (.int .u8 2), (.int .u8 2), (.int .u8 2), (.int .u8 2), (.int .u8 2), (.int .u8 2), (.int .u8 2), (.int .u8 2), (.int .u8 2), (.int .u8 2), (.int .u8 19), (.int .u8 3), (.int .u8 3), (.int .u8 3), (.int .u8 3), (.int .u8 3), (.int .u8 3), (.int .u8 3), (.int .u8 3), (.int .u8 3), (.int .u8 3), (.int .u8 3), (.int .u8 3), (.int .u8 35), (.int .u8 3), (.int .u8 3), (.int .u8 52), (.int .u8 4), (.int .u8 4), (.int .u8 4), (.int .u8 68), (.int .u8 241), (.int .u8 241), (.int .u8 241), (.int .u8 241), (.int .u8 241), (.int .u8 241), (.int .u8 241), (.int .u8 241), (.int .u8 241), (.int .u8 241), (.int .u8 241)]
def L3 : List AV := [(.int .u8 128), (.int .u8 191), (.int .u8 160), (.int .u8 191), (.int .u8 128), (.int .u8 159), (.int .u8 144), (.int .u8 191), (.int .u8 128), (.int .u8 143), (.int .u8 0), (.int .u8 0), (.int .u8 0), (.int .u8 0), (.int .u8 0), (.int .u8 0), (.int .u8 0), (.int .u8 0), (.int .u8 0), (.int .u8 0), (.int .u8 0), (.int .u8 0), (.int .u8 0), (.int .u8 0), (.int .u8 0), (.int .u8 0), (.int .u8 0), (.int .u8 0), (.int .u8 0), (.int .u8 0), (.int .u8 0), (.int .u8 0)]
def L4 : List AV := [(.bool true)]
def L5 : List AV := [(.iface 246 (.iptr false [(.str ⟨14, 2138404743268917596158120305123704⟩)]))]
def L6 : List AV := [(.iface 246 (.iptr false [(.str ⟨18, 10312401295712410520744752698248523139671909⟩)]))]
def L7 : List AV := [(.isl false 336 [(.int .u32 65), (.int .u32 90), (.int .i32 0), (.int .i32 32), (.int .i32 0), (.int .u32 97), (.int .u32 122), (.int .i32 (-32)), (.int .i32 0), (.int .i32 (-32)), (.int .u32 181), (.int .u32 181), (.int .i32 743), (.int .i32 0), (.int .i32 743), (.int .u32 192), (.int .u32 214), (.int .i32 0), (.int .i32 32), (.int .i32 0), (.int .u32 216), (.int .u32 222), (.int .i32 0), (.int .i32 32), (.int .i32 0), (.int .u32 224), (.int .u32 246), (.int .i32 (-32)), (.int .i32 0), (.int .i32 (-32)), (.int .u32 248), (.int .u32 254), (.int .i32 (-32)), (.int .i32 0), (.int .i32 (-32)), (.int .u32 255), (.int .u32 255), (.int .i32 121), (.int .i32 0), (.int .i32 121), (.int .u32 256), (.int .u32 303), (.int .i32 1114112), (.int .i32 1114112), (.int .i32 1114112), (.int .u32 304), (.int .u32 304), (.int .i32 0), (.int .i32 (-199)), (.int .i32 0), (.int .u32 305), (.int .u32 305), (.int .i32 (-232)), (.int .i32 0), (.int .i32 (-232)), (.int .u32 306), (.int .u32 311), (.int .i32 1114112), (.int .i32 1114112), (.int .i32 1114112), (.int .u32 313), (.int .u32 328), (.int .i32 1114112), (.int .i32 1114112), (.int .i32 1114112), (.int .u32 330), (.int .u32 375), (.int .i32 1114112), (.int .i32 1114112), (.int .i32 1114112), (.int .u32 376), (.int .u32 376), (.int .i32 0), (.int .i32 (-121)), (.int .i32 0), (.int .u32 377), (.int .u32 382), (.int .i32 1114112), (.int .i32 1114112), (.int .i32 1114112), (.int .u32 383), (.int .u32 383), (.int .i32 (-300)), (.int .i32 0), (.int .i32 (-300)), (.int .u32 384), (.int .u32 384), (.int .i32 195), (.int .i32 0), (.int .i32 195), (.int .u32 385), (.int .u32 385), (.int .i32 0), (.int .i32 210), (.int .i32 0), (.int .u32 386), (.int .u32 389), (.int .i32 1114112), (.int .i32 1114112), (.int .i32 1114112), (.int .u32 390), (.int .u32 390), (.int .i32 0), (.int .i32 206), (.int .i32 0), (.int .u32 391), (.int .u32 392), (.int .i32 1114112), (.int .i32 1114112), (.int .i32 1114112), (.int .u32 393), (.int .u32 394), (.int .i32 0), (.int .i32 205), (.int .i32 0), (.int .u32 395), (.int .u32 396), (.int .i32 1114112), (.int .i32 1114112), (.int .i32 1114112), (.int .u32 398), (.int .u32 398), (.int .i32 0), (.int .i32 79), (.int .i32 0), (.int .u32 399), (.int .u32 399), (.int .i32 0), (.int .i32 202), (.int .i32 0), (.int .u32 400), (.int .u32 400), (.int .i32 0), (.int .i32 203), (.int .i32 0), (.int .u32 401), (.int .u32 402), (.int .i32 1114112), (.int .i32 1114112), (.int .i32 1114112), (.int .u32 403), (.int .u32 403), (.int .i32 0), (.int .i32 205), (.int .i32 0), (.int .u32 404), (.int .u32 404), (.int .i32 0), (.int .i32 207), (.int .i32 0), (.int .u32 405), (.int .u32 405), (.int .i32 97), (.int .i32 0), (.int .i32 97), (.int .u32 406), (.int .u32 406), (.int .i32 0), (.int .i32 211), (.int .i32 0), (.int .u32 407), (.int .u32 407), (.int .i32 0), (.int .i32 209), (.int .i32 0), (.int .u32 408), (.int .u32 409), (.int .i32 1114112), (.int .i32 1114112), (.int .i32 1114112), (.int .u32 410), (.int .u32 410), (.int .i32 163), (.int .i32 0), (.int .i32 163), (.int .u32 411), (.int .u32 411), (.int .i32 42561), (.int .i32 0), (.int .i32 42561), (.int .u32 412), (.int .u32 412), (.int .i32 0), (.int .i32 211), (.int .i32 0), (.int .u32 413), (.int .u32 413), (.int .i32 0), (.int .i32 213), (.int .i32 0), (.int .u32 414), (.int .u32 414), (.int .i32 130), (.int .i32 0), (.int .i32 130), (.int .u32 415), (.int .u32 415), (.int .i32 0), (.int .i32 214), (.int .i32 0), (.int .u32 416), (.int .u32 421), (.int .i32 1114112), (.int .i32 1114112), (.int .i32 1114112), (.int .u32 422), (.int .u32 422), (.int .i32 0), (.int .i32 218), (.int .i32 0), (.int .u32 423), (.int .u32 424), (.int .i32 1114112), (.int .i32 1114112), (.int .i32 1114112), (.int .u32 425), (.int .u32 425), (.int .i32 0), (.int .i32 218), (.int .i32 0), (.int .u32 428), (.int .u32 429), (.int .i32 1114112), (.int .i32 1114112), (.int .i32 1114112), (.int .u32 430), (.int .u32 430), (.int .i32 0), (.int .i32 218), (.int .i32 0), (.int .u32 431), (.int .u32 432), (.int .i32 1114112), (.int .i32 1114112), (.int .i32 1114112), (.int .u32 433), (.int .u32 434), (.int .i32 0), (.int .i32 217), (.int .i32 0), (.int .u32 435), (.int .u32 438), (.int .i32 1114112), (.int .i32 1114112), (.int .i32 1114112), (.int .u32 439), (.int .u32 439), (.int .i32 0), (.int .i32 219), (.int .i32 0), (.int .u32 440), (.int .u32 441), (.int .i32 1114112), (.int .i32 1114112), (.int .i32 1114112), (.int .u32 444), (.int .u32 445), (.int .i32 1114112), (.int .i32 1114112), (.int .i32 1114112), (.int .u32 447), (.int .u32 447), (.int .i32 56), (.int .i32 0), (.int .i32 56), (.int .u32 452), (.int .u32 452), (.int .i32 0), (.int .i32 2), (.int .i32 1), (.int .u32 453), (.int .u32 453), (.int .i32 (-1)), (.int .i32 1), (.int .i32 0), (.int .u32 454), (.int .u32 454), (.int .i32 (-2)), (.int .i32 0), (.int .i32 (-1)), (.int .u32 455), (.int .u32 455), (.int .i32 0), (.int .i32 2), (.int .i32 1), (.int .u32 456), (.int .u32 456), (.int .i32 (-1)), (.int .i32 1), (.int .i32 0), (.int .u32 457), (.int .u32 457), (.int .i32 (-2)), (.int .i32 0), (.int .i32 (-1)), (.int .u32 458), (.int .u32 458), (.int .i32 0), (.int .i32 2), (.int .i32 1), (.int .u32 459), (.int .u32 459), (.int .i32 (-1)), (.int .i32 1), (.int .i32 0), (.int .u32 460), (.int .u32 460), (.int .i32 (-2)), (.int .i32 0), (.int .i32 (-1)), (.int .u32 461), (.int .u32 476), (.int .i32 1114112), (.int .i32 1114112), (.int .i32 1114112), (.int .u32 477), (.int .u32 477), (.int .i32 (-79)), (.int .i32 0), (.int .i32 (-79)), (.int .u32 478), (.int .u32 495), (.int .i32 1114112), (.int .i32 1114112), (.int .i32 1114112), (.int .u32 497), (.int .u32 497), (.int .i32 0), (.int .i32 2), (.int .i32 1), (.int .u32 498), (.int .u32 498), (.int .i32 (-1)), (.int .i32 1), (.int .i32 0), (.int .u32 499), (.int .u32 499), (.int .i32 (-2)), (.int .i32 0), (.int .i32 (-1)), (.int .u32 500), (.int .u32 501), (.int .i32 1114112), (.int .i32 1114112), (.int .i32 1114112), (.int .u32 502), (.int .u32 502), (.int .i32 0), (.int .i32 (-97)), (.int .i32 0), (.int .u32 503), (.int .u32 503), (.int .i32 0), (.int .i32 (-56)), (.int .i32 0), (.int .u32 504), (.int .u32 543), (.int .i32 1114112), (.int .i32 1114112), (.int .i32 1114112), (.int .u32 544), (.int .u32 544), (.int .i32 0), (.int .i32 (-130)), (.int .i32 0), (.int .u32 546), (.int .u32 563), (.int .i32 1114112), (.int .i32 1114112), (.int .i32 1114112), (.int .u32 570), (.int .u32 570), (.int .i32 0), (.int .i32 10795), (.int .i32 0), (.int .u32 571), (.int .u32 572), (.int .i32 1114112), (.int .i32 1114112), (.int .i32 1114112), (.int .u32 573), (.int .u32 573), (.int .i32 0), (.int .i32 (-163)), (.int .i32 0), (.int .u32 574), (.int .u32 574), (.int .i32 0), (.int .i32 10792), (.int .i32 0), (.int .u32 575), (.int .u32 576), (.int .i32 10815), (.int .i32 0), (.int .i32 10815), (.int .u32 577), (.int .u32 578), (.int .i32 1114112), (.int .i32 1114112), (.int .i32 1114112), (.int .u32 579), (.int .u32 579), (.int .i32 0), (.int .i32 (-195)), (.int .i32 0), (.int .u32 580), (.int .u32 580), (.int .i32 0), (.int .i32 69), (.int .i32 0), (.int .u32 581), (.int .u32 581), (.int .i32 0), (.int .i32 71), (.int .i32 0), (.int .u32 582), (.int .u32 591), (.int .i32 1114112), (.int .i32 1114112), (.int .i32 1114112), (.int .u32 592), (.int .u32 592), (.int .i32 10783), (.int .i32 0), (.int .i32 10783), (.int .u32 593), (.int .u32 593), (.int .i32 10780), (.int .i32 0), (.int .i32 10780), (.int .u32 594), (.int .u32 594), (.int .i32 10782), (.int .i32 0), (.int .i32 10782), (.int .u32 595), (.int .u32 595), (.int .i32 (-210)), (.int .i32 0), (.int .i32 (-210)), (.int .u32 596), (.int .u32 596), (.int .i32 (-206)), (.int .i32 0), (.int .i32 (-206)), (.int .u32 598), (.int .u32 599), (.int .i32 (-205)), (.int .i32 0), (.int .i32 (-205)), (.int .u32 601), (.int .u32 601), (.int .i32 (-202)), (.int .i32 0), (.int .i32 (-202)), (.int .u32 603), (.int .u32 603), (.int .i32 (-203)), (.int .i32 0), (.int .i32 (-203)), (.int .u32 604), (.int .u32 604), (.int .i32 42319), (.int .i32 0), (.int .i32 42319), (.int .u32 608), (.int .u32 608), (.int .i32 (-205)), (.int .i32 0), (.int .i32 (-205)), (.int .u32 609), (.int .u32 609), (.int .i32 42315), (.int .i32 0), (.int .i32 42315), (.int .u32 611), (.int .u32 611), (.int .i32 (-207)), (.int .i32 0), (.int .i32 (-207)), (.int .u32 612), (.int .u32 612), (.int .i32 42343), (.int .i32 0), (.int .i32 42343), (.int .u32 613), (.int .u32 613), (.int .i32 42280), (.int .i32 0), (.int .i32 42280), (.int .u32 614), (.int .u32 614), (.int .i32 42308), (.int .i32 0), (.int .i32 42308), (.int .u32 616), (.int .u32 616), (.int .i32 (-209)), (.int .i32 0), (.int .i32 (-209)), (.int .u32 617), (.int .u32 617), (.int .i32 (-211)), (.int .i32 0), (.int .i32 (-211)), (.int .u32 618), (.int .u32 618), (.int .i32 42308), (.int .i32 0), (.int .i32 42308), (.int .u32 619), (.int .u32 619), (.int .i32 10743), (.int .i32 0), (.int .i32 10743), (.int .u32 620), (.int .u32 620), (.int .i32 42305), (.int .i32 0), (.int .i32 42305), (.int .u32 623), (.int .u32 623), (.int .i32 (-211)), (.int .i32 0), (.int .i32 (-211)), (.int .u32 625), (.int .u32 625), (.int .i32 10749), (.int .i32 0), (.int .i32 10749), (.int .u32 626), (.int .u32 626), (.int .i32 (-213)), (.int .i32 0), (.int .i32 (-213)), (.int .u32 629), (.int .u32 629), (.int .i32 (-214)), (.int .i32 0), (.int .i32 (-214)), (.int .u32 637), (.int .u32 637), (.int .i32 10727), (.int .i32 0), (.int .i32 10727), (.int .u32 640), (.int .u32 640), (.int .i32 (-218)), (.int .i32 0), (.int .i32 (-218)), (.int .u32 642), (.int .u32 642), (.int .i32 42307), (.int .i32 0), (.int .i32 42307), (.int .u32 643), (.int .u32 643), (.int .i32 (-218)), (.int .i32 0), (.int .i32 (-218)), (.int .u32 647), (.int .u32 647), (.int .i32 42282), (.int .i32 0), (.int .i32 42282), (.int .u32 648), (.int .u32 648), (.int .i32 (-218)), (.int .i32 0), (.int .i32 (-218)), (.int .u32 649), (.int .u32 649), (.int .i32 (-69)), (.int .i32 0), (.int .i32 (-69)), (.int .u32 650), (.int .u32 651), (.int .i32 (-217)), (.int .i32 0), (.int .i32 (-217)), (.int .u32 652), (.int .u32 652), (.int .i32 (-71)), (.int .i32 0), (.int .i32 (-71)), (.int .u32 658), (.int .u32 658), (.int .i32 (-219)), (.int .i32 0), (.int .i32 (-219)), (.int .u32 669), (.int .u32 669), (.int .i32 42261), (.int .i32 0), (.int .i32 42261), (.int .u32 670), (.int .u32 670), (.int .i32 42258), (.int .i32 0), (.int .i32 42258), (.int .u32 837), (.int .u32 837), (.int .i32 84), (.int .i32 0), (.int .i32 84), (.int .u32 880), (.int .u32 883), (.int .i32 1114112), (.int .i32 1114112), (.int .i32 1114112), (.int .u32 886), (.int .u32 887), (.int .i32 1114112), (.int .i32 1114112), (.int .i32 1114112), (.int .u32 891), (.int .u32 893), (.int .i32 130), (.int .i32 0), (.int .i32 130), (.int .u32 895), (.int .u32 895), (.int .i32 0), (.int .i32 116), (.int .i32 0), (.int .u32 902), (.int .u32 902), (.int .i32 0), (.int .i32 38), (.int .i32 0), (.int .u32 904), (.int .u32 906), (.int .i32 0), (.int .i32 37), (.int .i32 0), (.int .u32 908), (.int .u32 908), (.int .i32 0), (.int .i32 64), (.int .i32 0), (.int .u32 910), (.int .u32 911), (.int .i32 0), (.int .i32 63), (.int .i32 0), (.int .u32 913), (.int .u32 929), (.int .i32 0), (.int .i32 32), (.int .i32 0), (.int .u32 931), (.int .u32 939), (.int .i32 0), (.int .i32 32), (.int .i32 0), (.int .u32 940), (.int .u32 940), (.int .i32 (-38)), (.int .i32 0), (.int .i32 (-38)), (.int .u32 941), (.int .u32 943), (.int .i32 (-37)), (.int .i32 0), (.int .i32 (-37)), (.int .u32 945), (.int .u32 961), (.int .i32 (-32)), (.int .i32 0), (.int .i32 (-32)), (.int .u32 962), (.int .u32 962), (.int .i32 (-31)), (.int .i32 0), (.int .i32 (-31)), (.int .u32 963), (.int .u32 971), (.int .i32 (-32)), (.int .i32 0), (.int .i32 (-32)), (.int .u32 972), (.int .u32 972), (.int .i32 (-64)), (.int .i32 0), (.int .i32 (-64)), (.int .u32 973), (.int .u32 974), (.int .i32 (-63)), (.int .i32 0), (.int .i32 (-63)), (.int .u32 975), (.int .u32 975), (.int .i32 0), (.int .i32 8), (.int .i32 0), (.int .u32 976), (.int .u32 976), (.int .i32 (-62)), (.int .i32 0), (.int .i32 (-62)), (.int .u32 977), (.int .u32 977), (.int .i32 (-57)), (.int .i32 0), (.int .i32 (-57)), (.int .u32 981), (.int .u32 981), (.int .i32 (-47)), (.int .i32 0), (.int .i32 (-47)), (.int .u32 982), (.int .u32 982), (.int .i32 (-54)), (.int .i32 0), (.int .i32 (-54)), (.int .u32 983), (.int .u32 983), (.int .i32 (-8)), (.int .i32 0), (.int .i32 (-8)), (.int .u32 984), (.int .u32 1007), (.int .i32 1114112), (.int .i32 1114112), (.int .i32 1114112), (.int .u32 1008), (.int .u32 1008), (.int .i32 (-86)), (.int .i32 0), (.int .i32 (-86)), (.int .u32 1009), (.int .u32 1009), (.int .i32 (-80)), (.int .i32 0), (.int .i32 (-80)), (.int .u32 1010), (.int .u32 1010), (.int .i32 7), (.int .i32 0), (.int .i32 7), (.int .u32 1011), (.int .u32 1011), (.int .i32 (-116)), (.int .i32 0), (.int .i32 (-116)), (.int .u32 1012), (.int .u32 1012), (.int .i32 0), (.int .i32 (-60)), (.int .i32 0), (.int .u32 1013), (.int .u32 1013), (.int .i32 (-96)), (.int .i32 0), (.int .i32 (-96)), (.int .u32 1015), (.int .u32 1016), (.int .i32 1114112), (.int .i32 1114112), (.int .i32 1114112), (.int .u32 1017), (.int .u32 1017), (.int .i32 0), (.int .i32 (-7)), (.int .i32 0), (.int .u32 1018), (.int .u32 1019), (.int .i32 1114112), (.int .i32 1114112), (.int .i32 1114112), (.int .u32 1021), (.int .u32 1023), (.int .i32 0), (.int .i32 (-130)), (.int .i32 0), (.int .u32 1024), (.int .u32 1039), (.int .i32 0), (.int .i32 80), (.int .i32 0), (.int .u32 1040), (.int .u32 1071), (.int .i32 0), (.int .i32 32), (.int .i32 0), (.int .u32 1072), (.int .u32 1103), (.int .i32 (-32)), (.int .i32 0), (.int .i32 (-32)), (.int .u32 1104), (.int .u32 1119), (.int .i32 (-80)), (.int .i32 0), (.int .i32 (-80)), (.int .u32 1120), (.int .u32 1153), (.int .i32 1114112), (.int .i32 1114112), (.int .i32 1114112), (.int .u32 1162), (.int .u32 1215), (.int .i32 1114112), (.int .i32 1114112), (.int .i32 1114112), (.int .u32 1216), (.int .u32 1216), (.int .i32 0), (.int .i32 15), (.int .i32 0), (.int .u32 1217), (.int .u32 1230), (.int .i32 1114112), (.int .i32 1114112), (.int .i32 1114112), (.int .u32 1231), (.int .u32 1231), (.int .i32 (-15)), (.int .i32 0), (.int .i32 (-15)), (.int .u32 1232), (.int .u32 1327), (.int .i32 1114112), (.int .i32 1114112), (.int .i32 1114112), (.int .u32 1329), (.int .u32 1366), (.int .i32 0), (.int .i32 48), (.int .i32 0), (.int .u32 1377), (.int .u32 1414), (.int .i32 (-48)), (.int .i32 0), (.int .i32 (-48)), (.int .u32 4256), (.int .u32 4293), (.int .i32 0), (.int .i32 7264), (.int .i32 0), (.int .u32 4295), (.int .u32 4295), (.int .i32 0), (.int .i32 7264), (.int .i32 0), (.int .u32 4301), (.int .u32 4301), (.int .i32 0), (.int .i32 7264), (.int .i32 0), (.int .u32 4304), (.int .u32 4346), (.int .i32 3008), (.int .i32 0), (.int .i32 0), (.int .u32 4349), (.int .u32 4351), (.int .i32 3008), (.int .i32 0), (.int .i32 0), (.int .u32 5024), (.int .u32 5103), (.int .i32 0), (.int .i32 38864), (.int .i32 0), (.int .u32 5104), (.int .u32 5109), (.int .i32 0), (.int .i32 8), (.int .i32 0), (.int .u32 5112), (.int .u32 5117), (.int .i32 (-8)), (.int .i32 0), (.int .i32 (-8)), (.int .u32 7296), (.int .u32 7296), (.int .i32 (-6254)), (.int .i32 0), (.int .i32 (-6254)), (.int .u32 7297), (.int .u32 7297), (.int .i32 (-6253)), (.int .i32 0), (.int .i32 (-6253)), (.int .u32 7298), (.int .u32 7298), (.int .i32 (-6244)), (.int .i32 0), (.int .i32 (-6244)), (.int .u32 7299), (.int .u32 7300), (.int .i32 (-6242)), (.int .i32 0), (.int .i32 (-6242)), (.int .u32 7301), (.int .u32 7301), (.int .i32 (-6243)), (.int .i32 0), (.int .i32 (-6243)), (.int .u32 7302), (.int .u32 7302), (.int .i32 (-6236)), (.int .i32 0), (.int .i32 (-6236)), (.int .u32 7303), (.int .u32 7303), (.int .i32 (-6181)), (.int .i32 0), (.int .i32 (-6181)), (.int .u32 7304), (.int .u32 7304), (.int .i32 35266), (.int .i32 0), (.int .i32 35266), (.int .u32 7305), (.int .u32 7306), (.int .i32 1114112), (.int .i32 1114112), (.int .i32 1114112), (.int .u32 7312), (.int .u32 7354), (.int .i32 0), (.int .i32 (-3008)), (.int .i32 0), (.int .u32 7357), (.int .u32 7359), (.int .i32 0), (.int .i32 (-3008)), (.int .i32 0), (.int .u32 7545), (.int .u32 7545), (.int .i32 35332), (.int .i32 0), (.int .i32 35332), (.int .u32 7549), (.int .u32 7549), (.int .i32 3814), (.int .i32 0), (.int .i32 3814), (.int .u32 7566), (.int .u32 7566), (.int .i32 35384), (.int .i32 0), (.int .i32 35384), (.int .u32 7680), (.int .u32 7829), (.int .i32 1114112), (.int .i32 1114112), (.int .i32 1114112), (.int .u32 7835), (.int .u32 7835), (.int .i32 (-59)), (.int .i32 0), (.int .i32 (-59)), (.int .u32 7838), (.int .u32 7838), (.int .i32 0), (.int .i32 (-7615)), (.int .i32 0), (.int .u32 7840), (.int .u32 7935), (.int .i32 1114112), (.int .i32 1114112), (.int .i32 1114112), (.int .u32 7936), (.int .u32 7943), (.int .i32 8), (.int .i32 0), (.int .i32 8), (.int .u32 7944), (.int .u32 7951), (.int .i32 0), (.int .i32 (-8)), (.int .i32 0), (.int .u32 7952), (.int .u32 7957), (.int .i32 8), (.int .i32 0), (.int .i32 8), (.int .u32 7960), (.int .u32 7965), (.int .i32 0), (.int .i32 (-8)), (.int .i32 0), (.int .u32 7968), (.int .u32 7975), (.int .i32 8), (.int .i32 0), (.int .i32 8), (.int .u32 7976), (.int .u32 7983), (.int .i32 0), (.int .i32 (-8)), (.int .i32 0), (.int .u32 7984), (.int .u32 7991), (.int .i32 8), (.int .i32 0), (.int .i32 8), (.int .u32 7992), (.int .u32 7999), (.int .i32 0), (.int .i32 (-8)), (.int .i32 0), (.int .u32 8000), (.int .u32 8005), (.int .i32 8), (.int .i32 0), (.int .i32 8), (.int .u32 8008), (.int .u32 8013), (.int .i32 0), (.int .i32 (-8)), (.int .i32 0), (.int .u32 8017), (.int .u32 8017), (.int .i32 8), (.int .i32 0), (.int .i32 8), (.int .u32 8019), (.int .u32 8019), (.int .i32 8), (.int .i32 0), (.int .i32 8), (.int .u32 8021), (.int .u32 8021), (.int .i32 8), (.int .i32 0), (.int .i32 8), (.int .u32 8023), (.int .u32 8023), (.int .i32 8), (.int .i32 0), (.int .i32 8), (.int .u32 8025), (.int .u32 8025), (.int .i32 0), (.int .i32 (-8)), (.int .i32 0), (.int .u32 8027), (.int .u32 8027), (.int .i32 0), (.int .i32 (-8)), (.int .i32 0), (.int .u32 8029), (.int .u32 8029), (.int .i32 0), (.int .i32 (-8)), (.int .i32 0), (.int .u32 8031), (.int .u32 8031), (.int .i32 0), (.int .i32 (-8)), (.int .i32 0), (.int .u32 8032), (.int .u32 8039), (.int .i32 8), (.int .i32 0), (.int .i32 8), (.int .u32 8040), (.int .u32 8047), (.int .i32 0), (.int .i32 (-8)), (.int .i32 0), (.int .u32 8048), (.int .u32 8049), (.int .i32 74), (.int .i32 0), (.int .i32 74), (.int .u32 8050), (.int .u32 8053), (.int .i32 86), (.int .i32 0), (.int .i32 86), (.int .u32 8054), (.int .u32 8055), (.int .i32 100), (.int .i32 0), (.int .i32 100), (.int .u32 8056), (.int .u32 8057), (.int .i32 128), (.int .i32 0), (.int .i32 128), (.int .u32 8058), (.int .u32 8059), (.int .i32 112), (.int .i32 0), (.int .i32 112), (.int .u32 8060), (.int .u32 8061), (.int .i32 126), (.int .i32 0), (.int .i32 126), (.int .u32 8064), (.int .u32 8071), (.int .i32 8), (.int .i32 0), (.int .i32 8), (.int .u32 8072), (.int .u32 8079), (.int .i32 0), (.int .i32 (-8)), (.int .i32 0), (.int .u32 8080), (.int .u32 8087), (.int .i32 8), (.int .i32 0), (.int .i32 8), (.int .u32 8088), (.int .u32 8095), (.int .i32 0), (.int .i32 (-8)), (.int .i32 0), (.int .u32 8096), (.int .u32 8103), (.int .i32 8), (.int .i32 0), (.int .i32 8), (.int .u32 8104), (.int .u32 8111), (.int .i32 0), (.int .i32 (-8)), (.int .i32 0), (.int .u32 8112), (.int .u32 8113), (.int .i32 8), (.int .i32 0), (.int .i32 8), (.int .u32 8115), (.int .u32 8115), (.int .i32 9), (.int .i32 0), (.int .i32 9), (.int .u32 8120), (.int .u32 8121), (.int .i32 0), (.int .i32 (-8)), (.int .i32 0), (.int .u32 8122), (.int .u32 8123), (.int .i32 0), (.int .i32 (-74)), (.int .i32 0), (.int .u32 8124), (.int .u32 8124), (.int .i32 0), (.int .i32 (-9)), (.int .i32 0), (.int .u32 8126), (.int .u32 8126), (.int .i32 (-7205)), (.int .i32 0), (.int .i32 (-7205)), (.int .u32 8131), (.int .u32 8131), (.int .i32 9), (.int .i32 0), (.int .i32 9), (.int .u32 8136), (.int .u32 8139), (.int .i32 0), (.int .i32 (-86)), (.int .i32 0), (.int .u32 8140), (.int .u32 8140), (.int .i32 0), (.int .i32 (-9)), (.int .i32 0), (.int .u32 8144), (.int .u32 8145), (.int .i32 8), (.int .i32 0), (.int .i32 8), (.int .u32 8152), (.int .u32 8153), (.int .i32 0), (.int .i32 (-8)), (.int .i32 0), (.int .u32 8154), (.int .u32 8155), (.int .i32 0), (.int .i32 (-100)), (.int .i32 0), (.int .u32 8160), (.int .u32 8161), (.int .i32 8), (.int .i32 0), (.int .i32 8), (.int .u32 8165), (.int .u32 8165), (.int .i32 7), (.int .i32 0), (.int .i32 7), (.int .u32 8168), (.int .u32 8169), (.int .i32 0), (.int .i32 (-8)), (.int .i32 0), (.int .u32 8170), (.int .u32 8171), (.int .i32 0), (.int .i32 (-112)), (.int .i32 0), (.int .u32 8172), (.int .u32 8172), (.int .i32 0), (.int .i32 (-7)), (.int .i32 0), (.int .u32 8179), (.int .u32 8179), (.int .i32 9), (.int .i32 0), (.int .i32 9), (.int .u32 8184), (.int .u32 8185), (.int .i32 0), (.int .i32 (-128)), (.int .i32 0), (.int .u32 8186), (.int .u32 8187), (.int .i32 0), (.int .i32 (-126)), (.int .i32 0), (.int .u32 8188), (.int .u32 8188), (.int .i32 0), (.int .i32 (-9)), (.int .i32 0), (.int .u32 8486), (.int .u32 8486), (.int .i32 0), (.int .i32 (-7517)), (.int .i32 0), (.int .u32 8490), (.int .u32 8490), (.int .i32 0), (.int .i32 (-8383)), (.int .i32 0), (.int .u32 8491), (.int .u32 8491), (.int .i32 0), (.int .i32 (-8262)), (.int .i32 0), (.int .u32 8498), (.int .u32 8498), (.int .i32 0), (.int .i32 28), (.int .i32 0), (.int .u32 8526), (.int .u32 8526), (.int .i32 (-28)), (.int .i32 0), (.int .i32 (-28)), (.int .u32 8544), (.int .u32 8559), (.int .i32 0), (.int .i32 16), (.int .i32 0), (.int .u32 8560), (.int .u32 8575), (.int .i32 (-16)), (.int .i32 0), (.int .i32 (-16)), (.int .u32 8579), (.int .u32 8580), (.int .i32 1114112), (.int .i32 1114112), (.int .i32 1114112), (.int .u32 9398), (.int .u32 9423), (.int .i32 0), (.int .i32 26), (.int .i32 0), (.int .u32 9424), (.int .u32 9449), (.int .i32 (-26)), (.int .i32 0), (.int .i32 (-26)), (.int .u32 11264), (.int .u32 11311), (.int .i32 0), (.int .i32 48), (.int .i32 0), (.int .u32 11312), (.int .u32 11359), (.int .i32 (-48)), (.int .i32 0), (.int .i32 (-48)), (.int .u32 11360), (.int .u32 11361), (.int .i32 1114112), (.int .i32 1114112), (.int .i32 1114112), (.int .u32 11362), (.int .u32 11362), (.int .i32 0), (.int .i32 (-10743)), (.int .i32 0), (.int .u32 11363), (.int .u32 11363), (.int .i32 0), (.int .i32 (-3814)), (.int .i32 0), (.int .u32 11364), (.int .u32 11364), (.int .i32 0), (.int .i32 (-10727)), (.int .i32 0), (.int .u32 11365), (.int .u32 11365), (.int .i32 (-10795)), (.int .i32 0), (.int .i32 (-10795)), (.int .u32 11366), (.int .u32 11366), (.int .i32 (-10792)), (.int .i32 0), (.int .i32 (-10792)), (.int .u32 11367), (.int .u32 11372), (.int .i32 1114112), (.int .i32 1114112), (.int .i32 1114112), (.int .u32 11373), (.int .u32 11373), (.int .i32 0), (.int .i32 (-10780)), (.int .i32 0), (.int .u32 11374), (.int .u32 11374), (.int .i32 0), (.int .i32 (-10749)), (.int .i32 0), (.int .u32 11375), (.int .u32 11375), (.int .i32 0), (.int .i32 (-10783)), (.int .i32 0), (.int .u32 11376), (.int .u32 11376), (.int .i32 0), (.int .i32 (-10782)), (.int .i32 0), (.int .u32 11378), (.int .u32 11379), (.int .i32 1114112), (.int .i32 1114112), (.int .i32 1114112), (.int .u32 11381), (.int .u32 11382), (.int .i32 1114112), (.int .i32 1114112), (.int .i32 1114112), (.int .u32 11390), (.int .u32 11391), (.int .i32 0), (.int .i32 (-10815)), (.int .i32 0), (.int .u32 11392), (.int .u32 11491), (.int .i32 1114112), (.int .i32 1114112), (.int .i32 1114112), (.int .u32 11499), (.int .u32 11502), (.int .i32 1114112), (.int .i32 1114112), (.int .i32 1114112), (.int .u32 11506), (.int .u32 11507), (.int .i32 1114112), (.int .i32 1114112), (.int .i32 1114112), (.int .u32 11520), (.int .u32 11557), (.int .i32 (-7264)), (.int .i32 0), (.int .i32 (-7264)), (.int .u32 11559), (.int .u32 11559), (.int .i32 (-7264)), (.int .i32 0), (.int .i32 (-7264)), (.int .u32 11565), (.int .u32 11565), (.int .i32 (-7264)), (.int .i32 0), (.int .i32 (-7264)), (.int .u32 42560), (.int .u32 42605), (.int .i32 1114112), (.int .i32 1114112), (.int .i32 1114112), (.int .u32 42624), (.int .u32 42651), (.int .i32 1114112), (.int .i32 1114112), (.int .i32 1114112), (.int .u32 42786), (.int .u32 42799), (.int .i32 1114112), (.int .i32 1114112), (.int .i32 1114112), (.int .u32 42802), (.int .u32 42863), (.int .i32 1114112), (.int .i32 1114112), (.int .i32 1114112), (.int .u32 42873), (.int .u32 42876), (.int .i32 1114112), (.int .i32 1114112), (.int .i32 1114112), (.int .u32 42877), (.int .u32 42877), (.int .i32 0), (.int .i32 (-35332)), (.int .i32 0), (.int .u32 42878), (.int .u32 42887), (.int .i32 1114112), (.int .i32 1114112), (.int .i32 1114112), (.int .u32 42891), (.int .u32 42892), (.int .i32 1114112), (.int .i32 1114112), (.int .i32 1114112), (.int .u32 42893), (.int .u32 42893), (.int .i32 0), (.int .i32 (-42280)), (.int .i32 0), (.int .u32 42896), (.int .u32 42899), (.int .i32 1114112), (.int .i32 1114112), (.int .i32 1114112), (.int .u32 42900), (.int .u32 42900), (.int .i32 48), (.int .i32 0), (.int .i32 48), (.int .u32 42902), (.int .u32 42921), (.int .i32 1114112), (.int .i32 1114112), (.int .i32 1114112), (.int .u32 42922), (.int .u32 42922), (.int .i32 0), (.int .i32 (-42308)), (.int .i32 0), (.int .u32 42923), (.int .u32 42923), (.int .i32 0), (.int .i32 (-42319)), (.int .i32 0), (.int .u32 42924), (.int .u32 42924), (.int .i32 0), (.int .i32 (-42315)), (.int .i32 0), (.int .u32 42925), (.int .u32 42925), (.int .i32 0), (.int .i32 (-42305)), (.int .i32 0), (.int .u32 42926), (.int .u32 42926), (.int .i32 0), (.int .i32 (-42308)), (.int .i32 0), (.int .u32 42928), (.int .u32 42928), (.int .i32 0), (.int .i32 (-42258)), (.int .i32 0), (.int .u32 42929), (.int .u32 42929), (.int .i32 0), (.int .i32 (-42282)), (.int .i32 0), (.int .u32 42930), (.int .u32 42930), (.int .i32 0), (.int .i32 (-42261)), (.int .i32 0), (.int .u32 42931), (.int .u32 42931), (.int .i32 0), (.int .i32 928), (.int .i32 0), (.int .u32 42932), (.int .u32 42947), (.int .i32 1114112), (.int .i32 1114112), (.int .i32 1114112), (.int .u32 42948), (.int .u32 42948), (.int .i32 0), (.int .i32 (-48)), (.int .i32 0), (.int .u32 42949), (.int .u32 42949), (.int .i32 0), (.int .i32 (-42307)), (.int .i32 0), (.int .u32 42950), (.int .u32 42950), (.int .i32 0), (.int .i32 (-35384)), (.int .i32 0), (.int .u32 42951), (.int .u32 42954), (.int .i32 1114112), (.int .i32 1114112), (.int .i32 1114112), (.int .u32 42955), (.int .u32 42955), (.int .i32 0), (.int .i32 (-42343)), (.int .i32 0), (.int .u32 42956), (.int .u32 42971), (.int .i32 1114112), (.int .i32 1114112), (.int .i32 1114112), (.int .u32 42972), (.int .u32 42972), (.int .i32 0), (.int .i32 (-42561)), (.int .i32 0), (.int .u32 42997), (.int .u32 42998), (.int .i32 1114112), (.int .i32 1114112), (.int .i32 1114112), (.int .u32 43859), (.int .u32 43859), (.int .i32 (-928)), (.int .i32 0), (.int .i32 (-928)), (.int .u32 43888), (.int .u32 43967), (.int .i32 (-38864)), (.int .i32 0), (.int .i32 (-38864)), (.int .u32 65313), (.int .u32 65338), (.int .i32 0), (.int .i32 32), (.int .i32 0), (.int .u32 65345), (.int .u32 65370), (.int .i32 (-32)), (.int .i32 0), (.int .i32 (-32)), (.int .u32 66560), (.int .u32 66599), (.int .i32 0), (.int .i32 40), (.int .i32 0), (.int .u32 66600), (.int .u32 66639), (.int .i32 (-40)), (.int .i32 0), (.int .i32 (-40)), (.int .u32 66736), (.int .u32 66771), (.int .i32 0), (.int .i32 40), (.int .i32 0), (.int .u32 66776), (.int .u32 66811), (.int .i32 (-40)), (.int .i32 0), (.int .i32 (-40)), (.int .u32 66928), (.int .u32 66938), (.int .i32 0), (.int .i32 39), (.int .i32 0), (.int .u32 66940), (.int .u32 66954), (.int .i32 0), (.int .i32 39), (.int .i32 0), (.int .u32 66956), (.int .u32 66962), (.int .i32 0), (.int .i32 39), (.int .i32 0), (.int .u32 66964), (.int .u32 66965), (.int .i32 0), (.int .i32 39), (.int .i32 0), (.int .u32 66967), (.int .u32 66977), (.int .i32 (-39)), (.int .i32 0), (.int .i32 (-39)), (.int .u32 66979), (.int .u32 66993), (.int .i32 (-39)), (.int .i32 0), (.int .i32 (-39)), (.int .u32 66995), (.int .u32 67001), (.int .i32 (-39)), (.int .i32 0), (.int .i32 (-39)), (.int .u32 67003), (.int .u32 67004), (.int .i32 (-39)), (.int .i32 0), (.int .i32 (-39)), (.int .u32 68736), (.int .u32 68786), (.int .i32 0), (.int .i32 64), (.int .i32 0), (.int .u32 68800), (.int .u32 68850), (.int .i32 (-64)), (.int .i32 0), (.int .i32 (-64)), (.int .u32 68944), (.int .u32 68965), (.int .i32 0), (.int .i32 32), (.int .i32 0), (.int .u32 68976), (.int .u32 68997), (.int .i32 (-32)), (.int .i32 0), (.int .i32 (-32)), (.int .u32 71840), (.int .u32 71871), (.int .i32 0), (.int .i32 32), (.int .i32 0), (.int .u32 71872), (.int .u32 71903), (.int .i32 (-32)), (.int .i32 0), (.int .i32 (-32)), (.int .u32 93760), (.int .u32 93791), (.int .i32 0), (.int .i32 32), (.int .i32 0), (.int .u32 93792), (.int .u32 93823), (.int .i32 (-32)), (.int .i32 0), (.int .i32 (-32)), (.int .u32 93856), (.int .u32 93880), (.int .i32 0), (.int .i32 27), (.int .i32 0), (.int .u32 93883), (.int .u32 93907), (.int .i32 (-27)), (.int .i32 0), (.int .i32 (-27)), (.int .u32 125184), (.int .u32 125217), (.int .i32 0), (.int .i32 34), (.int .i32 0), (.int .u32 125218), (.int .u32 125251), (.int .i32 (-34)), (.int .i32 0), (.int .i32 (-34))])]
def L8 : List AV := [(.int .u64 1), (.int .u64 10), (.int .u64 100), (.int .u64 1000), (.int .u64 10000), (.int .u64 100000), (.int .u64 1000000), (.int .u64 10000000), (.int .u64 100000000), (.int .u64 1000000000), (.int .u64 10000000000), (.int .u64 100000000000), (.int .u64 1000000000000), (.int .u64 10000000000000), (.int .u64 100000000000000), (.int .u64 1000000000000000), (.int .u64 10000000000000000), (.int .u64 100000000000000000), (.int .u64 1000000000000000000), (.int .u64 10000000000000000000)]
def L9 : List AV := [(.int .u64 23), (.int .u64 8), (.int .i64 (-127))]
def L10 : List AV := [(.int .u64 52), (.int .u64 11), (.int .i64 (-1023))]
def L11 : List AV := [(.int .u64 18054884314459144841), (.int .u64 16775125305258875820), (.int .u64 11284302696536965526), (.int .u64 17401982343427879243), (.int .u64 14105378370671206907), (.int .u64 12529105892430073246), (.int .u64 17631722963339008633), (.int .u64 1826324310255427846), (.int .u64 11019826852086880396), (.int .u64 8058981721550724259), (.int .u64 13774783565108600495), (.int .u64 10073727151938405324), (.int .u64 17218479456385750619), (.int .u64 17203844958350394560), (.int .u64 10761549660241094137), (.int .u64 13058246108182690552), (.int .u64 13451937075301367671), (.int .u64 11711121616800975286), (.int .u64 16814921344126709588), (.int .u64 803843965719055395), (.int .u64 10509325840079193493), (.int .u64 9725774515429185430), (.int .u64 13136657300098991866), (.int .u64 7545532125859093883), (.int .u64 16420821625123739832), (.int .u64 208543120469091546), (.int .u64 10263013515702337395), (.int .u64 130339450293182216), (.int .u64 12828766894627921744), (.int .u64 4774610331293865674), (.int .u64 16035958618284902180), (.int .u64 5968262914117332093), (.int .u64 10022474136428063863), (.int .u64 12953536358178108366), (.int .u64 12528092670535079828), (.int .u64 2356862392440471746), (.int .u64 15660115838168849785), (.int .u64 2946077990550589682), (.int .u64 9787572398855531116), (.int .u64 8758827771735200407), (.int .u64 12234465498569413895), (.int .u64 10948534714669000509), (.int .u64 15293081873211767369), (.int .u64 18297354411763638541), (.int .u64 9558176170757354606), (.int .u64 18353375534993355944), (.int .u64 11947720213446693257), (.int .u64 13718347381886919122), (.int .u64 14934650266808366571), (.int .u64 12536248208931260998), (.int .u64 9334156416755229107), (.int .u64 10140998139795732076), (.int .u64 11667695520944036384), (.int .u64 17287933693172052999), (.int .u64 14584619401180045479), (.int .u64 3163173042755514633), (.int .u64 18230774251475056849), (.int .u64 8565652321871781195), (.int .u64 11394233907171910531), (.int .u64 12271061728810945103), (.int .u64 14242792383964888163), (.int .u64 1503769105731517666), (.int .u64 17803490479956110204), (.int .u64 6491397400591784987), (.int .u64 11127181549972568878), (.int .u64 13280495412224641425), (.int .u64 13908976937465711097), (.int .u64 7377247228426025973), (.int .u64 17386221171832138871), (.int .u64 4609873017105144562), (.int .u64 10866388232395086795), (.int .u64 14410385681759185111), (.int .u64 13582985290493858493), (.int .u64 4177924046916817677), (.int .u64 16978731613117323116), (.int .u64 610719040218634193), (.int .u64 10611707258198326948), (.int .u64 9605071436991422178), (.int .u64 13264634072747908685), (.int .u64 12006339296239277723), (.int .u64 16580792590934885856), (.int .u64 10396238101871709250), (.int .u64 10362995369334303660), (.int .u64 6497648813669818281), (.int .u64 12953744211667879575), (.int .u64 8122061017087272851), (.int .u64 16192180264584849469), (.int .u64 14764262289786478968), (.int .u64 10120112665365530918), (.int .u64 6921820921902855403), (.int .u64 12650140831706913648), (.int .u64 17875648189233345062), (.int .u64 15812676039633642059), (.int .u64 3897816162832129711), (.int .u64 9882922524771026287), (.int .u64 4741978110983775021), (.int .u64 12353653155963782859), (.int .u64 10539158657157106681), (.int .u64 15442066444954728574), (.int .u64 17785634339873771255), (.int .u64 9651291528096705359), (.int .u64 15727707480848494938), (.int .u64 12064114410120881698), (.int .u64 5824576295778454961), (.int .u64 15080143012651102123), (.int .u64 16504092406577844510), (.int .u64 9425089382906938827), (.int .u64 12620900763324846770), (.int .u64 11781361728633673533), (.int .u64 1941067898873894751), (.int .u64 14726702160792091917), (.int .u64 16261392928874532151), (.int .u64 18408377700990114896), (.int .u64 15715055142665777285), (.int .u64 11505236063118821810), (.int .u64 9821909464166110803), (.int .u64 14381545078898527262), (.int .u64 3054014793352862696), (.int .u64 17976931348623159078), (.int .u64 13040890528545854178), (.int .u64 11235582092889474424), (.int .u64 12762242598768546765), (.int .u64 14044477616111843030), (.int .u64 15952803248460683456), (.int .u64 17555597020139803787), (.int .u64 10717632023721078512), (.int .u64 10972248137587377367), (.int .u64 9004363024039368022), (.int .u64 13715310171984221709), (.int .u64 15867139798476597932), (.int .u64 17144137714980277136), (.int .u64 15222238729668359511), (.int .u64 10715086071862673210), (.int .u64 9513899206042724694), (.int .u64 13393857589828341512), (.int .u64 2669001970698630060), (.int .u64 16742321987285426890), (.int .u64 3336252463373287575), (.int .u64 10463951242053391807), (.int .u64 15920215844890468446), (.int .u64 13079939052566739758), (.int .u64 6065211750830921845), (.int .u64 16349923815708424698), (.int .u64 16804886725393428115), (.int .u64 10218702384817765436), (.int .u64 5891368184943504668), (.int .u64 12773377981022206795), (.int .u64 7364210231179380835), (.int .u64 15966722476277758494), (.int .u64 13816948807401613948), (.int .u64 9979201547673599059), (.int .u64 13247279023053396621), (.int .u64 12474001934591998823), (.int .u64 2724040723534582064), (.int .u64 15592502418239998529), (.int .u64 8016736922845615485), (.int .u64 9745314011399999081), (.int .u64 11927989604419591534), (.int .u64 12181642514249998851), (.int .u64 10298300987097101513), (.int .u64 15227053142812498564), (.int .u64 17484562252298764796), (.int .u64 9516908214257811602), (.int .u64 1704479370831952189), (.int .u64 11896135267822264503), (.int .u64 11353971250394716045), (.int .u64 14870169084777830628), (.int .u64 357406007711231344), (.int .u64 9293855677986144143), (.int .u64 9446750791674295398), (.int .u64 11617319597482680179), (.int .u64 16420124508020257151), (.int .u64 14521649496853350223), (.int .u64 6690097579743157727), (.int .u64 18152061871066687779), (.int .u64 12974307993106335063), (.int .u64 11345038669416679862), (.int .u64 10414785504905153366), (.int .u64 14181298336770849827), (.int .u64 3795109844276665900), (.int .u64 17726622920963562284), (.int .u64 9355573323773220279), (.int .u64 11079139325602226428), (.int .u64 15070605364213038482), (.int .u64 13848924157002783034), (.int .u64 391512631556746487), (.int .u64 17311155196253478793), (.int .u64 9712762826300708917), (.int .u64 10819471997658424246), (.int .u64 12988005794079024929), (.int .u64 13524339997073030307), (.int .u64 7011635205744005353), (.int .u64 16905424996341287884), (.int .u64 13376230025607394595), (.int .u64 10565890622713304928), (.int .u64 17583515802859397430), (.int .u64 13207363278391631159), (.int .u64 3532650679864695172), (.int .u64 16509204097989538949), (.int .u64 9027499368258256869), (.int .u64 10318252561243461843), (.int .u64 3336344095947716591), (.int .u64 12897815701554327304), (.int .u64 8782116138362033642), (.int .u64 16122269626942909130), (.int .u64 10977645172952542053), (.int .u64 10076418516839318206), (.int .u64 2249342214667950879), (.int .u64 12595523146049147758), (.int .u64 12035049805189714407), (.int .u64 15744403932561434697), (.int .u64 5820440219632367201), (.int .u64 9840252457850896686), (.int .u64 10555304164911311356), (.int .u64 12300315572313620857), (.int .u64 3970758169284363388), (.int .u64 15375394465392026071), (.int .u64 351761693178066331), (.int .u64 9609621540870016295), (.int .u64 11749066104304761216), (.int .u64 12012026926087520368), (.int .u64 851274575098787809), (.int .u64 15015033657609400460), (.int .u64 1064093218873484761), (.int .u64 9384396036005875288), (.int .u64 9888430298650703783), (.int .u64 11730495045007344110), (.int .u64 12360537873313379729), (.int .u64 14663118806259180137), (.int .u64 6227300304786948854), (.int .u64 18328898507823975171), (.int .u64 3172439362556298163), (.int .u64 11455561567389984482), (.int .u64 4288617610811380304), (.int .u64 14319451959237480603), (.int .u64 14584144050369001188), (.int .u64 17899314949046850753), (.int .u64 4395122007679087773), (.int .u64 11187071843154281721), (.int .u64 9664480282440511714), (.int .u64 13983839803942852151), (.int .u64 7468914334623251739), (.int .u64 17479799754928565189), (.int .u64 13947828936706452578), (.int .u64 10924874846830353243), (.int .u64 6411550076227838909), (.int .u64 13656093558537941554), (.int .u64 12626123613712186540), (.int .u64 17070116948172426942), (.int .u64 6559282480285457367), (.int .u64 10668823092607766839), (.int .u64 8711237568605798758), (.int .u64 13336028865759708549), (.int .u64 15500732979184636352), (.int .u64 16670036082199635686), (.int .u64 14764230205553407536), (.int .u64 10418772551374772304), (.int .u64 13839329896898267614), (.int .u64 13023465689218465380), (.int .u64 17299162371122834518), (.int .u64 16279332111523081724), (.int .u64 3177208890193991531), (.int .u64 10174582569701926078), (.int .u64 11209127593226020515), (.int .u64 12718228212127407597), (.int .u64 4788037454677749836), (.int .u64 15897785265159259496), (.int .u64 1373360799919799391), (.int .u64 9936115790724537185), (.int .u64 858350499949874619), (.int .u64 12420144738405671482), (.int .u64 14907996180219506986), (.int .u64 15525180923007089352), (.int .u64 9411623188419607924), (.int .u64 9703238076879430845), (.int .u64 5882264492762254952), (.int .u64 12129047596099288556), (.int .u64 2741144597525430787), (.int .u64 15161309495124110695), (.int .u64 3426430746906788484), (.int .u64 9475818434452569185), (.int .u64 13670734262885212562), (.int .u64 11844773043065711481), (.int .u64 12476731810179127799), (.int .u64 14805966303832139351), (.int .u64 10984228744296521844), (.int .u64 9253728939895087095), (.int .u64 18394358011253795913), (.int .u64 11567161174868858868), (.int .u64 9157889458785081179), (.int .u64 14458951468586073585), (.int .u64 11447361823481351474), (.int .u64 18073689335732591981), (.int .u64 9697516260924301438), (.int .u64 11296055834832869988), (.int .u64 3755104653863994447), (.int .u64 14120069793541087485), (.int .u64 4693880817329993059), (.int .u64 17650087241926359356), (.int .u64 1255665003235103419), (.int .u64 11031304526203974598), (.int .u64 10008162663876715445), (.int .u64 13789130657754968247), (.int .u64 3286831292991118498), (.int .u64 17236413322193710309), (.int .u64 8720225134666286027), (.int .u64 10772758326371068943), (.int .u64 3144297699952734815), (.int .u64 13465947907963836179), (.int .u64 8542058143368306422), (.int .u64 16832434884954795224), (.int .u64 15289258697637770932), (.int .u64 10520271803096747015), (.int .u64 9555786686023606832), (.int .u64 13150339753870933769), (.int .u64 16556419375956896445), (.int .u64 16437924692338667211), (.int .u64 16083838201518732652), (.int .u64 10273702932711667007), (.int .u64 12358241885162901859), (.int .u64 12842128665889583758), (.int .u64 1612744301171463612), (.int .u64 16052660832361979698), (.int .u64 11239302413319105323), (.int .u64 10032913020226237311), (.int .u64 2412877989897052923), (.int .u64 12541141275282796639), (.int .u64 7627783505798704058), (.int .u64 15676426594103495799), (.int .u64 14146415400675767976), (.int .u64 9797766621314684874), (.int .u64 1923980597781273129), (.int .u64 12247208276643356093), (.int .u64 11628347784081367219), (.int .u64 15309010345804195116), (.int .u64 9923748711674321120), (.int .u64 9568131466127621948), (.int .u64 15425714981651226508), (.int .u64 11960164332659527434), (.int .u64 835399653354481519), (.int .u64 14950205415824409293), (.int .u64 10267621603547877707), (.int .u64 9343878384890255808), (.int .u64 4111420493003729615), (.int .u64 11679847981112819760), (.int .u64 5139275616254662019), (.int .u64 14599809976391024700), (.int .u64 6424094520318327523), (.int .u64 18249762470488780875), (.int .u64 8030118150397909404), (.int .u64 11406101544055488047), (.int .u64 7324666853212387329), (.int .u64 14257626930069360059), (.int .u64 13767519584942872066), (.int .u64 17822033662586700073), (.int .u64 3374341425896426371), (.int .u64 11138771039116687546), (.int .u64 9026492418826348337), (.int .u64 13923463798895859432), (.int .u64 2059743486678159614), (.int .u64 17404329748619824290), (.int .u64 2574679358347699518), (.int .u64 10877706092887390182), (.int .u64 15444232654249475910), (.int .u64 13597132616109237727), (.int .u64 10081918780957069080), (.int .u64 16996415770136547159), (.int .u64 17214084494623724254), (.int .u64 10622759856335341974), (.int .u64 3841273781498745803), (.int .u64 13278449820419177468), (.int .u64 14024964263728208061), (.int .u64 16598062275523971835), (.int .u64 17531205329660260077), (.int .u64 10373788922202482397), (.int .u64 13262846340251356500), (.int .u64 12967236152753102996), (.int .u64 11966871906886807721), (.int .u64 16209045190941378745), (.int .u64 14958589883608509651), (.int .u64 10130653244338361716), (.int .u64 16266647704896400388), (.int .u64 12663316555422952144), (.int .u64 1886565557410948869), (.int .u64 15829145694278690180), (.int .u64 2358206946763686086), (.int .u64 9893216058924181363), (.int .u64 10697251378582079612), (.int .u64 12366520073655226704), (.int .u64 17983250241654987419), (.int .u64 15458150092069033379), (.int .u64 4032318728359182658), (.int .u64 9661343807543145862), (.int .u64 4826042214438183113), (.int .u64 12076679759428932328), (.int .u64 15255924804902504699), (.int .u64 15095849699286165409), (.int .u64 623161932418579258), (.int .u64 9434906062053853381), (.int .u64 7307005235402693892), (.int .u64 11793632577567316726), (.int .u64 4522070525825979461), (.int .u64 14742040721959145908), (.int .u64 14875960194137250135), (.int .u64 18427550902448932384), (.int .u64 148206168962011053), (.int .u64 11517219314030582740), (.int .u64 92628855601256908), (.int .u64 14396524142538228425), (.int .u64 115786069501571135), (.int .u64 17995655178172785532), (.int .u64 13979790642159127631), (.int .u64 11247284486357990958), (.int .u64 17960741188204230577), (.int .u64 14059105607947488697), (.int .u64 13227554448400512413), (.int .u64 17573882009934360871), (.int .u64 11922757042073252613), (.int .u64 10983676256208975544), (.int .u64 534194123654701027), (.int .u64 13729595320261219430), (.int .u64 667742654568376284), (.int .u64 17161994150326524288), (.int .u64 10058050355065246163), (.int .u64 10726246343954077680), (.int .u64 6286281471915778851), (.int .u64 13407807929942597100), (.int .u64 7857851839894723564), (.int .u64 16759759912428246375), (.int .u64 9822314799868404456), (.int .u64 10474849945267653985), (.int .u64 17668161795986222545), (.int .u64 13093562431584567481), (.int .u64 17473516226555390277), (.int .u64 16366953039480709351), (.int .u64 17230209264766849942), (.int .u64 10229345649675443344), (.int .u64 3851351762838199358), (.int .u64 12786682062094304180), (.int .u64 4814189703547749197), (.int .u64 15983352577617880225), (.int .u64 6017737129434686497), (.int .u64 9989595361011175141), (.int .u64 10678614733537760916), (.int .u64 12486994201263968926), (.int .u64 8736582398494813241), (.int .u64 15608742751579961157), (.int .u64 1697355961263740744), (.int .u64 9755464219737475724), (.int .u64 17201748540285695629), (.int .u64 12194330274671844654), (.int .u64 3055441601647567920), (.int .u64 15242912843339805818), (.int .u64 13042674038914235708), (.int .u64 9526820527087378636), (.int .u64 3539985255894009413), (.int .u64 11908525658859223295), (.int .u64 4424981569867511767), (.int .u64 14885657073574029119), (.int .u64 10142912980761777613), (.int .u64 9303535670983768200), (.int .u64 17868535659044580768), (.int .u64 11629419588729710249), (.int .u64 3888925500096174344), (.int .u64 14536774485912137811), (.int .u64 249470856692830026), (.int .u64 18170968107390172264), (.int .u64 4923524589293425437), (.int .u64 11356855067118857665), (.int .u64 3077202868308390898), (.int .u64 14196068833898572082), (.int .u64 17681561640667652334), (.int .u64 17745086042373215102), (.int .u64 12878580013979789610), (.int .u64 11090678776483259439), (.int .u64 12660798527164756410), (.int .u64 13863348470604074298), (.int .u64 1990940103673781801), (.int .u64 17329185588255092873), (.int .u64 11712047166447003059), (.int .u64 10830740992659433046), (.int .u64 14237558506670458768), (.int .u64 13538426240824291307), (.int .u64 8573576096483297652), (.int .u64 16923032801030364134), (.int .u64 15328656139031509969), (.int .u64 10576895500643977584), (.int .u64 14192096105322081634), (.int .u64 13221119375804971980), (.int .u64 17740120131652602043), (.int .u64 16526399219756214974), (.int .u64 3728406090856200938), (.int .u64 10328999512347634359), (.int .u64 6941939825212513490), (.int .u64 12911249390434542949), (.int .u64 13289110799943029766), (.int .u64 16139061738043178686), (.int .u64 11999702481501399304), (.int .u64 10086913586276986679), (.int .u64 12111500069365762469), (.int .u64 12608641982846233348), (.int .u64 1304317031425039374), (.int .u64 15760802478557791685), (.int .u64 1630396289281299218), (.int .u64 9850501549098619804), (.int .u64 17159898745296669675), (.int .u64 12313126936373274754), (.int .u64 3003129357911285478), (.int .u64 15391408670466593443), (.int .u64 12977283734243882656), (.int .u64 9619630419041620902), (.int .u64 10416645343116120612), (.int .u64 12024538023802026127), (.int .u64 3797434642040374957), (.int .u64 15030672529752532659), (.int .u64 9358479320977856600), (.int .u64 9394170331095332912), (.int .u64 8154892584824854327), (.int .u64 11742712913869166140), (.int .u64 10193615731031067909), (.int .u64 14678391142336457675), (.int .u64 12742019663788834886), (.int .u64 18347988927920572093), (.int .u64 2092466524453879895), (.int .u64 11467493079950357559), (.int .u64 17448692642279532598), (.int .u64 14334366349937946948), (.int .u64 7975807747567252036), (.int .u64 17917957937422433685), (.int .u64 9969759684459065045), (.int .u64 11198723710889021053), (.int .u64 3925256793573221701), (.int .u64 13998404638611276316), (.int .u64 294884973539139223), (.int .u64 17498005798264095395), (.int .u64 368606216923924028), (.int .u64 10936253623915059622), (.int .u64 2536221894791146469), (.int .u64 13670317029893824528), (.int .u64 12393649405343708895), (.int .u64 17087896287367280660), (.int .u64 15492061756679636119), (.int .u64 10679935179604550412), (.int .u64 459166561069996766), (.int .u64 13349918974505688015), (.int .u64 573958201337495958), (.int .u64 16687398718132110019), (.int .u64 5329133770099257851), (.int .u64 10429624198832568762), (.int .u64 5636551615525730109), (.int .u64 13037030248540710953), (.int .u64 16269061556261938444), (.int .u64 16296287810675888691), (.int .u64 15724640926900035151), (.int .u64 10185179881672430432), (.int .u64 12133743588526215921), (.int .u64 12731474852090538040), (.int .u64 15167179485657769902), (.int .u64 15914343565113172549), (.int .u64 512230283362660762), (.int .u64 9946464728195732844), (.int .u64 16461044991597520640), (.int .u64 12433080910244666054), (.int .u64 2129562165787349184), (.int .u64 15541351137805832568), (.int .u64 11885324744088962288), (.int .u64 9713344461128645355), (.int .u64 7428327965055601430), (.int .u64 12141680576410806694), (.int .u64 13897095974746889691), (.int .u64 15177100720513508367), (.int .u64 8147997931578836306), (.int .u64 9485687950320942730), (.int .u64 16621713753305242451), (.int .u64 11857109937901178412), (.int .u64 11553770154776777256), (.int .u64 14821387422376473015), (.int .u64 14442212693470971570), (.int .u64 9263367138985295634), (.int .u64 2108853905778275375), (.int .u64 11579208923731619543), (.int .u64 11859439419077620027), (.int .u64 14474011154664524428), (.int .u64 989241218564861322), (.int .u64 18092513943330655535), (.int .u64 1236551523206076653), (.int .u64 11307821214581659710), (.int .u64 12302059748072267668), (.int .u64 14134776518227074637), (.int .u64 6154202648235558777), (.int .u64 17668470647783843296), (.int .u64 3081067291867060567), (.int .u64 11042794154864902060), (.int .u64 1925667057416912854), (.int .u64 13803492693581127575), (.int .u64 2407083821771141068), (.int .u64 17254365866976409469), (.int .u64 7620540795641314239), (.int .u64 10783978666860255918), (.int .u64 2456994988062127447), (.int .u64 13479973333575319898), (.int .u64 12294615771932435117), (.int .u64 16849966666969149872), (.int .u64 6144897678060768089), (.int .u64 10531229166855718670), (.int .u64 3840561048787980055), (.int .u64 13164036458569648338), (.int .u64 14024073347839750877), (.int .u64 16455045573212060422), (.int .u64 8306719647944912789), (.int .u64 10284403483257537764), (.int .u64 9803385798392958397), (.int .u64 12855504354071922205), (.int .u64 12254232247991197996), (.int .u64 16069380442589902756), (.int .u64 10706104291561609591), (.int .u64 10043362776618689223), (.int .u64 15914687219080781802), (.int .u64 12554203470773361528), (.int .u64 6058300968568813541), (.int .u64 15692754338466701910), (.int .u64 7572876210711016926), (.int .u64 9807971461541688694), (.int .u64 9344733650121773483), (.int .u64 12259964326927110867), (.int .u64 2457545025797441046), (.int .u64 15324955408658888584), (.int .u64 7683617300674189211), (.int .u64 9578097130411805365), (.int .u64 4802260812921368257), (.int .u64 11972621413014756706), (.int .u64 1391139997724322417), (.int .u64 14965776766268445883), (.int .u64 10962297034010178829), (.int .u64 9353610478917778677), (.int .u64 9157278655470055720), (.int .u64 11692013098647223346), (.int .u64 6834912300910181746), (.int .u64 14615016373309029183), (.int .u64 17767012412992502991), (.int .u64 18268770466636286478), (.int .u64 8373707460958465027), (.int .u64 11417981541647679049), (.int .u64 9845253181526428546), (.int .u64 14272476927059598811), (.int .u64 7694880458480647778), (.int .u64 17840596158824498514), (.int .u64 14230286591528197627), (.int .u64 11150372599265311571), (.int .u64 4282243101277735613), (.int .u64 13937965749081639464), (.int .u64 9964489895024557420), (.int .u64 17422457186352049330), (.int .u64 12455612368780696775), (.int .u64 10889035741470030831), (.int .u64 3173071712060547580), (.int .u64 13611294676837538539), (.int .u64 8578025658503072379), (.int .u64 17014118346046923174), (.int .u64 15334218091556228378), (.int .u64 10633823966279326984), (.int .u64 14195572325650030640), (.int .u64 13292279957849158730), (.int .u64 17744465407062538301), (.int .u64 16615349947311448412), (.int .u64 12957209721973397068), (.int .u64 10384593717069655258), (.int .u64 17321628113088148975), (.int .u64 12980742146337069072), (.int .u64 12428663104505410411), (.int .u64 16225927682921336340), (.int .u64 15535828880631763014), (.int .u64 10141204801825835212), (.int .u64 486521013540076076), (.int .u64 12676506002282294015), (.int .u64 608151266925095095), (.int .u64 15845632502852867519), (.int .u64 5371875102083756772), (.int .u64 9903520314283042200), (.int .u64 14886636984870817743), (.int .u64 12379400392853802749), (.int .u64 161552157378970562), (.int .u64 15474250491067253437), (.int .u64 14036998252005876915), (.int .u64 9671406556917033398), (.int .u64 6467280898289979120), (.int .u64 12089258196146291748), (.int .u64 17307473159717249708), (.int .u64 15111572745182864684), (.int .u64 3187597375937010519), (.int .u64 9444732965739290428), (.int .u64 11215620396815407382), (.int .u64 11805916207174113035), (.int .u64 14019525496019259228), (.int .u64 14757395258967641293), (.int .u64 3689348814741910323), (.int .u64 9223372036854775808), (.int .u64 0), (.int .u64 11529215046068469760), (.int .u64 0), (.int .u64 14411518807585587200), (.int .u64 0), (.int .u64 18014398509481984000), (.int .u64 0), (.int .u64 11258999068426240000), (.int .u64 0), (.int .u64 14073748835532800000), (.int .u64 0), (.int .u64 17592186044416000000), (.int .u64 0), (.int .u64 10995116277760000000), (.int .u64 0), (.int .u64 13743895347200000000), (.int .u64 0), (.int .u64 17179869184000000000), (.int .u64 0), (.int .u64 10737418240000000000), (.int .u64 0), (.int .u64 13421772800000000000), (.int .u64 0), (.int .u64 16777216000000000000), (.int .u64 0), (.int .u64 10485760000000000000), (.int .u64 0), (.int .u64 13107200000000000000), (.int .u64 0), (.int .u64 16384000000000000000), (.int .u64 0), (.int .u64 10240000000000000000), (.int .u64 0), (.int .u64 12800000000000000000), (.int .u64 0), (.int .u64 16000000000000000000), (.int .u64 0), (.int .u64 10000000000000000000), (.int .u64 0), (.int .u64 12500000000000000000), (.int .u64 0), (.int .u64 15625000000000000000), (.int .u64 0), (.int .u64 9765625000000000000), (.int .u64 0), (.int .u64 12207031250000000000), (.int .u64 0), (.int .u64 15258789062500000000), (.int .u64 0), (.int .u64 9536743164062500000), (.int .u64 0), (.int .u64 11920928955078125000), (.int .u64 0), (.int .u64 14901161193847656250), (.int .u64 0), (.int .u64 9313225746154785157), (.int .u64 13835058055282163712), (.int .u64 11641532182693481446), (.int .u64 12682136550675316736), (.int .u64 14551915228366851807), (.int .u64 6629298651489370112), (.int .u64 18189894035458564759), (.int .u64 12898309332789100544), (.int .u64 11368683772161602974), (.int .u64 1143914305352105984), (.int .u64 14210854715202003718), (.int .u64 10653264918544908288), (.int .u64 17763568394002504647), (.int .u64 4093209111326359552), (.int .u64 11102230246251565405), (.int .u64 14087470740647444480), (.int .u64 13877787807814456756), (.int .u64 12997652407381917696), (.int .u64 17347234759768070945), (.int .u64 16247065509227397120), (.int .u64 10842021724855044341), (.int .u64 17071944970908205056), (.int .u64 13552527156068805426), (.int .u64 16728245195207868416), (.int .u64 16940658945086006782), (.int .u64 11686934457155059712), (.int .u64 10587911840678754239), (.int .u64 11916020054149300224), (.int .u64 13234889800848442798), (.int .u64 1059967012404461568), (.int .u64 16543612251060553498), (.int .u64 10548330802360352768), (.int .u64 10339757656912845936), (.int .u64 1981020733047832576), (.int .u64 12924697071141057420), (.int .u64 2476275916309790720), (.int .u64 16155871338926321775), (.int .u64 3095344895387238400), (.int .u64 10097419586828951110), (.int .u64 13463805605685493760), (.int .u64 12621774483536188887), (.int .u64 7606384970252091392), (.int .u64 15777218104420236109), (.int .u64 14119667231242502144), (.int .u64 9860761315262647568), (.int .u64 6518949010312869888), (.int .u64 12325951644078309460), (.int .u64 8148686262891087360), (.int .u64 15407439555097886825), (.int .u64 10185857828613859200), (.int .u64 9629649721936179266), (.int .u64 13283690170524743856), (.int .u64 12037062152420224082), (.int .u64 7381240676301154012), (.int .u64 15046327690525280102), (.int .u64 3178808521666707), (.int .u64 9403954806578300064), (.int .u64 4613672773753429595), (.int .u64 11754943508222875080), (.int .u64 5767090967191786994), (.int .u64 14693679385278593850), (.int .u64 7208863708989733743), (.int .u64 18367099231598242313), (.int .u64 18234451673091942987), (.int .u64 11479437019748901446), (.int .u64 18314061323323546223), (.int .u64 14349296274686126807), (.int .u64 13669204617299656970), (.int .u64 17936620343357658508), (.int .u64 3251447716342407501), (.int .u64 11210387714598536568), (.int .u64 11255526859568780496), (.int .u64 14012984643248170710), (.int .u64 14069408574460975620), (.int .u64 17516230804060213387), (.int .u64 8363388681221443717), (.int .u64 10947644252537633367), (.int .u64 7532960934977096275), (.int .u64 13684555315672041709), (.int .u64 14027887187148758248), (.int .u64 17105694144590052136), (.int .u64 12923172965508559906), (.int .u64 10691058840368782585), (.int .u64 8076983103442849941), (.int .u64 13363823550460978231), (.int .u64 5484542860876174523), (.int .u64 16704779438076222789), (.int .u64 11467364594522606057), (.int .u64 10440487148797639243), (.int .u64 4861259862362934834), (.int .u64 13050608935997049054), (.int .u64 10688260846381056446), (.int .u64 16313261169996311317), (.int .u64 4136954021121544750), (.int .u64 10195788231247694573), (.int .u64 279753253987271517), (.int .u64 12744735289059618217), (.int .u64 14184749622766253108), (.int .u64 15930919111324522771), (.int .u64 13119251010030428481), (.int .u64 9956824444577826732), (.int .u64 10505374890482711752), (.int .u64 12446030555722283415), (.int .u64 13131718613103389691), (.int .u64 15557538194652854268), (.int .u64 2579590211097073401), (.int .u64 9723461371658033918), (.int .u64 10835615918790446684), (.int .u64 12154326714572542397), (.int .u64 4321147861633282547), (.int .u64 15192908393215677996), (.int .u64 789748808614215279), (.int .u64 9495567745759798748), (.int .u64 9716965042238660357), (.int .u64 11869459682199748435), (.int .u64 12146206302798325447), (.int .u64 14836824602749685543), (.int .u64 1347699823215743097), (.int .u64 9273015376718553465), (.int .u64 12371527435578309195), (.int .u64 11591269220898191831), (.int .u64 10852723276045498590), (.int .u64 14489086526122739789), (.int .u64 18177590113484261142), (.int .u64 18111358157653424736), (.int .u64 18110301623427938524), (.int .u64 11319598848533390460), (.int .u64 11318938514642461577), (.int .u64 14149498560666738075), (.int .u64 14148673143303076971), (.int .u64 17686873200833422593), (.int .u64 3850783373846682502), (.int .u64 11054295750520889121), (.int .u64 9324268636295258420), (.int .u64 13817869688151111401), (.int .u64 7043649776941685121), (.int .u64 17272337110188889251), (.int .u64 4192876202749718497), (.int .u64 10795210693868055782), (.int .u64 4926390635932268013), (.int .u64 13494013367335069728), (.int .u64 15381360331770110824), (.int .u64 16867516709168837159), (.int .u64 779956341003086914), (.int .u64 10542197943230523225), (.int .u64 12016687759195399081), (.int .u64 13177747429038154031), (.int .u64 10409173680566860947), (.int .u64 16472184286297692539), (.int .u64 17623153119135964088), (.int .u64 10295115178936057837), (.int .u64 13320313708673671507), (.int .u64 12868893973670072296), (.int .u64 12038706117414701480), (.int .u64 16086117467087590370), (.int .u64 15048382646768376850), (.int .u64 10053823416929743981), (.int .u64 4793553135802847627), (.int .u64 12567279271162179976), (.int .u64 1380255401326171630), (.int .u64 15709099088952724970), (.int .u64 1725319251657714538), (.int .u64 9818186930595453107), (.int .u64 14913382587568235298), (.int .u64 12272733663244316383), (.int .u64 4806670179178130410), (.int .u64 15340917079055395479), (.int .u64 10620023742400050917), (.int .u64 9588073174409622175), (.int .u64 18166729885068501583), (.int .u64 11985091468012027718), (.int .u64 8873354301053463267), (.int .u64 14981364335015034647), (.int .u64 1868320839462053276), (.int .u64 9363352709384396655), (.int .u64 12696915570732253057), (.int .u64 11704190886730495818), (.int .u64 2036086408133152610), (.int .u64 14630238608413119773), (.int .u64 11768480047021216570), (.int .u64 18287798260516399716), (.int .u64 10098914040349132809), (.int .u64 11429873912822749823), (.int .u64 15535193312072983813), (.int .u64 14287342391028437278), (.int .u64 5583933584809066055), (.int .u64 17859177988785546598), (.int .u64 16203289017866108377), (.int .u64 11161986242990966624), (.int .u64 14738741654593705639), (.int .u64 13952482803738708280), (.int .u64 18423427068242132049), (.int .u64 17440603504673385349), (.int .u64 4582539761593113445), (.int .u64 10900377190420865843), (.int .u64 558244341782001951), (.int .u64 13625471488026082304), (.int .u64 5309491445654890343), (.int .u64 17031839360032602880), (.int .u64 6636864307068612929), (.int .u64 10644899600020376800), (.int .u64 4148040191917883080), (.int .u64 13306124500025471000), (.int .u64 5185050239897353851), (.int .u64 16632655625031838750), (.int .u64 6481312799871692314), (.int .u64 10395409765644899219), (.int .u64 8662506518347195600), (.int .u64 12994262207056124024), (.int .u64 15439819166361382404), (.int .u64 16242827758820155029), (.int .u64 853029884242176389), (.int .u64 10151767349262596894), (.int .u64 16674044742147217907), (.int .u64 12689709186578246117), (.int .u64 11619183890829246576), (.int .u64 15862136483222807646), (.int .u64 9912293845109170316), (.int .u64 9913835302014254779), (.int .u64 10806869671620619351), (.int .u64 12392294127517818474), (.int .u64 18120273107953162093), (.int .u64 15490367659397273092), (.int .u64 13426969348086676809), (.int .u64 9681479787123295683), (.int .u64 17615227879408948813), (.int .u64 12101849733904119603), (.int .u64 8183976793979022305), (.int .u64 15127312167380149504), (.int .u64 14841657010901165785), (.int .u64 9454570104612593440), (.int .u64 9276035631813228615), (.int .u64 11818212630765741800), (.int .u64 11595044539766535769), (.int .u64 14772765788457177250), (.int .u64 14493805674708169712), (.int .u64 9232978617785735781), (.int .u64 4446942528265218166), (.int .u64 11541223272232169726), (.int .u64 946992141904134803), (.int .u64 14426529090290212158), (.int .u64 10407112214234944312), (.int .u64 18033161362862765197), (.int .u64 3785518230938904582), (.int .u64 11270725851789228248), (.int .u64 60105885123121412), (.int .u64 14088407314736535310), (.int .u64 75132356403901765), (.int .u64 17610509143420669138), (.int .u64 9317287482359653014), (.int .u64 11006568214637918211), (.int .u64 1211618658047395230), (.int .u64 13758210268297397764), (.int .u64 6126209340986631941), (.int .u64 17197762835371747205), (.int .u64 7657761676233289927), (.int .u64 10748601772107342003), (.int .u64 2480258038432112252), (.int .u64 13435752215134177504), (.int .u64 7712008566467528219), (.int .u64 16794690268917721880), (.int .u64 9640010708084410274), (.int .u64 10496681418073576175), (.int .u64 6025006692552756421), (.int .u64 13120851772591970219), (.int .u64 12142944384118333430), (.int .u64 16401064715739962773), (.int .u64 1343622424865753076), (.int .u64 10250665447337476734), (.int .u64 16980665080036953336), (.int .u64 12813331809171845917), (.int .u64 12002459313191415863), (.int .u64 16016664761464807396), (.int .u64 10391388123061881924), (.int .u64 10010415475915504623), (.int .u64 15717989613768452011), (.int .u64 12513019344894380778), (.int .u64 5812428961928401301), (.int .u64 15641274181117975973), (.int .u64 16488908239265277435), (.int .u64 9775796363198734983), (.int .u64 7999724640327104445), (.int .u64 12219745453998418729), (.int .u64 14611341818836268460), (.int .u64 15274681817498023411), (.int .u64 13652491255117947671), (.int .u64 9546676135936264632), (.int .u64 10838650043662411246), (.int .u64 11933345169920330790), (.int .u64 13548312554578014058), (.int .u64 14916681462400413487), (.int .u64 7712018656367741764), (.int .u64 9322925914000258430), (.int .u64 16349226706298308362), (.int .u64 11653657392500323037), (.int .u64 11213161346018109645), (.int .u64 14567071740625403796), (.int .u64 9404765664095249153), (.int .u64 18208839675781754745), (.int .u64 11755957080119061441), (.int .u64 11380524797363596716), (.int .u64 14265002202715495256), (.int .u64 14225655996704495895), (.int .u64 17831252753394369071), (.int .u64 17782069995880619868), (.int .u64 8454007886460797626), (.int .u64 11113793747425387418), (.int .u64 14507126965892774324), (.int .u64 13892242184281734272), (.int .u64 8910536670511192098), (.int .u64 17365302730352167840), (.int .u64 11138170838138990122), (.int .u64 10853314206470104900), (.int .u64 6961356773836868826), (.int .u64 13566642758087631125), (.int .u64 8701695967296086033), (.int .u64 16958303447609538906), (.int .u64 6265433940692719637), (.int .u64 10598939654755961817), (.int .u64 17750954268215113485), (.int .u64 13248674568444952271), (.int .u64 17577006816841503952), (.int .u64 16560843210556190338), (.int .u64 8136200465769716229), (.int .u64 10350527006597618961), (.int .u64 473439272678684739), (.int .u64 12938158758247023702), (.int .u64 14426857146130519635), (.int .u64 16172698447808779627), (.int .u64 8810199395808373736), (.int .u64 10107936529880487267), (.int .u64 7812217631593927537), (.int .u64 12634920662350609084), (.int .u64 14376958057919797325), (.int .u64 15793650827938261355), (.int .u64 17971197572399746657), (.int .u64 9871031767461413347), (.int .u64 13537841491963535612), (.int .u64 12338789709326766683), (.int .u64 3087243809672255804), (.int .u64 15423487136658458354), (.int .u64 8470740780517707659), (.int .u64 9639679460411536471), (.int .u64 682526969396179382), (.int .u64 12049599325514420589), (.int .u64 5464844730172612132), (.int .u64 15061999156893025736), (.int .u64 2219369894288377261), (.int .u64 9413749473058141085), (.int .u64 1387106183930235788), (.int .u64 11767186841322676357), (.int .u64 15568940785194958447), (.int .u64 14708983551653345446), (.int .u64 14849489963066310155), (.int .u64 18386229439566681807), (.int .u64 9338490416978111886), (.int .u64 11491393399729176130), (.int .u64 17365771556679789689), (.int .u64 14364241749661470162), (.int .u64 12483842408994961303), (.int .u64 17955302187076837702), (.int .u64 6381430974388925821), (.int .u64 11222063866923023564), (.int .u64 8600080377420466542), (.int .u64 14027579833653779455), (.int .u64 10750100471775583178), (.int .u64 17534474792067224319), (.int .u64 18049311608146866876), (.int .u64 10959046745042015199), (.int .u64 4363290727450709941), (.int .u64 13698808431302518999), (.int .u64 10065799427740775331), (.int .u64 17123510539128148749), (.int .u64 17193935303103357068), (.int .u64 10702194086955092968), (.int .u64 8440366555225904215), (.int .u64 13377742608693866210), (.int .u64 10550458194032380269), (.int .u64 16722178260867332762), (.int .u64 3964700705685699528), (.int .u64 10451361413042082977), (.int .u64 16312995996335725917), (.int .u64 13064201766302603721), (.int .u64 15779558976992269492), (.int .u64 16330252207878254651), (.int .u64 15112762702812948962), (.int .u64 10206407629923909157), (.int .u64 11751319698471787053), (.int .u64 12758009537404886446), (.int .u64 10077463604662345912), (.int .u64 15947511921756108057), (.int .u64 3373457468973156582), (.int .u64 9967194951097567536), (.int .u64 9025939945749304720), (.int .u64 12458993688871959420), (.int .u64 11282424932186630900), (.int .u64 15573742111089949275), (.int .u64 14103031165233288625), (.int .u64 9733588819431218297), (.int .u64 11120237487484499342), (.int .u64 12166986024289022871), (.int .u64 9288610840928236274), (.int .u64 15208732530361278589), (.int .u64 16222449569587683247), (.int .u64 9505457831475799118), (.int .u64 7833187971778608077), (.int .u64 11881822289344748897), (.int .u64 568112927868484288), (.int .u64 14852277861680936122), (.int .u64 14545199215117769073), (.int .u64 9282673663550585076), (.int .u64 4479063491021217766), (.int .u64 11603342079438231345), (.int .u64 5598829363776522208), (.int .u64 14504177599297789181), (.int .u64 2386850686293264856), (.int .u64 18130221999122236477), (.int .u64 16818621413148744782), (.int .u64 11331388749451397798), (.int .u64 8205795374004271537), (.int .u64 14164235936814247247), (.int .u64 1033872180650563613), (.int .u64 17705294921017809059), (.int .u64 5904026244240592420), (.int .u64 11065809325636130662), (.int .u64 5995859411864064214), (.int .u64 13832261657045163328), (.int .u64 16718196301684856076), (.int .u64 17290327071306454159), (.int .u64 2451001303396518479), (.int .u64 10806454419566533850), (.int .u64 13061090860691293809), (.int .u64 13508068024458167312), (.int .u64 7102991539009341454), (.int .u64 16885085030572709140), (.int .u64 8878739423761676818), (.int .u64 10553178144107943213), (.int .u64 14772584176705823819), (.int .u64 13191472680134929016), (.int .u64 13854044202454891870), (.int .u64 16489340850168661270), (.int .u64 17317555253068614837), (.int .u64 10305838031355413294), (.int .u64 15435158051595272177), (.int .u64 12882297539194266617), (.int .u64 10070575527639314413), (.int .u64 16102871923992833271), (.int .u64 7976533391121755113), (.int .u64 10064294952495520795), (.int .u64 16514548415519566705), (.int .u64 12580368690619400993), (.int .u64 6808127464117294670), (.int .u64 15725460863274251241), (.int .u64 3898473311719230433), (.int .u64 9828413039546407026), (.int .u64 9354074847465600877), (.int .u64 12285516299433008782), (.int .u64 2469221522477225288), (.int .u64 15356895374291260978), (.int .u64 12309898939951307418), (.int .u64 9598059608932038111), (.int .u64 3082000819042179232), (.int .u64 11997574511165047639), (.int .u64 8464187042230111944), (.int .u64 14996968138956309549), (.int .u64 15191919821215027834), (.int .u64 9373105086847693468), (.int .u64 7189106879045698444), (.int .u64 11716381358559616835), (.int .u64 8986383598807123056), (.int .u64 14645476698199521044), (.int .u64 15844665516936291724), (.int .u64 18306845872749401304), (.int .u64 1359087822460813039), (.int .u64 11441778670468375815), (.int .u64 849429889038008149), (.int .u64 14302223338085469769), (.int .u64 5673473379724898090), (.int .u64 17877779172606837211), (.int .u64 2480155706228734709), (.int .u64 11173611982879273257), (.int .u64 3855940325606653145), (.int .u64 13967014978599091571), (.int .u64 208239388580928527), (.int .u64 17458768723248864464), (.int .u64 4871985254153548563), (.int .u64 10911730452030540290), (.int .u64 3044990783845967852), (.int .u64 13639663065038175363), (.int .u64 13029610516662235623), (.int .u64 17049578831297719203), (.int .u64 2451955090545630817), (.int .u64 10655986769561074502), (.int .u64 3838314940804713212), (.int .u64 13319983461951343128), (.int .u64 14021265712860667324), (.int .u64 16649979327439178910), (.int .u64 17526582141075834155), (.int .u64 10406237079649486819), (.int .u64 15565799856599784250), (.int .u64 13007796349561858523), (.int .u64 5622191765467566601), (.int .u64 16259745436952323154), (.int .u64 11639425725261846156), (.int .u64 10162340898095201971), (.int .u64 2662955059861265943), (.int .u64 12702926122619002464), (.int .u64 7940379843253970333), (.int .u64 15878657653273753080), (.int .u64 9925474804067462916), (.int .u64 9924161033296095675), (.int .u64 6203421752542164322), (.int .u64 12405201291620119594), (.int .u64 12365963209105093307), (.int .u64 15506501614525149492), (.int .u64 6234081974526590826), (.int .u64 9691563509078218433), (.int .u64 13119673270933895074), (.int .u64 12114454386347773041), (.int .u64 11787905570239980939), (.int .u64 15143067982934716301), (.int .u64 10123195944372588270), (.int .u64 9464417489334197688), (.int .u64 4021154456019173716), (.int .u64 11830521861667747110), (.int .u64 5026443070023967146), (.int .u64 14788152327084683888), (.int .u64 15506425874384734740), (.int .u64 9242595204427927430), (.int .u64 9691516171490459212), (.int .u64 11553244005534909287), (.int .u64 2891023177508298208), (.int .u64 14441555006918636609), (.int .u64 8225464990312760664), (.int .u64 18051943758648295761), (.int .u64 5670145219463562926), (.int .u64 11282464849155184851), (.int .u64 10461369789805808684), (.int .u64 14103081061443981064), (.int .u64 17688398255684648759), (.int .u64 17628851326804976329), (.int .u64 3663753745896259333), (.int .u64 11018032079253110206), (.int .u64 9207375118826243939), (.int .u64 13772540099066387757), (.int .u64 2285846861678029116), (.int .u64 17215675123832984697), (.int .u64 16692366632379700107), (.int .u64 10759796952395615436), (.int .u64 17350258172878394423), (.int .u64 13449746190494519294), (.int .u64 3241078642388441413), (.int .u64 16812182738118149118), (.int .u64 13274720339840327574), (.int .u64 10507614211323843199), (.int .u64 12908386230827592638), (.int .u64 13134517764154803998), (.int .u64 2300424733252327085), (.int .u64 16418147205193504998), (.int .u64 12098902953420184665), (.int .u64 10261342003245940624), (.int .u64 12173500364315003319), (.int .u64 12826677504057425780), (.int .u64 15216875455393754149), (.int .u64 16033346880071782224), (.int .u64 574350245532641070), (.int .u64 10020841800044863890), (.int .u64 358968903457900669), (.int .u64 12526052250056079863), (.int .u64 9672083166177151644), (.int .u64 15657565312570099829), (.int .u64 16701789976148827459), (.int .u64 9785978320356312393), (.int .u64 8132775725879323210), (.int .u64 12232472900445390491), (.int .u64 5554283638921766109), (.int .u64 15290591125556738114), (.int .u64 11554540567079595540), (.int .u64 9556619453472961321), (.int .u64 2609901835997359308), (.int .u64 11945774316841201652), (.int .u64 17097435350278862847), (.int .u64 14932217896051502064), (.int .u64 2925050114139026943), (.int .u64 9332636185032188790), (.int .u64 1828156321336891839), (.int .u64 11665795231290235988), (.int .u64 11508567438525890607), (.int .u64 14582244039112794985), (.int .u64 14385709298157363259), (.int .u64 18227805048890993731), (.int .u64 13370450604269316170), (.int .u64 11392378155556871082), (.int .u64 10662374636882016558), (.int .u64 14240472694446088852), (.int .u64 4104596259247744890), (.int .u64 17800590868057611065), (.int .u64 5130745324059681112), (.int .u64 11125369292536006916), (.int .u64 10124244855178382551), (.int .u64 13906711615670008645), (.int .u64 12655306068972978189), (.int .u64 17383389519587510806), (.int .u64 11207446567788834832), (.int .u64 10864618449742194254), (.int .u64 11616340123295409674), (.int .u64 13580773062177742817), (.int .u64 5297053117264486285), (.int .u64 16975966327722178521), (.int .u64 2009630378153219952), (.int .u64 10609978954826361576), (.int .u64 8173548013986844326), (.int .u64 13262473693532951970), (.int .u64 10216935017483555407), (.int .u64 16578092116916189962), (.int .u64 3547796734999668451), (.int .u64 10361307573072618727), (.int .u64 16052431014656956494), (.int .u64 12951634466340773408), (.int .u64 6230480713039031906), (.int .u64 16189543082925966760), (.int .u64 7788100891298789882), (.int .u64 10118464426828729225), (.int .u64 4867563057061743676), (.int .u64 12648080533535911531), (.int .u64 1472767802899791691), (.int .u64 15810100666919889414), (.int .u64 6452645772052127518), (.int .u64 9881312916824930884), (.int .u64 8644589625959967603), (.int .u64 12351641146031163605), (.int .u64 10805737032449959503), (.int .u64 15439551432538954506), (.int .u64 8895485272135061475), (.int .u64 9649719645336846566), (.int .u64 947992276657025518), (.int .u64 12062149556671058208), (.int .u64 10408362382676057706), (.int .u64 15077686945838822760), (.int .u64 13010452978345072132)]
def L12 : List AV := [(.isl false 61 [(.int .i64 0), (.str ⟨0, 0⟩), (.int .i64 1), (.str ⟨1, 53⟩), (.int .i64 1), (.str ⟨2, 12853⟩), (.int .i64 1), (.str ⟨3, 3224117⟩), (.int .i64 2), (.str ⟨3, 3551797⟩), (.int .i64 2), (.str ⟨4, 858862133⟩), (.int .i64 2), (.str ⟨5, 211346141749⟩), (.int .i64 3), (.str ⟨5, 237165949493⟩), (.int .i64 3), (.str ⟨6, 56320715010613⟩), (.int .i64 3), (.str ⟨7, 13855174513734197⟩), (.int .i64 4), (.str ⟨7, 16104779633013301⟩), (.int .i64 4), (.str ⟨8, 3762819277010317877⟩), (.int .i64 4), (.str ⟨9, 926098889374455706165⟩), (.int .i64 4), (.str ⟨10, 232321911315479028380213⟩), (.int .i64 5), (.str ⟨10, 255915153712795704767029⟩), (.int .i64 5), (.str ⟨11, 61882871615321480346284597⟩), (.int .i64 5), (.str ⟨12, 15229075649737831310756819509⟩), (.int .i64 6), (.str ⟨12, 17087194707912763211705823797⟩), (.int .i64 6), (.str ⟨13, 4058026932705941766343040053813⟩), (.int .i64 6), (.str ⟨14, 998368997855440393183541169566261⟩), (.int .i64 7), (.str ⟨14, 1160312289299589447884762502279733⟩), (.int .i64 7), (.str ⟨15, 271119264885864053508690603370689077⟩), (.int .i64 7), (.str ⟨16, 66727346879066041720794676105609359925⟩), (.int .i64 7), (.str ⟨17, 16739265129781515413279296827202942874165⟩), (.int .i64 8), (.str ⟨17, 18111012804292140376282816517324185940533⟩), (.int .i64 8), (.str ⟨18, 4375085078518695641118686847533672800793141⟩), (.int .i64 8), (.str ⟨19, 1097285813749731035613088171922680900199264821⟩), (.int .i64 9), (.str ⟨19, 1231088923832357780888435803671892581770408501⟩), (.int .i64 9), (.str ⟨20, 292389444013955373075705668808379106306483958325⟩), (.int .i64 9), (.str ⟨21, 71934492326680039106220219481768442228860064444981⟩), (.int .i64 10), (.str ⟨21, 83597849053495648730891275674016062263181815722549⟩), (.int .i64 10), (.str ⟨22, 19534734670036746818441066187532673093486340599788085⟩), (.int .i64 10), (.str ⟨23, 4808203326509782501634187698716543018273628881495142965⟩), (.int .i64 10), (.str ⟨24, 1206190051710405200262574585754698920892778006444975927861⟩), (.int .i64 11), (.str ⟨24, 1304938730735544243441872786147391590842920869609698898485⟩), (.int .i64 11), (.str ⟨25, 315257434003987178661578512269096091370564766353373394973237⟩), (.int .i64 11), (.str ⟨26, 79067678109957427352151011445180172408221578223536037946602037⟩), (.int .i64 12), (.str ⟨26, 88696801214885246975181874593968289725422454598636396434502197⟩), (.int .i64 12), (.str ⟨27, 21067279246500118667315039233717827797865205892892509222093599285⟩), (.int .i64 12), (.str ⟨28, 5183418448446685975133649109293035139197409043877058368274315686453⟩), (.int .i64 13), (.str ⟨28, 6022638603076064308993901705091280463778008391913167583139935433269⟩), (.int .i64 13), (.str ⟨29, 1407520258418867201186420752279397624577895295116191961617564806754869⟩), (.int .i64 13), (.str ⟨30, 346441127917813651838872432873490067313892427699106527362455536519230005⟩), (.int .i64 13), (.str ⟨31, 86915072412401535790272508065545485736744735039205570865779538251777913397⟩), (.int .i64 14), (.str ⟨31, 94017103990297639953870345760040316424806965076533296505163485495915065909⟩), (.int .i64 14), (.str ⟨32, 22714946108781280879495140244800526539142335764685343699332311902877597643317⟩), (.int .i64 14), (.str ⟨33, 5697421322593630155103775758099769606577222339146608684010974236637064202695221⟩), (.int .i64 15), (.str ⟨33, 6390813413491842092925202522353142123024325087418981089136296731056669472141877⟩), (.int .i64 15), (.str ⟨34, 1517942559116228637535484805598862344713803277037787293808235413263562430515393077⟩), (.int .i64 15), (.str ⟨35, 373475713349320697515133370064006427826870803918961168293338259679706719808461550133⟩), (.int .i64 16), (.str ⟨35, 426625322183575762987518873335336183341516607929067355355537091965075792329648255541⟩), (.int .i64 16), (.str ⟨36, 101414934022214049640489382129228342389443676312549193328574129750847713786244996608565⟩), (.int .i64 16), (.str ⟨37, 24963676121516628598065694199442301579209192655535201325206330637852515385918906273509941⟩), (.int .i64 16), (.str ⟨38, 6262887072622531037521349411170852428436629288058426800499502266485240362408358971628925493⟩), (.int .i64 17), (.str ⟨38, 6774143137886153308288646705971775195111369292584574961663572128640161877329471306053595701⟩), (.int .i64 17), (.str ⟨39, 1636658548379463119958881904347429397281760507019540474160182252269030736772074185177972159029⟩), (.int .i64 17), (.str ⟨40, 410510647036886635075984577122970211327153535580615043538301756038715812606303876452866030187061⟩), (.int .i64 18), (.str ⟨40, 452424063211483350676971807503946837556884750602525200323977379017572502921690311089367916032565⟩), (.int .i64 18), (.str ⟨41, 109370978480624306303439322523151159940052311472962721033343543752688724212877290003219857387434549⟩), (.int .i64 18), (.str ⟨42, 26911727896076067610017702360371068139679796446052153534530896920778965331266841072025490056557965877⟩), (.int .i64 19), (.str ⟨42, 30737314019487473901785612371462289007577036383737019313747978217470790518082609496522742190835118645⟩)])]
def L13 : List AV := [(.isl false 11 [(.float .f32 1065353216), (.float .f32 1092616192), (.float .f32 1120403456), (.float .f32 1148846080), (.float .f32 1176256512), (.float .f32 1203982336), (.float .f32 1232348160), (.float .f32 1259902592), (.float .f32 1287568416), (.float .f32 1315859240), (.float .f32 1343554297)])]
def L14 : List AV := [(.isl false 9 [(.int .i64 1), (.int .i64 3), (.int .i64 6), (.int .i64 9), (.int .i64 13), (.int .i64 16), (.int .i64 19), (.int .i64 23), (.int .i64 26)])]
def L15 : List AV := [(.isl false 23 [(.float .f64 4607182418800017408), (.float .f64 4621819117588971520), (.float .f64 4636737291354636288), (.float .f64 4652007308841189376), (.float .f64 4666723172467343360), (.float .f64 4681608360884174848), (.float .f64 4696837146684686336), (.float .f64 4711630319722168320), (.float .f64 4726483295884279808), (.float .f64 4741671816366391296), (.float .f64 4756540486875873280), (.float .f64 4771362005757984768), (.float .f64 4786511204640096256), (.float .f64 4801453603149578240), (.float .f64 4816244402031689728), (.float .f64 4831355200913801216), (.float .f64 4846369599423283200), (.float .f64 4861130398305394688), (.float .f64 4876203697187506176), (.float .f64 4891288408196988160), (.float .f64 4906019910204099648), (.float .f64 4921056587992461136), (.float .f64 4936209963552724370)])]
def L16 : List AV := [(.int .u8 0), (.int .u8 1), (.int .u8 28), (.int .u8 2), (.int .u8 29), (.int .u8 14), (.int .u8 24), (.int .u8 3), (.int .u8 30), (.int .u8 22), (.int .u8 20), (.int .u8 15), (.int .u8 25), (.int .u8 17), (.int .u8 4), (.int .u8 8), (.int .u8 31), (.int .u8 27), (.int .u8 13), (.int .u8 23), (.int .u8 21), (.int .u8 19), (.int .u8 16), (.int .u8 7), (.int .u8 26), (.int .u8 12), (.int .u8 18), (.int .u8 6), (.int .u8 11), (.int .u8 5), (.int .u8 10), (.int .u8 9)]
def L17 : List AV := [(.int .u8 0), (.int .u8 1), (.int .u8 56), (.int .u8 2), (.int .u8 57), (.int .u8 49), (.int .u8 28), (.int .u8 3), (.int .u8 61), (.int .u8 58), (.int .u8 42), (.int .u8 50), (.int .u8 38), (.int .u8 29), (.int .u8 17), (.int .u8 4), (.int .u8 62), (.int .u8 47), (.int .u8 59), (.int .u8 36), (.int .u8 45), (.int .u8 43), (.int .u8 51), (.int .u8 22), (.int .u8 53), (.int .u8 39), (.int .u8 33), (.int .u8 30), (.int .u8 24), (.int .u8 18), (.int .u8 12), (.int .u8 5), (.int .u8 63), (.int .u8 55), (.int .u8 48), (.int .u8 27), (.int .u8 60), (.int .u8 41), (.int .u8 37), (.int .u8 16), (.int .u8 46), (.int .u8 35), (.int .u8 44), (.int .u8 21), (.int .u8 52), (.int .u8 32), (.int .u8 23), (.int .u8 11), (.int .u8 54), (.int .u8 26), (.int .u8 40), (.int .u8 15), (.int .u8 34), (.int .u8 20), (.int .u8 31), (.int .u8 10), (.int .u8 25), (.int .u8 14), (.int .u8 19), (.int .u8 9), (.int .u8 13), (.int .u8 8), (.int .u8 7), (.int .u8 6)]
def globT : T AV := (.node (.node (.node (.node (.node .nil (some (.iptr false L15)) .nil) (some (.iptr false L7)) .nil) (some (.iptr false L3)) (.node .nil (some (.iptr false L11)) .nil)) none (.node (.node (.node .nil (some (.iptr false L17)) .nil) (some (.iptr false L9)) .nil) (some (.iptr false L5)) (.node .nil (some (.iptr false L13)) .nil))) none (.node (.node (.node (.node .nil (some (.iptr false L16)) .nil) (some (.iptr false L8)) .nil) (some (.iptr false L4)) (.node .nil (some (.iptr false L12)) .nil)) (some (.iptr false L2)) (.node (.node .nil (some (.iptr false L10)) .nil) (some (.iptr false L6)) (.node .nil (some (.iptr false L14)) .nil))))
def C : Ctx := { fns := fun i => fnsT.get i, glob := fun g => (globT.get g).getD .dead }
def pur (f : Nat) : Bool := match fnsT.get f with | some x => x.pure | none => false
end Go.Proofs.YtmadknpaljaecaaGreatDoor.Ev.D
namespace Go.Proofs.YtmadknpaljaecaaGreatDoor.Ev
open Go

/-- Where the abstract blocks lie, and what the machine may not change. -/
structure Env where
  /-- the machine's block of an abstract block -/
  β : Nat → Nat
  /-- the cells of the machine's block -/
  csz : Nat → Nat
  /-- abstract blocks are below -/
  nx : Nat
  /-- machine blocks that never change again -/
  I : Nat → Prop
  /-- machine blocks that do not change during this call -/
  B : Nat → Prop

/-- nothing that may change, nothing borrowed (but where w is true) -/
inductive Clean (w : Bool) : AV → Prop
  | undef : Clean w .undef
  | bool {b} : Clean w (.bool b)
  | int {k n} : Clean w (.int k n)
  | float {k b} : Clean w (.float k b)
  | nan {k} : Clean w (.nan k)
  | str {s} : Clean w (.str s)
  | nilPtr : Clean w .nilPtr
  | nilSl : Clean w .nilSl
  | nilMap : Clean w .nilMap
  | nilFn : Clean w .nilFn
  | nilIf : Clean w .nilIf
  | agg {cs} : (∀ c ∈ cs, Clean w c) → Clean w (.agg cs)
  | tup {cs} : (∀ c ∈ cs, Clean w c) → Clean w (.tup cs)
  | iface {t v} : Clean w v → Clean w (.iface t v)
  | fn {f a b} : (∀ c ∈ a, Clean w c) → (∀ c ∈ b, Clean w c) → Clean w (.fn f a b)
  | iptr {b cs} : (b = true → w = true) → (∀ c ∈ cs, Clean w c) → Clean w (.iptr b cs)
  | isl {b len cs} : (b = true → w = true) → (∀ c ∈ cs, Clean w c) → Clean w (.isl b len cs)
  | imap {b ks vs} : (b = true → w = true) → (∀ c ∈ ks, Clean w c) → (∀ c ∈ vs, Clean w c) → Clean w (.imap b ks vs)

/-- may a block be read as immutable under this tag? -/
def Env.still (E : Env) (w : Bool) (b : Nat) : Prop := E.I b ∨ (w = true ∧ E.B b)

/-- what one cell can hold -/
def Flat : Value → Prop
  | .agg _ | .tuple _ => False
  | _ => True

/-- the cells from a place on -/
def Reads (W : World) (bl off : Nat) (xs : List Value) : Prop :=
  ∃ (c : Array Value) (e : TypeId) (fz : Nat × Nat), W.heap[bl]? = some (.cells c e fz) ∧ ∀ i x, xs[i]? = some x → c[off + i]? = some x ∧ Flat x

mutual
/-- an abstract value tells a value of the machine -/
inductive VR (E : Env) (W : World) : AV → Value → Prop
  | dead {v} : VR E W .dead v
  | undef : VR E W .undef Go.undef
  | bool {b} : VR E W (.bool b) (.bool b)
  | int {k n} : VR E W (.int k n) (.int k n)
  | float {k b} : VR E W (.float k b) (.float k b)
  | nan {k b} : (k.decode b).isNaN = true → VR E W (.nan k) (.float k b)
  | str {s : BStr} {x : ByteArray} : s = BStr.ofBytes x.data.toList → VR E W (.str s) (.string x)
  | nilPtr : VR E W .nilPtr (.pointer none)
  | nilSl : VR E W .nilSl (.slice none 0 0)
  | nilMap : VR E W .nilMap (.map none)
  | nilFn : VR E W .nilFn .nilFunc
  | nilIf : VR E W .nilIf .nilIface
  | agg {cs : List AV} {c : Array Value} : VRs E W cs c.toList → (∀ x ∈ c.toList, Flat x) → VR E W (.agg cs) (.agg c)
  | tup {cs : List AV} {c : Array Value} : VRs E W cs c.toList → VR E W (.tup cs) (.tuple c)
  | ref {b off} : b < E.nx → VR E W (.ref b off) (.pointer (some ⟨E.β b, off, none⟩))
  | slc {b off len es c} : b < E.nx → len ≤ c → VR E W (.sl b off len es (some c)) (.slice (some ⟨E.β b, off, none⟩) len c)
  | slo {b off len es c} : b < E.nx → len ≤ c → off + c * es = E.csz b → VR E W (.sl b off len es none) (.slice (some ⟨E.β b, off, none⟩) len c)
  | iptr {w cs bl off} {xs : List Value} : E.still w bl → (∀ c ∈ cs, Clean w c) → Reads W bl off xs → VRs E W cs xs → VR E W (.iptr w cs) (.pointer (some ⟨bl, off, none⟩))
  | isl {w len cs bl off c} {xs : List Value} : ((len = 0 ∧ cs = []) ∨ (E.still w bl ∧ Reads W bl off xs)) → (∀ c ∈ cs, Clean w c) → len ≤ c → VRs E W cs xs → VR E W (.isl w len cs) (.slice (some ⟨bl, off, none⟩) len c)
  | iface {t v x} : VR E W v x → VR E W (.iface t v) (.iface t x)
  | fn {f} {a b : List AV} {x y : Array Value} : VRs E W a x.toList → VRs E W b y.toList → VR E W (.fn f a b) (.func (.func f) x y)
  | mref {b} : b < E.nx → VR E W (.mref b) (.map (some (E.β b)))
  | imap {w ks vs r clock} {es : Array MapEntry} : E.still w r → (∀ c ∈ ks, Clean w c) → (∀ c ∈ vs, Clean w c) → W.heap[r]? = some (.map es clock) →
      VRs E W ks (es.toList.map (·.key)) → VRs E W vs (es.toList.map (·.val)) → VR E W (.imap w ks vs) (.map (some r))
inductive VRs (E : Env) (W : World) : List AV → List Value → Prop
  | nil : VRs E W [] []
  | cons {v r x xs} : VR E W v x → VRs E W r xs → VRs E W (v :: r) (x :: xs)
end

/-- one step on: more blocks, more that is still -/
structure Env.le (E E' : Env) : Prop where
  nx : E.nx ≤ E'.nx
  β : ∀ b, b < E.nx → E'.β b = E.β b
  csz : ∀ b, b < E.nx → E'.csz b = E.csz b
  I : ∀ b, E.I b → E'.I b
  B : ∀ b, E.B b → E'.B b

theorem Env.le.refl (E : Env) : E.le E := ⟨Nat.le_refl _, fun _ _ => rfl, fun _ _ => rfl, fun _ h => h, fun _ h => h⟩
theorem Env.le.trans {E E' E'' : Env} (h : E.le E') (h' : E'.le E'') : E.le E'' :=
  ⟨Nat.le_trans h.nx h'.nx, fun b hb => (h'.β b (Nat.lt_of_lt_of_le hb h.nx)).trans (h.β b hb),
   fun b hb => (h'.csz b (Nat.lt_of_lt_of_le hb h.nx)).trans (h.csz b hb), fun b hb => h'.I b (h.I b hb), fun b hb => h'.B b (h.B b hb)⟩
theorem Env.still.mono {E E' : Env} (h : E.le E') {w b} (hs : E.still w b) : E'.still w b :=
  hs.elim (fun hi => .inl (h.I b hi)) fun ⟨hw, hb⟩ => .inr ⟨hw, h.B b hb⟩

/-- the outside is as it was -/
abbrev Out0 (W W' : World) : Prop := W'.os = W.os ∧ W'.output = W.output
theorem freeze_out (W : World) (a : Addr) (n : Nat) : Out0 W (W.freeze a n) := by
  unfold World.freeze; split <;> exact ⟨rfl, rfl⟩
/-- what is still stays -/
structure Keep (E : Env) (W W' : World) : Prop where
  size : W.heap.size ≤ W'.heap.size
  same : ∀ b, E.still true b → W'.heap[b]? = W.heap[b]?
  out : Out0 W W'

theorem Keep.refl (E : Env) (W : World) : Keep E W W := ⟨Nat.le_refl _, fun _ _ => rfl, rfl, rfl⟩
theorem Env.still.true {E : Env} {w b} (h : E.still w b) : E.still true b := h.elim .inl fun ⟨_, hb⟩ => .inr ⟨rfl, hb⟩
theorem Keep.trans {E E' : Env} {W W' W'' : World} (hl : E.le E') (h : Keep E W W') (h' : Keep E' W' W'') : Keep E W W'' :=
  ⟨Nat.le_trans h.size h'.size, fun b hb => (h'.same b (hb.mono hl)).trans (h.same b hb), h'.out.1.trans h.out.1, h'.out.2.trans h.out.2⟩

theorem Reads.keep {E : Env} {W W' : World} (hk : Keep E W W') {w bl off xs} (hs : E.still w bl) (h : Reads W bl off xs) : Reads W' bl off xs := by
  obtain ⟨c, e, fz, h1, h2⟩ := h
  exact ⟨c, e, fz, (hk.same bl hs.true).trans h1, h2⟩

mutual
theorem VR.mono {E E' : Env} {W W' : World} (hl : E.le E') (hk : Keep E W W') : ∀ {v x}, VR E W v x → VR E' W' v x
  | _, _, .dead => .dead
  | _, _, .undef => .undef
  | _, _, .bool => .bool
  | _, _, .int => .int
  | _, _, .float => .float
  | _, _, .nan h => .nan h
  | _, _, .str h => .str h
  | _, _, .nilPtr => .nilPtr
  | _, _, .nilSl => .nilSl
  | _, _, .nilMap => .nilMap
  | _, _, .nilFn => .nilFn
  | _, _, .nilIf => .nilIf
  | _, _, .agg h hf => .agg (VRs.mono hl hk h) hf
  | _, _, .tup h => .tup (VRs.mono hl hk h)
  | _, _, .ref (b := b) h => by rw [← hl.β b h]; exact .ref (Nat.lt_of_lt_of_le h hl.nx)
  | _, _, .slc (b := b) h hc => by rw [← hl.β b h]; exact .slc (Nat.lt_of_lt_of_le h hl.nx) hc
  | _, _, .slo (b := b) h hc he => by rw [← hl.β b h]; exact .slo (Nat.lt_of_lt_of_le h hl.nx) hc (by rw [hl.csz b h]; exact he)
  | _, _, .iptr hs hc hr hv => .iptr (hs.mono hl) hc (hr.keep hk hs) (VRs.mono hl hk hv)
  | _, _, .isl hs hc hle hv => .isl (hs.imp id fun ⟨a, b⟩ => ⟨a.mono hl, b.keep hk a⟩) hc hle (VRs.mono hl hk hv)
  | _, _, .iface h => .iface (VR.mono hl hk h)
  | _, _, .fn h h' => .fn (VRs.mono hl hk h) (VRs.mono hl hk h')
  | _, _, .mref (b := b) h => by rw [← hl.β b h]; exact .mref (Nat.lt_of_lt_of_le h hl.nx)
  | _, _, .imap hs hc hc' hm hk' hv => .imap (hs.mono hl) hc hc' ((hk.same _ hs.true).trans hm) (VRs.mono hl hk hk') (VRs.mono hl hk hv)
theorem VRs.mono {E E' : Env} {W W' : World} (hl : E.le E') (hk : Keep E W W') : ∀ {vs xs}, VRs E W vs xs → VRs E' W' vs xs
  | _, _, .nil => .nil
  | _, _, .cons h hr => .cons (VR.mono hl hk h) (VRs.mono hl hk hr)
end

/-- a block of the memory -/
def BR (E : Env) (W : World) (b : Nat) : Blk → Prop
  | .cells n d cs e op => ∃ (c : Array Value) (fz : Nat × Nat), W.heap[E.β b]? = some (.cells c e fz) ∧ n ≤ c.size ∧ c.size = E.csz b ∧
      (op = false → c.size = n) ∧ (∀ i, i < n → ∃ x, c[i]? = some x ∧ Flat x ∧ VR E W ((cs.get i).getD d) x) ∧ (∀ i, i < c.size → ¬ (fz.1 ≤ i ∧ i < fz.2))
  | .siter s pos => ∃ x : ByteArray, s = BStr.ofBytes x.data.toList ∧ W.heap[E.β b]? = some (.stringIter x pos)
  | .amap ks vs => ∃ (es : Array MapEntry) (clock : Nat), W.heap[E.β b]? = some (.map es clock) ∧ VRs E W ks (es.toList.map (·.key)) ∧ VRs E W vs (es.toList.map (·.val)) ∧ ∀ e ∈ es.toList, e.born < clock

structure HR (E : Env) (W : World) (h : Heap) : Prop where
  nx : E.nx = h.next
  lt : ∀ b x, h.get b = some x → b < h.next
  blk : ∀ b x, h.get b = some x → BR E W b x
  inj : ∀ b b' x x', h.get b = some x → h.get b' = some x' → E.β b = E.β b' → b = b'
  apart : ∀ b x, h.get b = some x → ¬ E.still true (E.β b)
  there : ∀ i, E.still true i → i < W.heap.size

theorem VRs.length {E W} : ∀ {vs xs}, VRs E W vs xs → vs.length = xs.length
  | _, _, .nil => rfl
  | _, _, .cons _ h => by simp [VRs.length h]

theorem VRs.get {E W} : ∀ {vs xs}, VRs E W vs xs → ∀ {i : Nat} {v : AV}, vs[i]? = some v → ∃ x : Value, xs[i]? = some x ∧ VR E W v x
  | _, _, .nil, i, v, h => by simp at h
  | _, _, .cons h hr, 0, v, e => by simp at e; subst e; exact ⟨_, by simp, h⟩
  | _, _, .cons h hr, i + 1, v, e => by simp at e; obtain ⟨x, h1, h2⟩ := VRs.get hr e; exact ⟨x, by simpa using h1, h2⟩

theorem VRs.append {E W} : ∀ {vs xs ws ys}, VRs E W vs xs → VRs E W ws ys → VRs E W (vs ++ ws) (xs ++ ys)
  | _, _, _, _, .nil, h => h
  | _, _, _, _, .cons h hr, h' => .cons h (VRs.append hr h')

theorem VRs.take {E W} : ∀ {vs xs}, VRs E W vs xs → ∀ n, VRs E W (vs.take n) (xs.take n)
  | _, _, .nil, n => by simp; exact .nil
  | _, _, .cons h hr, 0 => .nil
  | _, _, .cons h hr, n + 1 => .cons h (VRs.take hr n)

theorem VRs.drop {E W} : ∀ {vs xs}, VRs E W vs xs → ∀ n, VRs E W (vs.drop n) (xs.drop n)
  | _, _, .nil, n => by simp; exact .nil
  | _, _, .cons h hr, 0 => .cons h hr
  | _, _, .cons h hr, n + 1 => VRs.drop hr n

theorem VRs.of_get {E W} : ∀ {vs : List AV} {xs : List Value}, vs.length = xs.length → (∀ (i : Nat) (v : AV) (x : Value), vs[i]? = some v → xs[i]? = some x → VR E W v x) → VRs E W vs xs
  | [], [], _, _ => .nil
  | v :: r, x :: xs, hl, h => .cons (h 0 v x rfl rfl) (VRs.of_get (by simpa using hl) fun i v x h1 h2 => h (i + 1) v x (by simpa using h1) (by simpa using h2))

/-! The trees. -/
theorem beq_cases (a b : Nat) : (a = b ∧ Nat.beq a b = true) ∨ (a ≠ b ∧ Nat.beq a b = false) := by
  cases h : Nat.beq a b
  · exact .inr ⟨fun e => by subst e; simp at h, rfl⟩
  · exact .inl ⟨Nat.eq_of_beq_eq_true h, rfl⟩

namespace T
variable {α : Type}
theorem get_zero (l : T α) (x : Option α) (r : T α) : (node l x r).get 0 = x := rfl
theorem get_even (l : T α) (x : Option α) (r : T α) (m : Nat) (h : m % 2 = 0) : (node l x r).get (m + 1) = l.get (m / 2) := by
  simp only [get, h]; rfl
theorem get_odd (l : T α) (x : Option α) (r : T α) (m : Nat) (h : m % 2 ≠ 0) : (node l x r).get (m + 1) = r.get (m / 2) := by
  simp only [get]
  rcases beq_cases (m % 2) 0 with ⟨e, _⟩ | ⟨_, e⟩
  · exact absurd e h
  · rw [e]; rfl

theorem get_single (v : α) : ∀ (f n : Nat), n + 1 < 2 ^ f → ∀ m, (single f n v).get m = if m = n then some v else none := by
  intro f
  induction f with
  | zero => intro n h; simp at h
  | succ f ih =>
    intro n h m
    cases n with
    | zero => cases m <;> simp [single, get]
    | succ n =>
      rw [Nat.pow_succ] at h
      simp only [single]
      rcases beq_cases (n % 2) 0 with ⟨e, eb⟩ | ⟨e, eb⟩ <;> simp only [eb, cond_true, cond_false]
      · cases m with
        | zero => simp [get]
        | succ m =>
          by_cases hm : m % 2 = 0
          · rw [get_even _ _ _ _ hm, ih _ (by omega)]
            have : (m / 2 = n / 2) ↔ (m + 1 = n + 1) := by omega
            simp only [this]
          · rw [get_odd _ _ _ _ hm, if_neg (by omega)]; rfl
      · cases m with
        | zero => simp [get]
        | succ m =>
          by_cases hm : m % 2 = 0
          · rw [get_even _ _ _ _ hm, if_neg (by omega)]; rfl
          · rw [get_odd _ _ _ _ hm, ih _ (by omega)]
            have : (m / 2 = n / 2) ↔ (m + 1 = n + 1) := by omega
            simp only [this]

theorem lt_pow (n : Nat) : n + 1 < 2 ^ (n + 1) := Nat.lt_pow_self (by decide)

theorem get_set (t : T α) : ∀ (n : Nat) (v : α) (m : Nat), (t.set n v).get m = if m = n then some v else t.get m := by
  induction t with
  | nil => intro n v m; simp only [set]; rw [get_single v _ _ (lt_pow n)]; rfl
  | node l x r ihl ihr =>
    intro n v m
    cases n with
    | zero => cases m <;> simp [set, get]
    | succ n =>
      simp only [set]
      rcases beq_cases (n % 2) 0 with ⟨e, eb⟩ | ⟨e, eb⟩ <;> simp only [eb, cond_true, cond_false]
      · cases m with
        | zero => simp [get]
        | succ m =>
          by_cases hm : m % 2 = 0
          · rw [get_even _ _ _ _ hm, get_even _ _ _ _ hm, ihl]
            have : (m / 2 = n / 2) ↔ (m + 1 = n + 1) := by omega
            simp only [this]
          · rw [get_odd _ _ _ _ hm, get_odd _ _ _ _ hm, if_neg (by omega)]
      · cases m with
        | zero => simp [get]
        | succ m =>
          by_cases hm : m % 2 = 0
          · rw [get_even _ _ _ _ hm, get_even _ _ _ _ hm, if_neg (by omega)]
          · rw [get_odd _ _ _ _ hm, get_odd _ _ _ _ hm, ihr]
            have : (m / 2 = n / 2) ↔ (m + 1 = n + 1) := by omega
            simp only [this]

theorem get_del (t : T α) : ∀ (n m : Nat), (t.del n).get m = if m = n then none else t.get m := by
  induction t with
  | nil => intro n m; simp [del, get]
  | node l x r ihl ihr =>
    intro n m
    cases n with
    | zero => cases m <;> simp [del, get]
    | succ n =>
      simp only [del]
      rcases beq_cases (n % 2) 0 with ⟨e, eb⟩ | ⟨e, eb⟩ <;> simp only [eb, cond_true, cond_false]
      · cases m with
        | zero => simp [get]
        | succ m =>
          by_cases hm : m % 2 = 0
          · rw [get_even _ _ _ _ hm, get_even _ _ _ _ hm, ihl]
            have : (m / 2 = n / 2) ↔ (m + 1 = n + 1) := by omega
            simp only [this]
          · rw [get_odd _ _ _ _ hm, get_odd _ _ _ _ hm, if_neg (by omega)]
      · cases m with
        | zero => simp [get]
        | succ m =>
          by_cases hm : m % 2 = 0
          · rw [get_even _ _ _ _ hm, get_even _ _ _ _ hm, if_neg (by omega)]
          · rw [get_odd _ _ _ _ hm, get_odd _ _ _ _ hm, ihr]
            have : (m / 2 = n / 2) ↔ (m + 1 = n + 1) := by omega
            simp only [this]
end T

theorem T.at_set (t : T AV) (n m : Nat) (v : AV) : (t.set n v).at m = if m = n then v else t.at m := by
  simp only [T.at, T.get_set]; split <;> rfl
theorem Heap.get_set (h : Heap) (b m : Nat) (x : Blk) : (h.set b x).get m = if m = b then some x else h.get m := T.get_set ..
theorem Heap.get_del (h : Heap) (b m : Nat) : (h.del b).get m = if m = b then none else h.get m := T.get_del ..
theorem Heap.get_new (h : Heap) (m : Nat) (x : Blk) : (h.new x).get m = if m = h.next then some x else h.get m := T.get_set ..

theorem get_wr : ∀ (l : List AV) (cs : T AV) (off i : Nat), (wr cs l off).get i = if off ≤ i ∧ i < off + l.length then l[i - off]? else cs.get i
  | [], cs, off, i => by simp [wr]; omega
  | v :: r, cs, off, i => by
    simp only [wr, get_wr r, List.length_cons, T.get_set]
    by_cases h : i = off
    · subst h; rw [if_neg (by omega)]; simp
    · by_cases h2 : off + 1 ≤ i ∧ i < off + 1 + r.length
      · rw [if_pos h2, if_pos (by omega)]
        have : i - off = (i - (off + 1)) + 1 := by omega
        rw [this]; simp
      · rw [if_neg h2, if_neg h, if_neg (by omega)]

theorem rdCells_length (d : AV) (cs : T AV) : ∀ n off, (rdCells d cs n off).length = n
  | 0, _ => rfl
  | n + 1, off => by simp [rdCells, rdCells_length d cs n]
theorem rdCells_get (d : AV) (cs : T AV) : ∀ n off i, i < n → (rdCells d cs n off)[i]? = some ((cs.get (off + i)).getD d)
  | n + 1, off, 0, _ => by simp [rdCells]
  | n + 1, off, i + 1, h => by simp only [rdCells, List.getElem?_cons_succ]; rw [rdCells_get d cs n _ i (by omega)]; congr 3; omega
theorem rd_some {n d cs off m l} (h : rd n d cs off m = some l) : off + m ≤ n ∧ l = rdCells d cs m off := by
  unfold rd at h
  cases e : Nat.ble (off + m) n <;> simp [e] at h
  exact ⟨Nat.le_of_ble_eq_true e, h.symm⟩
theorem readL_some {cs n l} (h : readL cs n = some l) : l = cs.take n ∧ l.length = n := by
  unfold readL at h
  cases e : Nat.beq (cs.take n).length n
  · simp only [e, cond_false] at h; cases h
  · simp only [e, cond_true, Option.some.injEq] at h
    subst h
    exact ⟨rfl, Nat.eq_of_beq_eq_true e⟩
end Go.Proofs.YtmadknpaljaecaaGreatDoor.Ev
namespace Go.Proofs.YtmadknpaljaecaaGreatDoor.Ev
open Go

theorem run_underlying {P : Program} {t : TypeId} {d : TypeDesc} {w : World} (h : P.underlying t = some d) : (underlying t).run P w = .ok d w := by
  simp [underlying, h]
theorem run_typeInfo {P : Program} {t : TypeId} {i : TypeInfo} {w : World} (h : P.info? t = some i) : (typeInfo t).run P w = .ok i w := by
  simp [typeInfo, h]
theorem run_sizeOf {P : Program} {t : TypeId} {i : TypeInfo} {w : World} (h : P.info? t = some i) : (Go.sizeOf t).run P w = .ok i.size w := by
  simp [Go.sizeOf, run_typeInfo h]
theorem run_zeroValue {P : Program} {t : TypeId} {i : TypeInfo} {v : Value} {w : World} (h : P.info? t = some i) (hz : i.zero = some v) : (zeroValue t).run P w = .ok v w := by
  simp [zeroValue, run_typeInfo h, hz]

def aggD : TypeDesc → Bool
  | .struct _ | .array _ _ => true
  | _ => false
theorem run_isAgg {P : Program} {t : TypeId} {d : TypeDesc} {w : World} (h : P.underlying t = some d) : (isAgg t).run P w = .ok (aggD d) w := by
  simp only [isAgg, Sem.run_bind, run_underlying h, Result.andThen_ok]
  cases d <;> rfl

/-! Reading. -/
theorem cell?_of {W : World} {bl : Nat} {c : Array Value} {e : TypeId} {fz : Nat × Nat} {i : Nat} {x : Value} (h : W.heap[bl]? = some (.cells c e fz)) (hx : c[i]? = some x) :
    W.cell? ⟨bl, i, none⟩ = some x := by simp [World.cell?, h, hx]

theorem Addr_add (bl off n : Nat) : Addr.add ⟨bl, off, none⟩ n = ⟨bl, off + n, none⟩ := by
  unfold Addr.add
  split
  · rename_i h; simp [h]
  · rfl

theorem run_load_at {P : Program} {W : World} {bl off : Nat} {x : Value} (h : W.cell? ⟨bl, off, none⟩ = some x) : (load ⟨bl, off, none⟩).run P W = .ok x W := by
  simp [h]

theorem run_loadCellsFrom {P : Program} {W : World} {bl off : Nat} : ∀ (xs : List Value) (i : Nat) (acc : Array Value),
    (∀ j x, xs[j]? = some x → W.cell? ⟨bl, off + i + j, none⟩ = some x) →
    (loadCellsFrom ⟨bl, off, none⟩ i xs.length acc).run P W = .ok (acc ++ xs.toArray) W
  | [], i, acc, _ => by simp [loadCellsFrom]
  | x :: xs, i, acc, h => by
    have h0 := h 0 x rfl
    simp only [List.length_cons, loadCellsFrom, Sem.run_bind, Addr_add, Nat.add_zero] at h0 ⊢
    rw [run_load_at h0]
    simp only [Result.andThen_ok]
    rw [run_loadCellsFrom xs (i + 1) _ fun j y hy => by
      have := h (j + 1) y (by simpa using hy)
      rw [show off + (i + 1) + j = off + i + (j + 1) from by omega]; exact this]
    simp

theorem run_loadCells {P : Program} {W : World} {bl off : Nat} {xs : List Value} (h : Reads W bl off xs) :
    (loadCells ⟨bl, off, none⟩ xs.length).run P W = .ok xs.toArray W := by
  obtain ⟨c, e, fz, hb, hx⟩ := h
  unfold loadCells
  rw [run_loadCellsFrom xs 0 #[] fun j x hj => by simpa using cell?_of hb (hx j x hj).1]
  simp

theorem Reads.sub {W : World} {bl off : Nat} {xs : List Value} (h : Reads W bl off xs) (k n : Nat) : Reads W bl (off + k) ((xs.drop k).take n) := by
  obtain ⟨c, e, fz, hb, hx⟩ := h
  refine ⟨c, e, fz, hb, fun i x hi => ?_⟩
  rw [List.getElem?_take] at hi
  split at hi
  · rw [List.getElem?_drop] at hi
    have := hx (k + i) x hi
    rw [Nat.add_assoc]; exact this
  · cases hi
theorem Reads.drop {W : World} {bl off : Nat} {xs : List Value} (h : Reads W bl off xs) (k : Nat) : Reads W bl (off + k) (xs.drop k) := by
  have := h.sub k (xs.length)
  rwa [List.take_of_length_le (by simp)] at this
theorem Reads.take {W : World} {bl off : Nat} {xs : List Value} (h : Reads W bl off xs) (n : Nat) : Reads W bl off (xs.take n) := by
  have := h.sub 0 n
  simpa using this

/-- the cells of a live block, read -/
theorem BR.reads {E : Env} {W : World} {b n : Nat} {d : AV} {cs : T AV} {e : Nat} {op : Bool} (h : BR E W b (.cells n d cs e op)) {off m : Nat} (hm : off + m ≤ n) :
    ∃ xs, Reads W (E.β b) off xs ∧ VRs E W (rdCells d cs m off) xs ∧ xs.length = m := by
  obtain ⟨c, fz, hb, hn, _, _, hx, _⟩ := h
  refine ⟨(c.toList.drop off).take m, ?_, ?_, ?_⟩
  · refine ⟨c, e, fz, hb, fun i x hi => ?_⟩
    rw [List.getElem?_take] at hi
    split at hi
    · rw [List.getElem?_drop] at hi
      rename_i him
      obtain ⟨y, hy, hf, _⟩ := hx (off + i) (by omega)
      simp only [Array.getElem?_toList] at hi
      rw [hy] at hi; cases hi
      exact ⟨hy, hf⟩
    · cases hi
  · have hlen : m ≤ (c.toList.drop off).length := by simp; omega
    refine VRs.of_get (by rw [rdCells_length, List.length_take]; omega) fun i v x hv hi => ?_
    have him : i < m := by
      rcases Nat.lt_or_ge i m with h | h
      · exact h
      · rw [List.getElem?_eq_none (by rw [rdCells_length]; exact h)] at hv; cases hv
    rw [rdCells_get _ _ _ _ _ him] at hv
    cases hv
    rw [List.getElem?_take, if_pos him, List.getElem?_drop] at hi
    obtain ⟨y, hy, _, hr⟩ := hx (off + i) (by omega)
    simp only [Array.getElem?_toList] at hi
    rw [hy] at hi; cases hi
    exact hr
  · rw [List.length_take]; simp; omega

/-! Writing. -/
theorem run_store_at {P : Program} {W : World} {bl off : Nat} {c : Array Value} {e : TypeId} {fz : Nat × Nat} {v : Value} (hb : W.heap[bl]? = some (.cells c e fz))
    (hoff : off < c.size) (hfz : ¬ (fz.1 ≤ off ∧ off < fz.2)) (hv : Flat v) :
    (store ⟨bl, off, none⟩ v).run P W = .ok () { W with heap := W.heap.setIfInBounds bl (.cells (c.setIfInBounds off v) e fz) } := by
  have hlt : bl < W.heap.size := by
    rcases Nat.lt_or_ge bl W.heap.size with h | h
    · exact h
    · rw [Array.getElem?_eq_none h] at hb; cases hb
  have hc : W.cell? ⟨bl, off, none⟩ = some c[off] := cell?_of hb (by simp [hoff])
  have hf : W.frozen? ⟨bl, off, none⟩ = false := by
    simp [World.frozen?, hb]
    intro h1
    exact Nat.not_lt.1 fun h2 => hfz ⟨h1, h2⟩
  have hone : v.oneCell' = true := by cases v <;> first | rfl | exact absurd hv (by simp [Flat])
  rw [run_store P W _ _ _ hone, hc]
  simp only [hf, Bool.false_eq_true, if_false, World.setCell]
  congr 2
  apply Array.ext
  · simp
  · intro i h1 h2
    rw [Array.getElem_setIfInBounds (by simpa using h1), Array.getElem_modify]
    have hbl : W.heap[bl] = .cells c e fz := by simpa [Array.getElem?_eq_getElem hlt] using hb
    by_cases h : bl = i
    · subst h; simp [hbl]
    · simp [h]

def wrA (c : Array Value) : List Value → Nat → Array Value
  | [], _ => c
  | v :: r, off => wrA (c.setIfInBounds off v) r (off + 1)
theorem wrA_size : ∀ (l : List Value) (c : Array Value) (off : Nat), (wrA c l off).size = c.size
  | [], c, off => rfl
  | v :: r, c, off => by simp [wrA, wrA_size r]
theorem wrA_get : ∀ (l : List Value) (c : Array Value) (off i : Nat), off + l.length ≤ c.size →
    (wrA c l off)[i]? = if off ≤ i ∧ i < off + l.length then l[i - off]? else c[i]?
  | [], c, off, i, _ => by simp [wrA]; omega
  | v :: r, c, off, i, h => by
    simp only [List.length_cons] at h
    simp only [wrA]
    rw [wrA_get r _ _ _ (by simp; omega)]
    simp only [List.length_cons]
    by_cases hi : i = off
    · subst hi; rw [if_neg (by omega), if_pos (by omega)]; simp [Array.getElem?_setIfInBounds_self]; omega
    · by_cases h2 : off + 1 ≤ i ∧ i < off + 1 + r.length
      · rw [if_pos h2, if_pos (by omega)]
        have : i - off = (i - (off + 1)) + 1 := by omega
        rw [this]; simp
      · rw [if_neg h2, if_neg (by omega), Array.getElem?_setIfInBounds_ne (by omega)]

theorem run_storeCells {P : Program} {bl off : Nat} : ∀ (l : List Value) (W : World) (c : Array Value) (e : TypeId) (fz : Nat × Nat) (i : Nat),
    W.heap[bl]? = some (.cells c e fz) → off + i + l.length ≤ c.size → (∀ j, off + i ≤ j → j < off + i + l.length → ¬ (fz.1 ≤ j ∧ j < fz.2)) → (∀ x ∈ l, Flat x) →
    ∃ W', (storeCells ⟨bl, off, none⟩ l i).run P W = .ok () W' ∧ (W'.heap.size = W.heap.size ∧ Out0 W W') ∧ W'.heap[bl]? = some (.cells (wrA c l (off + i)) e fz) ∧ (∀ b, b ≠ bl → W'.heap[b]? = W.heap[b]?)
  | [], W, c, e, fz, i, hb, _, _, _ => ⟨W, by simp [storeCells], ⟨rfl, rfl, rfl⟩, by simpa [wrA] using hb, fun _ _ => rfl⟩
  | v :: r, W, c, e, fz, i, hb, hle, hfz, hfl => by
    simp only [List.length_cons] at hle hfz
    have hlt : bl < W.heap.size := by
      rcases Nat.lt_or_ge bl W.heap.size with h | h
      · exact h
      · rw [Array.getElem?_eq_none h] at hb; cases hb
    let W1 : World := { W with heap := W.heap.setIfInBounds bl (.cells (c.setIfInBounds (off + i) v) e fz) }
    have hb1 : W1.heap[bl]? = some (.cells (c.setIfInBounds (off + i) v) e fz) := by simp [W1, hlt]
    have hfz1 : ∀ j, off + (i + 1) ≤ j → j < off + (i + 1) + r.length → ¬ (fz.1 ≤ j ∧ j < fz.2) := fun j h1 h2 => hfz j (by omega) (by omega)
    obtain ⟨W', h1, h2, h3, h4⟩ := run_storeCells (P := P) r W1 _ e fz (i + 1) hb1 (by simp; omega) hfz1 (fun x hx => hfl x (by simp [hx]))
    refine ⟨W', ?_, ⟨by rw [h2.1]; simp [W1], h2.2.1, h2.2.2⟩, ?_, fun b hne => by rw [h4 b hne]; simp [W1, Array.getElem?_setIfInBounds_ne (Ne.symm hne)]⟩
    · simp only [storeCells, Sem.run_bind, Addr_add]
      rw [run_store_at hb (by omega) (hfz _ (by omega) (by omega)) (hfl v (by simp))]
      simpa using h1
    · rw [h3, show off + (i + 1) = off + i + 1 from by omega]; rfl
end Go.Proofs.YtmadknpaljaecaaGreatDoor.Ev
namespace Go.Proofs.YtmadknpaljaecaaGreatDoor.Ev
open Go

theorem BR.mono {E E' : Env} {W W' : World} (hl : E.le E') (hk : Keep E W W') {b : Nat} (hb : b < E.nx) (hs : W'.heap[E.β b]? = W.heap[E.β b]?) :
    ∀ {x : Blk}, BR E W b x → BR E' W' b x
  | .cells n d cs e op, ⟨c, fz, h1, h2, h3, h4, h5, h6⟩ =>
    ⟨c, fz, by rw [hl.β b hb, hs]; exact h1, h2, by rw [hl.csz b hb]; exact h3, h4, fun i hi => let ⟨x, a, f, v⟩ := h5 i hi; ⟨x, a, f, v.mono hl hk⟩, h6⟩
  | .siter s pos, ⟨x, h1, h2⟩ => ⟨x, h1, by rw [hl.β b hb, hs]; exact h2⟩
  | .amap ks vs, ⟨es, clock, h1, h2, h3, h4⟩ => ⟨es, clock, by rw [hl.β b hb, hs]; exact h1, h2.mono hl hk, h3.mono hl hk, h4⟩

/-- the machine's block of a live block -/
theorem HR.lt_size {E : Env} {W : World} {h : Heap} (hr : HR E W h) {b : Nat} {x : Blk} (hx : h.get b = some x) : E.β b < W.heap.size := by
  have hb := hr.blk b x hx
  have some_lt : ∀ {o : Obj}, W.heap[E.β b]? = some o → E.β b < W.heap.size := fun {o} ho => by
    rcases Nat.lt_or_ge (E.β b) W.heap.size with h | h
    · exact h
    · rw [Array.getElem?_eq_none h] at ho; cases ho
  cases x with
  | cells n d cs e op => obtain ⟨c, fz, h1, _⟩ := hb; exact some_lt h1
  | siter s pos => obtain ⟨x, _, h2⟩ := hb; exact some_lt h2
  | amap ks vs => obtain ⟨es, clock, h1, _⟩ := hb; exact some_lt h1

theorem HR.lt_nx {E : Env} {W : World} {h : Heap} (hr : HR E W h) {b : Nat} {x : Blk} (hx : h.get b = some x) : b < E.nx := by rw [hr.nx]; exact hr.lt b x hx

/-- the machine's memory changes beside all that is told -/
theorem HR.other {E : Env} {W W' : World} {h : Heap} (hr : HR E W h) (hk : Keep E W W') (hs : ∀ b x, h.get b = some x → W'.heap[E.β b]? = W.heap[E.β b]?) : HR E W' h :=
  ⟨hr.nx, hr.lt, fun b x hx => (hr.blk b x hx).mono (.refl E) hk (hr.lt_nx hx) (hs b x hx), hr.inj, hr.apart, fun i hi => Nat.lt_of_lt_of_le (hr.there i hi) hk.size⟩

def Env.add (E : Env) (bl sz : Nat) : Env :=
  { E with β := fun b => if b = E.nx then bl else E.β b, csz := fun b => if b = E.nx then sz else E.csz b, nx := E.nx + 1 }

theorem Env.le_add (E : Env) (bl sz : Nat) : E.le (E.add bl sz) :=
  ⟨Nat.le_succ _, fun b hb => by simp only [Env.add]; rw [if_neg (by omega)], fun b hb => by simp only [Env.add]; rw [if_neg (by omega)], fun _ h => h, fun _ h => h⟩
theorem Env.add_β (E : Env) (bl sz : Nat) : (E.add bl sz).β E.nx = bl := by simp [Env.add]
theorem Env.add_csz (E : Env) (bl sz : Nat) : (E.add bl sz).csz E.nx = sz := by simp [Env.add]
theorem Env.add_still (E : Env) (bl sz : Nat) (w : Bool) (b : Nat) : (E.add bl sz).still w b ↔ E.still w b := Iff.rfl

theorem Keep.push (E : Env) (W : World) (h : ∀ i, E.still true i → i < W.heap.size) (o : Obj) (W' : World) (hw : W'.heap = W.heap.push o ∧ Out0 W W') : Keep E W W' :=
  ⟨by simp [hw.1], fun b hb => by rw [hw.1, Array.getElem?_push_lt (h b hb), Array.getElem?_eq_getElem (h b hb)], hw.2⟩

/-- a new block -/
theorem HR.new {E : Env} {W W' : World} {h : Heap} (hr : HR E W h) {o : Obj} {x : Blk} (sz : Nat) (hw : W'.heap = W.heap.push o ∧ Out0 W W')
    (hb : (E.add W.heap.size sz).le (E.add W.heap.size sz) → Keep E W W' → W'.heap[W.heap.size]? = some o → BR (E.add W.heap.size sz) W' E.nx x) :
    HR (E.add W.heap.size sz) W' (h.new x) ∧ Keep E W W' := by
  have hk : Keep E W W' := .push E W hr.there o W' hw
  obtain ⟨hw, ho⟩ := hw
  refine ⟨⟨by simp [Env.add, Heap.new, hr.nx], ?_, ?_, ?_, ?_, ?_⟩, hk⟩
  · intro b y hy
    rw [Heap.get_new] at hy
    simp only [Heap.new]
    split at hy
    · omega
    · have := hr.lt b y hy; omega
  · intro b y hy
    rw [Heap.get_new] at hy
    split at hy
    · rename_i e; cases hy; rw [e, ← hr.nx]
      exact hb (.refl _) hk (by simp [hw])
    · have hlt := hr.lt_size hy
      exact (hr.blk b y hy).mono (E.le_add _ _) hk (hr.lt_nx hy) (by rw [hw, Array.getElem?_push_lt hlt, Array.getElem?_eq_getElem hlt])
  · intro b b' y y' hy hy' e
    rw [Heap.get_new] at hy hy'
    simp only [Env.add] at e
    rw [← hr.nx] at hy hy'
    split at hy <;> split at hy'
    · omega
    · rename_i e1 e2; rw [if_pos e1, if_neg e2] at e
      have := hr.lt_size hy'; omega
    · rename_i e1 e2; rw [if_neg e1, if_pos e2] at e
      have := hr.lt_size hy; omega
    · rename_i e1 e2; rw [if_neg e1, if_neg e2] at e
      exact hr.inj b b' y y' hy hy' e
  · intro b y hy
    rw [Heap.get_new] at hy
    rw [← hr.nx] at hy
    rw [Env.add_still]
    split at hy
    · rename_i e1; rw [e1, Env.add_β]; intro hs; have := hr.there _ hs; omega
    · rename_i e1
      have : (E.add W.heap.size sz).β b = E.β b := (E.le_add _ _).β b (by have := hr.lt_nx hy; omega)
      rw [this]; exact hr.apart b y hy
  · intro i hi
    have := hr.there i hi
    simp [hw]; omega

/-- a live block changes -/
theorem HR.put {E : Env} {W W' : World} {h : Heap} (hr : HR E W h) {b : Nat} {x₀ x : Blk} (hx : h.get b = some x₀) (hsz : W'.heap.size = W.heap.size ∧ Out0 W W')
    (hs : ∀ i, i ≠ E.β b → W'.heap[i]? = W.heap[i]?) (hb : Keep E W W' → BR E W' b x) : HR E W' (h.set b x) ∧ Keep E W W' := by
  obtain ⟨hsz, ho⟩ := hsz
  have hk : Keep E W W' := ⟨by omega, fun i hi => hs i fun e => hr.apart b x₀ hx (e ▸ hi), ho⟩
  refine ⟨⟨by simp [Heap.set, hr.nx], ?_, ?_, ?_, ?_, ?_⟩, hk⟩
  · intro b' y hy
    rw [Heap.get_set] at hy
    split at hy
    · rename_i e; rw [e]; exact hr.lt b x₀ hx
    · exact hr.lt b' y hy
  · intro b' y hy
    rw [Heap.get_set] at hy
    split at hy
    · rename_i e; cases hy; rw [e]; exact hb hk
    · rename_i e
      exact (hr.blk b' y hy).mono (.refl E) hk (hr.lt_nx hy) (hs _ fun e2 => e (hr.inj b' b y x₀ hy hx e2))
  · intro b1 b2 y y' hy hy' e
    have live : ∀ b' y, (h.set b x).get b' = some y → ∃ z, h.get b' = some z := fun b' y hy => by
      rw [Heap.get_set] at hy
      split at hy
      · rename_i e; rw [e]; exact ⟨_, hx⟩
      · exact ⟨_, hy⟩
    obtain ⟨z, hz⟩ := live _ _ hy
    obtain ⟨z', hz'⟩ := live _ _ hy'
    exact hr.inj _ _ _ _ hz hz' e
  · intro b' y hy
    rw [Heap.get_set] at hy
    split at hy
    · rename_i e; rw [e]; exact hr.apart b x₀ hx
    · exact hr.apart b' y hy
  · intro i hi; have := hr.there i hi; omega

/-- a live block is forgotten -/
theorem HR.del {E : Env} {W : World} {h : Heap} (hr : HR E W h) (b : Nat) : HR E W (h.del b) := by
  have live : ∀ b' y, (h.del b).get b' = some y → h.get b' = some y := fun b' y hy => by
    rw [Heap.get_del] at hy
    split at hy
    · cases hy
    · exact hy
  exact ⟨hr.nx, fun b' y hy => hr.lt b' y (live _ _ hy), fun b' y hy => hr.blk b' y (live _ _ hy), fun b1 b2 y y' h1 h2 e => hr.inj b1 b2 y y' (live _ _ h1) (live _ _ h2) e,
    fun b' y hy => hr.apart b' y (live _ _ hy), hr.there⟩

/-- a live block goes on under a new name, longer -/
theorem HR.move {E : Env} {W W' : World} {h : Heap} (hr : HR E W h) {b : Nat} {x₀ x : Blk} (hx : h.get b = some x₀) (hsz : W'.heap.size = W.heap.size ∧ Out0 W W')
    (hs : ∀ i, i ≠ E.β b → W'.heap[i]? = W.heap[i]?) (hb : Keep E W W' → BR (E.add (E.β b) (E.csz b)) W' E.nx x) :
    HR (E.add (E.β b) (E.csz b)) W' ((h.del b).new x) ∧ Keep E W W' := by
  obtain ⟨hsz, ho⟩ := hsz
  have hk : Keep E W W' := ⟨by omega, fun i hi => hs i fun e => hr.apart b x₀ hx (e ▸ hi), ho⟩
  have hnx : (h.del b).next = E.nx := by rw [hr.nx]; rfl
  refine ⟨⟨by simp [Env.add, Heap.new, Heap.del, hr.nx], ?_, ?_, ?_, ?_, ?_⟩, hk⟩
  · intro b' y hy
    rw [Heap.get_new, hnx, Heap.get_del] at hy
    simp only [Heap.new, hnx]
    split at hy
    · omega
    · split at hy
      · cases hy
      · have := hr.lt_nx hy; omega
  · intro b' y hy
    rw [Heap.get_new, hnx, Heap.get_del] at hy
    split at hy
    · rename_i e; cases hy; rw [e]; exact hb hk
    · split at hy
      · cases hy
      · rename_i e
        exact (hr.blk b' y hy).mono (E.le_add _ _) hk (hr.lt_nx hy) (hs _ fun e2 => e (hr.inj b' b y x₀ hy hx e2))
  · intro b1 b2 y y' hy hy' e
    rw [Heap.get_new, hnx, Heap.get_del] at hy hy'
    simp only [Env.add] at e
    split at hy <;> split at hy'
    · omega
    · rename_i e1 e2
      split at hy'
      · cases hy'
      · rename_i e3; rw [if_pos e1, if_neg e2] at e; exact absurd (hr.inj _ _ _ _ hx hy' e).symm e3
    · rename_i e1 e2
      split at hy
      · cases hy
      · rename_i e3; rw [if_neg e1, if_pos e2] at e; exact absurd (hr.inj _ _ _ _ hy hx e) e3
    · rename_i e1 e2
      split at hy
      · cases hy
      · split at hy'
        · cases hy'
        · rw [if_neg e1, if_neg e2] at e; exact hr.inj _ _ _ _ hy hy' e
  · intro b' y hy
    rw [Heap.get_new, hnx, Heap.get_del] at hy
    rw [Env.add_still]
    split at hy
    · rename_i e1; rw [e1, Env.add_β]; exact hr.apart b x₀ hx
    · rename_i e1
      split at hy
      · cases hy
      · have : (E.add (E.β b) (E.csz b)).β b' = E.β b' := (E.le_add _ _).β b' (by have := hr.lt_nx hy; omega)
        rw [this]; exact hr.apart b' y hy
  · intro i hi
    have := hr.there i hi
    omega
end Go.Proofs.YtmadknpaljaecaaGreatDoor.Ev
namespace Go.Proofs.YtmadknpaljaecaaGreatDoor.Ev
open Go

theorem wrap_small {k : IntKind} {n : Int} (h0 : k.min ≤ n) (h1 : n ≤ k.max) : k.wrap n = n := by
  cases k <;> simp [IntKind.min, IntKind.max, IntKind.signed, IntKind.bits] at h0 h1 <;> simp only [IntKind.wrap, IntKind.signed, IntKind.bits] <;> (try simp) <;> omega

theorem blt_cases (a b : Nat) : (a < b ∧ Nat.blt a b = true) ∨ (b ≤ a ∧ Nat.blt a b = false) := by
  rcases Nat.lt_or_ge a b with h | h
  · exact .inl ⟨h, by simp [Nat.blt_eq, h]⟩
  · refine .inr ⟨h, ?_⟩
    cases e : Nat.blt a b
    · rfl
    · rw [Nat.blt_eq] at e; omega
theorem ble_cases (a b : Nat) : (a ≤ b ∧ Nat.ble a b = true) ∨ (b < a ∧ Nat.ble a b = false) := by
  rcases Nat.lt_or_ge b a with h | h
  · refine .inr ⟨h, ?_⟩
    cases e : Nat.ble a b
    · rfl
    · have := Nat.le_of_ble_eq_true e; omega
  · exact .inl ⟨h, Nat.ble_eq_true_of_le h⟩

theorem wrap_i64 {n : Int} (h0 : -9223372036854775808 ≤ n) (h1 : n < 9223372036854775808) : IntKind.i64.wrap n = n :=
  wrap_small (k := .i64) (by simpa [IntKind.min, IntKind.signed, IntKind.bits] using h0) (by simp [IntKind.max, IntKind.signed, IntKind.bits]; omega)
theorem wrap_i32 {n : Int} (h0 : -2147483648 ≤ n) (h1 : n < 2147483648) : IntKind.i32.wrap n = n :=
  wrap_small (k := .i32) (by simpa [IntKind.min, IntKind.signed, IntKind.bits] using h0) (by simp [IntKind.max, IntKind.signed, IntKind.bits]; omega)
theorem wrap_u64 (n : Int) : IntKind.u64.wrap n = n % 18446744073709551616 := by simp [IntKind.wrap, IntKind.signed, IntKind.bits]
theorem wrap_u32 (n : Int) : IntKind.u32.wrap n = n % 4294967296 := by simp [IntKind.wrap, IntKind.signed, IntKind.bits]
theorem wrap_u8 (n : Int) : IntKind.u8.wrap n = n % 256 := by simp [IntKind.wrap, IntKind.signed, IntKind.bits]

theorem ite_i64 (m : Nat) (x : Int) (h : m < 9223372036854775808 → x = IntKind.i64.wrap x) : (bif Nat.blt m 9223372036854775808 then x else IntKind.i64.wrap x) = IntKind.i64.wrap x := by
  rcases blt_cases m 9223372036854775808 with ⟨hl, e⟩ | ⟨_, e⟩ <;> rw [e]
  · exact h hl
  · rfl
theorem ite_i32 (m : Nat) (x : Int) (h : m < 2147483648 → x = IntKind.i32.wrap x) : (bif Nat.blt m 2147483648 then x else IntKind.i32.wrap x) = IntKind.i32.wrap x := by
  rcases blt_cases m 2147483648 with ⟨hl, e⟩ | ⟨_, e⟩ <;> rw [e]
  · exact h hl
  · rfl

theorem wrapF_ofNat (k : IntKind) (m : Nat) : wrapF k (.ofNat m) = k.wrap (.ofNat m) := by
  cases k with
  | i64 => exact ite_i64 m _ fun h => (wrap_i64 (by show _ ≤ (m : Int); omega) (by show (m : Int) < _; omega)).symm
  | i32 => exact ite_i32 m _ fun h => (wrap_i32 (by show _ ≤ (m : Int); omega) (by show (m : Int) < _; omega)).symm
  | u64 => rw [wrap_u64]; exact Int.natCast_emod m 18446744073709551616
  | u32 => rw [wrap_u32]; exact Int.natCast_emod m 4294967296
  | u8 => rw [wrap_u8]; exact Int.natCast_emod m 256
  | i8 => rfl
  | i16 => rfl
  | u16 => rfl
theorem wrapF_negSucc (k : IntKind) (m : Nat) : wrapF k (.negSucc m) = k.wrap (.negSucc m) := by
  cases k with
  | i64 => exact ite_i64 m _ fun h => (wrap_i64 (by omega) (by omega)).symm
  | i32 => exact ite_i32 m _ fun h => (wrap_i32 (by omega) (by omega)).symm
  | _ => rfl
theorem wrapF_eq (k : IntKind) (n : Int) : wrapF k n = k.wrap n := by
  cases n
  · exact wrapF_ofNat k _
  · exact wrapF_negSucc k _

theorem eqI_eq (x y : Int) : eqI x y = (x == y) := by
  cases x with
  | ofNat a => cases y with
    | ofNat b =>
      simp only [eqI]
      by_cases h : a = b
      · subst h; simp
      · have : Nat.beq a b = false := by cases e : Nat.beq a b; rfl; exact absurd (Nat.eq_of_beq_eq_true e) h
        rw [this]; symm; simp; omega
    | negSucc b => simp [eqI]
  | negSucc a => cases y with
    | ofNat b => simp [eqI]
    | negSucc b =>
      simp only [eqI]
      by_cases h : a = b
      · subst h; simp
      · have : Nat.beq a b = false := by cases e : Nat.beq a b; rfl; exact absurd (Nat.eq_of_beq_eq_true e) h
        rw [this]; symm; simp; omega

theorem ltI_eq (x y : Int) : ltI x y = decide (x < y) := by
  cases x with
  | ofNat a => cases y with
    | ofNat b => simp only [ltI]; rcases blt_cases a b with ⟨h, e⟩ | ⟨h, e⟩ <;> rw [e] <;> symm <;> simp <;> omega
    | negSucc b => simp only [ltI]; symm; simp; omega
  | negSucc a => cases y with
    | ofNat b => simp only [ltI]; symm; simp; omega
    | negSucc b => simp only [ltI]; rcases blt_cases b a with ⟨h, e⟩ | ⟨h, e⟩ <;> rw [e] <;> symm <;> simp <;> omega

theorem leI_eq (x y : Int) : leI x y = decide (x ≤ y) := by
  cases x with
  | ofNat a => cases y with
    | ofNat b => simp only [leI]; rcases ble_cases a b with ⟨h, e⟩ | ⟨h, e⟩ <;> rw [e] <;> symm <;> simp <;> omega
    | negSucc b => simp only [leI]; symm; simp; omega
  | negSucc a => cases y with
    | ofNat b => simp only [leI]; symm; simp; omega
    | negSucc b => simp only [leI]; rcases ble_cases b a with ⟨h, e⟩ | ⟨h, e⟩ <;> rw [e] <;> symm <;> simp <;> omega

theorem modM_eq (k : IntKind) (x : Int) : (BitVec.ofInt k.bits x).toNat = modM k x := by
  rw [BitVec.toNat_ofInt]
  cases x with
  | ofNat m => cases k <;> simp [modM, Mk, IntKind.bits] <;> omega
  | negSucc m => cases k <;> simp only [modM, Mk, IntKind.bits] <;> omega

theorem modM_lt (k : IntKind) (x : Int) : modM k x < Mk k := by
  rw [← modM_eq]
  have := (BitVec.ofInt k.bits x).isLt
  cases k <;> simpa [Mk, IntKind.bits] using this

theorem andF_eq (k : IntKind) (x y : Int) : andF k x y = k.wrap (BitVec.ofInt k.bits x &&& BitVec.ofInt k.bits y).toNat := by
  unfold andF; rw [wrapF_eq, BitVec.toNat_and, modM_eq, modM_eq]; rfl
theorem orF_eq (k : IntKind) (x y : Int) : orF k x y = k.wrap (BitVec.ofInt k.bits x ||| BitVec.ofInt k.bits y).toNat := by
  unfold orF; rw [wrapF_eq, BitVec.toNat_or, modM_eq, modM_eq]; rfl
theorem xorF_eq (k : IntKind) (x y : Int) : xorF k x y = k.wrap (BitVec.ofInt k.bits x ^^^ BitVec.ofInt k.bits y).toNat := by
  unfold xorF; rw [wrapF_eq, BitVec.toNat_xor, modM_eq, modM_eq]; rfl
theorem Mk_eq (k : IntKind) : Mk k = 2 ^ k.bits := by cases k <;> rfl
theorem andNotF_eq (k : IntKind) (x y : Int) : andNotF k x y = k.wrap (BitVec.ofInt k.bits x &&& ~~~ BitVec.ofInt k.bits y).toNat := by
  unfold andNotF; rw [wrapF_eq, BitVec.toNat_and, BitVec.toNat_not, modM_eq, modM_eq, Mk_eq]; rfl

theorem shlF_eq (k : IntKind) (x : Int) (n : Nat) : shlF k x n = k.wrap (x * 2 ^ n) := by
  cases x with
  | ofNat m =>
    simp only [shlF]; rw [wrapF_eq]; congr 1
    show (Int.ofNat (m <<< n)) = _
    rw [Nat.shiftLeft_eq]
    simp
  | negSucc m => rfl
theorem shrF_eq (x : Int) (n : Nat) : shrF x n = x.fdiv (2 ^ n) := by
  cases x with
  | ofNat m =>
    simp only [shrF]
    show (Int.ofNat (m >>> n)) = _
    rw [Nat.shiftRight_eq_div_pow, Int.fdiv_eq_ediv_of_nonneg _ (by exact Int.pow_nonneg (by decide))]
    simp
  | negSucc m =>
    simp only [shrF]
    show Int.negSucc (m >>> n) = _
    rw [Nat.shiftRight_eq_div_pow, Int.fdiv_eq_ediv_of_nonneg _ (by exact Int.pow_nonneg (by decide))]
    have hp : 0 < 2 ^ n := Nat.pow_pos (by decide)
    have h : (2 : Int) ^ n = ((2 ^ n : Nat) : Int) := by simp
    rw [h]
    generalize 2 ^ n = c at hp
    obtain ⟨c, rfl⟩ : ∃ d, c = d + 1 := ⟨c - 1, by omega⟩
    rfl

theorem noK_id : True := trivial
end Go.Proofs.YtmadknpaljaecaaGreatDoor.Ev
namespace Go.Proofs.YtmadknpaljaecaaGreatDoor.Ev
open Go
namespace BStr

def val : List UInt8 → Nat → Nat
  | [], v => v
  | b :: r, v => val r (v * 256 + b.toNat)

theorem ofNats_eq : ∀ (l : List UInt8) (s : BStr), ofNats (l.map UInt8.toNat) s = ⟨s.n + l.length, val l s.v⟩
  | [], s => rfl
  | b :: r, s => by
    simp only [List.map_cons, ofNats, val, List.length_cons]
    rw [ofNats_eq r]; simp only [push]; congr 1; omega

theorem ofBytes_eq (l : List UInt8) : ofBytes l = ⟨l.length, val l 0⟩ := by simp [ofBytes, ofNats_eq, empty]
theorem ofBytes_n (l : List UInt8) : (ofBytes l).n = l.length := by rw [ofBytes_eq]
theorem ofBytes_v (l : List UInt8) : (ofBytes l).v = val l 0 := by rw [ofBytes_eq]

theorem val_acc : ∀ (l : List UInt8) (v : Nat), val l v = v * 256 ^ l.length + val l 0
  | [], v => by simp [val]
  | b :: r, v => by
    simp only [val, List.length_cons]
    rw [val_acc r (v * 256 + b.toNat), val_acc r (0 * 256 + b.toNat)]
    simp only [Nat.zero_mul, Nat.zero_add, Nat.pow_succ]
    rw [Nat.add_mul, Nat.mul_assoc, Nat.mul_comm 256 (256 ^ r.length), Nat.add_assoc]
theorem val_append (a b : List UInt8) (v : Nat) : val (a ++ b) v = val b (val a v) := by
  induction a generalizing v with
  | nil => rfl
  | cons x r ih => simp only [List.cons_append, val]; exact ih _
theorem val_app (a b : List UInt8) : val (a ++ b) 0 = val a 0 * 256 ^ b.length + val b 0 := by rw [val_append, val_acc]
theorem val_lt : ∀ (l : List UInt8), val l 0 < 256 ^ l.length
  | [] => by simp [val]
  | b :: r => by
    simp only [val, List.length_cons]
    rw [val_acc]
    have h1 := val_lt r
    have h2 := b.toNat_lt
    have h3 : (0 * 256 + b.toNat) * 256 ^ r.length ≤ 255 * 256 ^ r.length := Nat.mul_le_mul_right _ (by omega)
    rw [Nat.pow_succ]; omega

theorem pow8 (n : Nat) : 2 ^ (8 * n) = 256 ^ n := by rw [Nat.pow_mul]

theorem val_div (a b : List UInt8) : val (a ++ b) 0 >>> (8 * b.length) = val a 0 := by
  rw [Nat.shiftRight_eq_div_pow, pow8, val_app, Nat.mul_comm, Nat.mul_add_div (Nat.pow_pos (by decide)), Nat.div_eq_of_lt (val_lt b), Nat.add_zero]
theorem val_mod (a b : List UInt8) : val (a ++ b) 0 % 256 ^ b.length = val b 0 := by
  rw [val_app, Nat.mul_comm, Nat.mul_add_mod, Nat.mod_eq_of_lt (val_lt b)]

theorem app_eq (a b : List UInt8) : (ofBytes a).app (ofBytes b) = ofBytes (a ++ b) := by
  rw [ofBytes_eq, ofBytes_eq, ofBytes_eq]; simp only [app, List.length_append, pow8, val_app]

theorem slice_eq (s : List UInt8) (l u : Nat) (h : l ≤ u) (hu : u ≤ s.length) : (ofBytes s).slice l u = ofBytes ((s.drop l).take (u - l)) := by
  have e : s = (s.take l ++ (s.drop l).take (u - l)) ++ s.drop u := by
    rw [List.append_assoc]
    conv => lhs; rw [← List.take_append_drop l s]
    congr 1
    conv => lhs; rw [← List.take_append_drop (u - l) (s.drop l)]
    congr 1
    rw [List.drop_drop]; congr 1; omega
  have hd : (s.drop u).length = s.length - u := by simp
  have hm : ((s.drop l).take (u - l)).length = u - l := by simp; omega
  rw [ofBytes_eq, ofBytes_eq]
  simp only [slice]
  congr 1
  · exact hm.symm
  · conv => lhs; lhs; lhs; arg 1; rw [e]
    rw [← hd, val_div, pow8]
    conv => lhs; rhs; rhs; rw [← hm]
    exact val_mod _ _

theorem at_eq (s : List UInt8) (i : Nat) (h : i < s.length) : (ofBytes s).at_ i = (s[i]).toNat := by
  have := slice_eq s i (i + 1) (by omega) (by omega)
  have h2 := congrArg BStr.v this
  rw [ofBytes_v] at h2
  simp only [slice, ofBytes_n] at h2
  simp only [at_, ofBytes_n]
  rw [show s.length - 1 - i = s.length - (i + 1) from by omega]
  rw [show i + 1 - i = 1 from by omega, show 2 ^ (8 * 1) = 256 from rfl] at h2
  rw [h2]
  have : (s.drop i).take 1 = [s[i]] := by
    rw [List.drop_eq_getElem_cons h]; rfl
  rw [this]; simp [val]

theorem push_eq (s : List UInt8) (b : UInt8) : (ofBytes s).push b.toNat = ofBytes (s ++ [b]) := by
  rw [ofBytes_eq, ofBytes_eq]
  simp only [push, val_append, val, List.length_append, List.length_singleton]

theorem val_inj : ∀ (a b : List UInt8), a.length = b.length → val a 0 = val b 0 → a = b := by
  intro a b hl hv
  refine List.ext_getElem hl fun i h1 h2 => ?_
  have e1 := at_eq a i h1
  have e2 := at_eq b i h2
  have : ofBytes a = ofBytes b := by rw [ofBytes_eq, ofBytes_eq, hl, hv]
  rw [this, e2] at e1
  exact UInt8.toNat_inj.1 e1.symm
theorem ofBytes_inj {a b : List UInt8} (h : ofBytes a = ofBytes b) : a = b := by
  rw [ofBytes_eq, ofBytes_eq] at h
  injection h with h1 h2
  exact val_inj a b h1 h2

theorem beq_eq (a b : List UInt8) : (ofBytes a).beq (ofBytes b) = (a == b) := by
  by_cases h : a = b
  · subst h; simp [beq]
  · have : (a == b) = false := by simp [h]
    rw [this]
    simp only [beq, ofBytes_eq]
    cases e1 : Nat.beq a.length b.length
    · rfl
    · cases e2 : Nat.beq (val a 0) (val b 0)
      · rfl
      · exact absurd (val_inj a b (Nat.eq_of_beq_eq_true e1) (Nat.eq_of_beq_eq_true e2)) h

theorem bytesFrom_eq (s : List UInt8) : ∀ (n i : Nat), i + n ≤ s.length → (ofBytes s).bytesFrom n i = ((s.drop i).take n).map UInt8.toNat
  | 0, i, _ => by simp [bytesFrom]
  | n + 1, i, h => by
    simp only [bytesFrom]
    rw [bytesFrom_eq s n (i + 1) (by omega), at_eq s i (by omega), List.drop_eq_getElem_cons (by omega : i < s.length)]
    rw [List.take_succ_cons, List.map_cons]
theorem bytes_eq (s : List UInt8) : (ofBytes s).bytes = s.map UInt8.toNat := by
  simp only [bytes, ofBytes_n]
  rw [bytesFrom_eq s _ 0 (by omega)]; simp

/-- order -/
theorem val_cons_lt (a b : UInt8) (x y : List UInt8) (hl : x.length = y.length) (h : a < b) : val (a :: x) 0 < val (b :: y) 0 := by
  simp only [val]
  rw [val_acc x, val_acc y, hl]
  have h1 := val_lt x
  rw [hl] at h1
  have h2 : a.toNat + 1 ≤ b.toNat := UInt8.lt_iff_toNat_lt.1 h
  have h3 : (a.toNat + 1) * 256 ^ y.length ≤ b.toNat * 256 ^ y.length := Nat.mul_le_mul_right _ h2
  rw [Nat.add_mul] at h3
  simp only [Nat.zero_mul, Nat.zero_add]
  omega

theorem blt_eq_decide (a b : Nat) : Nat.blt a b = decide (a < b) := by
  rcases blt_cases a b with ⟨h, e⟩ | ⟨h, e⟩ <;> rw [e] <;> symm <;> simp <;> omega
theorem beq_eq_decide (a b : Nat) : Nat.beq a b = decide (a = b) := by
  by_cases h : a = b
  · subst h; simp
  · have : Nat.beq a b = false := by cases e : Nat.beq a b; rfl; exact absurd (Nat.eq_of_beq_eq_true e) h
    rw [this]; simp [h]

def lessV (a b : List UInt8) (p q : Nat) : Bool := bif Nat.beq p q then Nat.blt a.length b.length else Nat.blt p q

theorem less_take : ∀ (a b : List UInt8) (m : Nat), m = min a.length b.length → Go.Op.bytesLess a b = lessV a b (val (a.take m) 0) (val (b.take m) 0)
  | [], [], m, hm => by simp at hm; subst hm; rfl
  | [], b :: y, m, hm => by simp at hm; subst hm; simp [Go.Op.bytesLess, lessV, val, Nat.blt_eq]
  | a :: x, [], m, hm => by simp at hm; subst hm; simp [Go.Op.bytesLess, lessV, val, blt_eq_decide]
  | a :: x, b :: y, m, hm => by
    simp only [List.length_cons] at hm
    obtain ⟨m, rfl⟩ : ∃ k, m = k + 1 := ⟨m - 1, by omega⟩
    have hm' : m = min x.length y.length := by omega
    have ih := less_take x y m hm'
    simp only [Go.Op.bytesLess, List.take_succ_cons]
    have hl : (x.take m).length = (y.take m).length := by simp; omega
    rcases Nat.lt_trichotomy a.toNat b.toNat with h | h | h
    · have hab : a < b := UInt8.lt_iff_toNat_lt.2 h
      have hv := val_cons_lt a b _ _ hl hab
      simp only [hab, decide_true, Bool.true_or, lessV, beq_eq_decide, blt_eq_decide]
      rw [decide_eq_false (by omega), cond_false, decide_eq_true hv]
    · have hab : a = b := UInt8.toNat_inj.1 h
      subst hab
      have hnl : ¬ a < a := by rw [UInt8.lt_iff_toNat_lt]; omega
      simp only [hnl, decide_false, BEq.rfl, Bool.true_and, Bool.false_or, ih]
      have e1 : val (a :: x.take m) 0 = (0 * 256 + a.toNat) * 256 ^ (y.take m).length + val (x.take m) 0 := by
        simp only [val]; rw [val_acc (x.take m), hl]
      have e2 : val (a :: y.take m) 0 = (0 * 256 + a.toNat) * 256 ^ (y.take m).length + val (y.take m) 0 := by
        simp only [val]; rw [val_acc (y.take m)]
      rw [e1, e2]
      generalize (0 * 256 + a.toNat) * 256 ^ (y.take m).length = c
      have h1 : ∀ p q, Nat.beq (c + p) (c + q) = Nat.beq p q := fun p q => by rw [beq_eq_decide, beq_eq_decide]; simp
      have h2 : ∀ p q, Nat.blt (c + p) (c + q) = Nat.blt p q := fun p q => by rw [blt_eq_decide, blt_eq_decide]; simp
      have h3 : Nat.blt (a :: x).length (a :: y).length = Nat.blt x.length y.length := by rw [blt_eq_decide, blt_eq_decide]; simp
      simp only [lessV, h1, h2, h3]
    · have hab : b < a := UInt8.lt_iff_toNat_lt.2 h
      have hv := val_cons_lt b a _ _ hl.symm hab
      have hn1 : ¬ a < b := by rw [UInt8.lt_iff_toNat_lt]; omega
      have hn2 : (a == b) = false := by simp; intro e; subst e; omega
      simp only [hn1, hn2, decide_false, Bool.false_and, Bool.or_false, lessV, beq_eq_decide, blt_eq_decide]
      rw [decide_eq_false (by omega), cond_false, decide_eq_false (by omega)]

theorem lt_eq (a b : List UInt8) : (ofBytes a).lt (ofBytes b) = Go.Op.bytesLess a b := by
  rw [less_take a b _ rfl]
  simp only [lt, ofBytes_eq]
  have ea : val a 0 >>> (8 * (a.length - min a.length b.length)) = val (a.take (min a.length b.length)) 0 := by
    conv => lhs; lhs; arg 1; rw [← List.take_append_drop (min a.length b.length) a]
    have := val_div (a.take (min a.length b.length)) (a.drop (min a.length b.length))
    rwa [List.length_drop] at this
  have eb : val b 0 >>> (8 * (b.length - min a.length b.length)) = val (b.take (min a.length b.length)) 0 := by
    conv => lhs; lhs; arg 1; rw [← List.take_append_drop (min a.length b.length) b]
    have := val_div (b.take (min a.length b.length)) (b.drop (min a.length b.length))
    rwa [List.length_drop] at this
  rw [ea, eb]; rfl
end BStr
end Go.Proofs.YtmadknpaljaecaaGreatDoor.Ev
namespace Go.Proofs.YtmadknpaljaecaaGreatDoor.Ev
open Go

def isFlat : Value → Bool
  | .agg _ | .tuple _ => false
  | _ => true

def toAVn : Nat → Value → Option AV
  | 0, _ => none
  | n + 1, v => match v with
    | .bool b => some (.bool b)
    | .int k i => some (.int k i)
    | .float k b => some (.float k b)
    | .string s => some (.str (BStr.ofBytes s.data.toList))
    | .pointer none => some .nilPtr
    | .slice none 0 0 => some .nilSl
    | .map none => some .nilMap
    | .nilFunc => some .nilFn
    | .nilIface => some .nilIf
    | .agg cs => if cs.toList.all isFlat then (mapO (toAVn n) cs.toList).map .agg else none
    | .tuple cs => (mapO (toAVn n) cs.toList).map .tup
    | .func (.func f) a b => if a.size = 0 ∧ b.size = 0 then some (.fn f [] []) else none
    | .iface t v => (toAVn n v).map (.iface t)
    | _ => none

def toAV (v : Value) : Option AV := toAVn 4 v

def xo : Operand → Option XO
  | .tmp t => some (.t t)
  | .const v => (toAV v).map .c
  | .global g => some (.g g)
  | .func f => some (.c (.fn f [] []))

def xoO : Option Operand → Option (Option XO)
  | none => some none
  | some x => (xo x).map some

/-- the cells of a type's zero value -/
def zcells (P : Program) (t : TypeId) : Option (List AV) :=
  match P.info? t with
  | some i => match i.zero with
    | some z => if z.cells.size = i.size ∧ z.cells.toList.all isFlat then mapO toAV z.cells.toList else none
    | none => none
  | none => none

def zval (P : Program) (t : TypeId) : Option AV :=
  match P.info? t with
  | some i => match i.zero with
    | some z => toAV z
    | none => none
  | none => none

def sizeT (P : Program) (t : TypeId) : Option Nat := (P.info? t).map (·.size)
def aggT (P : Program) (t : TypeId) : Option Bool := (P.underlying t).map aggD

/-- surely the same plain cell -/
def sameC : AV → AV → Bool
  | .undef, .undef => true
  | .bool a, .bool b => a == b
  | .int k a, .int k' b => decide (k = k') && eqI a b
  | .float k a, .float k' b => decide (k = k') && Nat.beq a b
  | .str a, .str b => a.beq b
  | .nilPtr, .nilPtr | .nilSl, .nilSl | .nilMap, .nilMap | .nilFn, .nilFn | .nilIf, .nilIf => true
  | _, _ => false

def zsOf (d : AV) : List AV → Nat → List (Nat × AV)
  | [], _ => []
  | v :: r, i => if sameC v d then zsOf d r (i + 1) else (i, v) :: zsOf d r (i + 1)
def mkZs (cs : List AV) : Zs := ⟨cs.length, cs.headD .undef, zsOf (cs.headD .undef) cs 0⟩

def rep (n : Nat) (zs : List AV) : List AV := match n with
  | 0 => []
  | n + 1 => zs ++ rep n zs

def isConstO : Operand → Bool | .const _ => true | _ => false

def xparts (f : Nat → Option (Nat × Nat)) (ps : List (Nat × Operand)) : Option (List (Nat × Nat × XO)) :=
  mapO (fun p => match f p.1, xo p.2 with | some (off, s), some x => some (off, s, x) | _, _ => none) ps

/-- where a field lies -/
def fieldAtP (P : Program) (fs : Array Field) (i : Nat) : Option (Nat × Nat) :=
  match fs[i]? with
  | some f => (sizeT P f.type).map fun s => (f.offset, s)
  | none => none

def isScalar : TypeDesc → Bool
  | .int _ | .float _ | .string => true
  | _ => false

/-- the greatest length that an append may make -/
def limOf (bytes : Nat) : Nat := 2 ^ 44 / (bytes + 1)

/-- the types of whole numbers -/
def intTs (P : Program) : List Nat := (List.range P.types.size).filter fun t => match P.underlying t, P.info? t with
  | some (.int _), some i => i.comparable
  | _, _ => false
theorem intTs_ok {P : Program} {t : Nat} (h : ((intTs P).any fun u => Nat.beq u t) = true) : ∃ k i, P.underlying t = some (.int k) ∧ P.info? t = some i ∧ i.comparable = true := by
  obtain ⟨u, hu, he⟩ := List.any_eq_true.1 h
  cases Nat.eq_of_beq_eq_true he
  have := (List.mem_filter.1 hu).2
  split at this
  · rename_i k i h1 h2; exact ⟨k, i, h1, h2, this⟩
  · cases this

/-- the kind of == of a type that is no number and no string -/
def eqKind (P : Program) (d : TypeDesc) (known : Bool) : Option EqK :=
  match d with
  | .bool => some .bool
  | .pointer e => match sizeT P e with
    | some n => if n ≠ 0 then some .ptr else none
    | none => none
  | .slice _ => some .sl
  | .map _ _ => some .map
  | .func _ _ _ => some .fn
  | .interface _ => some (.iface known (intTs P))
  | _ => none

def xbuiltin (P : Program) (b : Builtin) (ats : Array TypeId) (args : List XO) (_t : TypeId) : Option XOp :=
  match ats[0]? with
  | none => none
  | some t0 =>
  match P.underlying t0 with
  | none => none
  | some d =>
  match b with
  | .len => match args with
    | [x] => match d with
      | .string => some (.p (.lenS x))
      | .slice _ => some (.p (.lenSl x))
      | .map _ _ => some (.g (.lenM x))
      | .array n _ => some (.mv (.c (.int .i64 (.ofNat n))))
      | .pointer a => match P.underlying a with
        | some (.array n _) => some (.mv (.c (.int .i64 (.ofNat n))))
        | _ => none
      | _ => none
    | _ => none
  | .cap => match args with
    | [x] => match d with
      | .slice _ => some (.p (.capSl x))
      | _ => none
    | _ => none
  | .append => match args with
    | [x, y] => match d with
      | .slice e => match P.info? e, ats[1]? with
        | some i, some t1 => match P.underlying t1, zcells P e with
          | some d1, some z => (match d1 with
            | .int _ => none
            | _ => if i.size ≠ 0 ∧ z.length = i.size then some (.h (.app e i.size (limOf i.bytes) x y)) else none)
          | _, _ => none
        | _, _ => none
      | _ => none
    | _ => none
  | .copy => match args with
    | [x, y] => match d with
      | .slice e => (sizeT P e).map fun s => .g (.cpy s x y)
      | _ => none
    | _ => none
  | .min => some (.q (.mn args))
  | .max => some (.q (.mx args))
  | .panic => none
  | .unsafeSliceData => match args with
    | [x] => some (.q (.usd x))
    | _ => none
  | .unsafeString => match args with
    | [x, y] => match d with
      | .pointer e => match P.underlying e with
        | some (.int .u8) => if P.cellsOf e = 1 ∧ ats.size = 2 then some (.g (.us e x y)) else none
        | _ => none
      | _ => none
    | _ => none
  | _ => none

def xextern (P : Program) (fn : Func) (t : TypeId) (args : List XO) : Option XOp :=
  if (Extern.findNext fn).isSome then none else
  match args with
  | [x] =>
    if fn.name == "math.Float64bits" then some (.q (.fbits .f64 x))
    else if fn.name == "internal/strconv.float64bits" then some (.q (.fbits .f64 x))
    else if fn.name == "math.Float32bits" then some (.q (.fbits .f32 x))
    else if fn.name == "internal/strconv.float32bits" then some (.q (.fbits .f32 x))
    else if fn.name == "math.Float64frombits" then some (.q (.ffrom .f64 x))
    else if fn.name == "internal/strconv.float64frombits" then some (.q (.ffrom .f64 x))
    else if fn.name == "math.Float32frombits" then some (.q (.ffrom .f32 x))
    else if fn.name == "internal/strconv.float32frombits" then some (.q (.ffrom .f32 x))
    else if fn.name == "internal/abi.NoEscape" then some (.mv x)
    else if fn.name == "math.archTrunc" then some (.q (.trunc x))
    else if fn.name == "internal/bytealg.MakeNoZero" then match fn.resultTypes[0]? with
      | some t' => (match P.underlying t' with
        | some (.slice e) => some (.g (.mkNZ e x))
        | _ => none)
      | none => none
    else none
  | [x, y] =>
    if fn.name == "internal/bytealg.IndexByteString" then some (.q (.ixB x y))
    else if fn.name == "internal/bytealg.CountString" then some (.q (.cnt x y))
    else none
  | _ => none

/-- keys that are strings (true) or integers -/
def keyS (P : Program) (k : TypeId) : Option Bool :=
  match P.underlying k with
  | some .string => some true
  | some (.int _) => some false
  | _ => none
def xins (P : Program) (t : TypeId) (m k v : Operand) : Option XOp :=
  match P.underlying t, xo m, xo k, xo v with
  | some (.map kt _), some m, some k, some v => (match keyS P kt with
    | some s => some (.g (.ins s m k v))
    | none => none)
  | _, _, _, _ => none

def xopOf (P : Program) (o : Oper) : Option XOp :=
  match o.op with
  | .move x | .assign x => (xo x).map .mv
  | .pick c a b => match xo c, xo a, xo b with | some c, some a, some b => some (.pick c a b) | _, _, _ => none
  | .alloc t => (zcells P t).map fun z => .h (.new t (mkZs z))
  | .box t x => match sizeT P t, xo x with | some n, some x => some (.h (.box t n x)) | _, _ => none
  | .build t ps => match zcells P t, P.underlying t with
    | some z, some (.struct fs) => if fs.toList.all (fun f => (sizeT P f.type).isSome) then (xparts (fieldAtP P fs) ps.toList).map fun l => .q (.build z l) else none
    | some z, some (.array _ e) => match sizeT P e with
      | some s => (xparts (fun i => some (i * s, s)) ps.toList).map fun l => .q (.build z l)
      | none => none
    | _, _ => none
  | .buildSlice t len ps => match P.underlying t with
    | some (.slice e) => match sizeT P e, zcells P e with
      | some s, some z => if len * s ≤ 2 ^ 24 then (xparts (fun i => some (i * s, s)) ps.toList).map fun l => .h (.bsl e len (rep len z) l) else none
      | _, _ => none
    | _ => none
  | .load t a => match aggT P t, sizeT P t, xo a with | some g, some n, some x => some (.h (.ld g (if g then n else 1) x)) | _, _, _ => none
  | .store t a v => match sizeT P t, xo a, xo v with | some n, some a, some v => some (.h (.st n a v)) | _, _, _ => none
  | .nilCheck x => (xo x).map fun x => .p (.nilchk x)
  | .binOp op t x y _ =>
    match xo x, xo y, P.underlying t with
    | some x', some y', some d => (match op with
      | .eql | .neq => if isScalar d then some (.p (.bin op x' y')) else
        (match eqKind P d (isConstO x || isConstO y) with
        | some k => some (.p (.eq (op == .neq) k x' y'))
        | _ => none)
      | op => some (.p (.bin op x' y')))
    | _, _, _ => none
  | .unOp op _ x => (xo x).map fun x => .p (.un op x)
  | .convert s d x =>
    match P.underlying s, P.underlying d, xo x with
    | some s', some d', some x => (match s', d' with
      | .int _, .int k => some (.p (.cvI k x))
      | .int _, .float k => some (.q (.cvF k x))
      | .float _, .int k => some (.q (.cvFI k x))
      | .float _, .float k => some (.q (.cvFF k x))
      | .int _, .string => some (.q (.cvIS x))
      | .string, .string => some (.p (.sid x))
      | .string, .slice e => (match P.underlying e with | some (.int .u8) => some (.g (.cvSB e x)) | _ => none)
      | .slice e, .string => (match P.underlying e with | some (.int .u8) => some (.g (.cvBS x)) | _ => none)
      | .pointer t, .unsafePointer => (match sizeT P t with | some n => if n ≠ 0 then some (.g (.cvP t n x)) else none | none => none)
      | .unsafePointer, .pointer t => (match sizeT P t with | some n => if n ≠ 0 then some (.g (.cvP t n x)) else none | none => none)
      | _, _ => none)
    | _, _, _ => none
  | .makeInterface t x => match P.underlying t, xo x with
    | some d, some x => (match d with | .interface _ => none | _ => some (.q (.mkI t x)))
    | _, _ => none
  | .lookup t x i ok => match P.underlying t, xo x, xo i with
    | some (.map k e), some x, some i => (match keyS P k, zval P e with
      | some s, some z => some (.g (.lkp s z ok x i))
      | _, _ => none)
    | _, _, _ => none
  | .mapUpdate t m k v => xins P t m k v
  | .insert t m k v => xins P t m k v
  | .makeFunc (.func f) a b => match mapO xo a.toList, mapO xo b.toList with | some a, some b => some (.q (.mkF f a b)) | _, _ => none
  | .makeMap _ none => some (.g .mkMap)
  | .makeSlice t l c => match P.underlying t with
    | some (.slice e) => match P.info? e, zcells P e, xo l, xo c with
      | some i, some z, some l, some c => if i.size ≠ 0 then some (.g (.mksl e i.size (limOf i.bytes) z l c)) else none
      | _, _, _, _ => none
    | _ => none
  | .slice t x lo hi none => match xo x, xoO lo, xoO hi, P.underlying t with
    | some x, some lo, some hi, some d => (match d with
      | .string => some (.p (.slS x lo hi))
      | .slice e => (sizeT P e).map fun s => .q (.slSl s x lo hi)
      | .array n e => (sizeT P e).map fun s => .q (.slA n s x lo hi)
      | .pointer a => (match P.underlying a with
        | some (.array n e) => (sizeT P e).map fun s => .q (.slA n s x lo hi)
        | _ => none)
      | _ => none)
    | _, _, _, _ => none
  | .fieldAddr t x i => match P.underlying t, xo x with
    | some (.struct fs), some x => (match fs[i]? with
      | some f => (match sizeT P f.type with | some n => if n ≠ 0 then some (.p (.fa f.offset x)) else none | none => none)
      | none => none)
    | _, _ => none
  | .field t x i => match P.underlying t, xo x with
    | some (.struct fs), some x => (match fs[i]? with
      | some f => (match aggT P f.type, sizeT P f.type with | some g, some n => some (.q (.fld g f.offset (if g then n else 1) x)) | _, _ => none)
      | none => none)
    | _, _ => none
  | .indexAddr t x i => match P.underlying t, xo x, xo i with
    | some d, some x, some i => (match d with
      | .slice e => (sizeT P e).map fun s => .p (.iaS s x i)
      | .array n e => (sizeT P e).map fun s => .p (.iaA n s x i)
      | _ => none)
    | _, _, _ => none
  | .index t x i => match P.underlying t, xo x, xo i with
    | some d, some x, some i => (match d with
      | .string => some (.p (.ixS x i))
      | .array n e => (match aggT P e, sizeT P e with
        | some g, some s => if g = true ∨ s = 1 then some (.q (.ixA g n s x i)) else none
        | _, _ => none)
      | _ => none)
    | _, _, _ => none
  | .range t x => match P.underlying t, xo x with
    | some .string, some x => some (.g (.rngS x))
    | _, _ => none
  | .next it true => (xo it).map fun x => .g (.nxtS x)
  | .typeAssert x _ a ok => match P.underlying a, zval P a, xo x with
    | some d, some z, some x => (match d with | .interface _ => none | _ => some (.q (.ta a z ok x)))
    | _, _, _ => none
  | .extract x i => (xo x).map fun x => .p (.ext x i)
  | .panic x => (xo x).map .panic
  | .call c => match mapO xo c.args.toList with
    | some args => (match c.callee with
      | .value (.func f) => (match P.funcs[f]? with
        | some fn => if fn.name == "runtime.NumGoroutine" then none else if fn.body.isSome then some (.call f args) else xextern P fn o.type args
        | none => none)
      | .value f => (xo f).map fun f => .callv f args
      | .builtin b => xbuiltin P b c.argTypes args o.type
      | _ => none)
    | none => none
  | _ => none

def xgrd (ops : Array Oper) : Option (Nat × Bool) → Option (Option (Nat × Bool))
  | none => some none
  | some (j, b) => match (ops[j]?).bind (·.dst) with
    | some t => some (some (t, b))
    | none => none

def xoper (P : Program) (nt : Nat) (ops : Array Oper) (o : Oper) : Option XOper :=
  match xgrd ops o.guard with
  | some g => (match o.dst with
    | some d => if d < nt then some ⟨some d, (xopOf P o).getD .bad, g⟩ else none
    | none => some ⟨none, (xopOf P o).getD .bad, g⟩)
  | none => none

/-! Regions that draw their order. -/
def rdO : XO → List Nat
  | .t n => [n]
  | _ => []
def rdOO : Option XO → List Nat
  | some x => rdO x
  | none => []
def rdL : List XO → List Nat
  | [] => []
  | x :: r => rdO x ++ rdL r
def rdP : List (Nat × Nat × XO) → List Nat
  | [] => []
  | p :: r => rdO p.2.2 ++ rdP r

def readsPA : PA → List Nat
  | .bin _ x y => rdO x ++ rdO y
  | .eq _ _ x y => rdO x ++ rdO y
  | .un _ x => rdO x
  | .ext x _ => rdO x
  | .lenS x => rdO x
  | .lenSl x => rdO x
  | .capSl x => rdO x
  | .nilchk x => rdO x
  | .fa _ x => rdO x
  | .iaS _ x i => rdO x ++ rdO i
  | .iaA _ _ x i => rdO x ++ rdO i
  | .ixS x i => rdO x ++ rdO i
  | .cvI _ x => rdO x
  | .slS x lo hi => rdO x ++ rdOO lo ++ rdOO hi
  | .sid x => rdO x
def readsPB : PB → List Nat
  | .build _ ps => rdP ps
  | .cvF _ x => rdO x
  | .cvFI _ x => rdO x
  | .cvFF _ x => rdO x
  | .cvIS x => rdO x
  | .mkI _ x => rdO x
  | .mkF _ a b => rdL a ++ rdL b
  | .slSl _ x lo hi => rdO x ++ rdOO lo ++ rdOO hi
  | .slA _ _ x lo hi => rdO x ++ rdOO lo ++ rdOO hi
  | .fld _ _ _ x => rdO x
  | .ixA _ _ _ x i => rdO x ++ rdO i
  | .ta _ _ _ x => rdO x
  | .mn l => rdL l
  | .mx l => rdL l
  | .usd x => rdO x
  | .fbits _ x => rdO x
  | .ffrom _ x => rdO x
  | .ixB x y => rdO x ++ rdO y
  | .ixSt x y => rdO x ++ rdO y
  | .cnt x y => rdO x ++ rdO y
  | .trunc x => rdO x
def readsHA : HA → List Nat
  | .ld _ _ p => rdO p
  | .st _ p x => rdO p ++ rdO x
  | .new _ _ => []
  | .box _ _ x => rdO x
  | .bsl _ _ _ ps => rdP ps
  | .app _ _ _ x y => rdO x ++ rdO y
def readsHB : HB → List Nat
  | .cvSB _ x => rdO x
  | .cvBS x => rdO x
  | .cvP _ _ x => rdO x
  | .mkMap => []
  | .ins _ m k v => rdO m ++ rdO k ++ rdO v
  | .lkp _ _ _ x i => rdO x ++ rdO i
  | .mksl _ _ _ _ l c => rdO l ++ rdO c
  | .rngS x => rdO x
  | .nxtS x => rdO x
  | .lenM x => rdO x
  | .cpy _ x y => rdO x ++ rdO y
  | .us _ p n => rdO p ++ rdO n
  | .mkNZ _ x => rdO x
def reads : XOp → List Nat
  | .mv x => rdO x
  | .p o => readsPA o
  | .h o => readsHA o
  | .call _ l => rdL l
  | .pick c a b => rdO c ++ rdO a ++ rdO b
  | .q o => readsPB o
  | .g o => readsHB o
  | .callv f l => rdO f ++ rdL l
  | .panic x => rdO x
  | .bad => []
def readsO (o : XOper) : List Nat := match o.grd with
  | some p => p.1 :: reads o.op
  | none => reads o.op

/-- may the memory change? -/
def wrS (pur : Nat → Bool) : XOp → Bool
  | .h (.ld ..) => false
  | .h _ => true
  | .g (.cvBS _) | .g (.cvP ..) | .g (.lenM _) | .g (.lkp ..) => false
  | .g _ => true
  | .call f _ => !pur f
  | .callv .. | .panic _ | .bad => true
  | _ => false
/-- is the memory looked at? -/
def freeS : XOp → Bool
  | .mv _ | .p _ | .q _ | .pick .. => true
  | _ => false

def direct (o : Oper) : List Nat := (o.after.toList.filter (Region.binds .any ·)).map (·.on)
def flat2 : List (List Nat) → List Nat
  | [] => []
  | a :: r => a ++ flat2 r
/-- what surely runs before each operation -/
def befs : List Oper → List (List Nat) → List (List Nat)
  | [], acc => acc
  | o :: r, acc => befs r (acc ++ [direct o ++ flat2 ((direct o).map fun j => acc[j]?.getD [])])
def hasN (l : List Nat) (n : Nat) : Bool := l.any (Nat.beq n)
def backs : List Oper → Nat → Bool
  | [], _ => true
  | o :: r, i => (direct o).all (Nat.blt · i) && backs r (i + 1)
def befOf (bs : List (List Nat)) (i j : Nat) : Bool := hasN (bs[j]?.getD []) i
def dstIn (o : XOper) (l : List Nat) : Bool := match o.dst with | some d => hasN l d | none => false
def sameDst (o p : XOper) : Bool := match o.dst, p.dst with | some d, some e => Nat.beq d e | _, _ => false
/-- of two operations, i before j in the text: what keeps them apart -/
def pairOk (pur : Nat → Bool) (bs : List (List Nat)) (i j : Nat) (o p : XOper) : Bool :=
  befOf bs i j || (!dstIn o (readsO p) && !dstIn p (readsO o) && !(wrS pur o.op && wrS pur p.op))
def pairsOk (pur : Nat → Bool) (bs : List (List Nat)) (i : Nat) (o : XOper) : List XOper → Nat → Bool
  | [], _ => true
  | p :: r, j => !sameDst o p && pairOk pur bs i j o p && pairsOk pur bs i o r (j + 1)
def allPairs (pur : Nat → Bool) (bs : List (List Nat)) : List XOper → Nat → Bool
  | [], _ => true
  | o :: r, i => pairsOk pur bs i o r (i + 1) && allPairs pur bs r (i + 1)
/-- the writers among the first ones, and so on -/
def cntW (pur : Nat → Bool) (sel : Nat → Bool) : List XOper → Nat → Nat
  | [], _ => 0
  | o :: r, i => cntW pur sel r (i + 1) + (bif wrS pur o.op && sel i then 1 else 0)
def diOf (pur : Nat → Bool) (bs : List (List Nat)) (xs : List XOper) (i : Nat) (o : XOper) : DI :=
  bif wrS pur o.op then .wr else bif freeS o.op then .free else
  .rd (cntW pur (fun j => befOf bs j i) xs 0) (cntW pur (fun j => !befOf bs i j) xs 0)
def withDI (pur : Nat → Bool) (bs : List (List Nat)) (xs : List XOper) : List XOper → Nat → List (XOper × DI)
  | [], _ => []
  | o :: r, i => (o, diOf pur bs xs i o) :: withDI pur bs xs r (i + 1)

def xregion (P : Program) (pur : Nat → Bool) (nt : Nat) (ops : Array Oper) (d : Bool) : Option XCode :=
  match mapO (xoper P nt ops) ops.toList with
  | none => none
  | some xs => if d then
      (let bs := befs ops.toList []
       if backs ops.toList 0 && allPairs pur bs xs 0 then some (.draw (withDI pur bs xs xs 0)) else none)
    else some (.reg xs)

def xcode (P : Program) (pur : Nat → Bool) (nt : Nat) : Code → Option XCode
  | .skip => some .skip
  | .region _ ops d => xregion P pur nt ops d
  | .seq a b => match xcode P pur nt a, xcode P pur nt b with | some a, some b => some (.seq a b) | _, _ => none
  | .cond c a b => match xo c, xcode P pur nt a, xcode P pur nt b with | some c, some a, some b => some (.cond c a b) | _, _, _ => none
  | .block id b => (xcode P pur nt b).map (.block id)
  | .loop b => (xcode P pur nt b).map .loop
  | .exit id => some (.exit id)
  | .scope b => (xcode P pur nt b).map .scope
  | .label l => some (.label l)
  | .goto l => some (.goto l)
  | .ret => some .ret
  | _ => some .bad
end Go.Proofs.YtmadknpaljaecaaGreatDoor.Ev
namespace Go.Proofs.YtmadknpaljaecaaGreatDoor.Ev
open Go

/-! Inversions. -/
section inv
variable {E : Env} {W : World} {x : Value}
theorem VR.int_inv {k : IntKind} {n : Int} (h : VR E W (.int k n) x) : x = .int k n := match h with | .int => rfl
theorem VR.bool_inv {b : Bool} (h : VR E W (.bool b) x) : x = .bool b := match h with | .bool => rfl
theorem VR.float_inv {k : FloatKind} {b : Nat} (h : VR E W (.float k b) x) : x = .float k b := match h with | .float => rfl
theorem VR.nan_inv {k : FloatKind} (h : VR E W (.nan k) x) : ∃ b, x = .float k b ∧ (k.decode b).isNaN = true := match h with | .nan h => ⟨_, rfl, h⟩
theorem VR.str_inv {s : BStr} (h : VR E W (.str s) x) : ∃ y : ByteArray, x = .string y ∧ s = BStr.ofBytes y.data.toList := match h with | .str h => ⟨_, rfl, h⟩
theorem VR.agg_inv {cs : List AV} (h : VR E W (.agg cs) x) : ∃ c : Array Value, x = .agg c ∧ VRs E W cs c.toList ∧ ∀ y ∈ c.toList, Flat y := match h with | .agg h1 h2 => ⟨_, rfl, h1, h2⟩
theorem VR.tup_inv {cs : List AV} (h : VR E W (.tup cs) x) : ∃ c : Array Value, x = .tuple c ∧ VRs E W cs c.toList := match h with | .tup h1 => ⟨_, rfl, h1⟩
theorem VR.ref_inv {b off : Nat} (h : VR E W (.ref b off) x) : x = .pointer (some ⟨E.β b, off, none⟩) ∧ b < E.nx := match h with | .ref h => ⟨rfl, h⟩
theorem VR.iptr_inv {w : Bool} {cs : List AV} (h : VR E W (.iptr w cs) x) : ∃ bl off xs, x = .pointer (some ⟨bl, off, none⟩) ∧ E.still w bl ∧ (∀ c ∈ cs, Clean w c) ∧ Reads W bl off xs ∧ VRs E W cs xs :=
  match h with | .iptr h1 h2 h3 h4 => ⟨_, _, _, rfl, h1, h2, h3, h4⟩
theorem VR.isl_inv {w : Bool} {len : Nat} {cs : List AV} (h : VR E W (.isl w len cs) x) : ∃ bl off c xs, x = .slice (some ⟨bl, off, none⟩) len c ∧ ((len = 0 ∧ cs = []) ∨ (E.still w bl ∧ Reads W bl off xs)) ∧ (∀ c ∈ cs, Clean w c) ∧ len ≤ c ∧ VRs E W cs xs :=
  match h with | .isl h1 h2 h3 h4 => ⟨_, _, _, _, rfl, h1, h2, h3, h4⟩
theorem VR.slc_inv {b off len es c : Nat} (h : VR E W (.sl b off len es (some c)) x) : x = .slice (some ⟨E.β b, off, none⟩) len c ∧ b < E.nx ∧ len ≤ c := match h with | .slc h1 h2 => ⟨rfl, h1, h2⟩
theorem VR.slo_inv {b off len es : Nat} (h : VR E W (.sl b off len es none) x) : ∃ c, x = .slice (some ⟨E.β b, off, none⟩) len c ∧ b < E.nx ∧ len ≤ c ∧ off + c * es = E.csz b := match h with | .slo h1 h2 h3 => ⟨_, rfl, h1, h2, h3⟩
theorem VR.sl_inv {b off len es : Nat} {cap : Option Nat} (h : VR E W (.sl b off len es cap) x) : ∃ c, x = .slice (some ⟨E.β b, off, none⟩) len c ∧ b < E.nx ∧ len ≤ c := by
  cases cap with
  | none => obtain ⟨c, h1, h2, h3, _⟩ := h.slo_inv; exact ⟨c, h1, h2, h3⟩
  | some c => obtain ⟨h1, h2, h3⟩ := h.slc_inv; exact ⟨c, h1, h2, h3⟩
theorem VR.nilSl_inv (h : VR E W .nilSl x) : x = .slice none 0 0 := match h with | .nilSl => rfl
theorem VR.nilPtr_inv (h : VR E W .nilPtr x) : x = .pointer none := match h with | .nilPtr => rfl
theorem VR.nilMap_inv (h : VR E W .nilMap x) : x = .map none := match h with | .nilMap => rfl
theorem VR.nilFn_inv (h : VR E W .nilFn x) : x = .nilFunc := match h with | .nilFn => rfl
theorem VR.nilIf_inv (h : VR E W .nilIf x) : x = .nilIface := match h with | .nilIf => rfl
theorem VR.iface_inv {t : Nat} {v : AV} (h : VR E W (.iface t v) x) : ∃ y, x = .iface t y ∧ VR E W v y := match h with | .iface h => ⟨_, rfl, h⟩
theorem VR.fn_inv {f : Nat} {a b : List AV} (h : VR E W (.fn f a b) x) : ∃ p q : Array Value, x = .func (.func f) p q ∧ VRs E W a p.toList ∧ VRs E W b q.toList := match h with | .fn h1 h2 => ⟨_, _, rfl, h1, h2⟩
theorem VR.mref_inv {b : Nat} (h : VR E W (.mref b) x) : x = .map (some (E.β b)) ∧ b < E.nx := match h with | .mref h => ⟨rfl, h⟩
end inv

theorem mapO_get {α β : Type} {f : α → Option β} : ∀ {l : List α} {m : List β}, mapO f l = some m → m.length = l.length ∧ ∀ (i : Nat) (a : α), l[i]? = some a → ∃ b : β, m[i]? = some b ∧ f a = some b
  | [], m, h => by simp [mapO] at h; subst h; simp
  | a :: r, m, h => by
    simp only [mapO] at h
    split at h
    · cases h
    · rename_i b hb
      split at h
      · cases h
      · rename_i bs hbs
        cases h
        obtain ⟨h1, h2⟩ := mapO_get hbs
        refine ⟨by simp [h1], fun i x hx => ?_⟩
        cases i with
        | zero => simp at hx; subst hx; exact ⟨b, by simp, hb⟩
        | succ i => simp at hx; obtain ⟨y, hy, hf⟩ := h2 i x hx; exact ⟨y, by simpa using hy, hf⟩
theorem mapO_VRs {E : Env} {W : World} {α : Type} {f : α → Option AV} {g : α → Value} {l : List α} {m : List AV} (h : mapO f l = some m) (hf : ∀ a v, a ∈ l → f a = some v → VR E W v (g a)) : VRs E W m (l.map g) := by
  obtain ⟨h1, h2⟩ := mapO_get h
  refine VRs.of_get (by simp [h1]) fun i v x hv hx => ?_
  rw [List.getElem?_map] at hx
  cases hl : l[i]? with
  | none => rw [hl] at hx; cases hx
  | some a =>
    rw [hl] at hx; simp at hx; subst hx
    obtain ⟨b, hb, hfa⟩ := h2 i a hl
    rw [hv] at hb; cases hb
    exact hf a v (List.mem_of_getElem? hl) hfa

theorem isFlat_Flat {v : Value} (h : isFlat v = true) : Flat v := by cases v <;> simp [isFlat, Flat] at *

theorem toAVn_sound {E : Env} {W : World} : ∀ (n : Nat) (v : Value) (a : AV), toAVn n v = some a → VR E W a v
  | 0, v, a, h => by simp [toAVn] at h
  | n + 1, v, a, h => by
    have lst : ∀ (cs : Array Value) m, mapO (toAVn n) cs.toList = some m → VRs E W m cs.toList := fun cs m hm => by
      have := mapO_VRs (g := id) hm (fun v a _ ha => toAVn_sound (E := E) (W := W) n v a ha)
      simpa using this
    cases v with
    | bool b => simp [toAVn] at h; subst h; exact .bool
    | int k i => simp [toAVn] at h; subst h; exact .int
    | float k b => simp [toAVn] at h; subst h; exact .float
    | complex k r i => simp [toAVn] at h
    | string s => simp [toAVn] at h; subst h; exact .str rfl
    | pointer p => cases p <;> simp [toAVn] at h; subst h; exact .nilPtr
    | slice p l c =>
      cases p with
      | some p => simp [toAVn] at h
      | none =>
        cases l with
        | succ l => simp [toAVn] at h
        | zero => cases c with
          | succ c => simp [toAVn] at h
          | zero => simp [toAVn] at h; subst h; exact .nilSl
    | map r => cases r <;> simp [toAVn] at h; subst h; exact .nilMap
    | chan r => simp [toAVn] at h
    | func f x y =>
      cases f <;> simp only [toAVn] at h <;> try (cases h; done)
      split at h
      · rename_i f hs
        cases h
        have hx : x = #[] := Array.eq_empty_of_size_eq_zero hs.1
        have hy : y = #[] := Array.eq_empty_of_size_eq_zero hs.2
        subst hx; subst hy
        exact .fn .nil .nil
      · cases h
    | nilFunc => simp [toAVn] at h; subst h; exact .nilFn
    | iface t v =>
      simp only [toAVn] at h
      cases hm : toAVn n v with
      | none => rw [hm] at h; cases h
      | some m => rw [hm] at h; cases h; exact .iface (toAVn_sound n v m hm)
    | nilIface => simp [toAVn] at h; subst h; exact .nilIf
    | agg cs =>
      simp only [toAVn] at h
      split at h
      · rename_i hfl
        cases hm : mapO (toAVn n) cs.toList with
        | none => rw [hm] at h; cases h
        | some m =>
          rw [hm] at h; cases h
          exact .agg (lst cs m hm) fun x hx => isFlat_Flat (List.all_eq_true.1 hfl x hx)
      · cases h
    | tuple cs =>
      simp only [toAVn] at h
      cases hm : mapO (toAVn n) cs.toList with
      | none => rw [hm] at h; cases h
      | some m => rw [hm] at h; cases h; exact .tup (lst cs m hm)
theorem toAV_sound {E : Env} {W : World} {v : Value} {a : AV} (h : toAV v = some a) : VR E W a v := toAVn_sound 4 v a h

/-! Numbers and strings under operators. -/
theorem stringOp_run {P : Program} {W : World} {E : Env} {op : BinOp} {x y : ByteArray} {v : AV} (h : strBin op (BStr.ofBytes x.data.toList) (BStr.ofBytes y.data.toList) = some v) :
    ∃ z, (Go.Op.stringOp op x y).run P W = .ok z W ∧ VR E W v z := by
  have hx : x.toList = x.data.toList := Go.ByteArray.toList_eq x
  have hy : y.toList = y.data.toList := Go.ByteArray.toList_eq y
  cases op <;> simp only [strBin] at h <;> (try cases h) <;> simp only [Go.Op.stringOp, BStr.beq_eq, BStr.lt_eq, hx, hy] <;> (try exact ⟨_, rfl, .bool⟩)
  · rcases ble_cases ((BStr.ofBytes x.data.toList).n + (BStr.ofBytes y.data.toList).n) maxStr with ⟨hl, e⟩ | ⟨hl, e⟩
    · rw [e] at h
      simp only [cond_true, Option.some.injEq] at h
      subst h
      simp only [BStr.ofBytes_n, maxStr] at hl
      have hs : ¬ (((x.size + y.size : Nat) : Int) > IntKind.i64.max) := by
        have h1 : x.size = x.data.toList.length := by simp
        have h2 : y.size = y.data.toList.length := by simp
        simp only [IntKind.max, IntKind.signed, IntKind.bits, if_true]
        omega
      refine ⟨.string (x ++ y), by rw [if_neg hs]; rfl, .str ?_⟩
      rw [BStr.app_eq]
      congr 1
    · rw [e] at h; cases h
theorem kbits_eq (k : IntKind) : kbits k = k.bits := by cases k <;> rfl

theorem intBits_and {P : Program} {W : World} (k : IntKind) (a b : Int) : (Go.Op.intBits .and k a b).run P W = .ok (.int k (andF k a b)) W := by rw [andF_eq]; rfl
theorem intBits_or {P : Program} {W : World} (k : IntKind) (a b : Int) : (Go.Op.intBits .or k a b).run P W = .ok (.int k (orF k a b)) W := by rw [orF_eq]; rfl
theorem intBits_xor {P : Program} {W : World} (k : IntKind) (a b : Int) : (Go.Op.intBits .xor k a b).run P W = .ok (.int k (xorF k a b)) W := by rw [xorF_eq]; rfl
theorem intBits_andNot {P : Program} {W : World} (k : IntKind) (a b : Int) : (Go.Op.intBits .andNot k a b).run P W = .ok (.int k (andNotF k a b)) W := by rw [andNotF_eq]; rfl

theorem intArith_run {P : Program} {W : World} {E : Env} {op : BinOp} {t : TypeId} {k : IntKind} {a b : Int} {v : AV} (h : intArith op k a b = some v) :
    ∃ z, (binOp op t (.int k a) (.int k b)).run P W = .ok z W ∧ VR E W v z := by
  cases op <;> simp only [intArith] at h <;> (try cases h) <;> simp only [binOp, ne_eq, not_true_eq_false, if_false]
  · exact ⟨_, rfl, by rw [wrapF_eq]; exact .int⟩
  · exact ⟨_, rfl, by rw [wrapF_eq]; exact .int⟩
  · exact ⟨_, rfl, by rw [wrapF_eq]; exact .int⟩
  · cases e : eqI b 0
    · rw [e] at h; cases h
      have hb : b ≠ 0 := by intro hb; subst hb; simp [eqI_eq] at e
      refine ⟨.int k (k.wrap (a.tdiv b)), ?_, by rw [wrapF_eq]; exact .int⟩
      unfold Go.Op.intDiv; rw [if_neg hb]; rfl
    · rw [e] at h; cases h
  · cases e : eqI b 0
    · rw [e] at h; cases h
      have hb : b ≠ 0 := by intro hb; subst hb; simp [eqI_eq] at e
      refine ⟨.int k (a.tmod b), ?_, .int⟩
      unfold Go.Op.intDiv; rw [if_neg hb]; rfl
    · rw [e] at h; cases h
  · exact ⟨_, intBits_and k a b, .int⟩
  · exact ⟨_, intBits_or k a b, .int⟩
  · exact ⟨_, intBits_xor k a b, .int⟩
  · exact ⟨_, intBits_andNot k a b, .int⟩
  · exact ⟨_, rfl, by rw [eqI_eq]; exact .bool⟩
  · exact ⟨_, rfl, by rw [eqI_eq]; exact .bool⟩
  · exact ⟨_, rfl, by rw [ltI_eq]; exact .bool⟩
  · exact ⟨_, rfl, by rw [leI_eq]; exact .bool⟩
  · exact ⟨_, rfl, by rw [ltI_eq]; exact .bool⟩
  · exact ⟨_, rfl, by rw [leI_eq]; exact .bool⟩

theorem shift_run {P : Program} {W : World} {E : Env} {op : BinOp} {k k' : IntKind} {a b : Int} {v : AV} (h : shiftOp op k a b = some v) :
    ∃ z, (Go.Op.shift op k a k' b).run P W = .ok z W ∧ VR E W v z := by
  cases b with
  | negSucc m => simp [shiftOp] at h
  | ofNat m =>
    have hm : ¬ (Int.ofNat m < 0) := by simp
    cases op <;> simp only [shiftOp] at h <;> (try cases h)
    · refine ⟨.int k (k.wrap (a * 2 ^ (min (Int.ofNat m).toNat k.bits))), ?_, ?_⟩
      · unfold Go.Op.shift; rw [if_neg hm]; rfl
      · rw [shlF_eq, kbits_eq]; exact .int
    · refine ⟨.int k (a.fdiv (2 ^ (min (Int.ofNat m).toNat k.bits))), ?_, ?_⟩
      · unfold Go.Op.shift; rw [if_neg hm]; rfl
      · rw [shrF_eq, kbits_eq]; exact .int

/-- what is a NaN -/
theorem isNaN_of {k : FloatKind} {b : Nat} (h : k.format.infRung < b % k.format.signWeight) (hb : k.format.binade ≤ k.format.infRung) : (k.decode b).isNaN = true := by
  unfold FloatKind.decode Ieee.Format.read
  dsimp only
  rw [if_neg (by omega), if_neg (by omega), if_neg (by omega)]; rfl
/-- what is drawn is a NaN -/
theorem cut_nan (k : FloatKind) (a b t : Nat) : (k.decode ((Question.nanBits k a b).cut t)).isNaN = true := by
  cases k with
  | f32 =>
    have h1 : (t / 2) % (2 ^ 23 - 1) < 2 ^ 23 - 1 := Nat.mod_lt _ (by decide)
    refine isNaN_of ?_ (by decide)
    show 2139095040 < (t % 2 * 2 ^ 31 + 2139095040 + 1 + t / 2 % (2 ^ 23 - 1)) % 2147483648
    rcases Nat.mod_two_eq_zero_or_one t with e | e <;> rw [e] <;> omega
  | f64 =>
    have h1 : (t / 2) % (2 ^ 52 - 1) < 2 ^ 52 - 1 := Nat.mod_lt _ (by decide)
    refine isNaN_of ?_ (by decide)
    show 9218868437227405312 < (t % 2 * 2 ^ 63 + 9218868437227405312 + 1 + t / 2 % (2 ^ 52 - 1)) % 9223372036854775808
    rcases Nat.mod_two_eq_zero_or_one t with e | e <;> rw [e] <;> omega
theorem run_choose_nan {P : Program} {w : World} (k : FloatKind) (a b : Nat) : (choose (.nanBits k a b)).run P w = .ok ((Question.nanBits k a b).cut (w.tape w.drawn (.nanBits k a b))) w.drew := by
  simp only [choose, Sem.run]; rfl

theorem floatR_run {P : Program} {W : World} {E : Env} {op : BinOp} {k : FloatKind} {a b : Nat} {o : Option Nat} {v : AV} (h : floatR k o = some v)
    (hs : (Go.Op.floatArith op k a b) = (do match o with | some r => pure (.float k r) | none => pure (.float k (← choose (.nanBits k a b))))) :
    ∃ z W', (Go.Op.floatArith op k a b).run P W = .ok z W' ∧ (W'.heap = W.heap ∧ Out0 W W') ∧ VR E W v z := by
  cases o with
  | none =>
    simp only [floatR] at h; cases h; rw [hs]
    refine ⟨.float k ((Question.nanBits k a b).cut (W.tape W.drawn (Question.nanBits k a b))), W.drew, ?_, ⟨rfl, rfl, rfl⟩, .nan (cut_nan k a b _)⟩
    simp only [Sem.run_bind, run_choose_nan, Result.andThen_ok]
    rfl
  | some r => simp only [floatR] at h; cases h; rw [hs]; exact ⟨_, W, rfl, ⟨rfl, rfl, rfl⟩, .float⟩

theorem floatBin_run {P : Program} {W : World} {E : Env} {op : BinOp} {t : TypeId} {k : FloatKind} {a b : Nat} {v : AV} (h : floatBin op k a b = some v) :
    ∃ z W', (binOp op t (.float k a) (.float k b)).run P W = .ok z W' ∧ (W'.heap = W.heap ∧ Out0 W W') ∧ VR E W v z := by
  cases op <;> simp only [floatBin] at h <;> (try cases h) <;> (try exact ⟨_, W, by simp [binOp, Go.Op.floatCmp], ⟨rfl, rfl, rfl⟩, .bool⟩)
  all_goals
    have e : ∀ op, (op = .add ∨ op = .sub ∨ op = .mul ∨ op = .quo) → binOp op t (.float k a) (.float k b) = Go.Op.floatArith op k a b := by
      rintro op (rfl | rfl | rfl | rfl) <;> simp [binOp]
    rw [e _ (by simp)]
    exact floatR_run h rfl

/-- an operand is a NaN -/
theorem nanBin_run {P : Program} {W : World} {E : Env} {op : BinOp} {t : TypeId} {k : FloatKind} {a b : Nat} {v : AV} (h : nanBin op k = some v) (hn : (k.decode a).isNaN = true ∨ (k.decode b).isNaN = true) :
    ∃ z W', (binOp op t (.float k a) (.float k b)).run P W = .ok z W' ∧ (W'.heap = W.heap ∧ Out0 W W') ∧ VR E W v z := by
  have no : k.format.order a b = none := by
    unfold Ieee.Format.order
    rcases hn with hn | hn
    · cases e : k.decode a <;> rw [e] at hn <;> first | (cases hn; done) | skip
      show (k.decode a).order (k.decode b) = none
      rw [e]; rfl
    · cases e : k.decode b <;> rw [e] at hn <;> first | (cases hn; done) | skip
      show (k.decode a).order (k.decode b) = none
      rw [e]; cases k.decode a <;> rfl
  have n2 : ∀ f : Ieee.Datum → Ieee.Datum → Option Ieee.Datum, (∀ s u d, f (.nan s u) d = none) → (∀ s u d, f d (.nan s u) = none) → f (k.decode a) (k.decode b) = none := by
    intro f f1 f2
    rcases hn with hn | hn
    · cases e : k.decode a <;> rw [e] at hn <;> first | (cases hn; done) | skip
      exact f1 ..
    · cases e : k.decode b <;> rw [e] at hn <;> first | (cases hn; done) | skip
      exact f2 ..
  cases op <;> simp only [nanBin] at h <;> (try cases h) <;> (first | (refine floatBin_run ?_; simp [floatBin, no]; done) | skip)
  · have : k.format.add a b = none := by
      show ((k.decode a).sum (k.decode b)).map _ = none
      rw [n2 Ieee.Datum.sum (fun _ _ _ => rfl) (fun _ _ d => by cases d <;> rfl)]; rfl
    exact floatBin_run (op := .add) (by simp only [floatBin, this, floatR])
  · have : k.format.sub a b = none := by
      show ((k.decode a).sum (k.decode b).opposite).map _ = none
      rw [n2 (fun x y => x.sum y.opposite) (fun _ _ _ => rfl) (fun _ _ d => by cases d <;> rfl)]; rfl
    exact floatBin_run (op := .sub) (by simp only [floatBin, this, floatR])
  · have : k.format.mul a b = none := by
      show ((k.decode a).product (k.decode b)).map _ = none
      rw [n2 Ieee.Datum.product (fun _ _ _ => rfl) (fun _ _ d => by cases d <;> rfl)]; rfl
    exact floatBin_run (op := .mul) (by simp only [floatBin, this, floatR])
  · have : k.format.div a b = none := by
      show ((k.decode a).quotient _ (k.decode b)).map _ = none
      rw [n2 (fun x y => x.quotient _ y) (fun _ _ _ => rfl) (fun _ _ d => by cases d <;> rfl)]; rfl
    exact floatBin_run (op := .quo) (by simp only [floatBin, this, floatR])

theorem neg_nan {k : FloatKind} {b : Nat} (h : (k.decode b).isNaN = true) : (k.decode (Go.Op.negFloat k b)).isNaN = true := by
  have hm : Go.Op.negFloat k b % k.format.signWeight = b % k.format.signWeight := by
    unfold Go.Op.negFloat Ieee.Format.signWeight
    rw [Nat.xor_mod_two_pow, Nat.mod_self, Nat.xor_zero]
  unfold FloatKind.decode Ieee.Format.read at h ⊢
  rw [hm]
  by_cases h1 : b % k.format.signWeight < k.format.binade
  · simp only [h1, if_true] at h; cases h
  · by_cases h2 : b % k.format.signWeight < k.format.infRung
    · simp only [h1, h2, if_true, if_false] at h; cases h
    · by_cases h3 : b % k.format.signWeight = k.format.infRung
      · rw [if_neg h1, if_neg h2, if_pos h3] at h; cases h
      · rw [if_neg h1, if_neg h2, if_neg h3]; rfl

theorem scalar_eqGuard {P : Program} {W : World} (op : BinOp) (t : TypeId) (x y : Operand) (a b : Value)
    (h : ¬ (a = .nilIface ∧ b = .nilIface) ∧ ¬ (∃ c, a = .agg c)) : (eqGuard op t x y a b).run P W = .ok () W := by
  unfold eqGuard
  cases op <;> simp only [Bool.not_true, Bool.not_false, if_true, Bool.false_eq_true, if_false] <;> first | rfl | skip
  all_goals
    split
    · exact absurd ⟨rfl, rfl⟩ h.1
    · exact absurd ⟨_, rfl⟩ h.2
    · rfl

theorem equalIn_bool {P : Program} {W : World} {t : TypeId} (h : P.underlying t = some .bool) (a b : Bool) (d : Nat) : (Go.Op.equalIn (d + 1) t (.bool a) (.bool b)).run P W = .ok (a == b) W := by
  simp [Go.Op.equalIn, run_underlying h]
theorem equal_bool {P : Program} {W : World} {t : TypeId} (h : P.underlying t = some .bool) (a b : Bool) : (Go.Op.equal t (.bool a) (.bool b)).run P W = .ok (a == b) W :=
  equalIn_bool h a b 9999

/-- binary operators on plain cells -/
theorem bin_run {P : Program} {W : World} {E : Env} {op : BinOp} {t : TypeId} {X Y : Operand} {ax ay v : AV} {x y : Value}
    (hx : VR E W ax x) (hy : VR E W ay y) (h : binV op ax ay = some v) :
    ∃ z W', (do eqGuard op t X Y x y; binOp op t x y : Sem Value).run P W = .ok z W' ∧ (W'.heap = W.heap ∧ Out0 W W') ∧ VR E W v z := by
  have go : ∀ {z : Value} {W' : World}, (¬ (x = .nilIface ∧ y = .nilIface) ∧ ¬ (∃ c, x = .agg c)) → ((binOp op t x y).run P W = .ok z W' ∧ (W'.heap = W.heap ∧ Out0 W W') ∧ VR E W v z) →
      ∃ z W', (do eqGuard op t X Y x y; binOp op t x y : Sem Value).run P W = .ok z W' ∧ (W'.heap = W.heap ∧ Out0 W W') ∧ VR E W v z := fun {z} {W'} hn hz =>
    ⟨z, W', by rw [Sem.run_bind, scalar_eqGuard op t X Y x y hn]; exact hz.1, hz.2⟩
  unfold binV at h
  split at h
  · rename_i k a k' b
    have := hx.int_inv; subst this
    have := hy.int_inv; subst this
    split at h
    · obtain ⟨z, h1, h2⟩ := shift_run (P := P) (W := W) (E := E) (k' := k') h
      exact go ⟨by simp, by simp⟩ ⟨h1, ⟨rfl, rfl, rfl⟩, h2⟩
    · obtain ⟨z, h1, h2⟩ := shift_run (P := P) (W := W) (E := E) (k' := k') h
      exact go ⟨by simp, by simp⟩ ⟨h1, ⟨rfl, rfl, rfl⟩, h2⟩
    · split at h
      · rename_i hk; subst hk
        obtain ⟨z, h1, h2⟩ := intArith_run (P := P) (W := W) (E := E) (t := t) h
        exact go ⟨by simp, by simp⟩ ⟨h1, ⟨rfl, rfl, rfl⟩, h2⟩
      · cases h
  · rename_i k a k' b
    have := hx.float_inv; subst this
    have := hy.float_inv; subst this
    split at h
    · rename_i hk; subst hk
      obtain ⟨z, W', h1, h2, h3⟩ := floatBin_run (P := P) (W := W) (E := E) (t := t) h
      exact go ⟨by simp, by simp⟩ ⟨h1, h2, h3⟩
    · cases h
  · obtain ⟨x', rfl, rfl⟩ := hx.str_inv
    obtain ⟨y', rfl, rfl⟩ := hy.str_inv
    obtain ⟨z, h1, h2⟩ := stringOp_run (P := P) (W := W) (E := E) h
    refine go ⟨by simp, by simp⟩ ⟨?_, ⟨rfl, rfl, rfl⟩, h2⟩
    · rw [← h1]; cases op <;> rfl
  · obtain ⟨a, rfl, ha⟩ := hx.nan_inv
    have := hy.float_inv; subst this
    split at h
    · rename_i hk; subst hk
      obtain ⟨z, W', h1, h2, h3⟩ := nanBin_run (P := P) (W := W) (E := E) (t := t) h (.inl ha)
      exact go ⟨by simp, by simp⟩ ⟨h1, h2, h3⟩
    · cases h
  · obtain ⟨a, rfl, ha⟩ := hy.nan_inv
    have := hx.float_inv; subst this
    split at h
    · rename_i hk; subst hk
      obtain ⟨z, W', h1, h2, h3⟩ := nanBin_run (P := P) (W := W) (E := E) (t := t) h (.inr ha)
      exact go ⟨by simp, by simp⟩ ⟨h1, h2, h3⟩
    · cases h
  · obtain ⟨a, rfl, ha⟩ := hx.nan_inv
    obtain ⟨b, rfl, hb⟩ := hy.nan_inv
    split at h
    · rename_i hk; subst hk
      obtain ⟨z, W', h1, h2, h3⟩ := nanBin_run (P := P) (W := W) (E := E) (t := t) h (.inl ha)
      exact go ⟨by simp, by simp⟩ ⟨h1, h2, h3⟩
    · cases h
  · cases h

theorem un_run {P : Program} {W : World} {E : Env} {op : UnOp} {ax v : AV} {x : Value} (hx : VR E W ax x) (h : unV op ax = some v) :
    ∃ z, (Go.Op.unary op x).run P W = .ok z W ∧ VR E W v z := by
  unfold unV at h
  split at h
  · rename_i k n; have := hx.int_inv; subst this; cases h
    exact ⟨_, rfl, by rw [wrapF_eq]; exact .int⟩
  · rename_i k n; have := hx.int_inv; subst this; cases h
    exact ⟨_, intBits_xor k _ n, .int⟩
  · rename_i k b; have := hx.float_inv; subst this; cases h
    exact ⟨_, rfl, .float⟩
  · rename_i k; obtain ⟨a, rfl, ha⟩ := hx.nan_inv; cases h
    exact ⟨_, rfl, .nan (neg_nan ha)⟩
  · rename_i b; have := hx.bool_inv; subst this; cases h
    exact ⟨_, rfl, .bool⟩
  · cases h

/-! == beyond numbers and strings -/
def NilShape (k : EqK) (x : Value) (b : Bool) : Prop :=
  match k with
  | .bool => False
  | .ptr => ∃ a : Option Addr, x = .pointer a ∧ a.isNone = b
  | .sl => ∃ (a : Option Addr) (l c : Nat), x = .slice a l c ∧ a.isNone = b
  | .map => ∃ a : Option Nat, x = .map a ∧ a.isNone = b
  | .fn => (x = .nilFunc ∧ b = true) ∨ (∃ f p q, x = .func f p q ∧ b = false)
  | .iface _ _ => (x = .nilIface ∧ b = true) ∨ (∃ t y, x = .iface t y ∧ b = false)

theorem isNil_some {E : Env} {W : World} {k : EqK} {v : AV} {x : Value} {b : Bool} (h : isNil k v = some b) (hv : VR E W v x) : NilShape k x b := by
  unfold isNil at h
  split at h <;> (try cases h) <;> (try cases hv) <;> first | exact ⟨_, rfl, rfl⟩ | exact ⟨_, _, _, rfl, rfl⟩ | exact .inl ⟨rfl, rfl⟩ | exact .inr ⟨_, _, _, rfl, rfl⟩ | exact .inr ⟨_, _, rfl, rfl⟩

/-- what one nil among two values says -/
theorem equalIn_shape {P : Program} {W : World} {t : TypeId} {td : TypeDesc} {k : EqK} {known : Bool} {x y : Value} {p q : Bool} (hd : P.underlying t = some td) (hk : eqKind P td known = some k)
    (hx : NilShape k x p) (hy : NilShape k y q) (hpq : p = true ∨ q = true) (d : Nat) : (Go.Op.equalIn (d + 1) t x y).run P W = .ok (p && q) W := by
  cases td <;> simp only [eqKind] at hk <;> (try (cases hk; done))
  · cases hk; exact hx.elim
  · split at hk
    · split at hk
      · cases hk
        obtain ⟨a, rfl, rfl⟩ := hx
        obtain ⟨b, rfl, rfl⟩ := hy
        cases a <;> cases b <;> first | (simp at hpq; done) | simp [Go.Op.equalIn, run_underlying hd]
      · cases hk
    · cases hk
  · cases hk
    obtain ⟨a, l, c, rfl, rfl⟩ := hx
    obtain ⟨b, l', c', rfl, rfl⟩ := hy
    cases a <;> cases b <;> first | (simp at hpq; done) | simp [Go.Op.equalIn, run_underlying hd]
  · cases hk
    obtain ⟨a, rfl, rfl⟩ := hx
    obtain ⟨b, rfl, rfl⟩ := hy
    cases a <;> cases b <;> first | (simp at hpq; done) | simp [Go.Op.equalIn, run_underlying hd]
  · cases hk
    rcases hx with ⟨rfl, rfl⟩ | ⟨f, a, b, rfl, rfl⟩ <;> rcases hy with ⟨rfl, rfl⟩ | ⟨f', a', b', rfl, rfl⟩ <;> first | (simp at hpq; done) | simp [Go.Op.equalIn, run_underlying hd]
  · cases hk
    rcases hx with ⟨rfl, rfl⟩ | ⟨f, a, rfl, rfl⟩ <;> rcases hy with ⟨rfl, rfl⟩ | ⟨f', a', rfl, rfl⟩ <;> first | (simp at hpq; done) | simp [Go.Op.equalIn, run_underlying hd]

theorem eqNil_some {E : Env} {W : World} {k : EqK} {ax ay : AV} {x y : Value} {b : Bool} (hx : VR E W ax x) (hy : VR E W ay y) (h : eqNil k ax ay = some b) :
    ∃ p q, NilShape k x p ∧ NilShape k y q ∧ (p = true ∨ q = true) ∧ b = (p && q) ∧ (p = true → q = true → ∀ ts, k ≠ .iface false ts) := by
  unfold eqNil at h
  split at h
  · rename_i h1 h2
    refine ⟨true, true, isNil_some h1 hx, isNil_some h2 hy, .inl rfl, ?_, ?_⟩
    · split at h <;> cases h; rfl
    · rintro _ _ ts rfl; simp at h
  · rename_i h1 h2; cases h; exact ⟨true, false, isNil_some h1 hx, isNil_some h2 hy, .inl rfl, rfl, by simp⟩
  · rename_i h1 h2; cases h; exact ⟨false, true, isNil_some h1 hx, isNil_some h2 hy, .inr rfl, rfl, by simp⟩
  · cases h

theorem binOp_eql {t : TypeId} {x y : Value} (hx : ¬ (∃ k n, x = .int k n) ∧ ¬ (∃ k n, x = .float k n) ∧ ¬ (∃ s, x = .string s) ∧ ¬ (∃ k a b, x = .complex k a b)) :
    binOp .eql t x y = (do pure (.bool (← Op.equal t x y))) ∧ binOp .neq t x y = (do pure (.bool (!(← Op.equal t x y)))) := by
  obtain ⟨h1, h2, h3, h4⟩ := hx
  constructor <;> unfold binOp <;> split <;> first | rfl | (exfalso; exact h1 ⟨_, _, rfl⟩) | (exfalso; exact h2 ⟨_, _, rfl⟩) | (exfalso; exact h3 ⟨_, rfl⟩) | (exfalso; exact h4 ⟨_, _, _, rfl⟩) | (simp_all; done)

theorem eqGuard_known {P : Program} {W : World} (op : BinOp) (t : TypeId) (X Y : Operand) (a b : Value)
    (h : (isConstO X || isConstO Y) = true ∨ ¬ (a = .nilIface ∧ b = .nilIface)) (ha : ¬ (∃ c, a = .agg c)) : (eqGuard op t X Y a b).run P W = .ok () W := by
  by_cases hn : a = .nilIface ∧ b = .nilIface
  · have hc := h.resolve_right (fun g => g hn)
    obtain ⟨rfl, rfl⟩ := hn
    unfold eqGuard
    cases op <;> simp only [Bool.not_true, Bool.not_false, if_true, Bool.false_eq_true, if_false] <;> first | rfl | skip
    all_goals
      cases X <;> cases Y <;> simp [isConstO] at hc <;> rfl
  · exact scalar_eqGuard op t X Y a b ⟨hn, ha⟩

theorem eq_run {P : Program} {W : World} {E : Env} {h : Heap} {op : BinOp} {t : TypeId} {td : TypeDesc} {k : EqK} {X Y : Operand} {ax ay : AV} {x y : Value} {b : Bool} (hr : HR E W h)
    (hop : op = .eql ∨ op = .neq) (hd : P.underlying t = some td) (hk : eqKind P td (isConstO X || isConstO Y) = some k) (hx : VR E W ax x) (hy : VR E W ay y) (h : eqTop k ax ay = some b) :
    ∃ z, (do eqGuard op t X Y x y; binOp op t x y : Sem Value).run P W = .ok z W ∧ VR E W (.bool (bif op == .neq then !b else b)) z := by
  -- what suffices
  have fin9 : (¬ (∃ k n, x = .int k n) ∧ ¬ (∃ k n, x = .float k n) ∧ ¬ (∃ s, x = .string s) ∧ ¬ (∃ k a b, x = .complex k a b)) → ¬ (∃ c, x = .agg c) →
      ((isConstO X || isConstO Y) = true ∨ ¬ (x = .nilIface ∧ y = .nilIface)) → (Go.Op.equalIn 10000 t x y).run P W = .ok b W →
      ∃ z, (do eqGuard op t X Y x y; binOp op t x y : Sem Value).run P W = .ok z W ∧ VR E W (.bool (bif op == .neq then !b else b)) z := by
    intro hn ha hg e
    have e' : (Go.Op.equal t x y).run P W = .ok b W := e
    refine ⟨.bool (bif op == .neq then !b else b), ?_, .bool⟩
    rw [Sem.run_bind, eqGuard_known op t X Y x y hg ha]
    obtain ⟨h1, h2⟩ := binOp_eql (t := t) (y := y) hn
    rcases hop with rfl | rfl
    · simp only [Result.andThen_ok, h1, Sem.run_bind, e']; rfl
    · simp only [Result.andThen_ok, h2, Sem.run_bind, e']; rfl
  have fin : ∀ d : Nat, (¬ (∃ k n, x = .int k n) ∧ ¬ (∃ k n, x = .float k n) ∧ ¬ (∃ s, x = .string s) ∧ ¬ (∃ k a b, x = .complex k a b)) → ¬ (∃ c, x = .agg c) →
      ((isConstO X || isConstO Y) = true ∨ ¬ (x = .nilIface ∧ y = .nilIface)) → (∀ d, (Go.Op.equalIn (d + 1) t x y).run P W = .ok b W) →
      ∃ z, (do eqGuard op t X Y x y; binOp op t x y : Sem Value).run P W = .ok z W ∧ VR E W (.bool (bif op == .neq then !b else b)) z := by
    intro _ hn ha hg he
    exact fin9 hn ha hg (he 9999)
  have viaNil : eqNil k ax ay = some b → ∃ z, (do eqGuard op t X Y x y; binOp op t x y : Sem Value).run P W = .ok z W ∧ VR E W (.bool (bif op == .neq then !b else b)) z := by
    intro hn
    obtain ⟨p, q, h1, h2, h3, h4, h5⟩ := eqNil_some hx hy hn
    subst h4
    have hs : (¬ (∃ k n, x = .int k n) ∧ ¬ (∃ k n, x = .float k n) ∧ ¬ (∃ s, x = .string s) ∧ ¬ (∃ k a b, x = .complex k a b)) ∧ ¬ (∃ c, x = .agg c) := by
      cases k <;> simp only [NilShape] at h1
      · obtain ⟨a, rfl, _⟩ := h1; simp
      · obtain ⟨a, l, c, rfl, _⟩ := h1; simp
      · obtain ⟨a, rfl, _⟩ := h1; simp
      · rcases h1 with ⟨rfl, _⟩ | ⟨f, a, b, rfl, _⟩ <;> simp
      · rcases h1 with ⟨rfl, _⟩ | ⟨f, a, rfl, _⟩ <;> simp
    refine fin 0 hs.1 hs.2 ?_ fun d => equalIn_shape hd hk h1 h2 h3 d
    by_cases hc : (isConstO X || isConstO Y) = true
    · exact .inl hc
    · refine .inr ?_
      rintro ⟨rfl, rfl⟩
      cases k <;> simp only [NilShape] at h1 h2
      · obtain ⟨a, e, _⟩ := h1; cases e
      · obtain ⟨a, l, c, e, _⟩ := h1; cases e
      · obtain ⟨a, e, _⟩ := h1; cases e
      · rcases h1 with ⟨e, _⟩ | ⟨f, a, b, e, _⟩ <;> cases e
      · rename_i known ts
        have hp : p = true := by rcases h1 with ⟨_, e⟩ | ⟨_, _, e, _⟩; exact e; cases e
        have hq : q = true := by rcases h2 with ⟨_, e⟩ | ⟨_, _, e, _⟩; exact e; cases e
        have : known = false := by
          cases td <;> simp only [eqKind] at hk <;> (try (cases hk; done))
          · split at hk
            · split at hk <;> cases hk
            · cases hk
          · cases hk; simpa using hc
        subst this
        exact h5 hp hq _ rfl
  unfold eqTop at h
  split at h
  · split at h
    · rename_i a c
      cases h
      have := hx.bool_inv; subst this
      have := hy.bool_inv; subst this
      have hb : td = .bool := by
        cases td <;> simp only [eqKind] at hk <;> (try (cases hk; done))
        · rfl
        · split at hk
          · split at hk <;> cases hk
          · cases hk
      subst hb
      exact fin 0 (by simp) (by simp) (.inr (by simp)) fun d => equalIn_bool hd a c d
    · cases h
  · split at h
    · rename_i b1 o1 b2 o2
      rcases beq_cases b1 b2 with ⟨e, eb⟩ | ⟨e, eb⟩
      · rw [eb] at h
        simp only [cond_true, Option.some.injEq] at h
        obtain ⟨rfl, _⟩ := hx.ref_inv
        obtain ⟨rfl, _⟩ := hy.ref_inv
        subst e
        refine fin 0 (by simp) (by simp) (.inr (by simp)) fun d => ?_
        cases td <;> simp only [eqKind] at hk <;> (try (cases hk; done))
        rename_i el
        cases hz : sizeT P el with
        | none => rw [hz] at hk; cases hk
        | some n =>
          rw [hz] at hk
          simp only at hk
          split at hk
          · rename_i hn
            unfold sizeT at hz
            cases hi : P.info? el with
            | none => rw [hi] at hz; cases hz
            | some i =>
              rw [hi] at hz
              simp only [Option.map_some, Option.some.injEq] at hz
              subst hz
              simp only [Go.Op.equalIn, Sem.run_bind, run_underlying hd, Result.andThen_ok, run_sizeOf hi, sameAddr, beq_self_eq_true, if_true, hn, ne_eq, not_false_eq_true]
              rw [← h]
              simp only [Sem.run_pure, Sem.run_bind, BStr.beq_eq_decide]
              congr 1
              rw [Bool.eq_iff_iff]; simp
          · cases hk
      · rw [eb] at h; cases h
    · exact viaNil h
  · split at h
    · rename_i kn ts _ _ t1 v1 t2 v2
      obtain ⟨ms, htd, hts⟩ : ∃ ms, td = .interface ms ∧ ts = intTs P := by
        cases td <;> simp only [eqKind] at hk <;> (try (cases hk; done))
        · split at hk
          · split at hk <;> cases hk
          · cases hk
        · cases hk; exact ⟨_, rfl, rfl⟩
      subst htd; subst hts
      obtain ⟨x1, rfl, hx1⟩ := hx.iface_inv
      obtain ⟨y1, rfl, hy1⟩ := hy.iface_inv
      refine fin9 (by simp) (by simp) (.inr (by simp)) ?_
      have key : ∀ d, (Go.Op.equalIn (d + 1 + 1) t (.iface t1 x1) (.iface t2 y1)).run P W = .ok b W := ?_
      · exact key 9998
      intro d
      rcases beq_cases t1 t2 with ⟨e, eb⟩ | ⟨e, eb⟩ <;> rw [eb] at h
      · subst e
        simp only [cond_true] at h
        split at h
        · rename_i k1 a1 k2 b2
          split at h
          · rename_i hc
            obtain ⟨hin, rfl⟩ := hc
            cases h
            obtain ⟨kk, i, hu, hi, hcmp⟩ := intTs_ok hin
            have := hx1.int_inv; subst this
            have := hy1.int_inv; subst this
            simp only [Go.Op.equalIn, Sem.run_bind, run_underlying hd, Result.andThen_ok, ne_eq, not_true_eq_false, if_false, run_typeInfo hi, hcmp, Bool.not_true, Bool.false_eq_true, run_underlying hu, if_true, Sem.run_pure, eqI_eq]
          · cases h
        · cases h
      · simp only [cond_false, Option.some.injEq] at h
        subst h
        simp only [Go.Op.equalIn, Sem.run_bind, run_underlying hd, Result.andThen_ok, ne_eq, e, not_false_eq_true, if_true, Sem.run_pure]
    · exact viaNil h
  · exact viaNil h
end Go.Proofs.YtmadknpaljaecaaGreatDoor.Ev
namespace Go.Proofs.YtmadknpaljaecaaGreatDoor.Ev
open Go

theorem run_v {P : Program} {W W' : World} {s : Sem Value} {z : Value} (h : s.run P W = .ok z W') : (do pure (Next.value (← s)) : Sem Next).run P W = .ok (.value z) W' := by
  simp [h]

/-- a result without a change of memory -/
def Yes (P : Program) (E : Env) (W : World) (s : Sem Value) (v : AV) : Prop := ∃ z, s.run P W = .ok z W ∧ VR E W v z

theorem Yes.next {P : Program} {E : Env} {W : World} {s : Sem Value} {v : AV} (h : Yes P E W s v) : ∃ z, (do pure (Next.value (← s)) : Sem Next).run P W = .ok (.value z) W ∧ VR E W v z := by
  obtain ⟨z, h1, h2⟩ := h
  exact ⟨z, run_v h1, h2⟩

theorem opR_ok {o : Option AV} {h h' : Heap} {w : Nat} {v : AV} (e : opR o h w = .ok v h') : o = some v ∧ h' = h := by
  cases o with
  | none => simp [opR] at e
  | some x => simp only [opR, OpR.ok.injEq] at e; exact ⟨by rw [e.1], e.2.symm⟩

theorem natTo_some {E : Env} {W : World} {n m : Nat} {v : AV} {x : Value} (h : natTo n v = some m) (hv : VR E W v x) : ∃ k, x = .int k (m : Int) ∧ m ≤ n := by
  unfold natTo at h
  split at h
  · rename_i k m'
    have := hv.int_inv; subst this
    rcases ble_cases m' n with ⟨hl, e⟩ | ⟨hl, e⟩ <;> rw [e] at h <;> simp at h
    subst h; exact ⟨k, rfl, hl⟩
  · cases h
theorem natBelow_some {E : Env} {W : World} {n m : Nat} {v : AV} {x : Value} (h : natBelow n v = some m) (hv : VR E W v x) : ∃ k, x = .int k (m : Int) ∧ m < n := by
  unfold natBelow at h
  split at h
  · rename_i k m'
    have := hv.int_inv; subst this
    rcases blt_cases m' n with ⟨hl, e⟩ | ⟨hl, e⟩ <;> rw [e] at h <;> simp at h
    subst h; exact ⟨k, rfl, hl⟩
  · cases h

theorem run_sliceBound {P : Program} {W : World} {k : IntKind} {m y : Nat} {code : BoundsCode} (h : m ≤ y) : (Instr.sliceBound (.int k (m : Int)) y code).run P W = .ok m W := by
  unfold Instr.sliceBound
  simp only [asIntOf, Sem.run_bind, Sem.run_pure, Result.andThen_ok]
  rw [if_pos ⟨by omega, by omega⟩]
  simp

/-- the operands of bounds: abstract and of the machine -/
def OptVR (E : Env) (W : World) : Option AV → Option Value → Prop
  | none, none => True
  | some v, some x => VR E W v x
  | _, _ => False

theorem run_sliceBounds {P : Program} {E : Env} {W : World} {isSlice : Bool} {len cap l u : Nat} {lo hi : Option AV} {lo' hi' : Option Value} (hlo : OptVR E W lo lo') (hhi : OptVR E W hi hi') (hlc : len ≤ cap)
    (h : bounds cap len lo hi = some (l, u)) : (Instr.sliceBounds isSlice len cap lo' hi' none).run P W = .ok (l, u, cap) W ∧ l ≤ u ∧ u ≤ cap := by
  unfold bounds at h
  split at h
  · cases h
  · rename_i u' hu
    split at h
    · cases h
    · rename_i l' hl
      simp only [Option.some.injEq, Prod.mk.injEq] at h
      obtain ⟨rfl, rfl⟩ := h
      cases hi with
      | none =>
        cases hi' with
        | some _ => exact hhi.elim
        | none =>
          simp only [natToO, Option.some.injEq] at hu; subst hu
          cases lo with
          | none =>
            cases lo' with
            | some _ => exact hlo.elim
            | none =>
              simp only [natToO, Option.some.injEq] at hl; subst hl
              exact ⟨by simp [Instr.sliceBounds], Nat.zero_le _, hlc⟩
          | some v =>
            cases lo' with
            | none => exact hlo.elim
            | some x =>
              obtain ⟨k, rfl, hm⟩ := natTo_some hl hlo
              exact ⟨by simp [Instr.sliceBounds, run_sliceBound hm], hm, hlc⟩
      | some v =>
        cases hi' with
        | none => exact hhi.elim
        | some x =>
          obtain ⟨k, rfl, hm⟩ := natTo_some hu hhi
          cases lo with
          | none =>
            cases lo' with
            | some _ => exact hlo.elim
            | none =>
              simp only [natToO, Option.some.injEq] at hl; subst hl
              exact ⟨by simp [Instr.sliceBounds, run_sliceBound hm], Nat.zero_le _, hm⟩
          | some v' =>
            cases lo' with
            | none => exact hlo.elim
            | some x' =>
              obtain ⟨k', rfl, hm'⟩ := natTo_some hl hlo
              exact ⟨by simp [Instr.sliceBounds, run_sliceBound hm, run_sliceBound hm'], hm', hm⟩

theorem xoO_opt {E : Env} {W : World} {ρ : XO → AV} {σ : Operand → Value} (hρ : ∀ X x, xo X = some x → VR E W (ρ x) (σ X)) {o : Option Operand} {o' : Option XO} (h : xoO o = some o') :
    OptVR E W (o'.map ρ) (o.map σ) := by
  cases o with
  | none => simp [xoO] at h; subst h; trivial
  | some X =>
    simp only [xoO] at h
    cases hx : xo X with
    | none => rw [hx] at h; cases h
    | some x => rw [hx] at h; cases h; exact hρ X x hx

theorem byte_at {x : ByteArray} {i : Nat} (hi : i < x.size) : x[i]? = some (x.data.toList[i]'(by simpa using hi)) := by
  simp [getElem?_pos, hi]
  rfl

theorem run_index_string {P : Program} {E : Env} {W : World} {t : TypeId} {x : ByteArray} {i : Nat} {k : IntKind} (ht : P.underlying t = some .string) (hi : i < x.size) :
    (Instr.index t (.string x) (.int k (i : Int))).run P W = .ok (.int .u8 (.ofNat ((BStr.ofBytes x.data.toList).at_ i))) W := by
  have hl : i < x.data.toList.length := by simpa using hi
  rw [BStr.at_eq _ _ hl]
  unfold Instr.index
  simp only [asIntOf, Sem.run_bind, Sem.run_pure, Result.andThen_ok, run_underlying ht]
  rw [if_pos (by omega)]
  simp only [Int.toNat_natCast, byte_at hi]
  rfl

theorem run_slice_string {P : Program} {E : Env} {W : World} {t : TypeId} {x : ByteArray} {l u : Nat} {lo hi : Option AV} {lo' hi' : Option Value} (ht : P.underlying t = some .string)
    (hlo : OptVR E W lo lo') (hhi : OptVR E W hi hi') (h : bounds x.size x.size lo hi = some (l, u)) :
    Yes P E W (Instr.slice t (.string x) lo' hi' none) (.str ((BStr.ofBytes x.data.toList).slice l u)) := by
  obtain ⟨h1, h2, h3⟩ := run_sliceBounds (P := P) (isSlice := false) hlo hhi (Nat.le_refl _) h
  refine ⟨.string (x.extract l u), ?_, .str ?_⟩
  · unfold Instr.slice
    simp only [Sem.run_bind, run_underlying ht, Result.andThen_ok, Option.isSome_none, Bool.false_eq_true, if_false, Sem.run_pure]
    rw [h1]
    simp
  · rw [BStr.slice_eq _ _ _ h2 (by simpa using h3)]
    congr 1
    simp
end Go.Proofs.YtmadknpaljaecaaGreatDoor.Ev
namespace Go.Proofs.YtmadknpaljaecaaGreatDoor.Ev
open Go
set_option linter.unusedVariables false
set_option linter.unusedSimpArgs false

/-! Parts of structs and arrays. -/
theorem asLoad_true {o : Option (List AV)} {v : AV} (h : asLoad true o = some v) : ∃ cs, o = some cs ∧ v = .agg cs := by
  cases o with
  | none => simp [asLoad] at h
  | some cs => simp [asLoad] at h; exact ⟨cs, rfl, h.symm⟩
theorem asLoad_false {o : Option (List AV)} {v : AV} (h : asLoad false o = some v) : o = some [v] := by
  cases o with
  | none => simp [asLoad] at h
  | some cs =>
    simp only [asLoad] at h
    split at h
    · cases h; rfl
    · cases h

theorem readL_VRs {E : Env} {W : World} {cs : List AV} {xs : List Value} (h : VRs E W cs xs) {off n : Nat} {l : List AV} (hl : readL (cs.drop off) n = some l) :
    VRs E W l ((xs.drop off).take n) ∧ ((xs.drop off).take n).length = n := by
  obtain ⟨h1, h2⟩ := readL_some hl
  subst h1
  have := (h.drop off).take n
  exact ⟨this, by rw [← this.length]; exact h2⟩

theorem part_run {P : Program} {E : Env} {W : World} {t : TypeId} {d : TypeDesc} {i : TypeInfo} {c : Array Value} {cs : List AV} {off n : Nat} {v : AV} (hd : P.underlying t = some d) (hi : P.info? t = some i)
    (hcs : VRs E W cs c.toList) (hf : ∀ y ∈ c.toList, Flat y) (hn : n = if aggD d then i.size else 1) (h : asLoad (aggD d) (readL (cs.drop off) n) = some v) : Yes P E W (part t c off) v := by
  unfold part
  cases ha : aggD d with
  | true =>
    rw [ha] at h hn
    simp only [if_true] at hn; subst hn
    obtain ⟨l, hl, rfl⟩ := asLoad_true h
    obtain ⟨h1, h2⟩ := readL_VRs hcs hl
    refine ⟨.agg (c.extract off (off + i.size)), ?_, .agg ?_ ?_⟩
    · simp [run_isAgg hd, ha, run_sizeOf hi]
    · simpa [List.extract_eq_take_drop] using h1
    · intro y hy
      simp only [Array.toList_extract, List.extract_eq_take_drop] at hy
      exact hf y (List.mem_of_mem_drop (List.mem_of_mem_take hy))
  | false =>
    rw [ha] at h hn
    simp only [Bool.false_eq_true, if_false] at hn; subst hn
    have := asLoad_false h
    obtain ⟨h1, h2⟩ := readL_VRs hcs this
    have hx : ∃ x, c[off]? = some x ∧ VR E W v x := by
      cases hdr : c.toList.drop off with
      | nil => rw [hdr] at h2; simp at h2
      | cons x r =>
        rw [hdr] at h1
        simp at h1
        refine ⟨x, ?_, by cases h1; assumption⟩
        have : (c.toList.drop off)[0]? = some x := by rw [hdr]; rfl
        simpa using this
    obtain ⟨x, hx, hv⟩ := hx
    exact ⟨x, by simp [run_isAgg hd, ha, hx], hv⟩

theorem aggT_some {P : Program} {t : TypeId} {g : Bool} (h : aggT P t = some g) : ∃ d, P.underlying t = some d ∧ aggD d = g := by
  unfold aggT at h
  cases hd : P.underlying t with
  | none => rw [hd] at h; cases h
  | some d => rw [hd] at h; cases h; exact ⟨d, rfl, rfl⟩
theorem sizeT_some {P : Program} {t : TypeId} {n : Nat} (h : sizeT P t = some n) : ∃ i, P.info? t = some i ∧ i.size = n := by
  unfold sizeT at h
  cases hi : P.info? t with
  | none => rw [hi] at h; cases h
  | some i => rw [hi] at h; cases h; exact ⟨i, rfl, rfl⟩

/-! Operations without a change of memory, by kind. -/
section
variable {P : Program} {E : Env} {W : World} {h : Heap} {σ : Operand → Value} {ρ : XO → AV}

theorem ext_run {vs : List AV} {x : Value} {i : Nat} {v : AV} (hx : VR E W (.tup vs) x) (hi : vs[i]? = some v) : Yes P E W (Instr.extract x i) v := by
  obtain ⟨c, rfl, hc⟩ := hx.tup_inv
  obtain ⟨y, hy, hv⟩ := hc.get hi
  refine ⟨y, ?_, hv⟩
  have : c[i]? = some y := by simpa using hy
  simp [Instr.extract, this]

theorem fieldAt_run {t : TypeId} {fs : Array Field} {i : Nat} {f : Field} {n bl off : Nat} (ht : P.underlying t = some (.struct fs)) (hf : fs[i]? = some f) (hn : sizeT P f.type = some n) (h0 : n ≠ 0) :
    (Instr.fieldAt t (.pointer (some ⟨bl, off, none⟩)) i).run P W = .ok (.pointer (some ⟨bl, off + f.offset, none⟩)) W := by
  obtain ⟨ti, hi, rfl⟩ := sizeT_some hn
  simp [Instr.fieldAt, run_underlying ht, hf, Instr.sureAddr, fieldPlace, run_sizeOf hi, h0, Addr_add]

theorem iptr_drop {w : Bool} {cs : List AV} {x : Value} (h : VR E W (.iptr w cs) x) : ∃ bl off, x = .pointer (some ⟨bl, off, none⟩) ∧ ∀ k, VR E W (.iptr w (cs.drop k)) (.pointer (some ⟨bl, off + k, none⟩)) := by
  obtain ⟨bl, off, xs, rfl, h1, h2, h3, h4⟩ := h.iptr_inv
  exact ⟨bl, off, rfl, fun k => .iptr h1 (fun c hc => h2 c (List.mem_of_mem_drop hc)) (h3.drop k) (h4.drop k)⟩

theorem indexAt_slice_run {t e : TypeId} {size len c bl off i : Nat} {k : IntKind} (ht : P.underlying t = some (.slice e)) (hs : sizeT P e = some size) (hi : i < len) :
    (Instr.indexAt t (.slice (some ⟨bl, off, none⟩) len c) (.int k (i : Int))).run P W = .ok (.pointer (some ⟨bl, off + i * size, none⟩)) W := by
  obtain ⟨ti, hti, rfl⟩ := sizeT_some hs
  simp [Instr.indexAt, asIntOf, run_underlying ht, run_sizeOf hti, hi, Addr_add]
theorem indexAt_array_run {t e : TypeId} {n size bl off i : Nat} {k : IntKind} (ht : P.underlying t = some (.array n e)) (hs : sizeT P e = some size) (hi : i < n) :
    (Instr.indexAt t (.pointer (some ⟨bl, off, none⟩)) (.int k (i : Int))).run P W = .ok (.pointer (some ⟨bl, off + i * size, none⟩)) W := by
  obtain ⟨ti, hti, rfl⟩ := sizeT_some hs
  simp [Instr.indexAt, asIntOf, run_underlying ht, run_sizeOf hti, hi, Addr_add, Instr.sureAddr]

theorem un_run' {op : UnOp} {ax v : AV} {x : Value} (hx : VR E W ax x) (h : unV op ax = some v) : Yes P E W (Op.unary op x) v := un_run hx h

theorem slice_slice_run {t e : TypeId} {size len c l u : Nat} {a : Option Addr} {lo hi : Option AV} {lo' hi' : Option Value} (ht : P.underlying t = some (.slice e)) (hs : sizeT P e = some size) (hlc : len ≤ c)
    (hlo : OptVR E W lo lo') (hhi : OptVR E W hi hi') (h : bounds c len lo hi = some (l, u)) :
    (Instr.slice t (.slice a len c) lo' hi' none).run P W = .ok (.slice (if c = l then a else a.map (·.add (l * size))) (u - l) (c - l)) W ∧ l ≤ u ∧ u ≤ c := by
  obtain ⟨ti, hti, rfl⟩ := sizeT_some hs
  obtain ⟨h1, h2, h3⟩ := run_sliceBounds (P := P) (isSlice := true) hlo hhi hlc h
  refine ⟨?_, h2, h3⟩
  simp [Instr.slice, run_underlying ht, h1, run_sizeOf hti]
theorem slice_array_run {t e : TypeId} {n size l u bl off : Nat} {lo hi : Option AV} {lo' hi' : Option Value} (ht : P.underlying t = some (.array n e)) (hs : sizeT P e = some size)
    (hlo : OptVR E W lo lo') (hhi : OptVR E W hi hi') (h : bounds n n lo hi = some (l, u)) :
    (Instr.sliceAt t (.pointer (some ⟨bl, off, none⟩)) lo' hi' none).run P W = .ok (.slice (some (if n = l then ⟨bl, off, none⟩ else ⟨bl, off + l * size, none⟩)) (u - l) (n - l)) W ∧ l ≤ u ∧ u ≤ n := by
  obtain ⟨ti, hti, rfl⟩ := sizeT_some hs
  obtain ⟨h1, h2, h3⟩ := run_sliceBounds (P := P) (isSlice := false) hlo hhi (Nat.le_refl _) h
  refine ⟨?_, h2, h3⟩
  simp [Instr.sliceAt, run_underlying ht, h1, run_sizeOf hti, Instr.sureAddr, Addr_add]
theorem slice_ptr_run {t a e : TypeId} {n size l u bl off : Nat} {lo hi : Option AV} {lo' hi' : Option Value} (ht : P.underlying t = some (.pointer a)) (ha : P.underlying a = some (.array n e)) (hs : sizeT P e = some size)
    (hlo : OptVR E W lo lo') (hhi : OptVR E W hi hi') (h : bounds n n lo hi = some (l, u)) :
    (Instr.slice t (.pointer (some ⟨bl, off, none⟩)) lo' hi' none).run P W = .ok (.slice (some (if n = l then ⟨bl, off, none⟩ else ⟨bl, off + l * size, none⟩)) (u - l) (n - l)) W ∧ l ≤ u ∧ u ≤ n := by
  obtain ⟨ti, hti, rfl⟩ := sizeT_some hs
  obtain ⟨h1, h2, h3⟩ := run_sliceBounds (P := P) (isSlice := false) hlo hhi (Nat.le_refl _) h
  refine ⟨?_, h2, h3⟩
  simp [Instr.slice, run_underlying ht, run_underlying ha, h1, run_sizeOf hti, asAddr, Addr_add]
theorem sliceAt_slice {t e : TypeId} (ht : P.underlying t = some (.slice e)) (x : Value) (lo hi : Option Value) : (Instr.sliceAt t x lo hi none).run P W = (Instr.slice t x lo hi none).run P W := by
  simp [Instr.sliceAt, run_underlying ht]
theorem sliceAt_string {t : TypeId} (ht : P.underlying t = some .string) (x : Value) (lo hi : Option Value) : (Instr.sliceAt t x lo hi none).run P W = (Instr.slice t x lo hi none).run P W := by
  simp [Instr.sliceAt, run_underlying ht]
theorem sliceAt_ptr {t e : TypeId} (ht : P.underlying t = some (.pointer e)) (x : Value) (lo hi : Option Value) : (Instr.sliceAt t x lo hi none).run P W = (Instr.slice t x lo hi none).run P W := by
  simp [Instr.sliceAt, run_underlying ht]
end
end Go.Proofs.YtmadknpaljaecaaGreatDoor.Ev
namespace Go.Proofs.YtmadknpaljaecaaGreatDoor.Ev
open Go
set_option linter.unusedVariables false
set_option linter.unusedSimpArgs false

theorem okCell_cells {E : Env} {W : World} {a : AV} {x : Value} (h : VR E W a x) (hok : (cellsOf a).all okCell = true) : VRs E W (cellsOf a) x.cells.toList ∧ ∀ y ∈ x.cells.toList, Flat y := by
  have one : ∀ {a : AV} {x : Value}, VR E W a x → cellsOf a = [a] → x.cells = #[x] → Flat x → VRs E W (cellsOf a) x.cells.toList ∧ ∀ y ∈ x.cells.toList, Flat y := by
    intro a x h h1 h2 h3
    rw [h1, h2]
    exact ⟨.cons h .nil, by simpa using h3⟩
  cases h with
  | dead => simp [cellsOf, okCell] at hok
  | undef => simp [cellsOf, okCell] at hok
  | tup h => simp [cellsOf, okCell] at hok
  | agg h hf => exact ⟨h, hf⟩
  | bool => exact one .bool rfl rfl trivial
  | int => exact one .int rfl rfl trivial
  | float => exact one .float rfl rfl trivial
  | nan h => exact one (.nan h) rfl rfl trivial
  | str h => exact one (.str h) rfl rfl trivial
  | nilPtr => exact one .nilPtr rfl rfl trivial
  | nilSl => exact one .nilSl rfl rfl trivial
  | nilMap => exact one .nilMap rfl rfl trivial
  | nilFn => exact one .nilFn rfl rfl trivial
  | nilIf => exact one .nilIf rfl rfl trivial
  | ref h => exact one (.ref h) rfl rfl trivial
  | slc h h' => exact one (.slc h h') rfl rfl trivial
  | slo h h' h'' => exact one (.slo h h' h'') rfl rfl trivial
  | iptr h1 h2 h3 h4 => exact one (.iptr h1 h2 h3 h4) rfl rfl trivial
  | isl h1 h2 h3 h4 => exact one (.isl h1 h2 h3 h4) rfl rfl trivial
  | iface h => exact one (.iface h) rfl rfl trivial
  | fn h h' => exact one (.fn h h') rfl rfl trivial
  | mref h => exact one (.mref h) rfl rfl trivial
  | imap h1 h2 h3 h4 h5 h6 => exact one (.imap h1 h2 h3 h4 h5 h6) rfl rfl trivial

/-! fill -/
theorem foldl_set_toList : ∀ (l : List Value) (k off : Nat) (cs : Array Value), off + k + l.length ≤ cs.size →
    ((l.zipIdx k).foldl (fun (cs : Array Value) (p : Value × Nat) => cs.setIfInBounds (off + p.2) p.1) cs).toList = cs.toList.take (off + k) ++ l ++ cs.toList.drop (off + k + l.length)
  | [], k, off, cs, _ => by simp
  | v :: r, k, off, cs, h => by
    simp only [List.length_cons] at h
    rw [List.zipIdx_cons, List.foldl_cons, foldl_set_toList r (k + 1) off _ (by simp; omega)]
    simp only [Array.toList_setIfInBounds, List.length_cons]
    have e1 : off + (k + 1) = off + k + 1 := by omega
    rw [e1]
    have hlt : off + k < cs.toList.length := by simp; omega
    rw [List.take_add_one, List.take_set, List.drop_set, if_pos (by omega)]
    simp only [List.getElem?_set_self hlt, Option.toList_some]
    rw [List.set_eq_of_length_le (by simp; omega)]
    simp only [List.append_assoc, List.singleton_append, List.cons_append, List.nil_append]
    congr 3
    congr 1
    omega

theorem fill_step {cs v : Array Value} {off : Nat} (h : off + v.size ≤ cs.size) :
    (v.zipIdx.foldl (fun (cs : Array Value) (p : Value × Nat) => cs.setIfInBounds (off + p.2) p.1) cs).toList = cs.toList.take off ++ v.toList ++ cs.toList.drop (off + v.size) := by
  have := foldl_set_toList v.toList 0 off cs (by simpa using h)
  rw [← Array.foldl_toList]
  simpa using this

theorem fill_run {E : Env} {W : World} {ρ : XO → AV} {σ : Operand → Value} (hρ : ∀ X x, xo X = some x → VR E W (ρ x) (σ X)) {place : Nat → Option (Nat × Nat)} {pl : Nat → Option (Nat × Nat)} (hp : ∀ i p, pl i = some p → place i = some p) :
    ∀ (ps : List (Nat × Operand)) (l : List (Nat × Nat × XO)) (cs cs' : List AV) (cells : Array Value), xparts pl ps = some l → VRs E W cs cells.toList → (∀ y ∈ cells.toList, Flat y) → fillParts ρ l cs = some cs' →
      ∃ cells', Instr.fill place cells (ps.map fun (i, x) => (i, σ x)) = some cells' ∧ VRs E W cs' cells'.toList ∧ (∀ y ∈ cells'.toList, Flat y) ∧ cells'.size = cells.size
  | [], l, cs, cs', cells, hl, hv, hf, h => by
    simp [xparts, mapO] at hl; subst hl
    simp [fillParts] at h; subst h
    exact ⟨cells, rfl, hv, hf, rfl⟩
  | (i, X) :: ps, l, cs, cs', cells, hl, hv, hf, h => by
    unfold xparts at hl
    simp only [mapO] at hl
    split at hl
    · cases hl
    · rename_i b hb
      split at hl
      · cases hl
      · rename_i bs hbs
        cases hl
        split at hb
        · rename_i off s x hpl hX
          cases hb
          simp only [fillParts] at h
          cases hc : (Nat.beq (cellsOf (ρ x)).length s && Nat.ble (off + s) cs.length && (cellsOf (ρ x)).all okCell) with
          | false => rw [hc] at h; cases h
          | true =>
            rw [hc] at h
            simp only [cond_true] at h
            simp only [Bool.and_eq_true] at hc
            obtain ⟨⟨h1, h2⟩, h3⟩ := hc
            have h1 := Nat.eq_of_beq_eq_true h1
            have h2 := Nat.le_of_ble_eq_true h2
            obtain ⟨hx1, hx2⟩ := okCell_cells (hρ X x hX) h3
            have hsz : (σ X).cells.size = s := by have := hx1.length; simp at this; omega
            have hle : off + (σ X).cells.size ≤ cells.size := by have := hv.length; simp at this; omega
            have hst := fill_step hle
            let c2 := (σ X).cells.zipIdx.foldl (fun (cs : Array Value) (p : Value × Nat) => cs.setIfInBounds (off + p.2) p.1) cells
            have hc2 : c2.toList = cells.toList.take off ++ (σ X).cells.toList ++ cells.toList.drop (off + (σ X).cells.size) := hst
            have hv2 : VRs E W (fillCells cs off (cellsOf (ρ x))) c2.toList := by
              rw [hc2]; unfold fillCells
              rw [show (cellsOf (ρ x)).length = (σ X).cells.size by rw [h1, hsz]]
              exact ((hv.take off).append hx1).append (hv.drop _)
            have hf2 : ∀ y ∈ c2.toList, Flat y := by
              intro y hy
              rw [hc2] at hy
              simp only [List.mem_append] at hy
              rcases hy with (hy | hy) | hy
              · exact hf y (List.mem_of_mem_take hy)
              · exact hx2 y hy
              · exact hf y (List.mem_of_mem_drop hy)
            obtain ⟨c3, h4, h5, h6, h7⟩ := fill_run hρ hp ps bs _ cs' c2 hbs hv2 hf2 h
            refine ⟨c3, ?_, h5, h6, ?_⟩
            · simp only [List.map_cons, Instr.fill, hp _ _ hpl]
              rw [if_neg (by simp; omega)]
              exact h4
            · rw [h7]
              have : c2.toList.length = cells.toList.length := by rw [hc2]; simp; omega
              simpa using this
        · cases hb

theorem zcells_some {P : Program} {E : Env} {W : World} {t : TypeId} {z : List AV} (h : zcells P t = some z) :
    ∃ i v, P.info? t = some i ∧ i.zero = some v ∧ v.cells.size = i.size ∧ (∀ y ∈ v.cells.toList, Flat y) ∧ VRs E W z v.cells.toList ∧ z.length = i.size := by
  unfold zcells at h
  cases hi : P.info? t with
  | none => rw [hi] at h; cases h
  | some i =>
    rw [hi] at h
    simp only at h
    cases hz : i.zero with
    | none => rw [hz] at h; cases h
    | some v =>
      rw [hz] at h
      simp only at h
      split at h
      · rename_i hs
        have hv : VRs E W z v.cells.toList := by
          have := mapO_VRs (E := E) (W := W) (g := id) h (fun v a _ ha => toAV_sound ha)
          simpa using this
        refine ⟨i, v, rfl, hz, hs.1, fun y hy => isFlat_Flat (List.all_eq_true.1 hs.2 y hy), hv, ?_⟩
        rw [hv.length]; simpa using hs.1
      · cases h

section
variable {P : Program} {E : Env} {W : World} {h : Heap} {σ : Operand → Value} {ρ : XO → AV} (hρ : ∀ X x, xo X = some x → VR E W (ρ x) (σ X))
include hρ

omit hρ in
theorem run_places {fs : Array Field} (hfs : fs.toList.all (fun f => (sizeT P f.type).isSome) = true) : ∃ pls : Array (Nat × Nat), (fs.mapM fun (f : Field) => do pure (f.offset, ← Go.sizeOf f.type) : Sem (Array (Nat × Nat))).run P W = .ok pls W ∧
    ∀ i p, fieldAtP P fs i = some p → pls[i]? = some p := by
  have key : ∀ (l : List Field), (∀ f ∈ l, (sizeT P f.type).isSome) → (l.mapM fun (f : Field) => do pure (f.offset, ← Go.sizeOf f.type) : Sem (List (Nat × Nat))).run P W = .ok (l.map fun f => (f.offset, (sizeT P f.type).getD 0)) W := by
    intro l
    induction l with
    | nil => intro _; simp
    | cons f r ih =>
      intro hl
      obtain ⟨n, hn⟩ := Option.isSome_iff_exists.1 (hl f (by simp))
      obtain ⟨i, hi, rfl⟩ := sizeT_some hn
      rw [List.mapM_cons]
      simp only [Sem.run_bind, run_sizeOf hi, Result.andThen_ok, Sem.run_pure]
      rw [ih fun f hf => hl f (by simp [hf])]
      simp [hn]
  refine ⟨(fs.toList.map fun f => (f.offset, (sizeT P f.type).getD 0)).toArray, ?_, ?_⟩
  · rw [← Array.toArray_toList (xs := fs), List.mapM_toArray]
    simp only [Sem.run_map]
    rw [key fs.toList fun f hf => List.all_eq_true.1 hfs f hf]
    simp
  · intro i p hp
    unfold fieldAtP at hp
    cases hf : fs[i]? with
    | none => rw [hf] at hp; cases hp
    | some f =>
      rw [hf] at hp
      simp only [Option.map_eq_some_iff] at hp
      obtain ⟨s, hs, rfl⟩ := hp
      simp [hf, hs]

theorem build_struct_run {t : TypeId} {fs : Array Field} {z : List AV} {ps : Array (Nat × Operand)} {l : List (Nat × Nat × XO)} {cs : List AV} (hz : zcells P t = some z) (ht : P.underlying t = some (.struct fs))
    (hfs : fs.toList.all (fun f => (sizeT P f.type).isSome) = true)
    (hl : xparts (fieldAtP P fs) ps.toList = some l) (h : fillParts ρ l z = some cs) : Yes P E W (Instr.build t (ps.map fun (i, x) => (i, σ x))) (.agg cs) := by
  obtain ⟨i, v, hi, hv, h1, h2, h3, h4⟩ := zcells_some (E := E) (W := W) hz
  obtain ⟨pls, hp1, hp2⟩ := run_places (P := P) (W := W) hfs
  obtain ⟨c', h5, h6, h7, _⟩ := fill_run hρ (place := fun i => pls[i]?) hp2 ps.toList l z cs v.cells hl h3 h2 h
  refine ⟨.agg c', ?_, .agg h6 h7⟩
  have e : (ps.map fun (i, x) => (i, σ x)).toList = ps.toList.map fun (i, x) => (i, σ x) := by simp
  unfold Instr.build
  simp only [Sem.run_bind, run_zeroValue hi hv, Result.andThen_ok, run_underlying ht, hp1, e, h5, Sem.run_pure]

theorem build_array_run {t e : TypeId} {n s : Nat} {z : List AV} {ps : Array (Nat × Operand)} {l : List (Nat × Nat × XO)} {cs : List AV} (hz : zcells P t = some z) (ht : P.underlying t = some (.array n e)) (hs : sizeT P e = some s)
    (hl : xparts (fun i => some (i * s, s)) ps.toList = some l) (h : fillParts ρ l z = some cs) : Yes P E W (Instr.build t (ps.map fun (i, x) => (i, σ x))) (.agg cs) := by
  obtain ⟨i, v, hi, hv, h1, h2, h3, h4⟩ := zcells_some (E := E) (W := W) hz
  obtain ⟨ti, hti, rfl⟩ := sizeT_some hs
  obtain ⟨c', h5, h6, h7, _⟩ := fill_run hρ (place := fun i => some (i * ti.size, ti.size)) (fun i p hp => hp) ps.toList l z cs v.cells hl h3 h2 h
  refine ⟨.agg c', ?_, .agg h6 h7⟩
  have e : (ps.map fun (i, x) => (i, σ x)).toList = ps.toList.map fun (i, x) => (i, σ x) := by simp
  unfold Instr.build
  simp only [Sem.run_bind, run_zeroValue hi hv, Result.andThen_ok, run_underlying ht, run_sizeOf hti, e, h5, Sem.run_pure]
end
end Go.Proofs.YtmadknpaljaecaaGreatDoor.Ev
namespace Go.Proofs.YtmadknpaljaecaaGreatDoor.Ev
open Go
set_option linter.unusedVariables false
set_option linter.unusedSimpArgs false

section
variable {P : Program} {E : Env} {W : World} {h : Heap}

/-! conversions -/
theorem cvI_run {s d : TypeId} {s' : TypeDesc} {k k' : IntKind} {n : Int} (hs : P.underlying s = some s') (hd : P.underlying d = some (.int k)) :
    Yes P E W (convert s d (.int k' n)) (.int k (wrapF k n)) :=
  ⟨.int k (k.wrap n), by simp [convert, run_underlying hs, run_underlying hd, Conv.intToInt], by rw [wrapF_eq]; exact .int⟩
theorem cvF_run {s d : TypeId} {s' : TypeDesc} {k' : IntKind} {k : FloatKind} {n : Int} (hs : P.underlying s = some s') (hd : P.underlying d = some (.float k)) :
    Yes P E W (convert s d (.int k' n)) (.float k (k.nearest n)) :=
  ⟨.float k (k.nearest n), by simp [convert, run_underlying hs, run_underlying hd, Conv.intToFloat], .float⟩
theorem cvFI_run {s d : TypeId} {s' : TypeDesc} {k : IntKind} {f : FloatKind} {b : Nat} {n : Int} (hs : P.underlying s = some s') (hd : P.underlying d = some (.int k))
    (hn : (f.decode b).toInt .zero = some n) (hk : k.min ≤ n ∧ n ≤ k.max) : Yes P E W (convert s d (.float f b)) (.int k n) :=
  ⟨.int k n, by simp [convert, run_underlying hs, run_underlying hd, Conv.floatToInt, hn, hk], .int⟩
theorem cvFF_run {s d : TypeId} {s' : TypeDesc} {k f : FloatKind} {b : Nat} {v : AV} (hs : P.underlying s = some s') (hd : P.underlying d = some (.float k)) {h' : Heap}
    (hv : (if f = k then OpR.ok (.float k b) h else
    (match f.decode b with
    | .infinity t => .ok (.float k (k.encode (.infinity t))) h
    | .number t m e => if (k.decode (k.encode (.number t m e))).isInfinity then .no 25 else .ok (.float k (k.encode (.number t m e))) h
    | _ => .no 26)) = .ok v h') : h' = h ∧ Yes P E W (convert s d (.float f b)) v := by
  have e : convert s d (.float f b) = convert s d (.float f b) := rfl
  split at hv
  · rename_i hfk; cases hv
    exact ⟨rfl, _, by simp [convert, run_underlying hs, run_underlying hd, Conv.floatToFloat, hfk], .float⟩
  · rename_i hfk
    split at hv
    · rename_i t ht; cases hv
      exact ⟨rfl, _, by simp [convert, run_underlying hs, run_underlying hd, Conv.floatToFloat, hfk, ht], .float⟩
    · rename_i t m e' ht
      split at hv
      · cases hv
      · rename_i hi; cases hv
        exact ⟨rfl, _, by simp [convert, run_underlying hs, run_underlying hd, Conv.floatToFloat, hfk, ht, hi], .float⟩
    · cases hv
theorem cvIS_run {s d : TypeId} {s' : TypeDesc} {k : IntKind} {n : Int} (hs : P.underlying s = some s') (hd : P.underlying d = some .string) :
    Yes P E W (convert s d (.int k n)) (.str (BStr.ofBytes (Go.Utf8.encode n).data.toList)) :=
  ⟨.string (Go.Utf8.encode n), by simp [convert, run_underlying hs, run_underlying hd, Conv.intToString], .str rfl⟩
theorem cvSS_run {s d : TypeId} {s' : TypeDesc} {x : ByteArray} (hs : P.underlying s = some s') (hd : P.underlying d = some .string) :
    (convert s d (.string x)).run P W = .ok (.string x) W := by simp [convert, run_underlying hs, run_underlying hd]

/-! builtins -/
theorem minL_run {k : IntKind} : ∀ (l : List AV) (xs : List Value) (a : Int) (v : AV), VRs E W l xs → minL k l a = some v → Yes P E W (xs.foldlM Builtin.min2 (.int k a)) v
  | [], _, a, v, .nil, h => by simp [minL] at h; subst h; exact ⟨_, rfl, .int⟩
  | b :: r, _, a, v, .cons (x := x) (xs := xs) hb hr, h => by
    simp only [minL] at h
    split at h
    · rename_i k' y
      have := hb.int_inv; subst this
      obtain ⟨z, h1, h2⟩ := minL_run r _ _ v hr h
      refine ⟨z, ?_, h2⟩
      simp only [List.foldlM_cons, Builtin.min2, Sem.run_bind, Sem.run_pure, Result.andThen_ok]
      rw [← h1]; congr 3
      rw [ltI_eq]; by_cases hlt : y < a <;> simp [hlt]
    · cases h
theorem maxL_run {k : IntKind} : ∀ (l : List AV) (xs : List Value) (a : Int) (v : AV), VRs E W l xs → maxL k l a = some v → Yes P E W (xs.foldlM Builtin.max2 (.int k a)) v
  | [], _, a, v, .nil, h => by simp [maxL] at h; subst h; exact ⟨_, rfl, .int⟩
  | b :: r, _, a, v, .cons (x := x) (xs := xs) hb hr, h => by
    simp only [maxL] at h
    split at h
    · rename_i k' y
      have := hb.int_inv; subst this
      obtain ⟨z, h1, h2⟩ := maxL_run r _ _ v hr h
      refine ⟨z, ?_, h2⟩
      simp only [List.foldlM_cons, Builtin.max2, Sem.run_bind, Sem.run_pure, Result.andThen_ok]
      rw [← h1]; congr 3
      rw [ltI_eq]; by_cases hlt : a < y <;> simp [hlt]
    · cases h

theorem usd_run {b off len es : Nat} {cap : Option Nat} {x : Value} {ats : Array TypeId} {t : TypeId} (hx : VR E W (.sl b off len es cap) x) (hl : len ≠ 0) :
    Yes P E W (Builtin.unsafeSliceData_ ats t #[x]) (.ref b off) := by
  obtain ⟨c, rfl, hb, hc⟩ := hx.sl_inv
  refine ⟨.pointer (some ⟨E.β b, off, none⟩), ?_, .ref hb⟩
  have hc0 : c ≠ 0 := by omega
  show (if c ≠ 0 then (pure (.pointer (some ⟨E.β b, off, none⟩)) : Sem Value) else _).run P W = _
  rw [if_pos hc0]; rfl

/-! externs -/
theorem find_fbits64 (fn : Func) (h : fn.name = "math.Float64bits") : Extern.find fn = some Extern.MathFloatBits.float64bits := by
  unfold Extern.find; rw [h]; kernel_rfl
theorem find_fbits64' (fn : Func) (h : fn.name = "internal/strconv.float64bits") : Extern.find fn = some Extern.MathFloatBits.float64bits := by
  unfold Extern.find; rw [h]; kernel_rfl
theorem find_fbits32 (fn : Func) (h : fn.name = "math.Float32bits") : Extern.find fn = some Extern.MathFloatBits.float32bits := by
  unfold Extern.find; rw [h]; kernel_rfl
theorem find_fbits32' (fn : Func) (h : fn.name = "internal/strconv.float32bits") : Extern.find fn = some Extern.MathFloatBits.float32bits := by
  unfold Extern.find; rw [h]; kernel_rfl
theorem find_ffrom64 (fn : Func) (h : fn.name = "math.Float64frombits") : Extern.find fn = some Extern.MathFloatBits.float64frombits := by
  unfold Extern.find; rw [h]; kernel_rfl
theorem find_ffrom64' (fn : Func) (h : fn.name = "internal/strconv.float64frombits") : Extern.find fn = some Extern.MathFloatBits.float64frombits := by
  unfold Extern.find; rw [h]; kernel_rfl
theorem find_ffrom32 (fn : Func) (h : fn.name = "math.Float32frombits") : Extern.find fn = some Extern.MathFloatBits.float32frombits := by
  unfold Extern.find; rw [h]; kernel_rfl
theorem find_ffrom32' (fn : Func) (h : fn.name = "internal/strconv.float32frombits") : Extern.find fn = some Extern.MathFloatBits.float32frombits := by
  unfold Extern.find; rw [h]; kernel_rfl
theorem find_noescape (fn : Func) (h : fn.name = "internal/abi.NoEscape") : Extern.find fn = some Extern.AbiNoEscape.same := by
  unfold Extern.find; rw [h]; kernel_rfl
theorem find_trunc (fn : Func) (h : fn.name = "math.archTrunc") : Extern.find fn = some (Extern.MathFloor.toIntegral "math.archTrunc" .zero) := by
  unfold Extern.find; rw [h]; kernel_rfl
theorem find_mknz (fn : Func) (h : fn.name = "internal/bytealg.MakeNoZero") : Extern.find fn = some (Extern.BytealgMakeNoZero.makeNoZero fn.params fn.resultTypes) := by
  unfold Extern.find; rw [h]; kernel_rfl
theorem find_ixb (fn : Func) (h : fn.name = "internal/bytealg.IndexByteString") : Extern.find fn = some Extern.BytealgIndexByte.indexByte := by
  unfold Extern.find; rw [h]; kernel_rfl
theorem find_cnt (fn : Func) (h : fn.name = "internal/bytealg.CountString") : Extern.find fn = some Extern.BytealgCount.count := by
  unfold Extern.find; rw [h]; kernel_rfl
end
end Go.Proofs.YtmadknpaljaecaaGreatDoor.Ev
namespace Go.Proofs.YtmadknpaljaecaaGreatDoor.Ev
open Go
set_option linter.unusedVariables false
set_option linter.unusedSimpArgs false

theorem byte_bang (x : ByteArray) (i : Nat) (h : i < x.data.toList.length) : x[i]! = x.data.toList[i] := by
  have h' : i < x.size := by simpa using h
  rw [getElem!_pos x i h']
  rfl

theorem at_beq (x : ByteArray) (i c : Nat) (h : i < x.data.toList.length) (hc : c < 256) : Nat.beq ((BStr.ofBytes x.data.toList).at_ i) c = (x[i]! == c.toUInt8) := by
  rw [BStr.at_eq _ _ h, byte_bang x i h, BStr.beq_eq_decide]
  rw [Bool.eq_iff_iff]
  simp only [decide_eq_true_eq, beq_iff_eq]
  constructor
  · intro e; apply UInt8.toNat_inj.1; rw [e]; simp [Nat.toUInt8]; omega
  · intro e; rw [e]; simp [Nat.toUInt8]; omega

theorem findB_eq (x : ByteArray) (c : Nat) (hc : c < 256) : ∀ (m i : Nat), i + m = x.data.toList.length →
    findB (BStr.ofBytes x.data.toList) c m i = (match (List.range' i m).find? fun i => x[i]! == c.toUInt8 with | some i => (i : Int) | none => -1)
  | 0, i, _ => by simp [findB]
  | m + 1, i, h => by
    simp only [findB, List.range'_succ, List.find?_cons]
    rw [at_beq x i c (by omega) hc]
    cases e : (x[i]! == c.toUInt8)
    · simp only [cond_false]
      exact findB_eq x c hc m (i + 1) (by omega)
    · simp

theorem cntB_eq (x : ByteArray) (c : Nat) (hc : c < 256) : ∀ (m i r : Nat), i + m = x.data.toList.length →
    cntB (BStr.ofBytes x.data.toList) c m i r = (x.data.toList.drop i).foldl (fun n y => if y == c.toUInt8 then n + 1 else n) r
  | 0, i, r, h => by simp only [cntB]; rw [List.drop_eq_nil_of_le (by omega)]; rfl
  | m + 1, i, r, h => by
    simp only [cntB]
    rw [at_beq x i c (by omega) hc]
    have hl : i < x.data.toList.length := by omega
    rw [List.drop_eq_getElem_cons hl, List.foldl_cons, byte_bang x i hl]
    cases e : (x.data.toList[i] == c.toUInt8)
    · simp only [cond_false, Bool.false_eq_true, if_false]
      exact cntB_eq x c hc m (i + 1) r (by omega)
    · simp only [cond_true, if_true]
      exact cntB_eq x c hc m (i + 1) (r + 1) (by omega)

theorem ixB_run {P : Program} {E : Env} {W : World} {x : ByteArray} {c : Nat} (hc : c < 256) :
    Yes P E W (Extern.BytealgIndexByte.indexByte #[.string x, .int .u8 (.ofNat c)]) (.int .i64 (findB (BStr.ofBytes x.data.toList) c (BStr.ofBytes x.data.toList).n 0)) := by
  rw [BStr.ofBytes_n, findB_eq x c hc _ 0 (by simp)]
  refine ⟨.int .i64 (match (List.range' 0 x.data.toList.length).find? fun i => x[i]! == c.toUInt8 with | some i => (i : Int) | none => -1), ?_, .int⟩
  show ((do match (List.range x.size).find? fun i => x[i]! == ((c : Int).toNat).toUInt8 with
    | some i => pure (goInt i)
    | none => pure (goInt (-1)) : Sem Value)).run P W = _
  have : List.range x.size = List.range' 0 x.data.toList.length := by rw [List.range_eq_range']; simp
  rw [this]
  simp only [Int.toNat_natCast]
  cases (List.range' 0 x.data.toList.length).find? fun i => x[i]! == c.toUInt8 <;> rfl

theorem cnt_int (c : UInt8) : ∀ (l : List UInt8) (n : Nat), l.foldl (fun (n : Int) y => if (y == c) = true then n + 1 else n) (n : Int) = Int.ofNat (l.foldl (fun (n : Nat) y => if (y == c) = true then n + 1 else n) n)
  | [], n => rfl
  | b :: l, n => by
    simp only [List.foldl_cons]
    split
    · exact cnt_int c l (n + 1)
    · exact cnt_int c l n

theorem cnt_run {P : Program} {E : Env} {W : World} {x : ByteArray} {c : Nat} (hc : c < 256) :
    Yes P E W (Extern.BytealgCount.count #[.string x, .int .u8 (.ofNat c)]) (.int .i64 (.ofNat (cntB (BStr.ofBytes x.data.toList) c (BStr.ofBytes x.data.toList).n 0 0))) := by
  rw [BStr.ofBytes_n, cntB_eq x c hc _ 0 0 (by simp)]
  refine ⟨_, ?_, .int⟩
  show (pure (goInt (x.foldl (fun n y => if y == ((c : Int).toNat).toUInt8 then n + 1 else n) (0 : Nat))) : Sem Value).run P W = _
  simp only [Int.toNat_natCast, Sem.run_pure, List.drop_zero, goInt]
  congr 3
  rw [Go.Lib.foldl_data]
  exact cnt_int _ _ _
end Go.Proofs.YtmadknpaljaecaaGreatDoor.Ev
