import Derived.Test.YtmadknpaljaecaaGreatDoorEaa
import Derived.Test.YtmadknpaljaecaaGreatDoorEab
import Derived.Test.YtmadknpaljaecaaGreatDoorEac
import Derived.Test.YtmadknpaljaecaaGreatDoorEad
set_option linter.all false
set_option maxRecDepth 100000
set_option maxHeartbeats 4000000
namespace Go.Proofs.YtmadknpaljaecaaGreatDoor.Ev.D
open Go Go.Proofs.YtmadknpaljaecaaGreatDoor.Ev
def fnsT : T XFn := (.node (.node (.node (.node (.node (.node .nil none (.node (.node .nil (some X159) .nil) (some X95) .nil)) (some X15) .nil) (some X7) (.node (.node (.node (.node (.node .nil (some X263) .nil) none .nil) (some X71) .nil) (some X39) (.node .nil (some X103) .nil)) (some X23) (.node (.node .nil none (.node .nil (some X215) .nil)) none (.node .nil (some X119) (.node .nil (some X247) .nil))))) (some X3) (.node (.node (.node (.node (.node (.node .nil (some X259) .nil) none .nil) (some X67) .nil) (some X35) .nil) (some X19) (.node (.node .nil (some X83) (.node .nil (some X211) .nil)) (some X51) .nil)) none (.node (.node (.node .nil (some X75) .nil) none (.node .nil (some X107) .nil)) (some X27) (.node (.node .nil none (.node .nil (some X219) .nil)) (some X59) (.node .nil none (.node .nil (some X251) .nil)))))) none (.node (.node (.node (.node (.node (.node (.node .nil (some X257) .nil) none .nil) none .nil) (some X33) (.node .nil none (.node .nil (some X225) .nil))) none (.node (.node (.node .nil (some X145) .nil) (some X81) .nil) none .nil)) none (.node (.node .nil none (.node .nil (some X105) (.node .nil (some X233) .nil))) none (.node .nil none (.node (.node .nil (some X185) .nil) none (.node .nil (some X249) .nil))))) (some X5) (.node (.node (.node (.node .nil (some X69) .nil) none (.node .nil (some X101) (.node .nil (some X229) .nil))) none (.node .nil none (.node .nil none (.node .nil (some X245) .nil)))) none (.node (.node (.node (.node .nil (some X141) .nil) (some X77) .nil) (some X45) (.node .nil (some X109) .nil)) (some X29) (.node (.node .nil none (.node .nil (some X221) .nil)) (some X61) (.node .nil (some X125) .nil)))))) none (.node (.node (.node (.node (.node (.node (.node (.node .nil (some X256) .nil) none .nil) none .nil) (some X32) (.node .nil (some X96) .nil)) (some X16) (.node (.node (.node (.node .nil (some X272) .nil) none .nil) none .nil) none (.node (.node .nil (some X176) .nil) (some X112) .nil))) (some X8) (.node (.node (.node (.node (.node .nil (some X264) .nil) none .nil) none .nil) (some X40) (.node .nil (some X104) .nil)) (some X24) (.node (.node .nil none (.node .nil (some X216) .nil)) (some X56) (.node .nil (some X120) (.node .nil (some X248) .nil))))) none (.node (.node (.node (.node (.node .nil (some X132) .nil) (some X68) .nil) none (.node .nil none (.node .nil (some X228) .nil))) (some X20) (.node (.node .nil (some X84) (.node .nil (some X212) .nil)) (some X52) (.node .nil none (.node .nil (some X244) .nil)))) none (.node (.node (.node .nil (some X76) .nil) (some X44) (.node (.node .nil (some X172) .nil) none .nil)) (some X28) (.node (.node .nil none (.node .nil (some X220) .nil)) (some X60) .nil)))) none (.node (.node (.node (.node .nil none (.node .nil none (.node .nil (some X226) .nil))) (some X18) (.node (.node (.node (.node .nil (some X274) .nil) none .nil) (some X82) .nil) (some X50) (.node (.node .nil (some X178) .nil) none (.node .nil (some X242) .nil)))) none (.node .nil none (.node (.node .nil none (.node .nil (some X218) .nil)) none (.node .nil none (.node .nil (some X250) .nil))))) none (.node (.node (.node (.node .nil (some X70) .nil) none (.node (.node .nil (some X166) .nil) (some X102) .nil)) (some X22) (.node (.node .nil none (.node .nil (some X214) .nil)) (some X54) (.node .nil (some X118) (.node .nil (some X246) .nil)))) none (.node (.node (.node .nil (some X78) .nil) (some X46) (.node .nil (some X110) .nil)) (some X30) (.node .nil (some X62) (.node .nil none (.node .nil (some X254) .nil))))))))
def L2 : List AV := [(.int .u8 240), (.int .u8 240), (.int .u8 240), (.int .u8 240), (.int .u8 240), (.int .u8 240), (.int .u8 240), (.int .u8 240), (.int .u8 240), (.int .u8 240), (.int .u8 240), (.int .u8 240), (.int .u8 240), (.int .u8 240), (.int .u8 240), (.int .u8 240), (.int .u8 240), (.int .u8 240), (.int .u8 240), (.int .u8 240), (.int .u8 240), (.int .u8 240), (.int .u8 240), (.int .u8 240), (.int .u8 240), (.int .u8 240), (.int .u8 240), (.int .u8 240), (.int .u8 240), (.int .u8 240), (.int .u8 240), (.int .u8 240), (.int .u8 240), (.int .u8 240), (.int .u8 240), (.int .u8 240), (.int .u8 240), (.int .u8 240), (.int .u8 240), (.int .u8 240), (.int .u8 240), (.int .u8 240), (.int .u8 240), (.int .u8 240), (.int .u8 240), (.int .u8 240), (.int .u8 240), (.int .u8 240), (.int .u8 240), (.int .u8 240), (.int .u8 240), (.int .u8 240), (.int .u8 240), (.int .u8 240), (.int .u8 240), (.int .u8 240), (.int .u8 240), (.int .u8 240), (.int .u8 240), (.int .u8 240), (.int .u8 240), (.int .u8 240), (.int .u8 240), (.int .u8 240), (.int .u8 240), (.int .u8 240), (.int .u8 240), (.int .u8 240), (.int .u8 240), (.int .u8 240), (.int .u8 240), (.int .u8 240), (.int .u8 240), (.int .u8 240), (.int .u8 240), (.int .u8 240), (.int .u8 240), (.int .u8 240), (.int .u8 240), (.int .u8 240), (.int .u8 240), (.int .u8 240), (.int .u8 240), (.int .u8 240), (.int .u8 240), (.int .u8 240), (.int .u8 240), (.int .u8 240), (.int .u8 240), (.int .u8 240), (.int .u8 240), (.int .u8 240), (.int .u8 240), (.int .u8 240), (.int .u8 240), (.int .u8 240), (.int .u8 240), (.int .u8 240), (.int .u8 240), (.int .u8 240), (.int .u8 240), (.int .u8 240), (.int .u8 240), (.int .u8 240), (.int .u8 240), (.int .u8 240), (.int .u8 240), (.int .u8 240), (.int .u8 240), (.int .u8 240), (.int .u8 240), (.int .u8 240), (.int .u8 240), (.int .u8 240), (.int .u8 240), (.int .u8 240), (.int .u8 240), (.int .u8 240), (.int .u8 240), (.int .u8 240), (.int .u8 240), (.int .u8 240), (.int .u8 240), (.int .u8 240), (.int .u8 240), (.int .u8 240), (.int .u8 240), (.int .u8 240), (.int .u8 241), (.int .u8 241), (.int .u8 241), (.int .u8 241), (.int .u8 241), (.int .u8 241), (.int .u8 241), (.int .u8 241), (.int .u8 241), (.int .u8 241), (.int .u8 241), (.int .u8 241), (.int .u8 241), (.int .u8 241), (.int .u8 241), (.int .u8 241), (.int .u8 241), (.int .u8 241), (.int .u8 241), (.int .u8 241), (.int .u8 241), (.int .u8 241), (.int .u8 241), (.int .u8 241), (.int .u8 241), (.int .u8 241), (.int .u8 241), (.int .u8 241), (.int .u8 241), (.int .u8 241), (.int .u8 241), (.int .u8 241), (.int .u8 241), (.int .u8 241), (.int .u8 241), (.int .u8 241), (.int .u8 241), (.int .u8 241), (.int .u8 241), (.int .u8 241), (.int .u8 241), (.int .u8 241), (.int .u8 241), (.int .u8 241), (.int .u8 241), (.int .u8 241), (.int .u8 241), (.int .u8 241), (.int .u8 241), (.int .u8 241), (.int .u8 241), (.int .u8 241), (.int .u8 241), (.int .u8 241), (.int .u8 241), (.int .u8 241), (.int .u8 241), (.int .u8 241), (.int .u8 241), (.int .u8 241), (.int .u8 241), (.int .u8 241), (.int .u8 241), (.int .u8 241), (.int .u8 241), (.int .u8 241), (.int .u8 2), (.int .u8 2), (.int .u8 2), (.int .u8 2), (.int .u8 2), (.int .u8 2), (.int .u8 2), (.int .u8 2), (.int .u8 2), (.int .u8 2), (.int .u8 2), (.int .u8 2), (.int .u8 2), (.int .u8 2), (.int .u8 2), (.int .u8 2), (.int .u8 2), (.int .u8 2), (.int .u8 2), (.int .u8 2), (.int .u8 2), (.int .u8 2), (.int .u8 2), (.int .u8 2), (.int .u8 2), (.int .u8 2), (.int .u8 2), (.int .u8 2), (.int .u8 2), (.int .u8 2), (.int .u8 19), (.int .u8 3), (.int .u8 3), (.int .u8 3), (.int .u8 3), (.int .u8 3), (.int .u8 3), (.int .u8 3), (.int .u8 3), (.int .u8 3), (.int .u8 3), (.int .u8 3), (.int .u8 3), (.int .u8 35), (.int .u8 3), (.int .u8 3), (.int .u8 52), (.int .u8 4), (.int .u8 4), (.int .u8 4), (.int .u8 68), (.int .u8 241), (.int .u8 241), (.int .u8 241), (.int .u8 241), (.int .u8 241), (.int .u8 241), (.int .u8 241), (.int .u8 241), (.int .u8 241), (.int .u8 241), (.int .u8 241)]
def L3 : List AV := [(.int .u8 128), (.int .u8 191), (.int .u8 160), (.int .u8 191), (.int .u8 128), (.int .u8 159), (.int .u8 144), (.int .u8 191), (.int .u8 128), (.int .u8 143), (.int .u8 0), (.int .u8 0), (.int .u8 0), (.int .u8 0), (.int .u8 0), (.int .u8 0), (.int .u8 0), (.int .u8 0), (.int .u8 0), (.int .u8 0), (.int .u8 0), (.int .u8 0), (.int .u8 0), (.int .u8 0), (.int .u8 0), (.int .u8 0), (.int .u8 0), (.int .u8 0), (.int .u8 0), (.int .u8 0), (.int .u8 0), (.int .u8 0)]
def L4 : List AV := [(.bool true)]
def L5 : List AV := [(.iface 246 (.iptr false [(.str ⟨14, 2138404743268917596158120305123704⟩)]))]
def L6 : List AV := [(.iface 246 (.iptr false [(.str ⟨18, 10312401295712410520744752698248523139671909⟩)]))]
def L7 : List AV := [(.isl false 336 [(.int .u32 65), (.int .u32 90), (.int .i32 0), (.int .i32 32), (.int .i32 0), (.int .u32 97), (.int .u32 122), (.int .i32 (-32)), (.int .i32 0), (.int .i32 (-32)), (.int .u32 181), (.int .u32 181), (.int .i32 743), (.int .i32 0), (.int .i32 743), (.int .u32 192), (.int .u32 214), (.int .i32 0), (.int .i32 32), (.int .i32 0), (.int .u32 216), (.int .u32 222), (.int .i32 0), (.int .i32 32), (.int .i32 0), (.int .u32 224), (.int .u32 246), (.int .i32 (-32)), (.int .i32 0), (.int .i32 (-32)), (.int .u32 248), (.int .u32 254), (.int .i32 (-32)), (.int .i32 0), (.int .i32 (-32)), (.int .u32 255), (.int .u32 255), (.int .i32 121), (.int .i32 0), (.int .i32 121), (.int .u32 256), (.int .u32 303), (.int .i32 1114112), (.int .i32 1114112), (.int .i32 1114112), (.int .u32 304), (.int .u32 304), (.int .i32 0), (.int .i32 (-199)), (.int .i32 0), (.int .u32 305), (.int .u32 305), (.int .i32 (-232)), (.int .i32 0), (.int .i32 (-232)), (.int .u32 306), (.int .u32 311), (.int .i32 1114112), (.int .i32 1114112), (.int .i32 1114112), (.int .u32 313), (.int .u32 328), (.int .i32 1114112), (.int .i32 1114112), (.int .i32 1114112), (.int .u32 330), (.int .u32 375), (.int .i32 1114112), (.int .i32 1114112), (.int .i32 1114112), (.int .u32 376), (.int .u32 376), (.int .i32 0), (.int .i32 (-121)), (.int .i32 0), (.int .u32 377), (.int .u32 382), (.int .i32 1114112), (.int .i32 1114112), (.int .i32 1114112), (.int .u32 383), (.int .u32 383), (.int .i32 (-300)), (.int .i32 0), (.int .i32 (-300)), (.int .u32 384), (.int .u32 384), (.int .i32 195), (.int .i32 0), (.int .i32 195), (.int .u32 385), (.int .u32 385), (.int .i32 0), (.int .i32 210), (.int .i32 0), (.int .u32 386), (.int .u32 389), (.int .i32 1114112), (.int .i32 1114112), (.int .i32 1114112), (.int .u32 390), (.int .u32 390), (.int .i32 0), (.int .i32 206), (.int .i32 0), (.int .u32 391), (.int .u32 392), (.int .i32 1114112), (.int .i32 1114112), (.int .i32 1114112), (.int .u32 393), (.int .u32 394), (.int .i32 0), (.int .i32 205), (.int .i32 0), (.int .u32 395), (.int .u32 396), (.int .i32 1114112), (.int .i32 1114112), (.int .i32 1114112), (.int .u32 398), (.int .u32 398), (.int .i32 0), (.int .i32 79), (.int .i32 0), (.int .u32 399), (.int .u32 399), (.int .i32 0), (.int .i32 202), (.int .i32 0), (.int .u32 400), (.int .u32 400), (.int .i32 0), (.int .i32 203), (.int .i32 0), (.int .u32 401), (.int .u32 402), (.int .i32 1114112), (.int .i32 1114112), (.int .i32 1114112), (.int .u32 403), (.int .u32 403), (.int .i32 0), (.int .i32 205), (.int .i32 0), (.int .u32 404), (.int .u32 404), (.int .i32 0), (.int .i32 207), (.int .i32 0), (.int .u32 405), (.int .u32 405), (.int .i32 97), (.int .i32 0), (.int .i32 97), (.int .u32 406), (.int .u32 406), (.int .i32 0), (.int .i32 211), (.int .i32 0), (.int .u32 407), (.int .u32 407), (.int .i32 0), (.int .i32 209), (.int .i32 0), (.int .u32 408), (.int .u32 409), (.int .i32 1114112), (.int .i32 1114112), (.int .i32 1114112), (.int .u32 410), (.int .u32 410), (.int .i32 163), (.int .i32 0), (.int .i32 163), (.int .u32 411), (.int .u32 411), (.int .i32 42561), (.int .i32 0), (.int .i32 42561), (.int .u32 412), (.int .u32 412), (.int .i32 0), (.int .i32 211), (.int .i32 0), (.int .u32 413), (.int .u32 413), (.int .i32 0), (.int .i32 213), (.int .i32 0), (.int .u32 414), (.int .u32 414), (.int .i32 130), (.int .i32 0), (.int .i32 130), (.int .u32 415), (.int .u32 415), (.int .i32 0), (.int .i32 214), (.int .i32 0), (.int .u32 416), (.int .u32 421), (.int .i32 1114112), (.int .i32 1114112), (.int .i32 1114112), (.int .u32 422), (.int .u32 422), (.int .i32 0), (.int .i32 218), (.int .i32 0), (.int .u32 423), (.int .u32 424), (.int .i32 1114112), (.int .i32 1114112), (.int .i32 1114112), (.int .u32 425), (.int .u32 425), (.int .i32 0), (.int .i32 218), (.int .i32 0), (.int .u32 428), (.int .u32 429), (.int .i32 1114112), (.int .i32 1114112), (.int .i32 1114112), (.int .u32 430), (.int .u32 430), (.int .i32 0), (.int .i32 218), (.int .i32 0), (.int .u32 431), (.int .u32 432), (.int .i32 1114112), (.int .i32 1114112), (.int .i32 1114112), (.int .u32 433), (.int .u32 434), (.int .i32 0), (.int .i32 217), (.int .i32 0), (.int .u32 435), (.int .u32 438), (.int .i32 1114112), (.int .i32 1114112), (.int .i32 1114112), (.int .u32 439), (.int .u32 439), (.int .i32 0), (.int .i32 219), (.int .i32 0), (.int .u32 440), (.int .u32 441), (.int .i32 1114112), (.int .i32 1114112), (.int .i32 1114112), (.int .u32 444), (.int .u32 445), (.int .i32 1114112), (.int .i32 1114112), (.int .i32 1114112), (.int .u32 447), (.int .u32 447), (.int .i32 56), (.int .i32 0), (.int .i32 56), (.int .u32 452), (.int .u32 452), (.int .i32 0), (.int .i32 2), (.int .i32 1), (.int .u32 453), (.int .u32 453), (.int .i32 (-1)), (.int .i32 1), (.int .i32 0), (.int .u32 454), (.int .u32 454), (.int .i32 (-2)), (.int .i32 0), (.int .i32 (-1)), (.int .u32 455), (.int .u32 455), (.int .i32 0), (.int .i32 2), (.int .i32 1), (.int .u32 456), (.int .u32 456), (.int .i32 (-1)), (.int .i32 1), (.int .i32 0), (.int .u32 457), (.int .u32 457), (.int .i32 (-2)), (.int .i32 0), (.int .i32 (-1)), (.int .u32 458), (.int .u32 458), (.int .i32 0), (.int .i32 2), (.int .i32 1), (.int .u32 459), (.int .u32 459), (.int .i32 (-1)), (.int .i32 1), (.int .i32 0), (.int .u32 460), (.int .u32 460), (.int .i32 (-2)), (.int .i32 0), (.int .i32 (-1)), (.int .u32 461), (.int .u32 476), (.int .i32 1114112), (.int .i32 1114112), (.int .i32 1114112), (.int .u32 477), (.int .u32 477), (.int .i32 (-79)), (.int .i32 0), (.int .i32 (-79)), (.int .u32 478), (.int .u32 495), (.int .i32 1114112), (.int .i32 1114112), (.int .i32 1114112), (.int .u32 497), (.int .u32 497), (.int .i32 0), (.int .i32 2), (.int .i32 1), (.int .u32 498), (.int .u32 498), (.int .i32 (-1)), (.int .i32 1), (.int .i32 0), (.int .u32 499), (.int .u32 499), (.int .i32 (-2)), (.int .i32 0), (.int .i32 (-1)), (.int .u32 500), (.int .u32 501), (.int .i32 1114112), (.int .i32 1114112), (.int .i32 1114112), (.int .u32 502), (.int .u32 502), (.int .i32 0), (.int .i32 (-97)), (.int .i32 0), (.int .u32 503), (.int .u32 503), (.int .i32 0), (.int .i32 (-56)), (.int .i32 0), (.int .u32 504), (.int .u32 543), (.int .i32 1114112), (.int .i32 1114112), (.int .i32 1114112), (.int .u32 544), (.int .u32 544), (.int .i32 0), (.int .i32 (-130)), (.int .i32 0), (.int .u32 546), (.int .u32 563), (.int .i32 1114112), (.int .i32 1114112), (.int .i32 1114112), (.int .u32 570), (.int .u32 570), (.int .i32 0), (.int .i32 10795), (.int .i32 0), (.int .u32 571), (.int .u32 572), (.int .i32 1114112), (.int .i32 1114112), (.int .i32 1114112), (.int .u32 573), (.int .u32 573), (.int .i32 0), (.int .i32 (-163)), (.int .i32 0), (.int .u32 574), (.int .u32 574), (.int .i32 0), (.int .i32 10792), (.int .i32 0), (.int .u32 575), (.int .u32 576), (.int .i32 10815), (.int .i32 0), (.int .i32 10815), (.int .u32 577), (.int .u32 578), (.int .i32 1114112), (.int .i32 1114112), (.int .i32 1114112), (.int .u32 579), (.int .u32 579), (.int .i32 0), (.int .i32 (-195)), (.int .i32 0), (.int .u32 580), (.int .u32 580), (.int .i32 0), (.int .i32 69), (.int .i32 0), (.int .u32 581), (.int .u32 581), (.int .i32 0), (.int .i32 71), (.int .i32 0), (.int .u32 582), (.int .u32 591), (.int .i32 1114112), (.int .i32 1114112), (.int .i32 1114112), (.int .u32 592), (.int .u32 592), (.int .i32 10783), (.int .i32 0), (.int .i32 10783), (.int .u32 593), (.int .u32 593), (.int .i32 10780), (.int .i32 0), (.int .i32 10780), (.int .u32 594), (.int .u32 594), (.int .i32 10782), (.int .i32 0), (.int .i32 10782), (.int .u32 595), (.int .u32 595), (.int .i32 (-210)), (.int .i32 0), (.int .i32 (-210)), (.int .u32 596), (.int .u32 596), (.int .i32 (-206)), (.int .i32 0), (.int .i32 (-206)), (.int .u32 598), (.int .u32 599), (.int .i32 (-205)), (.int .i32 0), (.int .i32 (-205)), (.int .u32 601), (.int .u32 601), (.int .i32 (-202)), (.int .i32 0), (.int .i32 (-202)), (.int .u32 603), (.int .u32 603), (.int .i32 (-203)), (.int .i32 0), (.int .i32 (-203)), (.int .u32 604), (.int .u32 604), (.int .i32 42319), (.int .i32 0), (.int .i32 42319), (.int .u32 608), (.int .u32 608), (.int .i32 (-205)), (.int .i32 0), (.int .i32 (-205)), (.int .u32 609), (.int .u32 609), (.int .i32 42315), (.int .i32 0), (.int .i32 42315), (.int .u32 611), (.int .u32 611), (.int .i32 (-207)), (.int .i32 0), (.int .i32 (-207)), (.int .u32 612), (.int .u32 612), (.int .i32 42343), (.int .i32 0), (.int .i32 42343), (.int .u32 613), (.int .u32 613), (.int .i32 42280), (.int .i32 0), (.int .i32 42280), (.int .u32 614), (.int .u32 614), (.int .i32 42308), (.int .i32 0), (.int .i32 42308), (.int .u32 616), (.int .u32 616), (.int .i32 (-209)), (.int .i32 0), (.int .i32 (-209)), (.int .u32 617), (.int .u32 617), (.int .i32 (-211)), (.int .i32 0), (.int .i32 (-211)), (.int .u32 618), (.int .u32 618), (.int .i32 42308), (.int .i32 0), (.int .i32 42308), (.int .u32 619), (.int .u32 619), (.int .i32 10743), (.int .i32 0), (.int .i32 10743), (.int .u32 620), (.int .u32 620), (.int .i32 42305), (.int .i32 0), (.int .i32 42305), (.int .u32 623), (.int .u32 623), (.int .i32 (-211)), (.int .i32 0), (.int .i32 (-211)), (.int .u32 625), (.int .u32 625), (.int .i32 10749), (.int .i32 0), (.int .i32 10749), (.int .u32 626), (.int .u32 626), (.int .i32 (-213)), (.int .i32 0), (.int .i32 (-213)), (.int .u32 629), (.int .u32 629), (.int .i32 (-214)), (.int .i32 0), (.int .i32 (-214)), (.int .u32 637), (.int .u32 637), (.int .i32 10727), (.int .i32 0), (.int .i32 10727), (.int .u32 640), (.int .u32 640), (.int .i32 (-218)), (.int .i32 0), (.int .i32 (-218)), (.int .u32 642), (.int .u32 642), (.int .i32 42307), (.int .i32 0), (.int .i32 42307), (.int .u32 643), (.int .u32 643), (.int .i32 (-218)), (.int .i32 0), (.int .i32 (-218)), (.int .u32 647), (.int .u32 647), (.int .i32 42282), (.int .i32 0), (.int .i32 42282), (.int .u32 648), (.int .u32 648), (.int .i32 (-218)), (.int .i32 0), (.int .i32 (-218)), (.int .u32 649), (.int .u32 649), (.int .i32 (-69)), (.int .i32 0), (.int .i32 (-69)), (.int .u32 650), (.int .u32 651), (.int .i32 (-217)), (.int .i32 0), (.int .i32 (-217)), (.int .u32 652), (.int .u32 652), (.int .i32 (-71)), (.int .i32 0), (.int .i32 (-71)), (.int .u32 658), (.int .u32 658), (.int .i32 (-219)), (.int .i32 0), (.int .i32 (-219)), (.int .u32 669), (.int .u32 669), (.int .i32 42261), (.int .i32 0), (.int .i32 42261), (.int .u32 670), (.int .u32 670), (.int .i32 42258), (.int .i32 0), (.int .i32 42258), (.int .u32 837), (.int .u32 837), (.int .i32 84), (.int .i32 0), (.int .i32 84), (.int .u32 880), (.int .u32 883), (.int .i32 1114112), (.int .i32 1114112), (.int .i32 1114112), (.int .u32 886), (.int .u32 887), (.int .i32 1114112), (.int .i32 1114112), (.int .i32 1114112), (.int .u32 891), (.int .u32 893), (.int .i32 130), (.int .i32 0), (.int .i32 130), (.int .u32 895), (.int .u32 895), (.int .i32 0), (.int .i32 116), (.int .i32 0), (.int .u32 902), (.int .u32 902), (.int .i32 0), (.int .i32 38), (.int .i32 0), (.int .u32 904), (.int .u32 906), (.int .i32 0), (.int .i32 37), (.int .i32 0), (.int .u32 908), (.int .u32 908), (.int .i32 0), (.int .i32 64), (.int .i32 0), (.int .u32 910), (.int .u32 911), (.int .i32 0), (.int .i32 63), (.int .i32 0), (.int .u32 913), (.int .u32 929), (.int .i32 0), (.int .i32 32), (.int .i32 0), (.int .u32 931), (.int .u32 939), (.int .i32 0), (.int .i32 32), (.int .i32 0), (.int .u32 940), (.int .u32 940), (.int .i32 (-38)), (.int .i32 0), (.int .i32 (-38)), (.int .u32 941), (.int .u32 943), (.int .i32 (-37)), (.int .i32 0), (.int .i32 (-37)), (.int .u32 945), (.int .u32 961), (.int .i32 (-32)), (.int .i32 0), (.int .i32 (-32)), (.int .u32 962), (.int .u32 962), (.int .i32 (-31)), (.int .i32 0), (.int .i32 (-31)), (.int .u32 963), (.int .u32 971), (.int .i32 (-32)), (.int .i32 0), (.int .i32 (-32)), (.int .u32 972), (.int .u32 972), (.int .i32 (-64)), (.int .i32 0), (.int .i32 (-64)), (.int .u32 973), (.int .u32 974), (.int .i32 (-63)), (.int .i32 0), (.int .i32 (-63)), (.int .u32 975), (.int .u32 975), (.int .i32 0), (.int .i32 8), (.int .i32 0), (.int .u32 976), (.int .u32 976), (.int .i32 (-62)), (.int .i32 0), (.int .i32 (-62)), (.int .u32 977), (.int .u32 977), (.int .i32 (-57)), (.int .i32 0), (.int .i32 (-57)), (.int .u32 981), (.int .u32 981), (.int .i32 (-47)), (.int .i32 0), (.int .i32 (-47)), (.int .u32 982), (.int .u32 982), (.int .i32 (-54)), (.int .i32 0), (.int .i32 (-54)), (.int .u32 983), (.int .u32 983), (.int .i32 (-8)), (.int .i32 0), (.int .i32 (-8)), (.int .u32 984), (.int .u32 1007), (.int .i32 1114112), (.int .i32 1114112), (.int .i32 1114112), (.int .u32 1008), (.int .u32 1008), (.int .i32 (-86)), (.int .i32 0), (.int .i32 (-86)), (.int .u32 1009), (.int .u32 1009), (.int .i32 (-80)), (.int .i32 0), (.int .i32 (-80)), (.int .u32 1010), (.int .u32 1010), (.int .i32 7), (.int .i32 0), (.int .i32 7), (.int .u32 1011), (.int .u32 1011), (.int .i32 (-116)), (.int .i32 0), (.int .i32 (-116)), (.int .u32 1012), (.int .u32 1012), (.int .i32 0), (.int .i32 (-60)), (.int .i32 0), (.int .u32 1013), (.int .u32 1013), (.int .i32 (-96)), (.int .i32 0), (.int .i32 (-96)), (.int .u32 1015), (.int .u32 1016), (.int .i32 1114112), (.int .i32 1114112), (.int .i32 1114112), (.int .u32 1017), (.int .u32 1017), (.int .i32 0), (.int .i32 (-7)), (.int .i32 0), (.int .u32 1018), (.int .u32 1019), (.int .i32 1114112), (.int .i32 1114112), (.int .i32 1114112), (.int .u32 1021), (.int .u32 1023), (.int .i32 0), (.int .i32 (-130)), (.int .i32 0), (.int .u32 1024), (.int .u32 1039), (.int .i32 0), (.int .i32 80), (.int .i32 0), (.int .u32 1040), (.int .u32 1071), (.int .i32 0), (.int .i32 32), (.int .i32 0), (.int .u32 1072), (.int .u32 1103), (.int .i32 (-32)), (.int .i32 0), (.int .i32 (-32)), (.int .u32 1104), (.int .u32 1119), (.int .i32 (-80)), (.int .i32 0), (.int .i32 (-80)), (.int .u32 1120), (.int .u32 1153), (.int .i32 1114112), (.int .i32 1114112), (.int .i32 1114112), (.int .u32 1162), (.int .u32 1215), (.int .i32 1114112), (.int .i32 1114112), (.int .i32 1114112), (.int .u32 1216), (.int .u32 1216), (.int .i32 0), (.int .i32 15), (.int .i32 0), (.int .u32 1217), (.int .u32 1230), (.int .i32 1114112), (.int .i32 1114112), (.int .i32 1114112), (.int .u32 1231), (.int .u32 1231), (.int .i32 (-15)), (.int .i32 0), (.int .i32 (-15)), (.int .u32 1232), (.int .u32 1327), (.int .i32 1114112), (.int .i32 1114112), (.int .i32 1114112), (.int .u32 1329), (.int .u32 1366), (.int .i32 0), (.int .i32 48), (.int .i32 0), (.int .u32 1377), (.int .u32 1414), (.int .i32 (-48)), (.int .i32 0), (.int .i32 (-48)), (.int .u32 4256), (.int .u32 4293), (.int .i32 0), (.int .i32 7264), (.int .i32 0), (.int .u32 4295), (.int .u32 4295), (.int .i32 0), (.int .i32 7264), (.int .i32 0), (.int .u32 4301), (.int .u32 4301), (.int .i32 0), (.int .i32 7264), (.int .i32 0), (.int .u32 4304), (.int .u32 4346), (.int .i32 3008), (.int .i32 0), (.int .i32 0), (.int .u32 4349), (.int .u32 4351), (.int .i32 3008), (.int .i32 0), (.int .i32 0), (.int .u32 5024), (.int .u32 5103), (.int .i32 0), (.int .i32 38864), (.int .i32 0), (.int .u32 5104), (.int .u32 5109), (.int .i32 0), (.int .i32 8), (.int .i32 0), (.int .u32 5112), (.int .u32 5117), (.int .i32 (-8)), (.int .i32 0), (.int .i32 (-8)), (.int .u32 7296), (.int .u32 7296), (.int .i32 (-6254)), (.int .i32 0), (.int .i32 (-6254)), (.int .u32 7297), (.int .u32 7297), (.int .i32 (-6253)), (.int .i32 0), (.int .i32 (-6253)), (.int .u32 7298), (.int .u32 7298), (.int .i32 (-6244)), (.int .i32 0), (.int .i32 (-6244)), (.int .u32 7299), (.int .u32 7300), (.int .i32 (-6242)), (.int .i32 0), (.int .i32 (-6242)), (.int .u32 7301), (.int .u32 7301), (.int .i32 (-6243)), (.int .i32 0), (.int .i32 (-6243)), (.int .u32 7302), (.int .u32 7302), (.int .i32 (-6236)), (.int .i32 0), (.int .i32 (-6236)), (.int .u32 7303), (.int .u32 7303), (.int .i32 (-6181)), (.int .i32 0), (.int .i32 (-6181)), (.int .u32 7304), (.int .u32 7304), (.int .i32 35266), (.int .i32 0), (.int .i32 35266), (.int .u32 7305), (.int .u32 7306), (.int .i32 1114112), (.int .i32 1114112), (.int .i32 1114112), (.int .u32 7312), (.int .u32 7354), (.int .i32 0), (.int .i32 (-3008)), (.int .i32 0), (.int .u32 7357), (.int .u32 7359), (.int .i32 0), (.int .i32 (-3008)), (.int .i32 0), (.int .u32 7545), (.int .u32 7545), (.int .i32 35332), (.int .i32 0), (.int .i32 35332), (.int .u32 7549), (.int .u32 7549), (.int .i32 3814), (.int .i32 0), (.int .i32 3814), (.int .u32 7566), (.int .u32 7566), (.int .i32 35384), (.int .i32 0), (.int .i32 35384), (.int .u32 7680), (.int .u32 7829), (.int .i32 1114112), (.int .i32 1114112), (.int .i32 1114112), (.int .u32 7835), (.int .u32 7835), (.int .i32 (-59)), (.int .i32 0), (.int .i32 (-59)), (.int .u32 7838), (.int .u32 7838), (.int .i32 0), (.int .i32 (-7615)), (.int .i32 0), (.int .u32 7840), (.int .u32 7935), (.int .i32 1114112), (.int .i32 1114112), (.int .i32 1114112), (.int .u32 7936), (.int .u32 7943), (.int .i32 8), (.int .i32 0), (.int .i32 8), (.int .u32 7944), (.int .u32 7951), (.int .i32 0), (.int .i32 (-8)), (.int .i32 0), (.int .u32 7952), (.int .u32 7957), (.int .i32 8), (.int .i32 0), (.int .i32 8), (.int .u32 7960), (.int .u32 7965), (.int .i32 0), (.int .i32 (-8)), (.int .i32 0), (.int .u32 7968), (.int .u32 7975), (.int .i32 8), (.int .i32 0), (.int .i32 8), (.int .u32 7976), (.int .u32 7983), (.int .i32 0), (.int .i32 (-8)), (.int .i32 0), (.int .u32 7984), (.int .u32 7991), (.int .i32 8), (.int .i32 0), (.int .i32 8), (.int .u32 7992), (.int .u32 7999), (.int .i32 0), (.int .i32 (-8)), (.int .i32 0), (.int .u32 8000), (.int .u32 8005), (.int .i32 8), (.int .i32 0), (.int .i32 8), (.int .u32 8008), (.int .u32 8013), (.int .i32 0), (.int .i32 (-8)), (.int .i32 0), (.int .u32 8017), (.int .u32 8017), (.int .i32 8), (.int .i32 0), (.int .i32 8), (.int .u32 8019), (.int .u32 8019), (.int .i32 8), (.int .i32 0), (.int .i32 8), (.int .u32 8021), (.int .u32 8021), (.int .i32 8), (.int .i32 0), (.int .i32 8), (.int .u32 8023), (.int .u32 8023), (.int .i32 8), (.int .i32 0), (.int .i32 8), (.int .u32 8025), (.int .u32 8025), (.int .i32 0), (.int .i32 (-8)), (.int .i32 0), (.int .u32 8027), (.int .u32 8027), (.int .i32 0), (.int .i32 (-8)), (.int .i32 0), (.int .u32 8029), (.int .u32 8029), (.int .i32 0), (.int .i32 (-8)), (.int .i32 0), (.int .u32 8031), (.int .u32 8031), (.int .i32 0), (.int .i32 (-8)), (.int .i32 0), (.int .u32 8032), (.int .u32 8039), (.int .i32 8), (.int .i32 0), (.int .i32 8), (.int .u32 8040), (.int .u32 8047), (.int .i32 0), (.int .i32 (-8)), (.int .i32 0), (.int .u32 8048), (.int .u32 8049), (.int .i32 74), (.int .i32 0), (.int .i32 74), (.int .u32 8050), (.int .u32 8053), (.int .i32 86), (.int .i32 0), (.int .i32 86), (.int .u32 8054), (.int .u32 8055), (.int .i32 100), (.int .i32 0), (.int .i32 100), (.int .u32 8056), (.int .u32 8057), (.int .i32 128), (.int .i32 0), (.int .i32 128), (.int .u32 8058), (.int .u32 8059), (.int .i32 112), (.int .i32 0), (.int .i32 112), (.int .u32 8060), (.int .u32 8061), (.int .i32 126), (.int .i32 0), (.int .i32 126), (.int .u32 8064), (.int .u32 8071), (.int .i32 8), (.int .i32 0), (.int .i32 8), (.int .u32 8072), (.int .u32 8079), (.int .i32 0), (.int .i32 (-8)), (.int .i32 0), (.int .u32 8080), (.int .u32 8087), (.int .i32 8), (.int .i32 0), (.int .i32 8), (.int .u32 8088), (.int .u32 8095), (.int .i32 0), (.int .i32 (-8)), (.int .i32 0), (.int .u32 8096), (.int .u32 8103), (.int .i32 8), (.int .i32 0), (.int .i32 8), (.int .u32 8104), (.int .u32 8111), (.int .i32 0), (.int .i32 (-8)), (.int .i32 0), (.int .u32 8112), (.int .u32 8113), (.int .i32 8), (.int .i32 0), (.int .i32 8), (.int .u32 8115), (.int .u32 8115), (.int .i32 9), (.int .i32 0), (.int .i32 9), (.int .u32 8120), (.int .u32 8121), (.int .i32 0), (.int .i32 (-8)), (.int .i32 0), (.int .u32 8122), (.int .u32 8123), (.int .i32 0), (.int .i32 (-74)), (.int .i32 0), (.int .u32 8124), (.int .u32 8124), (.int .i32 0), (.int .i32 (-9)), (.int .i32 0), (.int .u32 8126), (.int .u32 8126), (.int .i32 (-7205)), (.int .i32 0), (.int .i32 (-7205)), (.int .u32 8131), (.int .u32 8131), (.int .i32 9), (.int .i32 0), (.int .i32 9), (.int .u32 8136), (.int .u32 8139), (.int .i32 0), (.int .i32 (-86)), (.int .i32 0), (.int .u32 8140), (.int .u32 8140), (.int .i32 0), (.int .i32 (-9)), (.int .i32 0), (.int .u32 8144), (.int .u32 8145), (.int .i32 8), (.int .i32 0), (.int .i32 8), (.int .u32 8152), (.int .u32 8153), (.int .i32 0), (.int .i32 (-8)), (.int .i32 0), (.int .u32 8154), (.int .u32 8155), (.int .i32 0), (.int .i32 (-100)), (.int .i32 0), (.int .u32 8160), (.int .u32 8161), (.int .i32 8), (.int .i32 0), (.int .i32 8), (.int .u32 8165), (.int .u32 8165), (.int .i32 7), (.int .i32 0), (.int .i32 7), (.int .u32 8168), (.int .u32 8169), (.int .i32 0), (.int .i32 (-8)), (.int .i32 0), (.int .u32 8170), (.int .u32 8171), (.int .i32 0), (.int .i32 (-112)), (.int .i32 0), (.int .u32 8172), (.int .u32 8172), (.int .i32 0), (.int .i32 (-7)), (.int .i32 0), (.int .u32 8179), (.int .u32 8179), (.int .i32 9), (.int .i32 0), (.int .i32 9), (.int .u32 8184), (.int .u32 8185), (.int .i32 0), (.int .i32 (-128)), (.int .i32 0), (.int .u32 8186), (.int .u32 8187), (.int .i32 0), (.int .i32 (-126)), (.int .i32 0), (.int .u32 8188), (.int .u32 8188), (.int .i32 0), (.int .i32 (-9)), (.int .i32 0), (.int .u32 8486), (.int .u32 8486), (.int .i32 0), (.int .i32 (-7517)), (.int .i32 0), (.int .u32 8490), (.int .u32 8490), (.int .i32 0), (.int .i32 (-8383)), (.int .i32 0), (.int .u32 8491), (.int .u32 8491), (.int .i32 0), (.int .i32 (-8262)), (.int .i32 0), (.int .u32 8498), (.int .u32 8498), (.int .i32 0), (.int .i32 28), (.int .i32 0), (.int .u32 8526), (.int .u32 8526), (.int .i32 (-28)), (.int .i32 0), (.int .i32 (-28)), (.int .u32 8544), (.int .u32 8559), (.int .i32 0), (.int .i32 16), (.int .i32 0), (.int .u32 8560), (.int .u32 8575), (.int .i32 (-16)), (.int .i32 0), (.int .i32 (-16)), (.int .u32 8579), (.int .u32 8580), (.int .i32 1114112), (.int .i32 1114112), (.int .i32 1114112), (.int .u32 9398), (.int .u32 9423), (.int .i32 0), (.int .i32 26), (.int .i32 0), (.int .u32 9424), (.int .u32 9449), (.int .i32 (-26)), (.int .i32 0), (.int .i32 (-26)), (.int .u32 11264), (.int .u32 11311), (.int .i32 0), (.int .i32 48), (.int .i32 0), (.int .u32 11312), (.int .u32 11359), (.int .i32 (-48)), (.int .i32 0), (.int .i32 (-48)), (.int .u32 11360), (.int .u32 11361), (.int .i32 1114112), (.int .i32 1114112), (.int .i32 1114112), (.int .u32 11362), (.int .u32 11362), (.int .i32 0), (.int .i32 (-10743)), (.int .i32 0), (.int .u32 11363), (.int .u32 11363), (.int .i32 0), (.int .i32 (-3814)), (.int .i32 0), (.int .u32 11364), (.int .u32 11364), (.int .i32 0), (.int .i32 (-10727)), (.int .i32 0), (.int .u32 11365), (.int .u32 11365), (.int .i32 (-10795)), (.int .i32 0), (.int .i32 (-10795)), (.int .u32 11366), (.int .u32 11366), (.int .i32 (-10792)), (.int .i32 0), (.int .i32 (-10792)), (.int .u32 11367), (.int .u32 11372), (.int .i32 1114112), (.int .i32 1114112), (.int .i32 1114112), (.int .u32 11373), (.int .u32 11373), (.int .i32 0), (.int .i32 (-10780)), (.int .i32 0), (.int .u32 11374), (.int .u32 11374), (.int .i32 0), (.int .i32 (-10749)), (.int .i32 0), (.int .u32 11375), (.int .u32 11375), (.int .i32 0), (.int .i32 (-10783)), (.int .i32 0), (.int .u32 11376), (.int .u32 11376), (.int .i32 0), (.int .i32 (-10782)), (.int .i32 0), (.int .u32 11378), (.int .u32 11379), (.int .i32 1114112), (.int .i32 1114112), (.int .i32 1114112), (.int .u32 11381), (.int .u32 11382), (.int .i32 1114112), (.int .i32 1114112), (.int .i32 1114112), (.int .u32 11390), (.int .u32 11391), (.int .i32 0), (.int .i32 (-10815)), (.int .i32 0), (.int .u32 11392), (.int .u32 11491), (.int .i32 1114112), (.int .i32 1114112), (.int .i32 1114112), (.int .u32 11499), (.int .u32 11502), (.int .i32 1114112), (.int .i32 1114112), (.int .i32 1114112), (.int .u32 11506), (.int .u32 11507), (.int .i32 1114112), (.int .i32 1114112), (.int .i32 1114112), (.int .u32 11520), (.int .u32 11557), (.int .i32 (-7264)), (.int .i32 0), (.int .i32 (-7264)), (.int .u32 11559), (.int .u32 11559), (.int .i32 (-7264)), (.int .i32 0), (.int .i32 (-7264)), (.int .u32 11565), (.int .u32 11565), (.int .i32 (-7264)), (.int .i32 0), (.int .i32 (-7264)), (.int .u32 42560), (.int .u32 42605), (.int .i32 1114112), (.int .i32 1114112), (.int .i32 1114112), (.int .u32 42624), (.int .u32 42651), (.int .i32 1114112), (.int .i32 1114112), (.int .i32 1114112), (.int .u32 42786), (.int .u32 42799), (.int .i32 1114112), (.int .i32 1114112), (.int .i32 1114112), (.int .u32 42802), (.int .u32 42863), (.int .i32 1114112), (.int .i32 1114112), (.int .i32 1114112), (.int .u32 42873), (.int .u32 42876), (.int .i32 1114112), (.int .i32 1114112), (.int .i32 1114112), (.int .u32 42877), (.int .u32 42877), (.int .i32 0), (.int .i32 (-35332)), (.int .i32 0), (.int .u32 42878), (.int .u32 42887), (.int .i32 1114112), (.int .i32 1114112), (.int .i32 1114112), (.int .u32 42891), (.int .u32 42892), (.int .i32 1114112), (.int .i32 1114112), (.int .i32 1114112), (.int .u32 42893), (.int .u32 42893), (.int .i32 0), (.int .i32 (-42280)), (.int .i32 0), (.int .u32 42896), (.int .u32 42899), (.int .i32 1114112), (.int .i32 1114112), (.int .i32 1114112), (.int .u32 42900), (.int .u32 42900), (.int .i32 48), (.int .i32 0), (.int .i32 48), (.int .u32 42902), (.int .u32 42921), (.int .i32 1114112), (.int .i32 1114112), (.int .i32 1114112), (.int .u32 42922), (.int .u32 42922), (.int .i32 0), (.int .i32 (-42308)), (.int .i32 0), (.int .u32 42923), (.int .u32 42923), (.int .i32 0), (.int .i32 (-42319)), (.int .i32 0), (.int .u32 42924), (.int .u32 42924), (.int .i32 0), (.int .i32 (-42315)), (.int .i32 0), (.int .u32 42925), (.int .u32 42925), (.int .i32 0), (.int .i32 (-42305)), (.int .i32 0), (.int .u32 42926), (.int .u32 42926), (.int .i32 0), (.int .i32 (-42308)), (.int .i32 0), (.int .u32 42928), (.int .u32 42928), (.int .i32 0), (.int .i32 (-42258)), (.int .i32 0), (.int .u32 42929), (.int .u32 42929), (.int .i32 0), (.int .i32 (-42282)), (.int .i32 0), (.int .u32 42930), (.int .u32 42930), (.int .i32 0), (.int .i32 (-42261)), (.int .i32 0), (.int .u32 42931), (.int .u32 42931), (.int .i32 0), (.int .i32 928), (.int .i32 0), (.int .u32 42932), (.int .u32 42947), (.int .i32 1114112), (.int .i32 1114112), (.int .i32 1114112), (.int .u32 42948), (.int .u32 42948), (.int .i32 0), (.int .i32 (-48)), (.int .i32 0), (.int .u32 42949), (.int .u32 42949), (.int .i32 0), (.int .i32 (-42307)), (.int .i32 0), (.int .u32 42950), (.int .u32 42950), (.int .i32 0), (.int .i32 (-35384)), (.int .i32 0), (.int .u32 42951), (.int .u32 42954), (.int .i32 1114112), (.int .i32 1114112), (.int .i32 1114112), (.int .u32 42955), (.int .u32 42955), (.int .i32 0), (.int .i32 (-42343)), (.int .i32 0), (.int .u32 42956), (.int .u32 42971), (.int .i32 1114112), (.int .i32 1114112), (.int .i32 1114112), (.int .u32 42972), (.int .u32 42972), (.int .i32 0), (.int .i32 (-42561)), (.int .i32 0), (.int .u32 42997), (.int .u32 42998), (.int .i32 1114112), (.int .i32 1114112), (.int .i32 1114112), (.int .u32 43859), (.int .u32 43859), (.int .i32 (-928)), (.int .i32 0), (.int .i32 (-928)), (.int .u32 43888), (.int .u32 43967), (.int .i32 (-38864)), (.int .i32 0), (.int .i32 (-38864)), (.int .u32 65313), (.int .u32 65338), (.int .i32 0), (.int .i32 32), (.int .i32 0), (.int .u32 65345), (.int .u32 65370), (.int .i32 (-32)), (.int .i32 0), (.int .i32 (-32)), (.int .u32 66560), (.int .u32 66599), (.int .i32 0), (.int .i32 40), (.int .i32 0), (.int .u32 66600), (.int .u32 66639), (.int .i32 (-40)), (.int .i32 0), (.int .i32 (-40)), (.int .u32 66736), (.int .u32 66771), (.int .i32 0), (.int .i32 40), (.int .i32 0), (.int .u32 66776), (.int .u32 66811), (.int .i32 (-40)), (.int .i32 0), (.int .i32 (-40)), (.int .u32 66928), (.int .u32 66938), (.int .i32 0), (.int .i32 39), (.int .i32 0), (.int .u32 66940), (.int .u32 66954), (.int .i32 0), (.int .i32 39), (.int .i32 0), (.int .u32 66956), (.int .u32 66962), (.int .i32 0), (.int .i32 39), (.int .i32 0), (.int .u32 66964), (.int .u32 66965), (.int .i32 0), (.int .i32 39), (.int .i32 0), (.int .u32 66967), (.int .u32 66977), (.int .i32 (-39)), (.int .i32 0), (.int .i32 (-39)), (.int .u32 66979), (.int .u32 66993), (.int .i32 (-39)), (.int .i32 0), (.int .i32 (-39)), (.int .u32 66995), (.int .u32 67001), (.int .i32 (-39)), (.int .i32 0), (.int .i32 (-39)), (.int .u32 67003), (.int .u32 67004), (.int .i32 (-39)), (.int .i32 0), (.int .i32 (-39)), (.int .u32 68736), (.int .u32 68786), (.int .i32 0), (.int .i32 64), (.int .i32 0), (.int .u32 68800), (.int .u32 68850), (.int .i32 (-64)), (.int .i32 0), (.int .i32 (-64)), (.int .u32 68944), (.int .u32 68965), (.int .i32 0), (.int .i32 32), (.int .i32 0), (.int .u32 68976), (.int .u32 68997), (.int .i32 (-32)), (.int .i32 0), (.int .i32 (-32)), (.int .u32 71840), (.int .u32 71871), (.int .i32 0), (.int .i32 32), (.int .i32 0), (.int .u32 71872), (.int .u32 71903), (.int .i32 (-32)), (.int .i32 0), (.int .i32 (-32)), (.int .u32 93760), (.int .u32 93791), (.int .i32 0), (.int .i32 32), (.int .i32 0), (.int .u32 93792), (.int .u32 93823), (.int .i32 (-32)), (.int .i32 0), (.int .i32 (-32)), (.int .u32 93856), (.int .u32 93880), (.int .i32 0), (.int .i32 27), (.int .i32 0), (.int .u32 93883), (.int .u32 93907), (.int .i32 (-27)), (.int .i32 0), (.int .i32 (-27)), (.int .u32 125184), (.int .u32 125217), (.int .i32 0), (.int .i32 34), (.int .i32 0), (.int .u32 125218), (.int .u32 125251), (.int .i32 (-34)), (.int .i32 0), (.int .i32 (-34))])]
def L8 : List AV := [(.int .u64 1), (.int .u64 10), (.int .u64 100), (.int .u64 1000), (.int .u64 10000), (.int .u64 100000), (.int .u64 1000000), (.int .u64 10000000), (.int .u64 100000000), (.int .u64 1000000000), (.int .u64 10000000000), (.int .u64 100000000000), (.int .u64 1000000000000), (.int .u64 10000000000000), (.int .u64 100000000000000), (.int .u64 1000000000000000), (.int .u64 10000000000000000), (.int .u64 100000000000000000), (.int .u64 1000000000000000000), (.int .u64 10000000000000000000)]
def L9 : List AV := [(.int .u64 23), (.int .u64 8), (.int .i64 (-127))]
def L10 : List AV := [(.int .u64 52), (.int .u64 11), (.int .i64 (-1023))]
def L11 : List AV := [(.int .u64 18054884314459144841), (.int .u64 16775125305258875820), (.int .u64 11284302696536965526), (.int .u64 17401982343427879243), (.int .u64 14105378370671206907), (.int .u64 12529105892430073246), (.int .u64 17631722963339008633), (.int .u64 1826324310255427846), (.int .u64 11019826852086880396), (.int .u64 8058981721550724259), (.int .u64 13774783565108600495), (.int .u64 10073727151938405324), (.int .u64 17218479456385750619), (.int .u64 17203844958350394560), (.int .u64 10761549660241094137), (.int .u64 13058246108182690552), (.int .u64 13451937075301367671), (.int .u64 11711121616800975286), (.int .u64 16814921344126709588), (.int .u64 803843965719055395), (.int .u64 10509325840079193493), (.int .u64 9725774515429185430), (.int .u64 13136657300098991866), (.int .u64 7545532125859093883), (.int .u64 16420821625123739832), (.int .u64 208543120469091546), (.int .u64 10263013515702337395), (.int .u64 130339450293182216), (.int .u64 12828766894627921744), (.int .u64 4774610331293865674), (.int .u64 16035958618284902180), (.int .u64 5968262914117332093), (.int .u64 10022474136428063863), (.int .u64 12953536358178108366), (.int .u64 12528092670535079828), (.int .u64 2356862392440471746), (.int .u64 15660115838168849785), (.int .u64 2946077990550589682), (.int .u64 9787572398855531116), (.int .u64 8758827771735200407), (.int .u64 12234465498569413895), (.int .u64 10948534714669000509), (.int .u64 15293081873211767369), (.int .u64 18297354411763638541), (.int .u64 9558176170757354606), (.int .u64 18353375534993355944), (.int .u64 11947720213446693257), (.int .u64 13718347381886919122), (.int .u64 14934650266808366571), (.int .u64 12536248208931260998), (.int .u64 9334156416755229107), (.int .u64 10140998139795732076), (.int .u64 11667695520944036384), (.int .u64 17287933693172052999), (.int .u64 14584619401180045479), (.int .u64 3163173042755514633), (.int .u64 18230774251475056849), (.int .u64 8565652321871781195), (.int .u64 11394233907171910531), (.int .u64 12271061728810945103), (.int .u64 14242792383964888163), (.int .u64 1503769105731517666), (.int .u64 17803490479956110204), (.int .u64 6491397400591784987), (.int .u64 11127181549972568878), (.int .u64 13280495412224641425), (.int .u64 13908976937465711097), (.int .u64 7377247228426025973), (.int .u64 17386221171832138871), (.int .u64 4609873017105144562), (.int .u64 10866388232395086795), (.int .u64 14410385681759185111), (.int .u64 13582985290493858493), (.int .u64 4177924046916817677), (.int .u64 16978731613117323116), (.int .u64 610719040218634193), (.int .u64 10611707258198326948), (.int .u64 9605071436991422178), (.int .u64 13264634072747908685), (.int .u64 12006339296239277723), (.int .u64 16580792590934885856), (.int .u64 10396238101871709250), (.int .u64 10362995369334303660), (.int .u64 6497648813669818281), (.int .u64 12953744211667879575), (.int .u64 8122061017087272851), (.int .u64 16192180264584849469), (.int .u64 14764262289786478968), (.int .u64 10120112665365530918), (.int .u64 6921820921902855403), (.int .u64 12650140831706913648), (.int .u64 17875648189233345062), (.int .u64 15812676039633642059), (.int .u64 3897816162832129711), (.int .u64 9882922524771026287), (.int .u64 4741978110983775021), (.int .u64 12353653155963782859), (.int .u64 10539158657157106681), (.int .u64 15442066444954728574), (.int .u64 17785634339873771255), (.int .u64 9651291528096705359), (.int .u64 15727707480848494938), (.int .u64 12064114410120881698), (.int .u64 5824576295778454961), (.int .u64 15080143012651102123), (.int .u64 16504092406577844510), (.int .u64 9425089382906938827), (.int .u64 12620900763324846770), (.int .u64 11781361728633673533), (.int .u64 1941067898873894751), (.int .u64 14726702160792091917), (.int .u64 16261392928874532151), (.int .u64 18408377700990114896), (.int .u64 15715055142665777285), (.int .u64 11505236063118821810), (.int .u64 9821909464166110803), (.int .u64 14381545078898527262), (.int .u64 3054014793352862696), (.int .u64 17976931348623159078), (.int .u64 13040890528545854178), (.int .u64 11235582092889474424), (.int .u64 12762242598768546765), (.int .u64 14044477616111843030), (.int .u64 15952803248460683456), (.int .u64 17555597020139803787), (.int .u64 10717632023721078512), (.int .u64 10972248137587377367), (.int .u64 9004363024039368022), (.int .u64 13715310171984221709), (.int .u64 15867139798476597932), (.int .u64 17144137714980277136), (.int .u64 15222238729668359511), (.int .u64 10715086071862673210), (.int .u64 9513899206042724694), (.int .u64 13393857589828341512), (.int .u64 2669001970698630060), (.int .u64 16742321987285426890), (.int .u64 3336252463373287575), (.int .u64 10463951242053391807), (.int .u64 15920215844890468446), (.int .u64 13079939052566739758), (.int .u64 6065211750830921845), (.int .u64 16349923815708424698), (.int .u64 16804886725393428115), (.int .u64 10218702384817765436), (.int .u64 5891368184943504668), (.int .u64 12773377981022206795), (.int .u64 7364210231179380835), (.int .u64 15966722476277758494), (.int .u64 13816948807401613948), (.int .u64 9979201547673599059), (.int .u64 13247279023053396621), (.int .u64 12474001934591998823), (.int .u64 2724040723534582064), (.int .u64 15592502418239998529), (.int .u64 8016736922845615485), (.int .u64 9745314011399999081), (.int .u64 11927989604419591534), (.int .u64 12181642514249998851), (.int .u64 10298300987097101513), (.int .u64 15227053142812498564), (.int .u64 17484562252298764796), (.int .u64 9516908214257811602), (.int .u64 1704479370831952189), (.int .u64 11896135267822264503), (.int .u64 11353971250394716045), (.int .u64 14870169084777830628), (.int .u64 357406007711231344), (.int .u64 9293855677986144143), (.int .u64 9446750791674295398), (.int .u64 11617319597482680179), (.int .u64 16420124508020257151), (.int .u64 14521649496853350223), (.int .u64 6690097579743157727), (.int .u64 18152061871066687779), (.int .u64 12974307993106335063), (.int .u64 11345038669416679862), (.int .u64 10414785504905153366), (.int .u64 14181298336770849827), (.int .u64 3795109844276665900), (.int .u64 17726622920963562284), (.int .u64 9355573323773220279), (.int .u64 11079139325602226428), (.int .u64 15070605364213038482), (.int .u64 13848924157002783034), (.int .u64 391512631556746487), (.int .u64 17311155196253478793), (.int .u64 9712762826300708917), (.int .u64 10819471997658424246), (.int .u64 12988005794079024929), (.int .u64 13524339997073030307), (.int .u64 7011635205744005353), (.int .u64 16905424996341287884), (.int .u64 13376230025607394595), (.int .u64 10565890622713304928), (.int .u64 17583515802859397430), (.int .u64 13207363278391631159), (.int .u64 3532650679864695172), (.int .u64 16509204097989538949), (.int .u64 9027499368258256869), (.int .u64 10318252561243461843), (.int .u64 3336344095947716591), (.int .u64 12897815701554327304), (.int .u64 8782116138362033642), (.int .u64 16122269626942909130), (.int .u64 10977645172952542053), (.int .u64 10076418516839318206), (.int .u64 2249342214667950879), (.int .u64 12595523146049147758), (.int .u64 12035049805189714407), (.int .u64 15744403932561434697), (.int .u64 5820440219632367201), (.int .u64 9840252457850896686), (.int .u64 10555304164911311356), (.int .u64 12300315572313620857), (.int .u64 3970758169284363388), (.int .u64 15375394465392026071), (.int .u64 351761693178066331), (.int .u64 9609621540870016295), (.int .u64 11749066104304761216), (.int .u64 12012026926087520368), (.int .u64 851274575098787809), (.int .u64 15015033657609400460), (.int .u64 1064093218873484761), (.int .u64 9384396036005875288), (.int .u64 9888430298650703783), (.int .u64 11730495045007344110), (.int .u64 12360537873313379729), (.int .u64 14663118806259180137), (.int .u64 6227300304786948854), (.int .u64 18328898507823975171), (.int .u64 3172439362556298163), (.int .u64 11455561567389984482), (.int .u64 4288617610811380304), (.int .u64 14319451959237480603), (.int .u64 14584144050369001188), (.int .u64 17899314949046850753), (.int .u64 4395122007679087773), (.int .u64 11187071843154281721), (.int .u64 9664480282440511714), (.int .u64 13983839803942852151), (.int .u64 7468914334623251739), (.int .u64 17479799754928565189), (.int .u64 13947828936706452578), (.int .u64 10924874846830353243), (.int .u64 6411550076227838909), (.int .u64 13656093558537941554), (.int .u64 12626123613712186540), (.int .u64 17070116948172426942), (.int .u64 6559282480285457367), (.int .u64 10668823092607766839), (.int .u64 8711237568605798758), (.int .u64 13336028865759708549), (.int .u64 15500732979184636352), (.int .u64 16670036082199635686), (.int .u64 14764230205553407536), (.int .u64 10418772551374772304), (.int .u64 13839329896898267614), (.int .u64 13023465689218465380), (.int .u64 17299162371122834518), (.int .u64 16279332111523081724), (.int .u64 3177208890193991531), (.int .u64 10174582569701926078), (.int .u64 11209127593226020515), (.int .u64 12718228212127407597), (.int .u64 4788037454677749836), (.int .u64 15897785265159259496), (.int .u64 1373360799919799391), (.int .u64 9936115790724537185), (.int .u64 858350499949874619), (.int .u64 12420144738405671482), (.int .u64 14907996180219506986), (.int .u64 15525180923007089352), (.int .u64 9411623188419607924), (.int .u64 9703238076879430845), (.int .u64 5882264492762254952), (.int .u64 12129047596099288556), (.int .u64 2741144597525430787), (.int .u64 15161309495124110695), (.int .u64 3426430746906788484), (.int .u64 9475818434452569185), (.int .u64 13670734262885212562), (.int .u64 11844773043065711481), (.int .u64 12476731810179127799), (.int .u64 14805966303832139351), (.int .u64 10984228744296521844), (.int .u64 9253728939895087095), (.int .u64 18394358011253795913), (.int .u64 11567161174868858868), (.int .u64 9157889458785081179), (.int .u64 14458951468586073585), (.int .u64 11447361823481351474), (.int .u64 18073689335732591981), (.int .u64 9697516260924301438), (.int .u64 11296055834832869988), (.int .u64 3755104653863994447), (.int .u64 14120069793541087485), (.int .u64 4693880817329993059), (.int .u64 17650087241926359356), (.int .u64 1255665003235103419), (.int .u64 11031304526203974598), (.int .u64 10008162663876715445), (.int .u64 13789130657754968247), (.int .u64 3286831292991118498), (.int .u64 17236413322193710309), (.int .u64 8720225134666286027), (.int .u64 10772758326371068943), (.int .u64 3144297699952734815), (.int .u64 13465947907963836179), (.int .u64 8542058143368306422), (.int .u64 16832434884954795224), (.int .u64 15289258697637770932), (.int .u64 10520271803096747015), (.int .u64 9555786686023606832), (.int .u64 13150339753870933769), (.int .u64 16556419375956896445), (.int .u64 16437924692338667211), (.int .u64 16083838201518732652), (.int .u64 10273702932711667007), (.int .u64 12358241885162901859), (.int .u64 12842128665889583758), (.int .u64 1612744301171463612), (.int .u64 16052660832361979698), (.int .u64 11239302413319105323), (.int .u64 10032913020226237311), (.int .u64 2412877989897052923), (.int .u64 12541141275282796639), (.int .u64 7627783505798704058), (.int .u64 15676426594103495799), (.int .u64 14146415400675767976), (.int .u64 9797766621314684874), (.int .u64 1923980597781273129), (.int .u64 12247208276643356093), (.int .u64 11628347784081367219), (.int .u64 15309010345804195116), (.int .u64 9923748711674321120), (.int .u64 9568131466127621948), (.int .u64 15425714981651226508), (.int .u64 11960164332659527434), (.int .u64 835399653354481519), (.int .u64 14950205415824409293), (.int .u64 10267621603547877707), (.int .u64 9343878384890255808), (.int .u64 4111420493003729615), (.int .u64 11679847981112819760), (.int .u64 5139275616254662019), (.int .u64 14599809976391024700), (.int .u64 6424094520318327523), (.int .u64 18249762470488780875), (.int .u64 8030118150397909404), (.int .u64 11406101544055488047), (.int .u64 7324666853212387329), (.int .u64 14257626930069360059), (.int .u64 13767519584942872066), (.int .u64 17822033662586700073), (.int .u64 3374341425896426371), (.int .u64 11138771039116687546), (.int .u64 9026492418826348337), (.int .u64 13923463798895859432), (.int .u64 2059743486678159614), (.int .u64 17404329748619824290), (.int .u64 2574679358347699518), (.int .u64 10877706092887390182), (.int .u64 15444232654249475910), (.int .u64 13597132616109237727), (.int .u64 10081918780957069080), (.int .u64 16996415770136547159), (.int .u64 17214084494623724254), (.int .u64 10622759856335341974), (.int .u64 3841273781498745803), (.int .u64 13278449820419177468), (.int .u64 14024964263728208061), (.int .u64 16598062275523971835), (.int .u64 17531205329660260077), (.int .u64 10373788922202482397), (.int .u64 13262846340251356500), (.int .u64 12967236152753102996), (.int .u64 11966871906886807721), (.int .u64 16209045190941378745), (.int .u64 14958589883608509651), (.int .u64 10130653244338361716), (.int .u64 16266647704896400388), (.int .u64 12663316555422952144), (.int .u64 1886565557410948869), (.int .u64 15829145694278690180), (.int .u64 2358206946763686086), (.int .u64 9893216058924181363), (.int .u64 10697251378582079612), (.int .u64 12366520073655226704), (.int .u64 17983250241654987419), (.int .u64 15458150092069033379), (.int .u64 4032318728359182658), (.int .u64 9661343807543145862), (.int .u64 4826042214438183113), (.int .u64 12076679759428932328), (.int .u64 15255924804902504699), (.int .u64 15095849699286165409), (.int .u64 623161932418579258), (.int .u64 9434906062053853381), (.int .u64 7307005235402693892), (.int .u64 11793632577567316726), (.int .u64 4522070525825979461), (.int .u64 14742040721959145908), (.int .u64 14875960194137250135), (.int .u64 18427550902448932384), (.int .u64 148206168962011053), (.int .u64 11517219314030582740), (.int .u64 92628855601256908), (.int .u64 14396524142538228425), (.int .u64 115786069501571135), (.int .u64 17995655178172785532), (.int .u64 13979790642159127631), (.int .u64 11247284486357990958), (.int .u64 17960741188204230577), (.int .u64 14059105607947488697), (.int .u64 13227554448400512413), (.int .u64 17573882009934360871), (.int .u64 11922757042073252613), (.int .u64 10983676256208975544), (.int .u64 534194123654701027), (.int .u64 13729595320261219430), (.int .u64 667742654568376284), (.int .u64 17161994150326524288), (.int .u64 10058050355065246163), (.int .u64 10726246343954077680), (.int .u64 6286281471915778851), (.int .u64 13407807929942597100), (.int .u64 7857851839894723564), (.int .u64 16759759912428246375), (.int .u64 9822314799868404456), (.int .u64 10474849945267653985), (.int .u64 17668161795986222545), (.int .u64 13093562431584567481), (.int .u64 17473516226555390277), (.int .u64 16366953039480709351), (.int .u64 17230209264766849942), (.int .u64 10229345649675443344), (.int .u64 3851351762838199358), (.int .u64 12786682062094304180), (.int .u64 4814189703547749197), (.int .u64 15983352577617880225), (.int .u64 6017737129434686497), (.int .u64 9989595361011175141), (.int .u64 10678614733537760916), (.int .u64 12486994201263968926), (.int .u64 8736582398494813241), (.int .u64 15608742751579961157), (.int .u64 1697355961263740744), (.int .u64 9755464219737475724), (.int .u64 17201748540285695629), (.int .u64 12194330274671844654), (.int .u64 3055441601647567920), (.int .u64 15242912843339805818), (.int .u64 13042674038914235708), (.int .u64 9526820527087378636), (.int .u64 3539985255894009413), (.int .u64 11908525658859223295), (.int .u64 4424981569867511767), (.int .u64 14885657073574029119), (.int .u64 10142912980761777613), (.int .u64 9303535670983768200), (.int .u64 17868535659044580768), (.int .u64 11629419588729710249), (.int .u64 3888925500096174344), (.int .u64 14536774485912137811), (.int .u64 249470856692830026), (.int .u64 18170968107390172264), (.int .u64 4923524589293425437), (.int .u64 11356855067118857665), (.int .u64 3077202868308390898), (.int .u64 14196068833898572082), (.int .u64 17681561640667652334), (.int .u64 17745086042373215102), (.int .u64 12878580013979789610), (.int .u64 11090678776483259439), (.int .u64 12660798527164756410), (.int .u64 13863348470604074298), (.int .u64 1990940103673781801), (.int .u64 17329185588255092873), (.int .u64 11712047166447003059), (.int .u64 10830740992659433046), (.int .u64 14237558506670458768), (.int .u64 13538426240824291307), (.int .u64 8573576096483297652), (.int .u64 16923032801030364134), (.int .u64 15328656139031509969), (.int .u64 10576895500643977584), (.int .u64 14192096105322081634), (.int .u64 13221119375804971980), (.int .u64 17740120131652602043), (.int .u64 16526399219756214974), (.int .u64 3728406090856200938), (.int .u64 10328999512347634359), (.int .u64 6941939825212513490), (.int .u64 12911249390434542949), (.int .u64 13289110799943029766), (.int .u64 16139061738043178686), (.int .u64 11999702481501399304), (.int .u64 10086913586276986679), (.int .u64 12111500069365762469), (.int .u64 12608641982846233348), (.int .u64 1304317031425039374), (.int .u64 15760802478557791685), (.int .u64 1630396289281299218), (.int .u64 9850501549098619804), (.int .u64 17159898745296669675), (.int .u64 12313126936373274754), (.int .u64 3003129357911285478), (.int .u64 15391408670466593443), (.int .u64 12977283734243882656), (.int .u64 9619630419041620902), (.int .u64 10416645343116120612), (.int .u64 12024538023802026127), (.int .u64 3797434642040374957), (.int .u64 15030672529752532659), (.int .u64 9358479320977856600), (.int .u64 9394170331095332912), (.int .u64 8154892584824854327), (.int .u64 11742712913869166140), (.int .u64 10193615731031067909), (.int .u64 14678391142336457675), (.int .u64 12742019663788834886), (.int .u64 18347988927920572093), (.int .u64 2092466524453879895), (.int .u64 11467493079950357559), (.int .u64 17448692642279532598), (.int .u64 14334366349937946948), (.int .u64 7975807747567252036), (.int .u64 17917957937422433685), (.int .u64 9969759684459065045), (.int .u64 11198723710889021053), (.int .u64 3925256793573221701), (.int .u64 13998404638611276316), (.int .u64 294884973539139223), (.int .u64 17498005798264095395), (.int .u64 368606216923924028), (.int .u64 10936253623915059622), (.int .u64 2536221894791146469), (.int .u64 13670317029893824528), (.int .u64 12393649405343708895), (.int .u64 17087896287367280660), (.int .u64 15492061756679636119), (.int .u64 10679935179604550412), (.int .u64 459166561069996766), (.int .u64 13349918974505688015), (.int .u64 573958201337495958), (.int .u64 16687398718132110019), (.int .u64 5329133770099257851), (.int .u64 10429624198832568762), (.int .u64 5636551615525730109), (.int .u64 13037030248540710953), (.int .u64 16269061556261938444), (.int .u64 16296287810675888691), (.int .u64 15724640926900035151), (.int .u64 10185179881672430432), (.int .u64 12133743588526215921), (.int .u64 12731474852090538040), (.int .u64 15167179485657769902), (.int .u64 15914343565113172549), (.int .u64 512230283362660762), (.int .u64 9946464728195732844), (.int .u64 16461044991597520640), (.int .u64 12433080910244666054), (.int .u64 2129562165787349184), (.int .u64 15541351137805832568), (.int .u64 11885324744088962288), (.int .u64 9713344461128645355), (.int .u64 7428327965055601430), (.int .u64 12141680576410806694), (.int .u64 13897095974746889691), (.int .u64 15177100720513508367), (.int .u64 8147997931578836306), (.int .u64 9485687950320942730), (.int .u64 16621713753305242451), (.int .u64 11857109937901178412), (.int .u64 11553770154776777256), (.int .u64 14821387422376473015), (.int .u64 14442212693470971570), (.int .u64 9263367138985295634), (.int .u64 2108853905778275375), (.int .u64 11579208923731619543), (.int .u64 11859439419077620027), (.int .u64 14474011154664524428), (.int .u64 989241218564861322), (.int .u64 18092513943330655535), (.int .u64 1236551523206076653), (.int .u64 11307821214581659710), (.int .u64 12302059748072267668), (.int .u64 14134776518227074637), (.int .u64 6154202648235558777), (.int .u64 17668470647783843296), (.int .u64 3081067291867060567), (.int .u64 11042794154864902060), (.int .u64 1925667057416912854), (.int .u64 13803492693581127575), (.int .u64 2407083821771141068), (.int .u64 17254365866976409469), (.int .u64 7620540795641314239), (.int .u64 10783978666860255918), (.int .u64 2456994988062127447), (.int .u64 13479973333575319898), (.int .u64 12294615771932435117), (.int .u64 16849966666969149872), (.int .u64 6144897678060768089), (.int .u64 10531229166855718670), (.int .u64 3840561048787980055), (.int .u64 13164036458569648338), (.int .u64 14024073347839750877), (.int .u64 16455045573212060422), (.int .u64 8306719647944912789), (.int .u64 10284403483257537764), (.int .u64 9803385798392958397), (.int .u64 12855504354071922205), (.int .u64 12254232247991197996), (.int .u64 16069380442589902756), (.int .u64 10706104291561609591), (.int .u64 10043362776618689223), (.int .u64 15914687219080781802), (.int .u64 12554203470773361528), (.int .u64 6058300968568813541), (.int .u64 15692754338466701910), (.int .u64 7572876210711016926), (.int .u64 9807971461541688694), (.int .u64 9344733650121773483), (.int .u64 12259964326927110867), (.int .u64 2457545025797441046), (.int .u64 15324955408658888584), (.int .u64 7683617300674189211), (.int .u64 9578097130411805365), (.int .u64 4802260812921368257), (.int .u64 11972621413014756706), (.int .u64 1391139997724322417), (.int .u64 14965776766268445883), (.int .u64 10962297034010178829), (.int .u64 9353610478917778677), (.int .u64 9157278655470055720), (.int .u64 11692013098647223346), (.int .u64 6834912300910181746), (.int .u64 14615016373309029183), (.int .u64 17767012412992502991), (.int .u64 18268770466636286478), (.int .u64 8373707460958465027), (.int .u64 11417981541647679049), (.int .u64 9845253181526428546), (.int .u64 14272476927059598811), (.int .u64 7694880458480647778), (.int .u64 17840596158824498514), (.int .u64 14230286591528197627), (.int .u64 11150372599265311571), (.int .u64 4282243101277735613), (.int .u64 13937965749081639464), (.int .u64 9964489895024557420), (.int .u64 17422457186352049330), (.int .u64 12455612368780696775), (.int .u64 10889035741470030831), (.int .u64 3173071712060547580), (.int .u64 13611294676837538539), (.int .u64 8578025658503072379), (.int .u64 17014118346046923174), (.int .u64 15334218091556228378), (.int .u64 10633823966279326984), (.int .u64 14195572325650030640), (.int .u64 13292279957849158730), (.int .u64 17744465407062538301), (.int .u64 16615349947311448412), (.int .u64 12957209721973397068), (.int .u64 10384593717069655258), (.int .u64 17321628113088148975), (.int .u64 12980742146337069072), (.int .u64 12428663104505410411), (.int .u64 16225927682921336340), (.int .u64 15535828880631763014), (.int .u64 10141204801825835212), (.int .u64 486521013540076076), (.int .u64 12676506002282294015), (.int .u64 608151266925095095), (.int .u64 15845632502852867519), (.int .u64 5371875102083756772), (.int .u64 9903520314283042200), (.int .u64 14886636984870817743), (.int .u64 12379400392853802749), (.int .u64 161552157378970562), (.int .u64 15474250491067253437), (.int .u64 14036998252005876915), (.int .u64 9671406556917033398), (.int .u64 6467280898289979120), (.int .u64 12089258196146291748), (.int .u64 17307473159717249708), (.int .u64 15111572745182864684), (.int .u64 3187597375937010519), (.int .u64 9444732965739290428), (.int .u64 11215620396815407382), (.int .u64 11805916207174113035), (.int .u64 14019525496019259228), (.int .u64 14757395258967641293), (.int .u64 3689348814741910323), (.int .u64 9223372036854775808), (.int .u64 0), (.int .u64 11529215046068469760), (.int .u64 0), (.int .u64 14411518807585587200), (.int .u64 0), (.int .u64 18014398509481984000), (.int .u64 0), (.int .u64 11258999068426240000), (.int .u64 0), (.int .u64 14073748835532800000), (.int .u64 0), (.int .u64 17592186044416000000), (.int .u64 0), (.int .u64 10995116277760000000), (.int .u64 0), (.int .u64 13743895347200000000), (.int .u64 0), (.int .u64 17179869184000000000), (.int .u64 0), (.int .u64 10737418240000000000), (.int .u64 0), (.int .u64 13421772800000000000), (.int .u64 0), (.int .u64 16777216000000000000), (.int .u64 0), (.int .u64 10485760000000000000), (.int .u64 0), (.int .u64 13107200000000000000), (.int .u64 0), (.int .u64 16384000000000000000), (.int .u64 0), (.int .u64 10240000000000000000), (.int .u64 0), (.int .u64 12800000000000000000), (.int .u64 0), (.int .u64 16000000000000000000), (.int .u64 0), (.int .u64 10000000000000000000), (.int .u64 0), (.int .u64 12500000000000000000), (.int .u64 0), (.int .u64 15625000000000000000), (.int .u64 0), (.int .u64 9765625000000000000), (.int .u64 0), (.int .u64 12207031250000000000), (.int .u64 0), (.int .u64 15258789062500000000), (.int .u64 0), (.int .u64 9536743164062500000), (.int .u64 0), (.int .u64 11920928955078125000), (.int .u64 0), (.int .u64 14901161193847656250), (.int .u64 0), (.int .u64 9313225746154785157), (.int .u64 13835058055282163712), (.int .u64 11641532182693481446), (.int .u64 12682136550675316736), (.int .u64 14551915228366851807), (.int .u64 6629298651489370112), (.int .u64 18189894035458564759), (.int .u64 12898309332789100544), (.int .u64 11368683772161602974), (.int .u64 1143914305352105984), (.int .u64 14210854715202003718), (.int .u64 10653264918544908288), (.int .u64 17763568394002504647), (.int .u64 4093209111326359552), (.int .u64 11102230246251565405), (.int .u64 14087470740647444480), (.int .u64 13877787807814456756), (.int .u64 12997652407381917696), (.int .u64 17347234759768070945), (.int .u64 16247065509227397120), (.int .u64 10842021724855044341), (.int .u64 17071944970908205056), (.int .u64 13552527156068805426), (.int .u64 16728245195207868416), (.int .u64 16940658945086006782), (.int .u64 11686934457155059712), (.int .u64 10587911840678754239), (.int .u64 11916020054149300224), (.int .u64 13234889800848442798), (.int .u64 1059967012404461568), (.int .u64 16543612251060553498), (.int .u64 10548330802360352768), (.int .u64 10339757656912845936), (.int .u64 1981020733047832576), (.int .u64 12924697071141057420), (.int .u64 2476275916309790720), (.int .u64 16155871338926321775), (.int .u64 3095344895387238400), (.int .u64 10097419586828951110), (.int .u64 13463805605685493760), (.int .u64 12621774483536188887), (.int .u64 7606384970252091392), (.int .u64 15777218104420236109), (.int .u64 14119667231242502144), (.int .u64 9860761315262647568), (.int .u64 6518949010312869888), (.int .u64 12325951644078309460), (.int .u64 8148686262891087360), (.int .u64 15407439555097886825), (.int .u64 10185857828613859200), (.int .u64 9629649721936179266), (.int .u64 13283690170524743856), (.int .u64 12037062152420224082), (.int .u64 7381240676301154012), (.int .u64 15046327690525280102), (.int .u64 3178808521666707), (.int .u64 9403954806578300064), (.int .u64 4613672773753429595), (.int .u64 11754943508222875080), (.int .u64 5767090967191786994), (.int .u64 14693679385278593850), (.int .u64 7208863708989733743), (.int .u64 18367099231598242313), (.int .u64 18234451673091942987), (.int .u64 11479437019748901446), (.int .u64 18314061323323546223), (.int .u64 14349296274686126807), (.int .u64 13669204617299656970), (.int .u64 17936620343357658508), (.int .u64 3251447716342407501), (.int .u64 11210387714598536568), (.int .u64 11255526859568780496), (.int .u64 14012984643248170710), (.int .u64 14069408574460975620), (.int .u64 17516230804060213387), (.int .u64 8363388681221443717), (.int .u64 10947644252537633367), (.int .u64 7532960934977096275), (.int .u64 13684555315672041709), (.int .u64 14027887187148758248), (.int .u64 17105694144590052136), (.int .u64 12923172965508559906), (.int .u64 10691058840368782585), (.int .u64 8076983103442849941), (.int .u64 13363823550460978231), (.int .u64 5484542860876174523), (.int .u64 16704779438076222789), (.int .u64 11467364594522606057), (.int .u64 10440487148797639243), (.int .u64 4861259862362934834), (.int .u64 13050608935997049054), (.int .u64 10688260846381056446), (.int .u64 16313261169996311317), (.int .u64 4136954021121544750), (.int .u64 10195788231247694573), (.int .u64 279753253987271517), (.int .u64 12744735289059618217), (.int .u64 14184749622766253108), (.int .u64 15930919111324522771), (.int .u64 13119251010030428481), (.int .u64 9956824444577826732), (.int .u64 10505374890482711752), (.int .u64 12446030555722283415), (.int .u64 13131718613103389691), (.int .u64 15557538194652854268), (.int .u64 2579590211097073401), (.int .u64 9723461371658033918), (.int .u64 10835615918790446684), (.int .u64 12154326714572542397), (.int .u64 4321147861633282547), (.int .u64 15192908393215677996), (.int .u64 789748808614215279), (.int .u64 9495567745759798748), (.int .u64 9716965042238660357), (.int .u64 11869459682199748435), (.int .u64 12146206302798325447), (.int .u64 14836824602749685543), (.int .u64 1347699823215743097), (.int .u64 9273015376718553465), (.int .u64 12371527435578309195), (.int .u64 11591269220898191831), (.int .u64 10852723276045498590), (.int .u64 14489086526122739789), (.int .u64 18177590113484261142), (.int .u64 18111358157653424736), (.int .u64 18110301623427938524), (.int .u64 11319598848533390460), (.int .u64 11318938514642461577), (.int .u64 14149498560666738075), (.int .u64 14148673143303076971), (.int .u64 17686873200833422593), (.int .u64 3850783373846682502), (.int .u64 11054295750520889121), (.int .u64 9324268636295258420), (.int .u64 13817869688151111401), (.int .u64 7043649776941685121), (.int .u64 17272337110188889251), (.int .u64 4192876202749718497), (.int .u64 10795210693868055782), (.int .u64 4926390635932268013), (.int .u64 13494013367335069728), (.int .u64 15381360331770110824), (.int .u64 16867516709168837159), (.int .u64 779956341003086914), (.int .u64 10542197943230523225), (.int .u64 12016687759195399081), (.int .u64 13177747429038154031), (.int .u64 10409173680566860947), (.int .u64 16472184286297692539), (.int .u64 17623153119135964088), (.int .u64 10295115178936057837), (.int .u64 13320313708673671507), (.int .u64 12868893973670072296), (.int .u64 12038706117414701480), (.int .u64 16086117467087590370), (.int .u64 15048382646768376850), (.int .u64 10053823416929743981), (.int .u64 4793553135802847627), (.int .u64 12567279271162179976), (.int .u64 1380255401326171630), (.int .u64 15709099088952724970), (.int .u64 1725319251657714538), (.int .u64 9818186930595453107), (.int .u64 14913382587568235298), (.int .u64 12272733663244316383), (.int .u64 4806670179178130410), (.int .u64 15340917079055395479), (.int .u64 10620023742400050917), (.int .u64 9588073174409622175), (.int .u64 18166729885068501583), (.int .u64 11985091468012027718), (.int .u64 8873354301053463267), (.int .u64 14981364335015034647), (.int .u64 1868320839462053276), (.int .u64 9363352709384396655), (.int .u64 12696915570732253057), (.int .u64 11704190886730495818), (.int .u64 2036086408133152610), (.int .u64 14630238608413119773), (.int .u64 11768480047021216570), (.int .u64 18287798260516399716), (.int .u64 10098914040349132809), (.int .u64 11429873912822749823), (.int .u64 15535193312072983813), (.int .u64 14287342391028437278), (.int .u64 5583933584809066055), (.int .u64 17859177988785546598), (.int .u64 16203289017866108377), (.int .u64 11161986242990966624), (.int .u64 14738741654593705639), (.int .u64 13952482803738708280), (.int .u64 18423427068242132049), (.int .u64 17440603504673385349), (.int .u64 4582539761593113445), (.int .u64 10900377190420865843), (.int .u64 558244341782001951), (.int .u64 13625471488026082304), (.int .u64 5309491445654890343), (.int .u64 17031839360032602880), (.int .u64 6636864307068612929), (.int .u64 10644899600020376800), (.int .u64 4148040191917883080), (.int .u64 13306124500025471000), (.int .u64 5185050239897353851), (.int .u64 16632655625031838750), (.int .u64 6481312799871692314), (.int .u64 10395409765644899219), (.int .u64 8662506518347195600), (.int .u64 12994262207056124024), (.int .u64 15439819166361382404), (.int .u64 16242827758820155029), (.int .u64 853029884242176389), (.int .u64 10151767349262596894), (.int .u64 16674044742147217907), (.int .u64 12689709186578246117), (.int .u64 11619183890829246576), (.int .u64 15862136483222807646), (.int .u64 9912293845109170316), (.int .u64 9913835302014254779), (.int .u64 10806869671620619351), (.int .u64 12392294127517818474), (.int .u64 18120273107953162093), (.int .u64 15490367659397273092), (.int .u64 13426969348086676809), (.int .u64 9681479787123295683), (.int .u64 17615227879408948813), (.int .u64 12101849733904119603), (.int .u64 8183976793979022305), (.int .u64 15127312167380149504), (.int .u64 14841657010901165785), (.int .u64 9454570104612593440), (.int .u64 9276035631813228615), (.int .u64 11818212630765741800), (.int .u64 11595044539766535769), (.int .u64 14772765788457177250), (.int .u64 14493805674708169712), (.int .u64 9232978617785735781), (.int .u64 4446942528265218166), (.int .u64 11541223272232169726), (.int .u64 946992141904134803), (.int .u64 14426529090290212158), (.int .u64 10407112214234944312), (.int .u64 18033161362862765197), (.int .u64 3785518230938904582), (.int .u64 11270725851789228248), (.int .u64 60105885123121412), (.int .u64 14088407314736535310), (.int .u64 75132356403901765), (.int .u64 17610509143420669138), (.int .u64 9317287482359653014), (.int .u64 11006568214637918211), (.int .u64 1211618658047395230), (.int .u64 13758210268297397764), (.int .u64 6126209340986631941), (.int .u64 17197762835371747205), (.int .u64 7657761676233289927), (.int .u64 10748601772107342003), (.int .u64 2480258038432112252), (.int .u64 13435752215134177504), (.int .u64 7712008566467528219), (.int .u64 16794690268917721880), (.int .u64 9640010708084410274), (.int .u64 10496681418073576175), (.int .u64 6025006692552756421), (.int .u64 13120851772591970219), (.int .u64 12142944384118333430), (.int .u64 16401064715739962773), (.int .u64 1343622424865753076), (.int .u64 10250665447337476734), (.int .u64 16980665080036953336), (.int .u64 12813331809171845917), (.int .u64 12002459313191415863), (.int .u64 16016664761464807396), (.int .u64 10391388123061881924), (.int .u64 10010415475915504623), (.int .u64 15717989613768452011), (.int .u64 12513019344894380778), (.int .u64 5812428961928401301), (.int .u64 15641274181117975973), (.int .u64 16488908239265277435), (.int .u64 9775796363198734983), (.int .u64 7999724640327104445), (.int .u64 12219745453998418729), (.int .u64 14611341818836268460), (.int .u64 15274681817498023411), (.int .u64 13652491255117947671), (.int .u64 9546676135936264632), (.int .u64 10838650043662411246), (.int .u64 11933345169920330790), (.int .u64 13548312554578014058), (.int .u64 14916681462400413487), (.int .u64 7712018656367741764), (.int .u64 9322925914000258430), (.int .u64 16349226706298308362), (.int .u64 11653657392500323037), (.int .u64 11213161346018109645), (.int .u64 14567071740625403796), (.int .u64 9404765664095249153), (.int .u64 18208839675781754745), (.int .u64 11755957080119061441), (.int .u64 11380524797363596716), (.int .u64 14265002202715495256), (.int .u64 14225655996704495895), (.int .u64 17831252753394369071), (.int .u64 17782069995880619868), (.int .u64 8454007886460797626), (.int .u64 11113793747425387418), (.int .u64 14507126965892774324), (.int .u64 13892242184281734272), (.int .u64 8910536670511192098), (.int .u64 17365302730352167840), (.int .u64 11138170838138990122), (.int .u64 10853314206470104900), (.int .u64 6961356773836868826), (.int .u64 13566642758087631125), (.int .u64 8701695967296086033), (.int .u64 16958303447609538906), (.int .u64 6265433940692719637), (.int .u64 10598939654755961817), (.int .u64 17750954268215113485), (.int .u64 13248674568444952271), (.int .u64 17577006816841503952), (.int .u64 16560843210556190338), (.int .u64 8136200465769716229), (.int .u64 10350527006597618961), (.int .u64 473439272678684739), (.int .u64 12938158758247023702), (.int .u64 14426857146130519635), (.int .u64 16172698447808779627), (.int .u64 8810199395808373736), (.int .u64 10107936529880487267), (.int .u64 7812217631593927537), (.int .u64 12634920662350609084), (.int .u64 14376958057919797325), (.int .u64 15793650827938261355), (.int .u64 17971197572399746657), (.int .u64 9871031767461413347), (.int .u64 13537841491963535612), (.int .u64 12338789709326766683), (.int .u64 3087243809672255804), (.int .u64 15423487136658458354), (.int .u64 8470740780517707659), (.int .u64 9639679460411536471), (.int .u64 682526969396179382), (.int .u64 12049599325514420589), (.int .u64 5464844730172612132), (.int .u64 15061999156893025736), (.int .u64 2219369894288377261), (.int .u64 9413749473058141085), (.int .u64 1387106183930235788), (.int .u64 11767186841322676357), (.int .u64 15568940785194958447), (.int .u64 14708983551653345446), (.int .u64 14849489963066310155), (.int .u64 18386229439566681807), (.int .u64 9338490416978111886), (.int .u64 11491393399729176130), (.int .u64 17365771556679789689), (.int .u64 14364241749661470162), (.int .u64 12483842408994961303), (.int .u64 17955302187076837702), (.int .u64 6381430974388925821), (.int .u64 11222063866923023564), (.int .u64 8600080377420466542), (.int .u64 14027579833653779455), (.int .u64 10750100471775583178), (.int .u64 17534474792067224319), (.int .u64 18049311608146866876), (.int .u64 10959046745042015199), (.int .u64 4363290727450709941), (.int .u64 13698808431302518999), (.int .u64 10065799427740775331), (.int .u64 17123510539128148749), (.int .u64 17193935303103357068), (.int .u64 10702194086955092968), (.int .u64 8440366555225904215), (.int .u64 13377742608693866210), (.int .u64 10550458194032380269), (.int .u64 16722178260867332762), (.int .u64 3964700705685699528), (.int .u64 10451361413042082977), (.int .u64 16312995996335725917), (.int .u64 13064201766302603721), (.int .u64 15779558976992269492), (.int .u64 16330252207878254651), (.int .u64 15112762702812948962), (.int .u64 10206407629923909157), (.int .u64 11751319698471787053), (.int .u64 12758009537404886446), (.int .u64 10077463604662345912), (.int .u64 15947511921756108057), (.int .u64 3373457468973156582), (.int .u64 9967194951097567536), (.int .u64 9025939945749304720), (.int .u64 12458993688871959420), (.int .u64 11282424932186630900), (.int .u64 15573742111089949275), (.int .u64 14103031165233288625), (.int .u64 9733588819431218297), (.int .u64 11120237487484499342), (.int .u64 12166986024289022871), (.int .u64 9288610840928236274), (.int .u64 15208732530361278589), (.int .u64 16222449569587683247), (.int .u64 9505457831475799118), (.int .u64 7833187971778608077), (.int .u64 11881822289344748897), (.int .u64 568112927868484288), (.int .u64 14852277861680936122), (.int .u64 14545199215117769073), (.int .u64 9282673663550585076), (.int .u64 4479063491021217766), (.int .u64 11603342079438231345), (.int .u64 5598829363776522208), (.int .u64 14504177599297789181), (.int .u64 2386850686293264856), (.int .u64 18130221999122236477), (.int .u64 16818621413148744782), (.int .u64 11331388749451397798), (.int .u64 8205795374004271537), (.int .u64 14164235936814247247), (.int .u64 1033872180650563613), (.int .u64 17705294921017809059), (.int .u64 5904026244240592420), (.int .u64 11065809325636130662), (.int .u64 5995859411864064214), (.int .u64 13832261657045163328), (.int .u64 16718196301684856076), (.int .u64 17290327071306454159), (.int .u64 2451001303396518479), (.int .u64 10806454419566533850), (.int .u64 13061090860691293809), (.int .u64 13508068024458167312), (.int .u64 7102991539009341454), (.int .u64 16885085030572709140), (.int .u64 8878739423761676818), (.int .u64 10553178144107943213), (.int .u64 14772584176705823819), (.int .u64 13191472680134929016), (.int .u64 13854044202454891870), (.int .u64 16489340850168661270), (.int .u64 17317555253068614837), (.int .u64 10305838031355413294), (.int .u64 15435158051595272177), (.int .u64 12882297539194266617), (.int .u64 10070575527639314413), (.int .u64 16102871923992833271), (.int .u64 7976533391121755113), (.int .u64 10064294952495520795), (.int .u64 16514548415519566705), (.int .u64 12580368690619400993), (.int .u64 6808127464117294670), (.int .u64 15725460863274251241), (.int .u64 3898473311719230433), (.int .u64 9828413039546407026), (.int .u64 9354074847465600877), (.int .u64 12285516299433008782), (.int .u64 2469221522477225288), (.int .u64 15356895374291260978), (.int .u64 12309898939951307418), (.int .u64 9598059608932038111), (.int .u64 3082000819042179232), (.int .u64 11997574511165047639), (.int .u64 8464187042230111944), (.int .u64 14996968138956309549), (.int .u64 15191919821215027834), (.int .u64 9373105086847693468), (.int .u64 7189106879045698444), (.int .u64 11716381358559616835), (.int .u64 8986383598807123056), (.int .u64 14645476698199521044), (.int .u64 15844665516936291724), (.int .u64 18306845872749401304), (.int .u64 1359087822460813039), (.int .u64 11441778670468375815), (.int .u64 849429889038008149), (.int .u64 14302223338085469769), (.int .u64 5673473379724898090), (.int .u64 17877779172606837211), (.int .u64 2480155706228734709), (.int .u64 11173611982879273257), (.int .u64 3855940325606653145), (.int .u64 13967014978599091571), (.int .u64 208239388580928527), (.int .u64 17458768723248864464), (.int .u64 4871985254153548563), (.int .u64 10911730452030540290), (.int .u64 3044990783845967852), (.int .u64 13639663065038175363), (.int .u64 13029610516662235623), (.int .u64 17049578831297719203), (.int .u64 2451955090545630817), (.int .u64 10655986769561074502), (.int .u64 3838314940804713212), (.int .u64 13319983461951343128), (.int .u64 14021265712860667324), (.int .u64 16649979327439178910), (.int .u64 17526582141075834155), (.int .u64 10406237079649486819), (.int .u64 15565799856599784250), (.int .u64 13007796349561858523), (.int .u64 5622191765467566601), (.int .u64 16259745436952323154), (.int .u64 11639425725261846156), (.int .u64 10162340898095201971), (.int .u64 2662955059861265943), (.int .u64 12702926122619002464), (.int .u64 7940379843253970333), (.int .u64 15878657653273753080), (.int .u64 9925474804067462916), (.int .u64 9924161033296095675), (.int .u64 6203421752542164322), (.int .u64 12405201291620119594), (.int .u64 12365963209105093307), (.int .u64 15506501614525149492), (.int .u64 6234081974526590826), (.int .u64 9691563509078218433), (.int .u64 13119673270933895074), (.int .u64 12114454386347773041), (.int .u64 11787905570239980939), (.int .u64 15143067982934716301), (.int .u64 10123195944372588270), (.int .u64 9464417489334197688), (.int .u64 4021154456019173716), (.int .u64 11830521861667747110), (.int .u64 5026443070023967146), (.int .u64 14788152327084683888), (.int .u64 15506425874384734740), (.int .u64 9242595204427927430), (.int .u64 9691516171490459212), (.int .u64 11553244005534909287), (.int .u64 2891023177508298208), (.int .u64 14441555006918636609), (.int .u64 8225464990312760664), (.int .u64 18051943758648295761), (.int .u64 5670145219463562926), (.int .u64 11282464849155184851), (.int .u64 10461369789805808684), (.int .u64 14103081061443981064), (.int .u64 17688398255684648759), (.int .u64 17628851326804976329), (.int .u64 3663753745896259333), (.int .u64 11018032079253110206), (.int .u64 9207375118826243939), (.int .u64 13772540099066387757), (.int .u64 2285846861678029116), (.int .u64 17215675123832984697), (.int .u64 16692366632379700107), (.int .u64 10759796952395615436), (.int .u64 17350258172878394423), (.int .u64 13449746190494519294), (.int .u64 3241078642388441413), (.int .u64 16812182738118149118), (.int .u64 13274720339840327574), (.int .u64 10507614211323843199), (.int .u64 12908386230827592638), (.int .u64 13134517764154803998), (.int .u64 2300424733252327085), (.int .u64 16418147205193504998), (.int .u64 12098902953420184665), (.int .u64 10261342003245940624), (.int .u64 12173500364315003319), (.int .u64 12826677504057425780), (.int .u64 15216875455393754149), (.int .u64 16033346880071782224), (.int .u64 574350245532641070), (.int .u64 10020841800044863890), (.int .u64 358968903457900669), (.int .u64 12526052250056079863), (.int .u64 9672083166177151644), (.int .u64 15657565312570099829), (.int .u64 16701789976148827459), (.int .u64 9785978320356312393), (.int .u64 8132775725879323210), (.int .u64 12232472900445390491), (.int .u64 5554283638921766109), (.int .u64 15290591125556738114), (.int .u64 11554540567079595540), (.int .u64 9556619453472961321), (.int .u64 2609901835997359308), (.int .u64 11945774316841201652), (.int .u64 17097435350278862847), (.int .u64 14932217896051502064), (.int .u64 2925050114139026943), (.int .u64 9332636185032188790), (.int .u64 1828156321336891839), (.int .u64 11665795231290235988), (.int .u64 11508567438525890607), (.int .u64 14582244039112794985), (.int .u64 14385709298157363259), (.int .u64 18227805048890993731), (.int .u64 13370450604269316170), (.int .u64 11392378155556871082), (.int .u64 10662374636882016558), (.int .u64 14240472694446088852), (.int .u64 4104596259247744890), (.int .u64 17800590868057611065), (.int .u64 5130745324059681112), (.int .u64 11125369292536006916), (.int .u64 10124244855178382551), (.int .u64 13906711615670008645), (.int .u64 12655306068972978189), (.int .u64 17383389519587510806), (.int .u64 11207446567788834832), (.int .u64 10864618449742194254), (.int .u64 11616340123295409674), (.int .u64 13580773062177742817), (.int .u64 5297053117264486285), (.int .u64 16975966327722178521), (.int .u64 2009630378153219952), (.int .u64 10609978954826361576), (.int .u64 8173548013986844326), (.int .u64 13262473693532951970), (.int .u64 10216935017483555407), (.int .u64 16578092116916189962), (.int .u64 3547796734999668451), (.int .u64 10361307573072618727), (.int .u64 16052431014656956494), (.int .u64 12951634466340773408), (.int .u64 6230480713039031906), (.int .u64 16189543082925966760), (.int .u64 7788100891298789882), (.int .u64 10118464426828729225), (.int .u64 4867563057061743676), (.int .u64 12648080533535911531), (.int .u64 1472767802899791691), (.int .u64 15810100666919889414), (.int .u64 6452645772052127518), (.int .u64 9881312916824930884), (.int .u64 8644589625959967603), (.int .u64 12351641146031163605), (.int .u64 10805737032449959503), (.int .u64 15439551432538954506), (.int .u64 8895485272135061475), (.int .u64 9649719645336846566), (.int .u64 947992276657025518), (.int .u64 12062149556671058208), (.int .u64 10408362382676057706), (.int .u64 15077686945838822760), (.int .u64 13010452978345072132)]
def L12 : List AV := [(.isl false 61 [(.int .i64 0), (.str ⟨0, 0⟩), (.int .i64 1), (.str ⟨1, 53⟩), (.int .i64 1), (.str ⟨2, 12853⟩), (.int .i64 1), (.str ⟨3, 3224117⟩), (.int .i64 2), (.str ⟨3, 3551797⟩), (.int .i64 2), (.str ⟨4, 858862133⟩), (.int .i64 2), (.str ⟨5, 211346141749⟩), (.int .i64 3), (.str ⟨5, 237165949493⟩), (.int .i64 3), (.str ⟨6, 56320715010613⟩), (.int .i64 3), (.str ⟨7, 13855174513734197⟩), (.int .i64 4), (.str ⟨7, 16104779633013301⟩), (.int .i64 4), (.str ⟨8, 3762819277010317877⟩), (.int .i64 4), (.str ⟨9, 926098889374455706165⟩), (.int .i64 4), (.str ⟨10, 232321911315479028380213⟩), (.int .i64 5), (.str ⟨10, 255915153712795704767029⟩), (.int .i64 5), (.str ⟨11, 61882871615321480346284597⟩), (.int .i64 5), (.str ⟨12, 15229075649737831310756819509⟩), (.int .i64 6), (.str ⟨12, 17087194707912763211705823797⟩), (.int .i64 6), (.str ⟨13, 4058026932705941766343040053813⟩), (.int .i64 6), (.str ⟨14, 998368997855440393183541169566261⟩), (.int .i64 7), (.str ⟨14, 1160312289299589447884762502279733⟩), (.int .i64 7), (.str ⟨15, 271119264885864053508690603370689077⟩), (.int .i64 7), (.str ⟨16, 66727346879066041720794676105609359925⟩), (.int .i64 7), (.str ⟨17, 16739265129781515413279296827202942874165⟩), (.int .i64 8), (.str ⟨17, 18111012804292140376282816517324185940533⟩), (.int .i64 8), (.str ⟨18, 4375085078518695641118686847533672800793141⟩), (.int .i64 8), (.str ⟨19, 1097285813749731035613088171922680900199264821⟩), (.int .i64 9), (.str ⟨19, 1231088923832357780888435803671892581770408501⟩), (.int .i64 9), (.str ⟨20, 292389444013955373075705668808379106306483958325⟩), (.int .i64 9), (.str ⟨21, 71934492326680039106220219481768442228860064444981⟩), (.int .i64 10), (.str ⟨21, 83597849053495648730891275674016062263181815722549⟩), (.int .i64 10), (.str ⟨22, 19534734670036746818441066187532673093486340599788085⟩), (.int .i64 10), (.str ⟨23, 4808203326509782501634187698716543018273628881495142965⟩), (.int .i64 10), (.str ⟨24, 1206190051710405200262574585754698920892778006444975927861⟩), (.int .i64 11), (.str ⟨24, 1304938730735544243441872786147391590842920869609698898485⟩), (.int .i64 11), (.str ⟨25, 315257434003987178661578512269096091370564766353373394973237⟩), (.int .i64 11), (.str ⟨26, 79067678109957427352151011445180172408221578223536037946602037⟩), (.int .i64 12), (.str ⟨26, 88696801214885246975181874593968289725422454598636396434502197⟩), (.int .i64 12), (.str ⟨27, 21067279246500118667315039233717827797865205892892509222093599285⟩), (.int .i64 12), (.str ⟨28, 5183418448446685975133649109293035139197409043877058368274315686453⟩), (.int .i64 13), (.str ⟨28, 6022638603076064308993901705091280463778008391913167583139935433269⟩), (.int .i64 13), (.str ⟨29, 1407520258418867201186420752279397624577895295116191961617564806754869⟩), (.int .i64 13), (.str ⟨30, 346441127917813651838872432873490067313892427699106527362455536519230005⟩), (.int .i64 13), (.str ⟨31, 86915072412401535790272508065545485736744735039205570865779538251777913397⟩), (.int .i64 14), (.str ⟨31, 94017103990297639953870345760040316424806965076533296505163485495915065909⟩), (.int .i64 14), (.str ⟨32, 22714946108781280879495140244800526539142335764685343699332311902877597643317⟩), (.int .i64 14), (.str ⟨33, 5697421322593630155103775758099769606577222339146608684010974236637064202695221⟩), (.int .i64 15), (.str ⟨33, 6390813413491842092925202522353142123024325087418981089136296731056669472141877⟩), (.int .i64 15), (.str ⟨34, 1517942559116228637535484805598862344713803277037787293808235413263562430515393077⟩), (.int .i64 15), (.str ⟨35, 373475713349320697515133370064006427826870803918961168293338259679706719808461550133⟩), (.int .i64 16), (.str ⟨35, 426625322183575762987518873335336183341516607929067355355537091965075792329648255541⟩), (.int .i64 16), (.str ⟨36, 101414934022214049640489382129228342389443676312549193328574129750847713786244996608565⟩), (.int .i64 16), (.str ⟨37, 24963676121516628598065694199442301579209192655535201325206330637852515385918906273509941⟩), (.int .i64 16), (.str ⟨38, 6262887072622531037521349411170852428436629288058426800499502266485240362408358971628925493⟩), (.int .i64 17), (.str ⟨38, 6774143137886153308288646705971775195111369292584574961663572128640161877329471306053595701⟩), (.int .i64 17), (.str ⟨39, 1636658548379463119958881904347429397281760507019540474160182252269030736772074185177972159029⟩), (.int .i64 17), (.str ⟨40, 410510647036886635075984577122970211327153535580615043538301756038715812606303876452866030187061⟩), (.int .i64 18), (.str ⟨40, 452424063211483350676971807503946837556884750602525200323977379017572502921690311089367916032565⟩), (.int .i64 18), (.str ⟨41, 109370978480624306303439322523151159940052311472962721033343543752688724212877290003219857387434549⟩), (.int .i64 18), (.str ⟨42, 26911727896076067610017702360371068139679796446052153534530896920778965331266841072025490056557965877⟩), (.int .i64 19), (.str ⟨42, 30737314019487473901785612371462289007577036383737019313747978217470790518082609496522742190835118645⟩)])]
def L13 : List AV := [(.isl false 11 [(.float .f32 1065353216), (.float .f32 1092616192), (.float .f32 1120403456), (.float .f32 1148846080), (.float .f32 1176256512), (.float .f32 1203982336), (.float .f32 1232348160), (.float .f32 1259902592), (.float .f32 1287568416), (.float .f32 1315859240), (.float .f32 1343554297)])]
def L14 : List AV := [(.isl false 9 [(.int .i64 1), (.int .i64 3), (.int .i64 6), (.int .i64 9), (.int .i64 13), (.int .i64 16), (.int .i64 19), (.int .i64 23), (.int .i64 26)])]
def L15 : List AV := [(.isl false 23 [(.float .f64 4607182418800017408), (.float .f64 4621819117588971520), (.float .f64 4636737291354636288), (.float .f64 4652007308841189376), (.float .f64 4666723172467343360), (.float .f64 4681608360884174848), (.float .f64 4696837146684686336), (.float .f64 4711630319722168320), (.float .f64 4726483295884279808), (.float .f64 4741671816366391296), (.float .f64 4756540486875873280), (.float .f64 4771362005757984768), (.float .f64 4786511204640096256), (.float .f64 4801453603149578240), (.float .f64 4816244402031689728), (.float .f64 4831355200913801216), (.float .f64 4846369599423283200), (.float .f64 4861130398305394688), (.float .f64 4876203697187506176), (.float .f64 4891288408196988160), (.float .f64 4906019910204099648), (.float .f64 4921056587992461136), (.float .f64 4936209963552724370)])]
def L16 : List AV := [(.int .u8 0), (.int .u8 1), (.int .u8 28), (.int .u8 2), (.int .u8 29), (.int .u8 14), (.int .u8 24), (.int .u8 3), (.int .u8 30), (.int .u8 22), (.int .u8 20), (.int .u8 15), (.int .u8 25), (.int .u8 17), (.int .u8 4), (.int .u8 8), (.int .u8 31), (.int .u8 27), (.int .u8 13), (.int .u8 23), (.int .u8 21), (.int .u8 19), (.int .u8 16), (.int .u8 7), (.int .u8 26), (.int .u8 12), (.int .u8 18), (.int .u8 6), (.int .u8 11), (.int .u8 5), (.int .u8 10), (.int .u8 9)]
def L17 : List AV := [(.int .u8 0), (.int .u8 1), (.int .u8 56), (.int .u8 2), (.int .u8 57), (.int .u8 49), (.int .u8 28), (.int .u8 3), (.int .u8 61), (.int .u8 58), (.int .u8 42), (.int .u8 50), (.int .u8 38), (.int .u8 29), (.int .u8 17), (.int .u8 4), (.int .u8 62), (.int .u8 47), (.int .u8 59), (.int .u8 36), (.int .u8 45), (.int .u8 43), (.int .u8 51), (.int .u8 22), (.int .u8 53), (.int .u8 39), (.int .u8 33), (.int .u8 30), (.int .u8 24), (.int .u8 18), (.int .u8 12), (.int .u8 5), (.int .u8 63), (.int .u8 55), (.int .u8 48), (.int .u8 27), (.int .u8 60), (.int .u8 41), (.int .u8 37), (.int .u8 16), (.int .u8 46), (.int .u8 35), (.int .u8 44), (.int .u8 21), (.int .u8 52), (.int .u8 32), (.int .u8 23), (.int .u8 11), (.int .u8 54), (.int .u8 26), (.int .u8 40), (.int .u8 15), (.int .u8 34), (.int .u8 20), (.int .u8 31), (.int .u8 10), (.int .u8 25), (.int .u8 14), (.int .u8 19), (.int .u8 9), (.int .u8 13), (.int .u8 8), (.int .u8 7), (.int .u8 6)]
def globT : T AV := (.node (.node (.node (.node (.node .nil (some (.iptr false L15)) .nil) (some (.iptr false L7)) .nil) (some (.iptr false L3)) (.node .nil (some (.iptr false L11)) .nil)) none (.node (.node (.node .nil (some (.iptr false L17)) .nil) (some (.iptr false L9)) .nil) (some (.iptr false L5)) (.node .nil (some (.iptr false L13)) .nil))) none (.node (.node (.node (.node .nil (some (.iptr false L16)) .nil) (some (.iptr false L8)) .nil) (some (.iptr false L4)) (.node .nil (some (.iptr false L12)) .nil)) (some (.iptr false L2)) (.node (.node .nil (some (.iptr false L10)) .nil) (some (.iptr false L6)) (.node .nil (some (.iptr false L14)) .nil))))
def C : Ctx := { fns := fun i => fnsT.get i, glob := fun g => (globT.get g).getD .dead }
def pur (f : Nat) : Bool := match fnsT.get f with | some x => x.pure | none => false
end Go.Proofs.YtmadknpaljaecaaGreatDoor.Ev.D
namespace Go.Proofs.YtmadknpaljaecaaGreatDoor.Ev.D
open Go Go.Proofs.YtmadknpaljaecaaGreatDoor.Ev
set_option maxRecDepth 100000
set_option linter.all false

theorem s29 {b : Nat} (hb : b < 18446744073709551616) (h : Heap) : Does C 29 [.float .f64 b] h (.float .f64 (Fl.rung b)) h := by
  refine does_pure (fn := X29) rfl rfl rfl (mapO_cons conv_float mapO_nil) ?_
  simp only [go_seq, go_reg, go_block, go_mv, go_p, go_q, go_h, go_g, go_pick, go_grd, grdG_tt, grdG_ff, grdG_tf, grdG_ft, grdG_undef, go_call, List.map_cons, List.map_nil, x_bin, x_un, x_ext, extV_tup, x_cvI, cvIV_int, x_cvF, cvFV_int, x_eq, eqGV_bool, x_fbits, fbV_f, x_ffrom, ffV_i, pickV_t, pickV_f, opG_ok, opR_some', put_some, put_none, eval_t, eval_c, eval_g, T.at_set, initEnv_cons, initEnv_nil, at_nil, go_o_nil, go_cond, condG_true, condG_false, go_ret, go_blk, go_skip, go_label, go_exit, exitG_c, exitG_o, exitG_blk, exitG_nil, go_nil, cont_exit, cont_ret', cont_panic', b_add, b_sub, b_mul, b_and, b_or, b_xor, b_andNot, b_eql, b_neq, b_lss, b_leq, b_gtr, b_geq, b_seql, b_sneq, beq_lit, f_eql, f_neq, f_lss, f_leq, f_gtr, f_geq, Nat.reduceEqDiff, Nat.reduceAdd, if_true, if_false, reduceCtorEq, decide_true, decide_false, Bool.not_true, Bool.not_false, Bool.and_self, Bool.and_true, Bool.true_and, Bool.and_false, Bool.false_and, Bool.or_true, Bool.true_or, Bool.or_false, Bool.false_or, List.getElem?_cons_zero, List.getElem?_cons_succ, Int.toNat_natCast, Int.reduceLE, Int.reduceLT, Int.reduceEq, Int.reduceNeg, back1r, back2r, conv_int, conv_bool, conv_float, conv_nan, conv_str, Option.some.injEq, AV.float.injEq, AV.int.injEq, AV.bool.injEq, AV.str.injEq, true_and, and_true, X29, abs_bits hb]
theorem s28 {b : Nat} (hb : b < 18446744073709551616) (h : Heap) : Does C 28 [.float .f64 b, .int .i64 0] h (.bool (decide (Fl.rung b = Fl.inf))) h := by
  refine does_pure (fn := X28) rfl rfl rfl (mapO_cons conv_float (mapO_cons conv_int mapO_nil)) ?_
  simp only [go_seq, go_reg, go_block, go_mv, go_p, go_q, go_h, go_g, go_pick, go_grd, grdG_tt, grdG_ff, grdG_tf, grdG_ft, grdG_undef, go_call, List.map_cons, List.map_nil, x_bin, x_un, x_ext, extV_tup, x_cvI, cvIV_int, x_cvF, cvFV_int, x_eq, eqGV_bool, x_fbits, fbV_f, x_ffrom, ffV_i, pickV_t, pickV_f, opG_ok, opR_some', put_some, put_none, eval_t, eval_c, eval_g, T.at_set, initEnv_cons, initEnv_nil, at_nil, go_o_nil, go_cond, condG_true, condG_false, go_ret, go_blk, go_skip, go_label, go_exit, exitG_c, exitG_o, exitG_blk, exitG_nil, go_nil, cont_exit, cont_ret', cont_panic', b_add, b_sub, b_mul, b_and, b_or, b_xor, b_andNot, b_eql, b_neq, b_lss, b_leq, b_gtr, b_geq, b_seql, b_sneq, beq_lit, f_eql, f_neq, f_lss, f_leq, f_gtr, f_geq, Nat.reduceEqDiff, Nat.reduceAdd, if_true, if_false, reduceCtorEq, decide_true, decide_false, Bool.not_true, Bool.not_false, Bool.and_self, Bool.and_true, Bool.true_and, Bool.and_false, Bool.false_and, Bool.or_true, Bool.true_or, Bool.or_false, Bool.false_or, List.getElem?_cons_zero, List.getElem?_cons_succ, Int.toNat_natCast, Int.reduceLE, Int.reduceLT, Int.reduceEq, Int.reduceNeg, back1r, back2r, conv_int, conv_bool, conv_float, conv_nan, conv_str, Option.some.injEq, AV.float.injEq, AV.int.injEq, AV.bool.injEq, AV.str.injEq, true_and, and_true, X28, callG_of (s29 hb _), isInf_bits]
theorem s20 {b : Nat} (h : Heap) : Does C 20 [.int .u64 (b : Int)] h (.float .f64 b) h := by
  refine does_pure (fn := X20) rfl rfl rfl (mapO_cons conv_int mapO_nil) ?_
  simp only [go_seq, go_reg, go_block, go_mv, go_p, go_q, go_h, go_g, go_pick, go_grd, grdG_tt, grdG_ff, grdG_tf, grdG_ft, grdG_undef, go_call, List.map_cons, List.map_nil, x_bin, x_un, x_ext, extV_tup, x_cvI, cvIV_int, x_cvF, cvFV_int, x_eq, eqGV_bool, x_fbits, fbV_f, x_ffrom, ffV_i, pickV_t, pickV_f, opG_ok, opR_some', put_some, put_none, eval_t, eval_c, eval_g, T.at_set, initEnv_cons, initEnv_nil, at_nil, go_o_nil, go_cond, condG_true, condG_false, go_ret, go_blk, go_skip, go_label, go_exit, exitG_c, exitG_o, exitG_blk, exitG_nil, go_nil, cont_exit, cont_ret', cont_panic', b_add, b_sub, b_mul, b_and, b_or, b_xor, b_andNot, b_eql, b_neq, b_lss, b_leq, b_gtr, b_geq, b_seql, b_sneq, beq_lit, f_eql, f_neq, f_lss, f_leq, f_gtr, f_geq, Nat.reduceEqDiff, Nat.reduceAdd, if_true, if_false, reduceCtorEq, decide_true, decide_false, Bool.not_true, Bool.not_false, Bool.and_self, Bool.and_true, Bool.true_and, Bool.and_false, Bool.false_and, Bool.or_true, Bool.true_or, Bool.or_false, Bool.false_or, List.getElem?_cons_zero, List.getElem?_cons_succ, Int.toNat_natCast, Int.reduceLE, Int.reduceLT, Int.reduceEq, Int.reduceNeg, back1r, back2r, conv_int, conv_bool, conv_float, conv_nan, conv_str, Option.some.injEq, AV.float.injEq, AV.int.injEq, AV.bool.injEq, AV.str.injEq, true_and, and_true, X20]
theorem s46 (h : Heap) : Does C 46 [] h (.float .f64 9221120237041090561) h := by
  refine does_pure (fn := X46) rfl rfl rfl mapO_nil ?_
  simp only [go_seq, go_reg, go_block, go_mv, go_p, go_q, go_h, go_g, go_pick, go_grd, grdG_tt, grdG_ff, grdG_tf, grdG_ft, grdG_undef, go_call, List.map_cons, List.map_nil, x_bin, x_un, x_ext, extV_tup, x_cvI, cvIV_int, x_cvF, cvFV_int, x_eq, eqGV_bool, x_fbits, fbV_f, x_ffrom, ffV_i, pickV_t, pickV_f, opG_ok, opR_some', put_some, put_none, eval_t, eval_c, eval_g, T.at_set, initEnv_cons, initEnv_nil, at_nil, go_o_nil, go_cond, condG_true, condG_false, go_ret, go_blk, go_skip, go_label, go_exit, exitG_c, exitG_o, exitG_blk, exitG_nil, go_nil, cont_exit, cont_ret', cont_panic', b_add, b_sub, b_mul, b_and, b_or, b_xor, b_andNot, b_eql, b_neq, b_lss, b_leq, b_gtr, b_geq, b_seql, b_sneq, beq_lit, f_eql, f_neq, f_lss, f_leq, f_gtr, f_geq, Nat.reduceEqDiff, Nat.reduceAdd, if_true, if_false, reduceCtorEq, decide_true, decide_false, Bool.not_true, Bool.not_false, Bool.and_self, Bool.and_true, Bool.true_and, Bool.and_false, Bool.false_and, Bool.or_true, Bool.true_or, Bool.or_false, Bool.false_or, List.getElem?_cons_zero, List.getElem?_cons_succ, Int.toNat_natCast, Int.reduceLE, Int.reduceLT, Int.reduceEq, Int.reduceNeg, back1r, back2r, conv_int, conv_bool, conv_float, conv_nan, conv_str, Option.some.injEq, AV.float.injEq, AV.int.injEq, AV.bool.injEq, AV.str.injEq, true_and, and_true, X46]
  decide
theorem s118 {b : Nat} (hb : b < 9218868437227405312) (h : Heap) : Does C 118 [.float .f64 b] h (.tup [.int .u64 (Fl.mant b : Nat), .int .i64 ((Fl.ex b : Nat) - 1074 : Int)]) h := by
  refine does_pure (fn := X118) rfl rfl rfl (mapO_cons conv_float mapO_nil) ?_
  simp only [go_seq, go_reg, go_block, go_mv, go_p, go_q, go_h, go_g, go_pick, go_grd, grdG_tt, grdG_ff, grdG_tf, grdG_ft, grdG_undef, go_call, List.map_cons, List.map_nil, x_bin, x_un, x_ext, extV_tup, x_cvI, cvIV_int, x_cvF, cvFV_int, x_eq, eqGV_bool, x_fbits, fbV_f, x_ffrom, ffV_i, pickV_t, pickV_f, opG_ok, opR_some', put_some, put_none, eval_t, eval_c, eval_g, T.at_set, initEnv_cons, initEnv_nil, at_nil, go_o_nil, go_cond, condG_true, condG_false, go_ret, go_blk, go_skip, go_label, go_exit, exitG_c, exitG_o, exitG_blk, exitG_nil, go_nil, cont_exit, cont_ret', cont_panic', b_add, b_sub, b_mul, b_and, b_or, b_xor, b_andNot, b_eql, b_neq, b_lss, b_leq, b_gtr, b_geq, b_seql, b_sneq, beq_lit, f_eql, f_neq, f_lss, f_leq, f_gtr, f_geq, Nat.reduceEqDiff, Nat.reduceAdd, if_true, if_false, reduceCtorEq, decide_true, decide_false, Bool.not_true, Bool.not_false, Bool.and_self, Bool.and_true, Bool.true_and, Bool.and_false, Bool.false_and, Bool.or_true, Bool.true_or, Bool.or_false, Bool.false_or, List.getElem?_cons_zero, List.getElem?_cons_succ, Int.toNat_natCast, Int.reduceLE, Int.reduceLT, Int.reduceEq, Int.reduceNeg, back1r, back2r, conv_int, conv_bool, conv_float, conv_nan, conv_str, Option.some.injEq, AV.float.injEq, AV.int.injEq, AV.bool.injEq, AV.str.injEq, true_and, and_true, X118, low52 (show b < 18446744073709551616 by omega), b_shr52, i64_wrap (show -9223372036854775808 ≤ ((b / 4503599627370496 : Nat) : Int) by omega) (show ((b / 4503599627370496 : Nat) : Int) < 9223372036854775808 by omega), condG_dec]
  refine ⟨fun h0 => ?_, fun h0 => ?_⟩
  · unfold Fl.mant Fl.ex
    rw [if_pos (by omega), if_pos (by omega)]
    omega
  · have e1 := or52 (f := b % 4503599627370496) 1 (by omega) (by decide)
    have e2 : orF .u64 ((b % 4503599627370496 : Nat) : Int) 4503599627370496 = _ := e1
    rw [e2, i64_wrap (by omega) (by omega)]
    unfold Fl.mant Fl.ex
    rw [if_neg (by omega), if_neg (by omega)]
    omega
theorem s107 {b : Nat} (hb : b < 9218868437227405312) (h : Heap) : Does C 107 [.int .u64 (b : Int)] h (.tup [.int .i64 (Fl.mant b : Nat), .int .i64 ((Fl.ex b : Nat) - 1074 : Int)]) h := by
  refine does_pure (fn := X107) rfl rfl rfl (mapO_cons conv_int mapO_nil) ?_
  simp only [go_seq, go_reg, go_block, go_mv, go_p, go_q, go_h, go_g, go_pick, go_grd, grdG_tt, grdG_ff, grdG_tf, grdG_ft, grdG_undef, go_call, List.map_cons, List.map_nil, x_bin, x_un, x_ext, extV_tup, x_cvI, cvIV_int, x_cvF, cvFV_int, x_eq, eqGV_bool, x_fbits, fbV_f, x_ffrom, ffV_i, pickV_t, pickV_f, opG_ok, opR_some', put_some, put_none, eval_t, eval_c, eval_g, T.at_set, initEnv_cons, initEnv_nil, at_nil, go_o_nil, go_cond, condG_true, condG_false, go_ret, go_blk, go_skip, go_label, go_exit, exitG_c, exitG_o, exitG_blk, exitG_nil, go_nil, cont_exit, cont_ret', cont_panic', b_add, b_sub, b_mul, b_and, b_or, b_xor, b_andNot, b_eql, b_neq, b_lss, b_leq, b_gtr, b_geq, b_seql, b_sneq, beq_lit, f_eql, f_neq, f_lss, f_leq, f_gtr, f_geq, Nat.reduceEqDiff, Nat.reduceAdd, if_true, if_false, reduceCtorEq, decide_true, decide_false, Bool.not_true, Bool.not_false, Bool.and_self, Bool.and_true, Bool.true_and, Bool.and_false, Bool.false_and, Bool.or_true, Bool.true_or, Bool.or_false, Bool.false_or, List.getElem?_cons_zero, List.getElem?_cons_succ, Int.toNat_natCast, Int.reduceLE, Int.reduceLT, Int.reduceEq, Int.reduceNeg, back1r, back2r, conv_int, conv_bool, conv_float, conv_nan, conv_str, Option.some.injEq, AV.float.injEq, AV.int.injEq, AV.bool.injEq, AV.str.injEq, true_and, and_true, X107, b_rem (show (4503599627370496 : Int) ≠ 0 by decide), b_shr52, condG_dec]
  have e0 : (b : Int).tmod 4503599627370496 = ((b % 4503599627370496 : Nat) : Int) := rfl
  rw [e0, i64_wrap (x := ((b % 4503599627370496 : Nat) : Int)) (by omega) (by omega), i64_wrap (x := ((b / 4503599627370496 : Nat) : Int)) (by omega) (by omega)]
  refine ⟨fun h0 => ?_, fun h0 => ?_⟩
  · unfold Fl.mant Fl.ex
    rw [if_pos (by omega), if_pos (by omega)]
    omega
  · rw [i64_wrap (by omega) (by omega), i64_wrap (by omega) (by omega)]
    unfold Fl.mant Fl.ex
    rw [if_neg (by omega), if_neg (by omega)]
    omega
theorem sgn_bits {b : Nat} (hb : b < 18446744073709551616) : andF .u64 (b : Int) 9223372036854775808 = ((if Fl.neg b then 9223372036854775808 else 0 : Nat) : Int) := by
  have := and_u64 (a := b) (b := 9223372036854775808) hb (by decide)
  refine this.trans ?_
  congr 1
  have ht : b.testBit 63 = Fl.neg b := by rw [Nat.testBit_eq_decide_div_mod_eq]; unfold Fl.neg; show decide (b / 9223372036854775808 % 2 = 1) = (b / 9223372036854775808 % 2 == 1); simp [BEq.beq, instBEqOfDecidableEq]
  rw [← ht]
  apply Nat.eq_of_testBit_eq
  intro i
  have h2 : Nat.testBit 9223372036854775808 i = decide (63 = i) := by rw [show (9223372036854775808 : Nat) = 2 ^ 63 by decide, Nat.testBit_two_pow]
  rw [Nat.testBit_and, h2]
  by_cases hi : 63 = i
  · subst hi
    cases b.testBit 63
    · simp
    · rw [if_pos rfl, h2]; simp
  · cases b.testBit 63
    · simp [hi]
    · rw [if_pos rfl, h2]; simp [hi]
theorem and_top {b : Nat} (hb : b < 9223372036854775808) : b &&& 9223372036854775808 = 0 := by
  have h1 := and_u64 (a := b) (b := 9223372036854775808) (by omega) (by decide)
  have h2 := sgn_bits (b := b) (by omega)
  have h3 : ((b &&& 9223372036854775808 : Nat) : Int) = _ := h1.symm.trans h2
  rw [Fl.neg_of_lt hb] at h3
  exact Int.ofNat.inj h3
theorem s45 {a b : Nat} (ha : a < 18446744073709551616) (hb : b < 18446744073709551616) (h : Heap) : Does C 45 [.float .f64 a, .float .f64 b] h (.float .f64 (Ieee.double.word (Fl.neg b) (Fl.rung a))) h := by
  refine does_pure (fn := X45) rfl rfl rfl (mapO_cons conv_float (mapO_cons conv_float mapO_nil)) ?_
  simp only [go_seq, go_reg, go_block, go_mv, go_p, go_q, go_h, go_g, go_pick, go_grd, grdG_tt, grdG_ff, grdG_tf, grdG_ft, grdG_undef, go_call, List.map_cons, List.map_nil, x_bin, x_un, x_ext, extV_tup, x_cvI, cvIV_int, x_cvF, cvFV_int, x_eq, eqGV_bool, x_fbits, fbV_f, x_ffrom, ffV_i, pickV_t, pickV_f, opG_ok, opR_some', put_some, put_none, eval_t, eval_c, eval_g, T.at_set, initEnv_cons, initEnv_nil, at_nil, go_o_nil, go_cond, condG_true, condG_false, go_ret, go_blk, go_skip, go_label, go_exit, exitG_c, exitG_o, exitG_blk, exitG_nil, go_nil, cont_exit, cont_ret', cont_panic', b_add, b_sub, b_mul, b_and, b_or, b_xor, b_andNot, b_eql, b_neq, b_lss, b_leq, b_gtr, b_geq, b_seql, b_sneq, beq_lit, f_eql, f_neq, f_lss, f_leq, f_gtr, f_geq, Nat.reduceEqDiff, Nat.reduceAdd, if_true, if_false, reduceCtorEq, decide_true, decide_false, Bool.not_true, Bool.not_false, Bool.and_self, Bool.and_true, Bool.true_and, Bool.and_false, Bool.false_and, Bool.or_true, Bool.true_or, Bool.or_false, Bool.false_or, List.getElem?_cons_zero, List.getElem?_cons_succ, Int.toNat_natCast, Int.reduceLE, Int.reduceLT, Int.reduceEq, Int.reduceNeg, back1r, back2r, conv_int, conv_bool, conv_float, conv_nan, conv_str, Option.some.injEq, AV.float.injEq, AV.int.injEq, AV.bool.injEq, AV.str.injEq, true_and, and_true, X45, abs_bits ha, sgn_bits hb]
  have hr := rung_lt a
  rw [or_u64 (by omega) (by split <;> decide), Fl.word_eq]
  cases Fl.neg b
  · simp
  · simp only [if_true, Int.toNat_natCast]
    have := Nat.shiftLeft_add_eq_or_of_lt (i := 63) (b := Fl.rung a) (by omega) 1
    rw [Nat.or_comm]
    have e : (9223372036854775808 : Nat) = 1 <<< 63 := by decide
    rw [e, ← this]; rfl
theorem s56 {a : Nat} (ha : a < 9223372036854775808) (s : Bool) (h : Heap) : Does C 56 [.int .u64 (a : Int), .bool s] h (.float .f64 (Ieee.double.word s a)) h := by
  refine does_pure (fn := X56) rfl rfl rfl (mapO_cons conv_int (mapO_cons conv_bool mapO_nil)) ?_
  cases s <;> simp only [go_seq, go_reg, go_block, go_mv, go_p, go_q, go_h, go_g, go_pick, go_grd, grdG_tt, grdG_ff, grdG_tf, grdG_ft, grdG_undef, go_call, List.map_cons, List.map_nil, x_bin, x_un, x_ext, extV_tup, x_cvI, cvIV_int, x_cvF, cvFV_int, x_eq, eqGV_bool, x_fbits, fbV_f, x_ffrom, ffV_i, pickV_t, pickV_f, opG_ok, opR_some', put_some, put_none, eval_t, eval_c, eval_g, T.at_set, initEnv_cons, initEnv_nil, at_nil, go_o_nil, go_cond, condG_true, condG_false, go_ret, go_blk, go_skip, go_label, go_exit, exitG_c, exitG_o, exitG_blk, exitG_nil, go_nil, cont_exit, cont_ret', cont_panic', b_add, b_sub, b_mul, b_and, b_or, b_xor, b_andNot, b_eql, b_neq, b_lss, b_leq, b_gtr, b_geq, b_seql, b_sneq, beq_lit, f_eql, f_neq, f_lss, f_leq, f_gtr, f_geq, Nat.reduceEqDiff, Nat.reduceAdd, if_true, if_false, reduceCtorEq, decide_true, decide_false, Bool.not_true, Bool.not_false, Bool.and_self, Bool.and_true, Bool.true_and, Bool.and_false, Bool.false_and, Bool.or_true, Bool.true_or, Bool.or_false, Bool.false_or, List.getElem?_cons_zero, List.getElem?_cons_succ, Int.toNat_natCast, Int.reduceLE, Int.reduceLT, Int.reduceEq, Int.reduceNeg, back1r, back2r, conv_int, conv_bool, conv_float, conv_nan, conv_str, Option.some.injEq, AV.float.injEq, AV.int.injEq, AV.bool.injEq, AV.str.injEq, true_and, and_true, X56]
  · rfl
  · have e : (a : Int) + 9223372036854775808 = ((a + 9223372036854775808 : Nat) : Int) := rfl
    rw [e, u64_wrap (by omega), Int.toNat_natCast, Fl.word_eq, if_pos rfl, Nat.add_comm]; rfl
theorem s30 {b : Nat} (hb : b < 18446744073709551616) (h : Heap) : Does C 30 [.float .f64 b] h (.bool (Fl.neg b)) h := by
  refine does_pure (fn := X30) rfl rfl rfl (mapO_cons conv_float mapO_nil) ?_
  simp only [go_seq, go_reg, go_block, go_mv, go_p, go_q, go_h, go_g, go_pick, go_grd, grdG_tt, grdG_ff, grdG_tf, grdG_ft, grdG_undef, go_call, List.map_cons, List.map_nil, x_bin, x_un, x_ext, extV_tup, x_cvI, cvIV_int, x_cvF, cvFV_int, x_eq, eqGV_bool, x_fbits, fbV_f, x_ffrom, ffV_i, pickV_t, pickV_f, opG_ok, opR_some', put_some, put_none, eval_t, eval_c, eval_g, T.at_set, initEnv_cons, initEnv_nil, at_nil, go_o_nil, go_cond, condG_true, condG_false, go_ret, go_blk, go_skip, go_label, go_exit, exitG_c, exitG_o, exitG_blk, exitG_nil, go_nil, cont_exit, cont_ret', cont_panic', b_add, b_sub, b_mul, b_and, b_or, b_xor, b_andNot, b_eql, b_neq, b_lss, b_leq, b_gtr, b_geq, b_seql, b_sneq, beq_lit, f_eql, f_neq, f_lss, f_leq, f_gtr, f_geq, Nat.reduceEqDiff, Nat.reduceAdd, if_true, if_false, reduceCtorEq, decide_true, decide_false, Bool.not_true, Bool.not_false, Bool.and_self, Bool.and_true, Bool.true_and, Bool.and_false, Bool.false_and, Bool.or_true, Bool.true_or, Bool.or_false, Bool.false_or, List.getElem?_cons_zero, List.getElem?_cons_succ, Int.toNat_natCast, Int.reduceLE, Int.reduceLT, Int.reduceEq, Int.reduceNeg, back1r, back2r, conv_int, conv_bool, conv_float, conv_nan, conv_str, Option.some.injEq, AV.float.injEq, AV.int.injEq, AV.bool.injEq, AV.str.injEq, true_and, and_true, X30]
  rw [wrapF_eq]
  unfold Fl.neg
  show decide (IntKind.i64.wrap (b : Int) < 0) = (b / 9223372036854775808 % 2 == 1)
  by_cases h0 : b < 9223372036854775808
  · have e1 : b / 9223372036854775808 % 2 = 0 := by omega
    rw [e1, wrap_i64 (by omega) (by omega), decide_eq_false (by omega)]; rfl
  · have e1 : b / 9223372036854775808 % 2 = 1 := by omega
    rw [e1, wrap_i64_big (by omega) (by omega), decide_eq_true (by omega)]; rfl
/-- doubles are alike -/
theorem s18 {v : AV} (hv : (∃ b, v = .float .f64 b) ∨ v = .nan .f64) (h : Heap) : Does C 18 [v, v] h (.bool true) h := by
  rcases hv with ⟨b, rfl⟩ | rfl
  · refine does_pure (fn := X18) rfl rfl rfl (mapO_cons conv_float (mapO_cons conv_float mapO_nil)) ?_
    cases hn : (FloatKind.f64.format.order b b != some Ordering.eq) <;> simp only [go_seq, go_reg, go_block, go_mv, go_p, go_q, go_h, go_g, go_pick, go_grd, grdG_tt, grdG_ff, grdG_tf, grdG_ft, grdG_undef, go_call, List.map_cons, List.map_nil, x_bin, x_un, x_ext, extV_tup, x_cvI, cvIV_int, x_cvF, cvFV_int, x_eq, eqGV_bool, x_fbits, fbV_f, x_ffrom, ffV_i, pickV_t, pickV_f, opG_ok, opR_some', put_some, put_none, eval_t, eval_c, eval_g, T.at_set, initEnv_cons, initEnv_nil, at_nil, go_o_nil, go_cond, condG_true, condG_false, go_ret, go_blk, go_skip, go_label, go_exit, exitG_c, exitG_o, exitG_blk, exitG_nil, go_nil, cont_exit, cont_ret', cont_panic', b_add, b_sub, b_mul, b_and, b_or, b_xor, b_andNot, b_eql, b_neq, b_lss, b_leq, b_gtr, b_geq, b_seql, b_sneq, beq_lit, f_eql, f_neq, f_lss, f_leq, f_gtr, f_geq, Nat.reduceEqDiff, Nat.reduceAdd, if_true, if_false, reduceCtorEq, decide_true, decide_false, Bool.not_true, Bool.not_false, Bool.and_self, Bool.and_true, Bool.true_and, Bool.and_false, Bool.false_and, Bool.or_true, Bool.true_or, Bool.or_false, Bool.false_or, List.getElem?_cons_zero, List.getElem?_cons_succ, Int.toNat_natCast, Int.reduceLE, Int.reduceLT, Int.reduceEq, Int.reduceNeg, back1r, back2r, conv_int, conv_bool, conv_float, conv_nan, conv_str, Option.some.injEq, AV.float.injEq, AV.int.injEq, AV.bool.injEq, AV.str.injEq, true_and, and_true, X18, hn]
  · refine does_pure (fn := X18) rfl rfl rfl (mapO_cons conv_nan (mapO_cons conv_nan mapO_nil)) ?_
    have hn : binV .neq (.nan .f64) (.nan .f64) = some (.bool true) := rfl
    simp only [go_seq, go_reg, go_block, go_mv, go_p, go_q, go_h, go_g, go_pick, go_grd, grdG_tt, grdG_ff, grdG_tf, grdG_ft, grdG_undef, go_call, List.map_cons, List.map_nil, x_bin, x_un, x_ext, extV_tup, x_cvI, cvIV_int, x_cvF, cvFV_int, x_eq, eqGV_bool, x_fbits, fbV_f, x_ffrom, ffV_i, pickV_t, pickV_f, opG_ok, opR_some', put_some, put_none, eval_t, eval_c, eval_g, T.at_set, initEnv_cons, initEnv_nil, at_nil, go_o_nil, go_cond, condG_true, condG_false, go_ret, go_blk, go_skip, go_label, go_exit, exitG_c, exitG_o, exitG_blk, exitG_nil, go_nil, cont_exit, cont_ret', cont_panic', b_add, b_sub, b_mul, b_and, b_or, b_xor, b_andNot, b_eql, b_neq, b_lss, b_leq, b_gtr, b_geq, b_seql, b_sneq, beq_lit, f_eql, f_neq, f_lss, f_leq, f_gtr, f_geq, Nat.reduceEqDiff, Nat.reduceAdd, if_true, if_false, reduceCtorEq, decide_true, decide_false, Bool.not_true, Bool.not_false, Bool.and_self, Bool.and_true, Bool.true_and, Bool.and_false, Bool.false_and, Bool.or_true, Bool.true_or, Bool.or_false, Bool.false_or, List.getElem?_cons_zero, List.getElem?_cons_succ, Int.toNat_natCast, Int.reduceLE, Int.reduceLT, Int.reduceEq, Int.reduceNeg, back1r, back2r, conv_int, conv_bool, conv_float, conv_nan, conv_str, Option.some.injEq, AV.float.injEq, AV.int.injEq, AV.bool.injEq, AV.str.injEq, true_and, and_true, X18, hn]
theorem s27 {v : AV} (hv : (∃ b, v = .float .f64 b) ∨ v = .nan .f64) (h : Heap) : Does C 27 [v, v] h (.bool true) h := by
  rcases hv with ⟨b, rfl⟩ | rfl
  · refine does_pure (fn := X27) rfl rfl rfl (mapO_cons conv_float (mapO_cons conv_float mapO_nil)) ?_
    cases hn : (FloatKind.f64.format.order b b != some Ordering.eq) <;> simp only [go_seq, go_reg, go_block, go_mv, go_p, go_q, go_h, go_g, go_pick, go_grd, grdG_tt, grdG_ff, grdG_tf, grdG_ft, grdG_undef, go_call, List.map_cons, List.map_nil, x_bin, x_un, x_ext, extV_tup, x_cvI, cvIV_int, x_cvF, cvFV_int, x_eq, eqGV_bool, x_fbits, fbV_f, x_ffrom, ffV_i, pickV_t, pickV_f, opG_ok, opR_some', put_some, put_none, eval_t, eval_c, eval_g, T.at_set, initEnv_cons, initEnv_nil, at_nil, go_o_nil, go_cond, condG_true, condG_false, go_ret, go_blk, go_skip, go_label, go_exit, exitG_c, exitG_o, exitG_blk, exitG_nil, go_nil, cont_exit, cont_ret', cont_panic', b_add, b_sub, b_mul, b_and, b_or, b_xor, b_andNot, b_eql, b_neq, b_lss, b_leq, b_gtr, b_geq, b_seql, b_sneq, beq_lit, f_eql, f_neq, f_lss, f_leq, f_gtr, f_geq, Nat.reduceEqDiff, Nat.reduceAdd, if_true, if_false, reduceCtorEq, decide_true, decide_false, Bool.not_true, Bool.not_false, Bool.and_self, Bool.and_true, Bool.true_and, Bool.and_false, Bool.false_and, Bool.or_true, Bool.true_or, Bool.or_false, Bool.false_or, List.getElem?_cons_zero, List.getElem?_cons_succ, Int.toNat_natCast, Int.reduceLE, Int.reduceLT, Int.reduceEq, Int.reduceNeg, back1r, back2r, conv_int, conv_bool, conv_float, conv_nan, conv_str, Option.some.injEq, AV.float.injEq, AV.int.injEq, AV.bool.injEq, AV.str.injEq, true_and, and_true, X27, hn]
  · refine does_pure (fn := X27) rfl rfl rfl (mapO_cons conv_nan (mapO_cons conv_nan mapO_nil)) ?_
    have hn : binV .neq (.nan .f64) (.nan .f64) = some (.bool true) := rfl
    simp only [go_seq, go_reg, go_block, go_mv, go_p, go_q, go_h, go_g, go_pick, go_grd, grdG_tt, grdG_ff, grdG_tf, grdG_ft, grdG_undef, go_call, List.map_cons, List.map_nil, x_bin, x_un, x_ext, extV_tup, x_cvI, cvIV_int, x_cvF, cvFV_int, x_eq, eqGV_bool, x_fbits, fbV_f, x_ffrom, ffV_i, pickV_t, pickV_f, opG_ok, opR_some', put_some, put_none, eval_t, eval_c, eval_g, T.at_set, initEnv_cons, initEnv_nil, at_nil, go_o_nil, go_cond, condG_true, condG_false, go_ret, go_blk, go_skip, go_label, go_exit, exitG_c, exitG_o, exitG_blk, exitG_nil, go_nil, cont_exit, cont_ret', cont_panic', b_add, b_sub, b_mul, b_and, b_or, b_xor, b_andNot, b_eql, b_neq, b_lss, b_leq, b_gtr, b_geq, b_seql, b_sneq, beq_lit, f_eql, f_neq, f_lss, f_leq, f_gtr, f_geq, Nat.reduceEqDiff, Nat.reduceAdd, if_true, if_false, reduceCtorEq, decide_true, decide_false, Bool.not_true, Bool.not_false, Bool.and_self, Bool.and_true, Bool.true_and, Bool.and_false, Bool.false_and, Bool.or_true, Bool.true_or, Bool.or_false, Bool.false_or, List.getElem?_cons_zero, List.getElem?_cons_succ, Int.toNat_natCast, Int.reduceLE, Int.reduceLT, Int.reduceEq, Int.reduceNeg, back1r, back2r, conv_int, conv_bool, conv_float, conv_nan, conv_str, Option.some.injEq, AV.float.injEq, AV.int.injEq, AV.bool.injEq, AV.str.injEq, true_and, and_true, X27, hn]
theorem s228 {b : Nat} (h : Heap) : Does C 228 [.float .f64 b] h (.bool (decide (Fl.inf < Fl.rung b))) h := by
  refine does_pure (fn := X228) rfl rfl rfl (mapO_cons conv_float mapO_nil) ?_
  simp only [go_seq, go_reg, go_block, go_mv, go_p, go_q, go_h, go_g, go_pick, go_grd, grdG_tt, grdG_ff, grdG_tf, grdG_ft, grdG_undef, go_call, List.map_cons, List.map_nil, x_bin, x_un, x_ext, extV_tup, x_cvI, cvIV_int, x_cvF, cvFV_int, x_eq, eqGV_bool, x_fbits, fbV_f, x_ffrom, ffV_i, pickV_t, pickV_f, opG_ok, opR_some', put_some, put_none, eval_t, eval_c, eval_g, T.at_set, initEnv_cons, initEnv_nil, at_nil, go_o_nil, go_cond, condG_true, condG_false, go_ret, go_blk, go_skip, go_label, go_exit, exitG_c, exitG_o, exitG_blk, exitG_nil, go_nil, cont_exit, cont_ret', cont_panic', b_add, b_sub, b_mul, b_and, b_or, b_xor, b_andNot, b_eql, b_neq, b_lss, b_leq, b_gtr, b_geq, b_seql, b_sneq, beq_lit, f_eql, f_neq, f_lss, f_leq, f_gtr, f_geq, Nat.reduceEqDiff, Nat.reduceAdd, if_true, if_false, reduceCtorEq, decide_true, decide_false, Bool.not_true, Bool.not_false, Bool.and_self, Bool.and_true, Bool.true_and, Bool.and_false, Bool.false_and, Bool.or_true, Bool.true_or, Bool.or_false, Bool.false_or, List.getElem?_cons_zero, List.getElem?_cons_succ, Int.toNat_natCast, Int.reduceLE, Int.reduceLT, Int.reduceEq, Int.reduceNeg, back1r, back2r, conv_int, conv_bool, conv_float, conv_nan, conv_str, Option.some.injEq, AV.float.injEq, AV.int.injEq, AV.bool.injEq, AV.str.injEq, true_and, and_true, X228, neq_self]
theorem s229 {b : Nat} (h0 : 4503599627370496 ≤ b) (h1 : b < 9218868437227405312) (h : Heap) : Does C 229 [.float .f64 b] h (.tup [.float .f64 b, .int .i64 0]) h := by
  refine does_pure (fn := X229) rfl rfl rfl (mapO_cons conv_float mapO_nil) ?_
  have hr : Fl.rung b = b := Fl.rung_of_lt (by show b < 9223372036854775808; omega)
  have hlt := lt_pos (x := b) (y := 4503599627370496) (by show b ≤ 9218868437227405312; omega) (by decide)
  simp only [go_seq, go_reg, go_block, go_mv, go_p, go_q, go_h, go_g, go_pick, go_grd, grdG_tt, grdG_ff, grdG_tf, grdG_ft, grdG_undef, go_call, List.map_cons, List.map_nil, x_bin, x_un, x_ext, extV_tup, x_cvI, cvIV_int, x_cvF, cvFV_int, x_eq, eqGV_bool, x_fbits, fbV_f, x_ffrom, ffV_i, pickV_t, pickV_f, opG_ok, opR_some', put_some, put_none, eval_t, eval_c, eval_g, T.at_set, initEnv_cons, initEnv_nil, at_nil, go_o_nil, go_cond, condG_true, condG_false, go_ret, go_blk, go_skip, go_label, go_exit, exitG_c, exitG_o, exitG_blk, exitG_nil, go_nil, cont_exit, cont_ret', cont_panic', b_add, b_sub, b_mul, b_and, b_or, b_xor, b_andNot, b_eql, b_neq, b_lss, b_leq, b_gtr, b_geq, b_seql, b_sneq, beq_lit, f_eql, f_neq, f_lss, f_leq, f_gtr, f_geq, Nat.reduceEqDiff, Nat.reduceAdd, if_true, if_false, reduceCtorEq, decide_true, decide_false, Bool.not_true, Bool.not_false, Bool.and_self, Bool.and_true, Bool.true_and, Bool.and_false, Bool.false_and, Bool.or_true, Bool.true_or, Bool.or_false, Bool.false_or, List.getElem?_cons_zero, List.getElem?_cons_succ, Int.toNat_natCast, Int.reduceLE, Int.reduceLT, Int.reduceEq, Int.reduceNeg, back1r, back2r, conv_int, conv_bool, conv_float, conv_nan, conv_str, Option.some.injEq, AV.float.injEq, AV.int.injEq, AV.bool.injEq, AV.str.injEq, true_and, and_true, X229, callG_of (s29 (show b < 18446744073709551616 by omega) _), hr, hlt, decide_eq_false (show ¬ b < 4503599627370496 by omega)]
/-- m times a power of two -/
theorem s119 {m r : Nat} {j : Int} (hm : m < 9007199254740992) (hj : -1074 ≤ j) (hj2 : j < 1000000) (hr : r < Fl.inf) (hv : Fl.V r = m * 2 ^ (j + 1074).toNat) (h : Heap) : Does C 119 [.float .f64 (Ieee.double.nearest false m 0), .int .i64 j] h (.float .f64 r) h := by
  have key : Does C 176 [.float .f64 (Ieee.double.nearest false m 0), .int .i64 j] .empty (.float .f64 r) .empty := by
    refine does_pure (fn := X176) rfl rfl rfl (mapO_cons conv_float (mapO_cons conv_int mapO_nil)) ?_
    by_cases h0 : m = 0
    · subst h0
      have hr0 : r = 0 := Fl.V_inj (by rw [hv, Fl.V_zero]; simp)
      subst hr0
      have e : Ieee.double.nearest false 0 0 = 0 := by decide
      rw [e]
      simp only [go_seq, go_reg, go_block, go_mv, go_p, go_q, go_h, go_g, go_pick, go_grd, grdG_tt, grdG_ff, grdG_tf, grdG_ft, grdG_undef, go_call, List.map_cons, List.map_nil, x_bin, x_un, x_ext, extV_tup, x_cvI, cvIV_int, x_cvF, cvFV_int, x_eq, eqGV_bool, x_fbits, fbV_f, x_ffrom, ffV_i, pickV_t, pickV_f, opG_ok, opR_some', put_some, put_none, eval_t, eval_c, eval_g, T.at_set, initEnv_cons, initEnv_nil, at_nil, go_o_nil, go_cond, condG_true, condG_false, go_ret, go_blk, go_skip, go_label, go_exit, exitG_c, exitG_o, exitG_blk, exitG_nil, go_nil, cont_exit, cont_ret', cont_panic', b_add, b_sub, b_mul, b_and, b_or, b_xor, b_andNot, b_eql, b_neq, b_lss, b_leq, b_gtr, b_geq, b_seql, b_sneq, beq_lit, f_eql, f_neq, f_lss, f_leq, f_gtr, f_geq, Nat.reduceEqDiff, Nat.reduceAdd, if_true, if_false, reduceCtorEq, decide_true, decide_false, Bool.not_true, Bool.not_false, Bool.and_self, Bool.and_true, Bool.true_and, Bool.and_false, Bool.false_and, Bool.or_true, Bool.true_or, Bool.or_false, Bool.false_or, List.getElem?_cons_zero, List.getElem?_cons_succ, Int.toNat_natCast, Int.reduceLE, Int.reduceLT, Int.reduceEq, Int.reduceNeg, back1r, back2r, conv_int, conv_bool, conv_float, conv_nan, conv_str, Option.some.injEq, AV.float.injEq, AV.int.injEq, AV.bool.injEq, AV.str.injEq, true_and, and_true, X176, eqz, show decide (Fl.rung 0 = 0) = true by decide]
    · obtain ⟨hx, hM1, hM2, hL⟩ := Fl.nearest_nat (m := m) (by omega) hm
      generalize hM : m * 2 ^ (52 - m.log2) = M at hx hM1 hM2
      have hxs : (m.log2 + 1022) * 4503599627370496 + M < 9218868437227405312 := by omega
      rw [hx]
      generalize hX : (m.log2 + 1022) * 4503599627370496 + M = X at hxs
      have hrX : Fl.rung X = X := Fl.rung_of_lt (by show X < 9223372036854775808; omega)
      have hX64 : X < 18446744073709551616 := by omega
      simp only [go_seq, go_reg, go_block, go_mv, go_p, go_q, go_h, go_g, go_pick, go_grd, grdG_tt, grdG_ff, grdG_tf, grdG_ft, grdG_undef, go_call, List.map_cons, List.map_nil, x_bin, x_un, x_ext, extV_tup, x_cvI, cvIV_int, x_cvF, cvFV_int, x_eq, eqGV_bool, x_fbits, fbV_f, x_ffrom, ffV_i, pickV_t, pickV_f, opG_ok, opR_some', put_some, put_none, eval_t, eval_c, eval_g, T.at_set, initEnv_cons, initEnv_nil, at_nil, go_o_nil, go_cond, condG_true, condG_false, go_ret, go_blk, go_skip, go_label, go_exit, exitG_c, exitG_o, exitG_blk, exitG_nil, go_nil, cont_exit, cont_ret', cont_panic', b_add, b_sub, b_mul, b_and, b_or, b_xor, b_andNot, b_eql, b_neq, b_lss, b_leq, b_gtr, b_geq, b_seql, b_sneq, beq_lit, f_eql, f_neq, f_lss, f_leq, f_gtr, f_geq, Nat.reduceEqDiff, Nat.reduceAdd, if_true, if_false, reduceCtorEq, decide_true, decide_false, Bool.not_true, Bool.not_false, Bool.and_self, Bool.and_true, Bool.true_and, Bool.and_false, Bool.false_and, Bool.or_true, Bool.true_or, Bool.or_false, Bool.false_or, List.getElem?_cons_zero, List.getElem?_cons_succ, Int.toNat_natCast, Int.reduceLE, Int.reduceLT, Int.reduceEq, Int.reduceNeg, back1r, back2r, conv_int, conv_bool, conv_float, conv_nan, conv_str, Option.some.injEq, AV.float.injEq, AV.int.injEq, AV.bool.injEq, AV.str.injEq, true_and, and_true, X176, eqz, hrX, decide_eq_false (show ¬ X = 0 by omega), callG_of (s28 hX64 _), decide_eq_false (show ¬ X = Fl.inf by show ¬ X = 9218868437227405312; omega), callG_of (s228 _), decide_eq_false (show ¬ Fl.inf < X by show ¬ 9218868437227405312 < X; omega), callG_of (s229 (show 4503599627370496 ≤ X by omega) hxs _), Int.add_zero, b_shr52]
      have hXd : X / 4503599627370496 = m.log2 + 1023 := by omega
      have hXm : X % 4503599627370496 = M - 4503599627370496 := by omega
      have hexp : wrapF .i64 (wrapF .i64 j + wrapF .i64 (andF .i64 (wrapF .i64 ((X / 4503599627370496 : Nat) : Int)) 2047 - 1023)) = j + (m.log2 : Nat) := by
        rw [hXd, i64_wrap (x := ((m.log2 + 1023 : Nat) : Int)) (by omega) (by omega), and_i64_2047 (by omega), i64_wrap (x := j) (by omega) (by omega)]
        rw [i64_wrap (x := ((m.log2 + 1023 : Nat) : Int) - 1023) (by omega) (by omega), i64_wrap (by omega) (by omega)]
        omega
      have hover : j + (m.log2 : Nat) < 1024 := by
        have h1 := Fl.V_lt hr
        rw [hv] at h1
        have h2 := Nat.log2_self_le h0
        have h3 : 2 ^ (m.log2 + (j + 1074).toNat) < 2 ^ 2098 := by
          rw [Nat.pow_add]
          exact Nat.lt_of_le_of_lt (Nat.mul_le_mul_right _ h2) (Nat.lt_of_lt_of_eq h1 (by decide +kernel))
        have h4 := (Nat.pow_lt_pow_iff_right (a := 2) (by decide)).1 h3
        omega
      have hclear : andNotF .u64 (X : Int) 9218868437227405312 = ((M - 4503599627370496 : Nat) : Int) := by
        have := andNot_u64 (a := X) (b := 9218868437227405312) hX64 (by decide)
        refine this.trans ?_
        rw [← hXm, show 18446744073709551615 - 9218868437227405312 = 9223372036854775808 ||| 4503599627370495 by decide, Nat.and_or_distrib_left, and_top (by omega), Nat.zero_or, show 4503599627370495 = 2 ^ 52 - 1 by decide, Nat.and_two_pow_sub_one_eq_mod]
      simp only [hexp]
      simp only [go_seq, go_reg, go_block, go_mv, go_p, go_q, go_h, go_g, go_pick, go_grd, grdG_tt, grdG_ff, grdG_tf, grdG_ft, grdG_undef, go_call, List.map_cons, List.map_nil, x_bin, x_un, x_ext, extV_tup, x_cvI, cvIV_int, x_cvF, cvFV_int, x_eq, eqGV_bool, x_fbits, fbV_f, x_ffrom, ffV_i, pickV_t, pickV_f, opG_ok, opR_some', put_some, put_none, eval_t, eval_c, eval_g, T.at_set, initEnv_cons, initEnv_nil, at_nil, go_o_nil, go_cond, condG_true, condG_false, go_ret, go_blk, go_skip, go_label, go_exit, exitG_c, exitG_o, exitG_blk, exitG_nil, go_nil, cont_exit, cont_ret', cont_panic', b_add, b_sub, b_mul, b_and, b_or, b_xor, b_andNot, b_eql, b_neq, b_lss, b_leq, b_gtr, b_geq, b_seql, b_sneq, beq_lit, f_eql, f_neq, f_lss, f_leq, f_gtr, f_geq, Nat.reduceEqDiff, Nat.reduceAdd, if_true, if_false, reduceCtorEq, decide_true, decide_false, Bool.not_true, Bool.not_false, Bool.and_self, Bool.and_true, Bool.true_and, Bool.and_false, Bool.false_and, Bool.or_true, Bool.true_or, Bool.or_false, Bool.false_or, List.getElem?_cons_zero, List.getElem?_cons_succ, Int.toNat_natCast, Int.reduceLE, Int.reduceLT, Int.reduceEq, Int.reduceNeg, back1r, back2r, conv_int, conv_bool, conv_float, conv_nan, conv_str, Option.some.injEq, AV.float.injEq, AV.int.injEq, AV.bool.injEq, AV.str.injEq, true_and, and_true, condG_dec, hclear]
      refine ⟨fun hno => by omega, fun _ => ⟨fun hno => by omega, fun _ => ⟨fun hden => ?_, fun hden => ?_⟩⟩⟩
      · obtain ⟨K, hK⟩ := Int.eq_ofNat_of_zero_le (show 0 ≤ j + (m.log2 : Nat) + 1076 by omega)
        have h1 : wrapF .u64 (wrapF .i64 (wrapF .i64 (j + (m.log2 : Nat) + 53) + 1023)) = (K : Int) := by
          rw [i64_wrap (x := j + (m.log2 : Nat) + 53) (by omega) (by omega), i64_wrap (by omega) (by omega), show j + (m.log2 : Nat) + 53 + 1023 = (K : Int) by omega, u64_wrap (by omega)]
        have h2 := or52 (f := M - 4503599627370496) K (by omega) (by omega)
        obtain ⟨g1, g2⟩ := Fl.ex_norm (K - 1) M hM1 hM2
        have hK1 : 1 ≤ K := by clear hM; omega
        have hmul : binV .mul (.float .f64 4368491638549381120) (.float .f64 (K * 4503599627370496 + (M - 4503599627370496))) = some (.float .f64 r) := by
          rw [Fl.knorm K M hK1 hM1]
          refine f_mul (Fl.mul_pow (p := K) (q := 106) (by decide) (by show _ < 9218868437227405312; clear hM; omega) hr ?_ ?_)
          · rw [g1, show Fl.ex 4368491638549381120 = 969 by decide]; omega
          · rw [g2, show Fl.mant 4368491638549381120 = 2 ^ 52 by decide, hv, ← hM]
            exact Fl.scale_eq m 52 _ K _ _ (by omega)
        simp only [go_seq, go_reg, go_block, go_mv, go_p, go_q, go_h, go_g, go_pick, go_grd, grdG_tt, grdG_ff, grdG_tf, grdG_ft, grdG_undef, go_call, List.map_cons, List.map_nil, x_bin, x_un, x_ext, extV_tup, x_cvI, cvIV_int, x_cvF, cvFV_int, x_eq, eqGV_bool, x_fbits, fbV_f, x_ffrom, ffV_i, pickV_t, pickV_f, opG_ok, opR_some', put_some, put_none, eval_t, eval_c, eval_g, T.at_set, initEnv_cons, initEnv_nil, at_nil, go_o_nil, go_cond, condG_true, condG_false, go_ret, go_blk, go_skip, go_label, go_exit, exitG_c, exitG_o, exitG_blk, exitG_nil, go_nil, cont_exit, cont_ret', cont_panic', b_add, b_sub, b_mul, b_and, b_or, b_xor, b_andNot, b_eql, b_neq, b_lss, b_leq, b_gtr, b_geq, b_seql, b_sneq, beq_lit, f_eql, f_neq, f_lss, f_leq, f_gtr, f_geq, Nat.reduceEqDiff, Nat.reduceAdd, if_true, if_false, reduceCtorEq, decide_true, decide_false, Bool.not_true, Bool.not_false, Bool.and_self, Bool.and_true, Bool.true_and, Bool.and_false, Bool.false_and, Bool.or_true, Bool.true_or, Bool.or_false, Bool.false_or, List.getElem?_cons_zero, List.getElem?_cons_succ, Int.toNat_natCast, Int.reduceLE, Int.reduceLT, Int.reduceEq, Int.reduceNeg, back1r, back2r, conv_int, conv_bool, conv_float, conv_nan, conv_str, Option.some.injEq, AV.float.injEq, AV.int.injEq, AV.bool.injEq, AV.str.injEq, true_and, and_true, h1, b_shl52 (show K * 4503599627370496 < 18446744073709551616 by omega), h2, hmul]
      · obtain ⟨K, hK⟩ := Int.eq_ofNat_of_zero_le (show 0 ≤ j + (m.log2 : Nat) + 1023 by omega)
        have h1 : wrapF .u64 (wrapF .i64 (j + (m.log2 : Nat) + 1023)) = (K : Int) := by
          rw [i64_wrap (by omega) (by omega), hK, u64_wrap (by omega)]
        have h2 := or52 (f := M - 4503599627370496) K (by omega) (by omega)
        obtain ⟨g1, g2⟩ := Fl.ex_norm (K - 1) M hM1 hM2
        have hK1 : 1 ≤ K := by clear hM; omega
        have hmul : binV .mul (.float .f64 4607182418800017408) (.float .f64 (K * 4503599627370496 + (M - 4503599627370496))) = some (.float .f64 r) := by
          rw [Fl.knorm K M hK1 hM1]
          refine f_mul (Fl.mul_pow (p := K) (q := 53) (by decide) (by show _ < 9218868437227405312; clear hM; omega) hr ?_ ?_)
          · rw [g1, show Fl.ex 4607182418800017408 = 1022 by decide]; omega
          · rw [g2, show Fl.mant 4607182418800017408 = 2 ^ 52 by decide, hv, ← hM]
            exact Fl.scale_eq m 52 _ K _ _ (by omega)
        simp only [go_seq, go_reg, go_block, go_mv, go_p, go_q, go_h, go_g, go_pick, go_grd, grdG_tt, grdG_ff, grdG_tf, grdG_ft, grdG_undef, go_call, List.map_cons, List.map_nil, x_bin, x_un, x_ext, extV_tup, x_cvI, cvIV_int, x_cvF, cvFV_int, x_eq, eqGV_bool, x_fbits, fbV_f, x_ffrom, ffV_i, pickV_t, pickV_f, opG_ok, opR_some', put_some, put_none, eval_t, eval_c, eval_g, T.at_set, initEnv_cons, initEnv_nil, at_nil, go_o_nil, go_cond, condG_true, condG_false, go_ret, go_blk, go_skip, go_label, go_exit, exitG_c, exitG_o, exitG_blk, exitG_nil, go_nil, cont_exit, cont_ret', cont_panic', b_add, b_sub, b_mul, b_and, b_or, b_xor, b_andNot, b_eql, b_neq, b_lss, b_leq, b_gtr, b_geq, b_seql, b_sneq, beq_lit, f_eql, f_neq, f_lss, f_leq, f_gtr, f_geq, Nat.reduceEqDiff, Nat.reduceAdd, if_true, if_false, reduceCtorEq, decide_true, decide_false, Bool.not_true, Bool.not_false, Bool.and_self, Bool.and_true, Bool.true_and, Bool.and_false, Bool.false_and, Bool.or_true, Bool.true_or, Bool.or_false, Bool.false_or, List.getElem?_cons_zero, List.getElem?_cons_succ, Int.toNat_natCast, Int.reduceLE, Int.reduceLT, Int.reduceEq, Int.reduceNeg, back1r, back2r, conv_int, conv_bool, conv_float, conv_nan, conv_str, Option.some.injEq, AV.float.injEq, AV.int.injEq, AV.bool.injEq, AV.str.injEq, true_and, and_true, h1, b_shl52 (show K * 4503599627370496 < 18446744073709551616 by omega), h2, hmul]
  refine does_pure (fn := X119) rfl rfl rfl (mapO_cons conv_float (mapO_cons conv_int mapO_nil)) ?_
  simp only [go_seq, go_reg, go_block, go_mv, go_p, go_q, go_h, go_g, go_pick, go_grd, grdG_tt, grdG_ff, grdG_tf, grdG_ft, grdG_undef, go_call, List.map_cons, List.map_nil, x_bin, x_un, x_ext, extV_tup, x_cvI, cvIV_int, x_cvF, cvFV_int, x_eq, eqGV_bool, x_fbits, fbV_f, x_ffrom, ffV_i, pickV_t, pickV_f, opG_ok, opR_some', put_some, put_none, eval_t, eval_c, eval_g, T.at_set, initEnv_cons, initEnv_nil, at_nil, go_o_nil, go_cond, condG_true, condG_false, go_ret, go_blk, go_skip, go_label, go_exit, exitG_c, exitG_o, exitG_blk, exitG_nil, go_nil, cont_exit, cont_ret', cont_panic', b_add, b_sub, b_mul, b_and, b_or, b_xor, b_andNot, b_eql, b_neq, b_lss, b_leq, b_gtr, b_geq, b_seql, b_sneq, beq_lit, f_eql, f_neq, f_lss, f_leq, f_gtr, f_geq, Nat.reduceEqDiff, Nat.reduceAdd, if_true, if_false, reduceCtorEq, decide_true, decide_false, Bool.not_true, Bool.not_false, Bool.and_self, Bool.and_true, Bool.true_and, Bool.and_false, Bool.false_and, Bool.or_true, Bool.true_or, Bool.or_false, Bool.false_or, List.getElem?_cons_zero, List.getElem?_cons_succ, Int.toNat_natCast, Int.reduceLE, Int.reduceLT, Int.reduceEq, Int.reduceNeg, back1r, back2r, conv_int, conv_bool, conv_float, conv_nan, conv_str, Option.some.injEq, AV.float.injEq, AV.int.injEq, AV.bool.injEq, AV.str.injEq, true_and, and_true, X119, callG_of key]
end Go.Proofs.YtmadknpaljaecaaGreatDoor.Ev.D
namespace Go.Proofs.YtmadknpaljaecaaGreatDoor.Ev.D
open Go Go.Proofs.YtmadknpaljaecaaGreatDoor.Ev
set_option maxRecDepth 100000
set_option linter.all false

def B67 : XCode := loopB (blkB (seqT 1 (seqH (seqT 5 X67.body))))
def R67 : XCode := seqT 6 X67.body
def I67 (a n z e N : Nat) (env : T AV) (h : Heap) : Prop :=
  ∃ t : Nat, env.at 0 = .float .f64 a ∧ env.at 5 = .int .u64 (t : Int) ∧ env.at 6 = .int .i64 ((e : Int) - 1074 + N) ∧ env.at 7 = .int .u64 (n : Int) ∧ env.at 8 = .int .i64 ((e : Int) - 1074) ∧ t < n ∧ (t * 2 ^ N) % n = z ∧ N < 4000 ∧ h = .empty
theorem l67 {a n z e : Nat} {r : Nat} (ha : a < 18446744073709551616) (hn : n < 9007199254740992) (hr : r < Fl.inf) (hv : Fl.V r = z * 2 ^ e) (he : e < 2047) (hz : z < n) (N : Nat) (env : T AV) (h : Heap) (hI : I67 a n z e N env h) :
    GoP C [.c (.loop B67), .blk 1, .c R67] env h (Back [.tmp 4] true (.float .f64 (Ieee.double.word (Fl.neg a) r))) := by
  refine go_loop (I67 a n z e) hI ?_
  clear hI
  rintro N env h ⟨t, h0, h5, h6, h7, h8, ht, hm, hN, rfl⟩
  have hr64 : r < 18446744073709551616 := Nat.lt_trans hr (by decide)
  have hrr : Fl.rung r = r := Fl.rung_of_lt (Nat.lt_trans hr Fl.inf_lt_sgn)
  have out : t = z → Does C 119 [.float .f64 (FloatKind.f64.nearest (t : Int)), .int .i64 ((e : Int) - 1074)] .empty (.float .f64 r) .empty := fun e1 => by
    subst e1
    rw [nearest_cast]
    exact s119 (by omega) (by omega) (by omega) hr (by rw [hv]; congr 2; omega) _
  have back := s45 (a := r) hr64 ha .empty
  rw [hrr] at back
  simp only [B67, R67, X67, seqT, seqH, blkB, loopB]
  by_cases hN0 : N = 0
  · subst hN0
    have htT : t = z := by rw [← hm]; simp [Nat.mod_eq_of_lt ht]
    simp only [go_seq, go_reg, go_block, go_mv, go_p, go_q, go_h, go_g, go_pick, go_grd, grdG_tt, grdG_ff, grdG_tf, grdG_ft, grdG_undef, go_call, List.map_cons, List.map_nil, x_bin, x_un, x_ext, extV_tup, x_cvI, cvIV_int, x_cvF, cvFV_int, x_eq, eqGV_bool, x_fbits, fbV_f, x_ffrom, ffV_i, pickV_t, pickV_f, opG_ok, opR_some', put_some, put_none, eval_t, eval_c, eval_g, T.at_set, initEnv_cons, initEnv_nil, at_nil, go_o_nil, go_cond, condG_true, condG_false, go_ret, go_blk, go_skip, go_label, go_exit, exitG_c, exitG_o, exitG_blk, exitG_nil, go_nil, cont_exit, cont_ret', cont_panic', b_add, b_sub, b_mul, b_and, b_or, b_xor, b_andNot, b_eql, b_neq, b_lss, b_leq, b_gtr, b_geq, b_seql, b_sneq, beq_lit, f_eql, f_neq, f_lss, f_leq, f_gtr, f_geq, Nat.reduceEqDiff, Nat.reduceAdd, if_true, if_false, reduceCtorEq, decide_true, decide_false, Bool.not_true, Bool.not_false, Bool.and_self, Bool.and_true, Bool.true_and, Bool.and_false, Bool.false_and, Bool.or_true, Bool.true_or, Bool.or_false, Bool.false_or, List.getElem?_cons_zero, List.getElem?_cons_succ, Int.toNat_natCast, Int.reduceLE, Int.reduceLT, Int.reduceEq, Int.reduceNeg, back1r, back2r, conv_int, conv_bool, conv_float, conv_nan, conv_str, Option.some.injEq, AV.float.injEq, AV.int.injEq, AV.bool.injEq, AV.str.injEq, true_and, and_true, h0, h5, h6, h7, h8, decide_eq_false (show ¬ ((e : Int) - 1074 < (e : Int) - 1074 + ((0 : Nat) : Int)) by omega), callG_of (out htT), callG_of back]
  · by_cases ht0 : t = 0
    · subst ht0
      have htT : 0 = z := by rw [← hm]; simp
      simp only [go_seq, go_reg, go_block, go_mv, go_p, go_q, go_h, go_g, go_pick, go_grd, grdG_tt, grdG_ff, grdG_tf, grdG_ft, grdG_undef, go_call, List.map_cons, List.map_nil, x_bin, x_un, x_ext, extV_tup, x_cvI, cvIV_int, x_cvF, cvFV_int, x_eq, eqGV_bool, x_fbits, fbV_f, x_ffrom, ffV_i, pickV_t, pickV_f, opG_ok, opR_some', put_some, put_none, eval_t, eval_c, eval_g, T.at_set, initEnv_cons, initEnv_nil, at_nil, go_o_nil, go_cond, condG_true, condG_false, go_ret, go_blk, go_skip, go_label, go_exit, exitG_c, exitG_o, exitG_blk, exitG_nil, go_nil, cont_exit, cont_ret', cont_panic', b_add, b_sub, b_mul, b_and, b_or, b_xor, b_andNot, b_eql, b_neq, b_lss, b_leq, b_gtr, b_geq, b_seql, b_sneq, beq_lit, f_eql, f_neq, f_lss, f_leq, f_gtr, f_geq, Nat.reduceEqDiff, Nat.reduceAdd, if_true, if_false, reduceCtorEq, decide_true, decide_false, Bool.not_true, Bool.not_false, Bool.and_self, Bool.and_true, Bool.true_and, Bool.and_false, Bool.false_and, Bool.or_true, Bool.true_or, Bool.or_false, Bool.false_or, List.getElem?_cons_zero, List.getElem?_cons_succ, Int.toNat_natCast, Int.reduceLE, Int.reduceLT, Int.reduceEq, Int.reduceNeg, back1r, back2r, conv_int, conv_bool, conv_float, conv_nan, conv_str, Option.some.injEq, AV.float.injEq, AV.int.injEq, AV.bool.injEq, AV.str.injEq, true_and, and_true, h0, h5, h6, h7, h8, decide_eq_true (show ((e : Int) - 1074 < (e : Int) - 1074 + (N : Int)) by omega), decide_eq_false (show ¬ ((0 : Int) < ((0 : Nat) : Int)) by omega), callG_of (out htT), callG_of back]
    · simp only [go_seq, go_reg, go_block, go_mv, go_p, go_q, go_h, go_g, go_pick, go_grd, grdG_tt, grdG_ff, grdG_tf, grdG_ft, grdG_undef, go_call, List.map_cons, List.map_nil, x_bin, x_un, x_ext, extV_tup, x_cvI, cvIV_int, x_cvF, cvFV_int, x_eq, eqGV_bool, x_fbits, fbV_f, x_ffrom, ffV_i, pickV_t, pickV_f, opG_ok, opR_some', put_some, put_none, eval_t, eval_c, eval_g, T.at_set, initEnv_cons, initEnv_nil, at_nil, go_o_nil, go_cond, condG_true, condG_false, go_ret, go_blk, go_skip, go_label, go_exit, exitG_c, exitG_o, exitG_blk, exitG_nil, go_nil, cont_exit, cont_ret', cont_panic', b_add, b_sub, b_mul, b_and, b_or, b_xor, b_andNot, b_eql, b_neq, b_lss, b_leq, b_gtr, b_geq, b_seql, b_sneq, beq_lit, f_eql, f_neq, f_lss, f_leq, f_gtr, f_geq, Nat.reduceEqDiff, Nat.reduceAdd, if_true, if_false, reduceCtorEq, decide_true, decide_false, Bool.not_true, Bool.not_false, Bool.and_self, Bool.and_true, Bool.true_and, Bool.and_false, Bool.false_and, Bool.or_true, Bool.true_or, Bool.or_false, Bool.false_or, List.getElem?_cons_zero, List.getElem?_cons_succ, Int.toNat_natCast, Int.reduceLE, Int.reduceLT, Int.reduceEq, Int.reduceNeg, back1r, back2r, conv_int, conv_bool, conv_float, conv_nan, conv_str, Option.some.injEq, AV.float.injEq, AV.int.injEq, AV.bool.injEq, AV.str.injEq, true_and, and_true, h0, h5, h6, h7, h8, decide_eq_true (show ((e : Int) - 1074 < (e : Int) - 1074 + (N : Int)) by omega), decide_eq_true (show ((0 : Int) < (t : Int)) by omega), b_shl1 (show 2 * t < 18446744073709551616 by omega), b_rem (show (n : Int) ≠ 0 by omega), tmod_nat]
      refine ⟨N - 1, by omega, 2 * t % n, ?_⟩
      simp only [go_seq, go_reg, go_block, go_mv, go_p, go_q, go_h, go_g, go_pick, go_grd, grdG_tt, grdG_ff, grdG_tf, grdG_ft, grdG_undef, go_call, List.map_cons, List.map_nil, x_bin, x_un, x_ext, extV_tup, x_cvI, cvIV_int, x_cvF, cvFV_int, x_eq, eqGV_bool, x_fbits, fbV_f, x_ffrom, ffV_i, pickV_t, pickV_f, opG_ok, opR_some', put_some, put_none, eval_t, eval_c, eval_g, T.at_set, initEnv_cons, initEnv_nil, at_nil, go_o_nil, go_cond, condG_true, condG_false, go_ret, go_blk, go_skip, go_label, go_exit, exitG_c, exitG_o, exitG_blk, exitG_nil, go_nil, cont_exit, cont_ret', cont_panic', b_add, b_sub, b_mul, b_and, b_or, b_xor, b_andNot, b_eql, b_neq, b_lss, b_leq, b_gtr, b_geq, b_seql, b_sneq, beq_lit, f_eql, f_neq, f_lss, f_leq, f_gtr, f_geq, Nat.reduceEqDiff, Nat.reduceAdd, if_true, if_false, reduceCtorEq, decide_true, decide_false, Bool.not_true, Bool.not_false, Bool.and_self, Bool.and_true, Bool.true_and, Bool.and_false, Bool.false_and, Bool.or_true, Bool.true_or, Bool.or_false, Bool.false_or, List.getElem?_cons_zero, List.getElem?_cons_succ, Int.toNat_natCast, Int.reduceLE, Int.reduceLT, Int.reduceEq, Int.reduceNeg, back1r, back2r, conv_int, conv_bool, conv_float, conv_nan, conv_str, Option.some.injEq, AV.float.injEq, AV.int.injEq, AV.bool.injEq, AV.str.injEq, true_and, and_true, h0, h7, h8]
      refine ⟨?_, Nat.mod_lt _ (by omega), ?_, by omega⟩
      · rw [i64_wrap (by omega) (by omega)]; omega
      · rw [mulmod, ← hm]
        congr 1
        obtain ⟨M, rfl⟩ : ∃ M, N = M + 1 := ⟨N - 1, by omega⟩
        rw [Nat.add_sub_cancel, Nat.pow_succ]; ac_rfl
end Go.Proofs.YtmadknpaljaecaaGreatDoor.Ev.D
namespace Go.Proofs.YtmadknpaljaecaaGreatDoor.Ev.D
open Go Go.Proofs.YtmadknpaljaecaaGreatDoor.Ev
set_option maxRecDepth 100000
set_option linter.all false

theorem ex_lt {x : Nat} (h : x < Fl.inf) : Fl.ex x < 2046 := by
  unfold Fl.ex
  have : Fl.inf = 9218868437227405312 := rfl
  split <;> omega
def eM (x y : Nat) : Nat := min (Fl.ex x) (Fl.ex y)
def nM (x y : Nat) : Nat := Fl.mant y * 2 ^ (Fl.ex y - eM x y)
def zM (x y : Nat) : Nat := (Fl.mant x * 2 ^ (Fl.ex x - eM x y)) % nM x y
theorem V_mod (x y : Nat) : Fl.V x % Fl.V y = zM x y * 2 ^ eM x y := by
  have hx : Fl.V x = (Fl.mant x * 2 ^ (Fl.ex x - eM x y)) * 2 ^ eM x y := by
    rw [Fl.V_eq, Nat.mul_assoc, ← Nat.pow_add]; unfold eM; congr 2; omega
  have hy : Fl.V y = nM x y * 2 ^ eM x y := by
    unfold nM
    rw [Fl.V_eq, Nat.mul_assoc, ← Nat.pow_add]; unfold eM; congr 2; omega
  rw [hx, hy, Nat.mul_mod_mul_right]; rfl
theorem V_pos {y : Nat} (h : 0 < y) : 0 < Fl.V y := by have := Fl.V_lt h; rw [Fl.V_zero] at this; exact this
theorem mant_pos {y : Nat} (h : 0 < y) : 0 < Fl.mant y := by
  have := V_pos h
  rw [Fl.V_eq] at this
  exact Nat.pos_of_mul_pos_right this
theorem nM_pos {x y : Nat} (h : 0 < y) : 0 < nM x y := Nat.mul_pos (mant_pos h) (Nat.two_pow_pos _)
theorem nM_lt {x y : Nat} (h : y ≤ x) : nM x y < 9007199254740992 := by
  by_cases hc : Fl.ex y ≤ Fl.ex x
  · have : Fl.ex y - eM x y = 0 := by unfold eM; omega
    unfold nM; rw [this]; simp; exact Fl.mant_lt
  · have hv := Fl.V_le_iff.2 h
    rw [Fl.V_eq, Fl.V_eq, show Fl.ex y = (Fl.ex y - eM x y) + Fl.ex x by unfold eM; omega, Nat.pow_add, ← Nat.mul_assoc] at hv
    exact Nat.lt_of_le_of_lt (Nat.le_of_mul_le_mul_right hv (Nat.two_pow_pos _)) Fl.mant_lt
theorem zM_lt {x y : Nat} (h : 0 < y) : zM x y < 9007199254740992 := by
  by_cases hc : y ≤ x
  · exact Nat.lt_trans (Nat.mod_lt _ (nM_pos h)) (nM_lt hc)
  · have hlt : x < y := by omega
    by_cases he : Fl.ex y ≤ Fl.ex x
    · have : Fl.ex y - eM x y = 0 := by unfold eM; omega
      refine Nat.lt_trans (Nat.mod_lt _ (nM_pos h)) ?_
      unfold nM; rw [this]; simp; exact Fl.mant_lt
    · have : Fl.ex x - eM x y = 0 := by unfold eM; omega
      unfold zM
      rw [this]
      exact Nat.lt_of_le_of_lt (Nat.mod_le _ _) (by simp; exact Fl.mant_lt)
/-- the rung of the remainder -/
theorem rem_ex {x y : Nat} (hx : x < Fl.inf) (hy : 0 < y) : ∃ r, r < Fl.inf ∧ Fl.V r = Fl.V x % Fl.V y := by
  obtain ⟨r, hr⟩ := Fl.repr (zM x y) (eM x y) (zM_lt hy)
  rw [← V_mod] at hr
  refine ⟨r, ?_, hr⟩
  have : Fl.V r ≤ Fl.V x := by rw [hr]; exact Nat.mod_le _ _
  exact Nat.lt_of_le_of_lt (Fl.V_le_iff.1 this) hx

theorem s67 {a b : Nat} (ha : a < 18446744073709551616) (hb : b < 18446744073709551616) (fa : Fl.rung a < Fl.inf) (fb : Fl.rung b < Fl.inf) (b0 : 0 < Fl.rung b) {r : Nat} (hr : r < Fl.inf) (hv : Fl.V r = Fl.V (Fl.rung a) % Fl.V (Fl.rung b)) (h : Heap) :
    Does C 67 [.float .f64 a, .float .f64 b] h (.float .f64 (Ieee.double.word (Fl.neg a) r)) h := by
  refine does_pure (fn := X67) rfl rfl rfl (mapO_cons conv_float (mapO_cons conv_float mapO_nil)) ?_
  have e1 : decide (Fl.inf < Fl.rung a) = false := decide_eq_false (by omega)
  have e2 : decide (Fl.inf < Fl.rung b) = false := decide_eq_false (by omega)
  have e3 : decide (Fl.rung a = Fl.inf) = false := decide_eq_false (by omega)
  have e4 : decide (Fl.rung b = Fl.inf) = false := decide_eq_false (by omega)
  have e5 : decide (Fl.rung b = 0) = false := decide_eq_false (by omega)
  have e6 := lt_pos (Nat.le_of_lt fa) (Nat.le_of_lt fb)
  by_cases hlt : Fl.rung a < Fl.rung b
  · have hra : r = Fl.rung a := Fl.V_inj (by rw [hv, Nat.mod_eq_of_lt (Fl.V_lt hlt)])
    subst hra
    simp only [go_seq, go_reg, go_block, go_mv, go_p, go_q, go_h, go_g, go_pick, go_grd, grdG_tt, grdG_ff, grdG_tf, grdG_ft, grdG_undef, go_call, List.map_cons, List.map_nil, x_bin, x_un, x_ext, extV_tup, x_cvI, cvIV_int, x_cvF, cvFV_int, x_eq, eqGV_bool, x_fbits, fbV_f, x_ffrom, ffV_i, pickV_t, pickV_f, opG_ok, opR_some', put_some, put_none, eval_t, eval_c, eval_g, T.at_set, initEnv_cons, initEnv_nil, at_nil, go_o_nil, go_cond, condG_true, condG_false, go_ret, go_blk, go_skip, go_label, go_exit, exitG_c, exitG_o, exitG_blk, exitG_nil, go_nil, cont_exit, cont_ret', cont_panic', b_add, b_sub, b_mul, b_and, b_or, b_xor, b_andNot, b_eql, b_neq, b_lss, b_leq, b_gtr, b_geq, b_seql, b_sneq, beq_lit, f_eql, f_neq, f_lss, f_leq, f_gtr, f_geq, Nat.reduceEqDiff, Nat.reduceAdd, if_true, if_false, reduceCtorEq, decide_true, decide_false, Bool.not_true, Bool.not_false, Bool.and_self, Bool.and_true, Bool.true_and, Bool.and_false, Bool.false_and, Bool.or_true, Bool.true_or, Bool.or_false, Bool.false_or, List.getElem?_cons_zero, List.getElem?_cons_succ, Int.toNat_natCast, Int.reduceLE, Int.reduceLT, Int.reduceEq, Int.reduceNeg, back1r, back2r, conv_int, conv_bool, conv_float, conv_nan, conv_str, Option.some.injEq, AV.float.injEq, AV.int.injEq, AV.bool.injEq, AV.str.injEq, true_and, and_true, X67, neq_self, e1, e2, callG_of (s28 ha _), callG_of (s28 hb _), e3, e4, eqz, e5, callG_of (s29 ha _), callG_of (s29 hb _), e6, decide_eq_true hlt]
    exact (Fl.word_split ha).symm
  · have hle : Fl.rung b ≤ Fl.rung a := by omega
    have hfa : Fl.rung a < 9218868437227405312 := fa
    have hfb : Fl.rung b < 9218868437227405312 := fb
    have q1 := ex_lt fa
    have q2 := ex_lt fb
    have q3 : Fl.mant (Fl.rung a) < 9007199254740992 := Fl.mant_lt
    have q4 : Fl.mant (Fl.rung b) < 9007199254740992 := Fl.mant_lt
    have hn0 := nM_pos (x := Fl.rung a) b0
    have hnl := nM_lt hle
    rw [V_mod] at hv
    have loop := l67 (a := a) (n := nM (Fl.rung a) (Fl.rung b)) (z := zM (Fl.rung a) (Fl.rung b)) (e := eM (Fl.rung a) (Fl.rung b)) ha hnl hr hv (by unfold eM; omega) (Nat.mod_lt _ hn0) (Fl.ex (Fl.rung a) - eM (Fl.rung a) (Fl.rung b))
    simp only [go_seq, go_reg, go_block, go_mv, go_p, go_q, go_h, go_g, go_pick, go_grd, grdG_tt, grdG_ff, grdG_tf, grdG_ft, grdG_undef, go_call, List.map_cons, List.map_nil, x_bin, x_un, x_ext, extV_tup, x_cvI, cvIV_int, x_cvF, cvFV_int, x_eq, eqGV_bool, x_fbits, fbV_f, x_ffrom, ffV_i, pickV_t, pickV_f, opG_ok, opR_some', put_some, put_none, eval_t, eval_c, eval_g, T.at_set, initEnv_cons, initEnv_nil, at_nil, go_o_nil, go_cond, condG_true, condG_false, go_ret, go_blk, go_skip, go_label, go_exit, exitG_c, exitG_o, exitG_blk, exitG_nil, go_nil, cont_exit, cont_ret', cont_panic', b_add, b_sub, b_mul, b_and, b_or, b_xor, b_andNot, b_eql, b_neq, b_lss, b_leq, b_gtr, b_geq, b_seql, b_sneq, beq_lit, f_eql, f_neq, f_lss, f_leq, f_gtr, f_geq, Nat.reduceEqDiff, Nat.reduceAdd, if_true, if_false, reduceCtorEq, decide_true, decide_false, Bool.not_true, Bool.not_false, Bool.and_self, Bool.and_true, Bool.true_and, Bool.and_false, Bool.false_and, Bool.or_true, Bool.true_or, Bool.or_false, Bool.false_or, List.getElem?_cons_zero, List.getElem?_cons_succ, Int.toNat_natCast, Int.reduceLE, Int.reduceLT, Int.reduceEq, Int.reduceNeg, back1r, back2r, conv_int, conv_bool, conv_float, conv_nan, conv_str, Option.some.injEq, AV.float.injEq, AV.int.injEq, AV.bool.injEq, AV.str.injEq, true_and, and_true, X67, neq_self, e1, e2, callG_of (s28 ha _), callG_of (s28 hb _), e3, e4, eqz, e5, callG_of (s29 ha _), callG_of (s29 hb _), e6, decide_eq_false hlt, callG_of (s118 hfa _), callG_of (s118 hfb _), condG_dec]
    have fin : ∀ env : T AV, env.at 0 = .float .f64 a → env.at 5 = .int .u64 ((Fl.mant (Fl.rung a) % nM (Fl.rung a) (Fl.rung b) : Nat) : Int) → env.at 6 = .int .i64 ((Fl.ex (Fl.rung a) : Int) - 1074) → env.at 7 = .int .u64 (nM (Fl.rung a) (Fl.rung b) : Int) → env.at 8 = .int .i64 ((eM (Fl.rung a) (Fl.rung b) : Int) - 1074) →
        GoP C [.c (.loop B67), .blk 1, .c R67] env .empty (Back [.tmp 4] true (.float .f64 (Ieee.double.word (Fl.neg a) r))) := fun env h0 h5 h6 h7 h8 => by
      refine loop env .empty ⟨Fl.mant (Fl.rung a) % nM (Fl.rung a) (Fl.rung b), h0, h5, ?_, h7, h8, Nat.mod_lt _ hn0, ?_, by omega, rfl⟩
      · rw [h6]; congr 1; unfold eM; omega
      · rw [mulmod]; rfl
    refine ⟨fun hj => ?_, fun hj => ?_⟩
    · have he : eM (Fl.rung a) (Fl.rung b) = Fl.ex (Fl.rung a) := by unfold eM; omega
      have hd : Fl.ex (Fl.rung b) - eM (Fl.rung a) (Fl.rung b) = Fl.ex (Fl.rung b) - Fl.ex (Fl.rung a) := by rw [he]
      have hnM : nM (Fl.rung a) (Fl.rung b) = Fl.mant (Fl.rung b) * 2 ^ (Fl.ex (Fl.rung b) - Fl.ex (Fl.rung a)) := by unfold nM; rw [hd]
      have hdl : Fl.ex (Fl.rung b) - Fl.ex (Fl.rung a) < 53 := by
        have h1 : 2 ^ (Fl.ex (Fl.rung b) - Fl.ex (Fl.rung a)) ≤ Fl.mant (Fl.rung b) * 2 ^ (Fl.ex (Fl.rung b) - Fl.ex (Fl.rung a)) := Nat.le_mul_of_pos_left _ (mant_pos b0)
        rw [← hnM] at h1
        have h2 : 2 ^ (Fl.ex (Fl.rung b) - Fl.ex (Fl.rung a)) < 2 ^ 53 := Nat.lt_of_le_of_lt h1 hnl
        exact (Nat.pow_lt_pow_iff_right (a := 2) (by decide)).1 h2
      have hs : binV .shl (.int .u64 (Fl.mant (Fl.rung b) : Int)) (.int .u64 (wrapF .u64 (wrapF .i64 ((Fl.ex (Fl.rung b) : Int) - 1074 - ((Fl.ex (Fl.rung a) : Int) - 1074))))) = some (.int .u64 (nM (Fl.rung a) (Fl.rung b) : Int)) := by
        rw [i64_wrap (by omega) (by omega), show (Fl.ex (Fl.rung b) : Int) - 1074 - ((Fl.ex (Fl.rung a) : Int) - 1074) = ((Fl.ex (Fl.rung b) - Fl.ex (Fl.rung a) : Nat) : Int) by omega, u64_wrap (by omega), b_shl]
        show some (AV.int .u64 (shlF .u64 _ (min _ 64))) = _
        rw [Nat.min_eq_left (by omega), shlF_nat, ← hnM, u64_wrap (by omega)]
      have hb0 : ((nM (Fl.rung a) (Fl.rung b) : Nat) : Int) ≠ 0 := by omega
      simp only [go_seq, go_reg, go_block, go_mv, go_p, go_q, go_h, go_g, go_pick, go_grd, grdG_tt, grdG_ff, grdG_tf, grdG_ft, grdG_undef, go_call, List.map_cons, List.map_nil, x_bin, x_un, x_ext, extV_tup, x_cvI, cvIV_int, x_cvF, cvFV_int, x_eq, eqGV_bool, x_fbits, fbV_f, x_ffrom, ffV_i, pickV_t, pickV_f, opG_ok, opR_some', put_some, put_none, eval_t, eval_c, eval_g, T.at_set, initEnv_cons, initEnv_nil, at_nil, go_o_nil, go_cond, condG_true, condG_false, go_ret, go_blk, go_skip, go_label, go_exit, exitG_c, exitG_o, exitG_blk, exitG_nil, go_nil, cont_exit, cont_ret', cont_panic', b_add, b_sub, b_mul, b_and, b_or, b_xor, b_andNot, b_eql, b_neq, b_lss, b_leq, b_gtr, b_geq, b_seql, b_sneq, beq_lit, f_eql, f_neq, f_lss, f_leq, f_gtr, f_geq, Nat.reduceEqDiff, Nat.reduceAdd, if_true, if_false, reduceCtorEq, decide_true, decide_false, Bool.not_true, Bool.not_false, Bool.and_self, Bool.and_true, Bool.true_and, Bool.and_false, Bool.false_and, Bool.or_true, Bool.true_or, Bool.or_false, Bool.false_or, List.getElem?_cons_zero, List.getElem?_cons_succ, Int.toNat_natCast, Int.reduceLE, Int.reduceLT, Int.reduceEq, Int.reduceNeg, back1r, back2r, conv_int, conv_bool, conv_float, conv_nan, conv_str, Option.some.injEq, AV.float.injEq, AV.int.injEq, AV.bool.injEq, AV.str.injEq, true_and, and_true, hs, b_rem hb0, tmod_nat]
      refine fin _ ?_ ?_ ?_ ?_ ?_ <;> simp only [go_seq, go_reg, go_block, go_mv, go_p, go_q, go_h, go_g, go_pick, go_grd, grdG_tt, grdG_ff, grdG_tf, grdG_ft, grdG_undef, go_call, List.map_cons, List.map_nil, x_bin, x_un, x_ext, extV_tup, x_cvI, cvIV_int, x_cvF, cvFV_int, x_eq, eqGV_bool, x_fbits, fbV_f, x_ffrom, ffV_i, pickV_t, pickV_f, opG_ok, opR_some', put_some, put_none, eval_t, eval_c, eval_g, T.at_set, initEnv_cons, initEnv_nil, at_nil, go_o_nil, go_cond, condG_true, condG_false, go_ret, go_blk, go_skip, go_label, go_exit, exitG_c, exitG_o, exitG_blk, exitG_nil, go_nil, cont_exit, cont_ret', cont_panic', b_add, b_sub, b_mul, b_and, b_or, b_xor, b_andNot, b_eql, b_neq, b_lss, b_leq, b_gtr, b_geq, b_seql, b_sneq, beq_lit, f_eql, f_neq, f_lss, f_leq, f_gtr, f_geq, Nat.reduceEqDiff, Nat.reduceAdd, if_true, if_false, reduceCtorEq, decide_true, decide_false, Bool.not_true, Bool.not_false, Bool.and_self, Bool.and_true, Bool.true_and, Bool.and_false, Bool.false_and, Bool.or_true, Bool.true_or, Bool.or_false, Bool.false_or, List.getElem?_cons_zero, List.getElem?_cons_succ, Int.toNat_natCast, Int.reduceLE, Int.reduceLT, Int.reduceEq, Int.reduceNeg, back1r, back2r, conv_int, conv_bool, conv_float, conv_nan, conv_str, Option.some.injEq, AV.float.injEq, AV.int.injEq, AV.bool.injEq, AV.str.injEq, true_and, and_true, he]
    · have he : eM (Fl.rung a) (Fl.rung b) = Fl.ex (Fl.rung b) := by unfold eM; omega
      have hn : nM (Fl.rung a) (Fl.rung b) = Fl.mant (Fl.rung b) := by unfold nM; rw [he]; simp
      have hb0 : ((Fl.mant (Fl.rung b) : Nat) : Int) ≠ 0 := by rw [← hn]; omega
      simp only [go_seq, go_reg, go_block, go_mv, go_p, go_q, go_h, go_g, go_pick, go_grd, grdG_tt, grdG_ff, grdG_tf, grdG_ft, grdG_undef, go_call, List.map_cons, List.map_nil, x_bin, x_un, x_ext, extV_tup, x_cvI, cvIV_int, x_cvF, cvFV_int, x_eq, eqGV_bool, x_fbits, fbV_f, x_ffrom, ffV_i, pickV_t, pickV_f, opG_ok, opR_some', put_some, put_none, eval_t, eval_c, eval_g, T.at_set, initEnv_cons, initEnv_nil, at_nil, go_o_nil, go_cond, condG_true, condG_false, go_ret, go_blk, go_skip, go_label, go_exit, exitG_c, exitG_o, exitG_blk, exitG_nil, go_nil, cont_exit, cont_ret', cont_panic', b_add, b_sub, b_mul, b_and, b_or, b_xor, b_andNot, b_eql, b_neq, b_lss, b_leq, b_gtr, b_geq, b_seql, b_sneq, beq_lit, f_eql, f_neq, f_lss, f_leq, f_gtr, f_geq, Nat.reduceEqDiff, Nat.reduceAdd, if_true, if_false, reduceCtorEq, decide_true, decide_false, Bool.not_true, Bool.not_false, Bool.and_self, Bool.and_true, Bool.true_and, Bool.and_false, Bool.false_and, Bool.or_true, Bool.true_or, Bool.or_false, Bool.false_or, List.getElem?_cons_zero, List.getElem?_cons_succ, Int.toNat_natCast, Int.reduceLE, Int.reduceLT, Int.reduceEq, Int.reduceNeg, back1r, back2r, conv_int, conv_bool, conv_float, conv_nan, conv_str, Option.some.injEq, AV.float.injEq, AV.int.injEq, AV.bool.injEq, AV.str.injEq, true_and, and_true, b_rem hb0, tmod_nat]
      refine fin _ ?_ ?_ ?_ ?_ ?_ <;> simp only [go_seq, go_reg, go_block, go_mv, go_p, go_q, go_h, go_g, go_pick, go_grd, grdG_tt, grdG_ff, grdG_tf, grdG_ft, grdG_undef, go_call, List.map_cons, List.map_nil, x_bin, x_un, x_ext, extV_tup, x_cvI, cvIV_int, x_cvF, cvFV_int, x_eq, eqGV_bool, x_fbits, fbV_f, x_ffrom, ffV_i, pickV_t, pickV_f, opG_ok, opR_some', put_some, put_none, eval_t, eval_c, eval_g, T.at_set, initEnv_cons, initEnv_nil, at_nil, go_o_nil, go_cond, condG_true, condG_false, go_ret, go_blk, go_skip, go_label, go_exit, exitG_c, exitG_o, exitG_blk, exitG_nil, go_nil, cont_exit, cont_ret', cont_panic', b_add, b_sub, b_mul, b_and, b_or, b_xor, b_andNot, b_eql, b_neq, b_lss, b_leq, b_gtr, b_geq, b_seql, b_sneq, beq_lit, f_eql, f_neq, f_lss, f_leq, f_gtr, f_geq, Nat.reduceEqDiff, Nat.reduceAdd, if_true, if_false, reduceCtorEq, decide_true, decide_false, Bool.not_true, Bool.not_false, Bool.and_self, Bool.and_true, Bool.true_and, Bool.and_false, Bool.false_and, Bool.or_true, Bool.true_or, Bool.or_false, Bool.false_or, List.getElem?_cons_zero, List.getElem?_cons_succ, Int.toNat_natCast, Int.reduceLE, Int.reduceLT, Int.reduceEq, Int.reduceNeg, back1r, back2r, conv_int, conv_bool, conv_float, conv_nan, conv_str, Option.some.injEq, AV.float.injEq, AV.int.injEq, AV.bool.injEq, AV.str.injEq, true_and, and_true, hn, he]

/-! the reference's remainder -/
def A68 : XCode := condA (seqT 1 (seqH (seqT 3 X68.body)))
def L68a : XCode := loopB (blkB (seqT 1 (seqH (seqT 1 A68))))
def L68b : XCode := loopB (blkB (seqT 1 (seqH (seqT 4 X68.body))))
def I68a (m n z j k D N : Nat) (env : T AV) (h : Heap) : Prop :=
  ∃ t i : Nat, env.at 5 = .int .i64 (t : Int) ∧ env.at 6 = .int .i64 ((k : Int) - 1074) ∧ env.at 7 = .int .i64 (n : Int) ∧ env.at 8 = .int .i64 ((j : Int) - 1074) ∧ env.at 9 = .int .i64 (i : Int) ∧ i + N = D ∧ t < n ∧ (t * 2 ^ N) % n = z ∧ h = .empty
theorem l68a {m n z j k r : Nat} (hn : n < 9007199254740992) (hr : r < Fl.inf) (hv : Fl.V r = z * 2 ^ j) (hk : k < 2047) (hjk : j ≤ k) (hz : z < n) (N : Nat) (env : T AV) (h : Heap) (hI : I68a m n z j k (k - j) N env h) :
    GoP C [.c (.loop L68a), .blk 0, .c (seqT 2 A68), .c (seqT 4 X68.body)] env h (Back [.tmp 4] true (.float .f64 r)) := by
  refine go_loop (I68a m n z j k (k - j)) hI ?_
  clear hI
  rintro N env h ⟨t, i, h5, h6, h7, h8, h9, hi, ht, hm, rfl⟩
  have out : t = z → Does C 119 [.float .f64 (FloatKind.f64.nearest (t : Int)), .int .i64 ((j : Int) - 1074)] .empty (.float .f64 r) .empty := fun e1 => by
    subst e1
    rw [nearest_cast]
    exact s119 (by omega) (by omega) (by omega) hr (by rw [hv]; congr 2; omega) _
  have hw : wrapF .i64 ((k : Int) - 1074 - ((j : Int) - 1074)) = ((k - j : Nat) : Int) := by rw [i64_wrap (by omega) (by omega)]; omega
  simp only [L68a, A68, X68, seqT, seqH, blkB, loopB, condA]
  by_cases hN0 : N = 0
  · subst hN0
    have htT : t = z := by rw [← hm]; simp [Nat.mod_eq_of_lt ht]
    simp only [go_seq, go_reg, go_block, go_mv, go_p, go_q, go_h, go_g, go_pick, go_grd, grdG_tt, grdG_ff, grdG_tf, grdG_ft, grdG_undef, go_call, List.map_cons, List.map_nil, x_bin, x_un, x_ext, extV_tup, x_cvI, cvIV_int, x_cvF, cvFV_int, x_eq, eqGV_bool, x_fbits, fbV_f, x_ffrom, ffV_i, pickV_t, pickV_f, opG_ok, opR_some', put_some, put_none, eval_t, eval_c, eval_g, T.at_set, initEnv_cons, initEnv_nil, at_nil, go_o_nil, go_cond, condG_true, condG_false, go_ret, go_blk, go_skip, go_label, go_exit, exitG_c, exitG_o, exitG_blk, exitG_nil, go_nil, cont_exit, cont_ret', cont_panic', b_add, b_sub, b_mul, b_and, b_or, b_xor, b_andNot, b_eql, b_neq, b_lss, b_leq, b_gtr, b_geq, b_seql, b_sneq, beq_lit, f_eql, f_neq, f_lss, f_leq, f_gtr, f_geq, Nat.reduceEqDiff, Nat.reduceAdd, if_true, if_false, reduceCtorEq, decide_true, decide_false, Bool.not_true, Bool.not_false, Bool.and_self, Bool.and_true, Bool.true_and, Bool.and_false, Bool.false_and, Bool.or_true, Bool.true_or, Bool.or_false, Bool.false_or, List.getElem?_cons_zero, List.getElem?_cons_succ, Int.toNat_natCast, Int.reduceLE, Int.reduceLT, Int.reduceEq, Int.reduceNeg, back1r, back2r, conv_int, conv_bool, conv_float, conv_nan, conv_str, Option.some.injEq, AV.float.injEq, AV.int.injEq, AV.bool.injEq, AV.str.injEq, true_and, and_true, h5, h6, h7, h8, h9, hw, decide_eq_false (show ¬ ((i : Int) < ((k - j : Nat) : Int)) by omega), callG_of (out htT)]
  · have hw2 : wrapF .i64 ((t : Int) * 2) = ((t * 2 : Nat) : Int) := by rw [i64_wrap (by omega) (by omega)]; rfl
    simp only [go_seq, go_reg, go_block, go_mv, go_p, go_q, go_h, go_g, go_pick, go_grd, grdG_tt, grdG_ff, grdG_tf, grdG_ft, grdG_undef, go_call, List.map_cons, List.map_nil, x_bin, x_un, x_ext, extV_tup, x_cvI, cvIV_int, x_cvF, cvFV_int, x_eq, eqGV_bool, x_fbits, fbV_f, x_ffrom, ffV_i, pickV_t, pickV_f, opG_ok, opR_some', put_some, put_none, eval_t, eval_c, eval_g, T.at_set, initEnv_cons, initEnv_nil, at_nil, go_o_nil, go_cond, condG_true, condG_false, go_ret, go_blk, go_skip, go_label, go_exit, exitG_c, exitG_o, exitG_blk, exitG_nil, go_nil, cont_exit, cont_ret', cont_panic', b_add, b_sub, b_mul, b_and, b_or, b_xor, b_andNot, b_eql, b_neq, b_lss, b_leq, b_gtr, b_geq, b_seql, b_sneq, beq_lit, f_eql, f_neq, f_lss, f_leq, f_gtr, f_geq, Nat.reduceEqDiff, Nat.reduceAdd, if_true, if_false, reduceCtorEq, decide_true, decide_false, Bool.not_true, Bool.not_false, Bool.and_self, Bool.and_true, Bool.true_and, Bool.and_false, Bool.false_and, Bool.or_true, Bool.true_or, Bool.or_false, Bool.false_or, List.getElem?_cons_zero, List.getElem?_cons_succ, Int.toNat_natCast, Int.reduceLE, Int.reduceLT, Int.reduceEq, Int.reduceNeg, back1r, back2r, conv_int, conv_bool, conv_float, conv_nan, conv_str, Option.some.injEq, AV.float.injEq, AV.int.injEq, AV.bool.injEq, AV.str.injEq, true_and, and_true, h5, h6, h7, h8, h9, hw, decide_eq_true (show ((i : Int) < ((k - j : Nat) : Int)) by omega), hw2, b_rem (show (n : Int) ≠ 0 by omega), tmod_nat]
    refine ⟨N - 1, by omega, t * 2 % n, i + 1, ?_⟩
    simp only [go_seq, go_reg, go_block, go_mv, go_p, go_q, go_h, go_g, go_pick, go_grd, grdG_tt, grdG_ff, grdG_tf, grdG_ft, grdG_undef, go_call, List.map_cons, List.map_nil, x_bin, x_un, x_ext, extV_tup, x_cvI, cvIV_int, x_cvF, cvFV_int, x_eq, eqGV_bool, x_fbits, fbV_f, x_ffrom, ffV_i, pickV_t, pickV_f, opG_ok, opR_some', put_some, put_none, eval_t, eval_c, eval_g, T.at_set, initEnv_cons, initEnv_nil, at_nil, go_o_nil, go_cond, condG_true, condG_false, go_ret, go_blk, go_skip, go_label, go_exit, exitG_c, exitG_o, exitG_blk, exitG_nil, go_nil, cont_exit, cont_ret', cont_panic', b_add, b_sub, b_mul, b_and, b_or, b_xor, b_andNot, b_eql, b_neq, b_lss, b_leq, b_gtr, b_geq, b_seql, b_sneq, beq_lit, f_eql, f_neq, f_lss, f_leq, f_gtr, f_geq, Nat.reduceEqDiff, Nat.reduceAdd, if_true, if_false, reduceCtorEq, decide_true, decide_false, Bool.not_true, Bool.not_false, Bool.and_self, Bool.and_true, Bool.true_and, Bool.and_false, Bool.false_and, Bool.or_true, Bool.true_or, Bool.or_false, Bool.false_or, List.getElem?_cons_zero, List.getElem?_cons_succ, Int.toNat_natCast, Int.reduceLE, Int.reduceLT, Int.reduceEq, Int.reduceNeg, back1r, back2r, conv_int, conv_bool, conv_float, conv_nan, conv_str, Option.some.injEq, AV.float.injEq, AV.int.injEq, AV.bool.injEq, AV.str.injEq, true_and, and_true, h6, h7, h8]
    refine ⟨?_, by omega, Nat.mod_lt _ (by omega), ?_⟩
    · rw [i64_wrap (by omega) (by omega)]; omega
    · rw [mulmod, ← hm]
      congr 1
      obtain ⟨M, rfl⟩ : ∃ M, N = M + 1 := ⟨N - 1, by omega⟩
      rw [Nat.add_sub_cancel, Nat.pow_succ]; ac_rfl
def I68b (x m n0 j k D N : Nat) (env : T AV) (h : Heap) : Prop :=
  ∃ i : Nat, env.at 0 = .int .u64 (x : Int) ∧ env.at 5 = .int .i64 (m : Int) ∧ env.at 6 = .int .i64 ((k : Int) - 1074) ∧ env.at 7 = .int .i64 ((n0 * 2 ^ i : Nat) : Int) ∧ env.at 8 = .int .i64 ((j : Int) - 1074) ∧ env.at 10 = .int .i64 (i : Int) ∧ i + N = D ∧ n0 * 2 ^ i < 18014398509481984 ∧ h = .empty
theorem l68b {x m n0 j k r : Nat} (hm : m < 9007199254740992) (hn0 : 0 < n0) (hr : r < Fl.inf) (hj : j < 2047) (hjk : k ≤ j) (hlt : m < n0 * 2 ^ (j - k) → r = x) (hge : n0 * 2 ^ (j - k) ≤ m → Fl.V r = (m % (n0 * 2 ^ (j - k))) * 2 ^ k)
    (N : Nat) (env : T AV) (h : Heap) (hI : I68b x m n0 j k (j - k) N env h) :
    GoP C [.c (.loop L68b), .blk 2, .c (seqT 5 X68.body)] env h (Back [.tmp 4] true (.float .f64 r)) := by
  refine go_loop (I68b x m n0 j k (j - k)) hI ?_
  clear hI
  rintro N env h ⟨i, h0, h5, h6, h7, h8, h10, hi, hb, rfl⟩
  have hw : wrapF .i64 ((j : Int) - 1074 - ((k : Int) - 1074)) = ((j - k : Nat) : Int) := by rw [i64_wrap (by omega) (by omega)]; omega
  have hpow : n0 * 2 ^ i ≤ n0 * 2 ^ (j - k) := Nat.mul_le_mul_left _ (Nat.pow_le_pow_right (by decide) (by omega))
  have hpos : 0 < n0 * 2 ^ i := Nat.mul_pos hn0 (Nat.two_pow_pos _)
  simp only [L68b, X68, seqT, seqH, blkB, loopB]
  by_cases hgt : m < n0 * 2 ^ i
  · have hrx : r = x := hlt (by omega)
    by_cases hN0 : N = 0
    · simp only [go_seq, go_reg, go_block, go_mv, go_p, go_q, go_h, go_g, go_pick, go_grd, grdG_tt, grdG_ff, grdG_tf, grdG_ft, grdG_undef, go_call, List.map_cons, List.map_nil, x_bin, x_un, x_ext, extV_tup, x_cvI, cvIV_int, x_cvF, cvFV_int, x_eq, eqGV_bool, x_fbits, fbV_f, x_ffrom, ffV_i, pickV_t, pickV_f, opG_ok, opR_some', put_some, put_none, eval_t, eval_c, eval_g, T.at_set, initEnv_cons, initEnv_nil, at_nil, go_o_nil, go_cond, condG_true, condG_false, go_ret, go_blk, go_skip, go_label, go_exit, exitG_c, exitG_o, exitG_blk, exitG_nil, go_nil, cont_exit, cont_ret', cont_panic', b_add, b_sub, b_mul, b_and, b_or, b_xor, b_andNot, b_eql, b_neq, b_lss, b_leq, b_gtr, b_geq, b_seql, b_sneq, beq_lit, f_eql, f_neq, f_lss, f_leq, f_gtr, f_geq, Nat.reduceEqDiff, Nat.reduceAdd, if_true, if_false, reduceCtorEq, decide_true, decide_false, Bool.not_true, Bool.not_false, Bool.and_self, Bool.and_true, Bool.true_and, Bool.and_false, Bool.false_and, Bool.or_true, Bool.true_or, Bool.or_false, Bool.false_or, List.getElem?_cons_zero, List.getElem?_cons_succ, Int.toNat_natCast, Int.reduceLE, Int.reduceLT, Int.reduceEq, Int.reduceNeg, back1r, back2r, conv_int, conv_bool, conv_float, conv_nan, conv_str, Option.some.injEq, AV.float.injEq, AV.int.injEq, AV.bool.injEq, AV.str.injEq, true_and, and_true, h0, h5, h6, h7, h8, h10, hw, decide_eq_false (show ¬ ((i : Int) < ((j - k : Nat) : Int)) by omega), decide_eq_true (show ((m : Int) < ((n0 * 2 ^ i : Nat) : Int)) by omega)]
      exact hrx.symm
    · simp only [go_seq, go_reg, go_block, go_mv, go_p, go_q, go_h, go_g, go_pick, go_grd, grdG_tt, grdG_ff, grdG_tf, grdG_ft, grdG_undef, go_call, List.map_cons, List.map_nil, x_bin, x_un, x_ext, extV_tup, x_cvI, cvIV_int, x_cvF, cvFV_int, x_eq, eqGV_bool, x_fbits, fbV_f, x_ffrom, ffV_i, pickV_t, pickV_f, opG_ok, opR_some', put_some, put_none, eval_t, eval_c, eval_g, T.at_set, initEnv_cons, initEnv_nil, at_nil, go_o_nil, go_cond, condG_true, condG_false, go_ret, go_blk, go_skip, go_label, go_exit, exitG_c, exitG_o, exitG_blk, exitG_nil, go_nil, cont_exit, cont_ret', cont_panic', b_add, b_sub, b_mul, b_and, b_or, b_xor, b_andNot, b_eql, b_neq, b_lss, b_leq, b_gtr, b_geq, b_seql, b_sneq, beq_lit, f_eql, f_neq, f_lss, f_leq, f_gtr, f_geq, Nat.reduceEqDiff, Nat.reduceAdd, if_true, if_false, reduceCtorEq, decide_true, decide_false, Bool.not_true, Bool.not_false, Bool.and_self, Bool.and_true, Bool.true_and, Bool.and_false, Bool.false_and, Bool.or_true, Bool.true_or, Bool.or_false, Bool.false_or, List.getElem?_cons_zero, List.getElem?_cons_succ, Int.toNat_natCast, Int.reduceLE, Int.reduceLT, Int.reduceEq, Int.reduceNeg, back1r, back2r, conv_int, conv_bool, conv_float, conv_nan, conv_str, Option.some.injEq, AV.float.injEq, AV.int.injEq, AV.bool.injEq, AV.str.injEq, true_and, and_true, h0, h5, h6, h7, h8, h10, hw, decide_eq_true (show ((i : Int) < ((j - k : Nat) : Int)) by omega), decide_eq_false (show ¬ (((n0 * 2 ^ i : Nat) : Int) ≤ (m : Int)) by omega), decide_eq_true (show ((m : Int) < ((n0 * 2 ^ i : Nat) : Int)) by omega)]
      exact hrx.symm
  · by_cases hN0 : N = 0
    · have hij : i = j - k := by omega
      subst hij
      have out : Does C 119 [.float .f64 (FloatKind.f64.nearest ((m % (n0 * 2 ^ (j - k)) : Nat) : Int)), .int .i64 ((k : Int) - 1074)] .empty (.float .f64 r) .empty := by
        rw [nearest_cast]
        exact s119 (Nat.lt_of_le_of_lt (Nat.mod_le _ _) hm) (by omega) (by omega) hr (by rw [hge (by omega)]; congr 2; omega) _
      simp only [go_seq, go_reg, go_block, go_mv, go_p, go_q, go_h, go_g, go_pick, go_grd, grdG_tt, grdG_ff, grdG_tf, grdG_ft, grdG_undef, go_call, List.map_cons, List.map_nil, x_bin, x_un, x_ext, extV_tup, x_cvI, cvIV_int, x_cvF, cvFV_int, x_eq, eqGV_bool, x_fbits, fbV_f, x_ffrom, ffV_i, pickV_t, pickV_f, opG_ok, opR_some', put_some, put_none, eval_t, eval_c, eval_g, T.at_set, initEnv_cons, initEnv_nil, at_nil, go_o_nil, go_cond, condG_true, condG_false, go_ret, go_blk, go_skip, go_label, go_exit, exitG_c, exitG_o, exitG_blk, exitG_nil, go_nil, cont_exit, cont_ret', cont_panic', b_add, b_sub, b_mul, b_and, b_or, b_xor, b_andNot, b_eql, b_neq, b_lss, b_leq, b_gtr, b_geq, b_seql, b_sneq, beq_lit, f_eql, f_neq, f_lss, f_leq, f_gtr, f_geq, Nat.reduceEqDiff, Nat.reduceAdd, if_true, if_false, reduceCtorEq, decide_true, decide_false, Bool.not_true, Bool.not_false, Bool.and_self, Bool.and_true, Bool.true_and, Bool.and_false, Bool.false_and, Bool.or_true, Bool.true_or, Bool.or_false, Bool.false_or, List.getElem?_cons_zero, List.getElem?_cons_succ, Int.toNat_natCast, Int.reduceLE, Int.reduceLT, Int.reduceEq, Int.reduceNeg, back1r, back2r, conv_int, conv_bool, conv_float, conv_nan, conv_str, Option.some.injEq, AV.float.injEq, AV.int.injEq, AV.bool.injEq, AV.str.injEq, true_and, and_true, h0, h5, h6, h7, h8, h10, hw, decide_eq_false (show ¬ (((j - k : Nat) : Int) < ((j - k : Nat) : Int)) by omega), decide_eq_false (show ¬ ((m : Int) < ((n0 * 2 ^ (j - k) : Nat) : Int)) by omega), b_rem (show ((n0 * 2 ^ (j - k) : Nat) : Int) ≠ 0 by omega), tmod_nat, callG_of out]
    · have hw2 : wrapF .i64 (((n0 * 2 ^ i : Nat) : Int) * 2) = ((n0 * 2 ^ (i + 1) : Nat) : Int) := by
        rw [i64_wrap (by omega) (by omega), Nat.pow_succ, ← Nat.mul_assoc]; rfl
      simp only [go_seq, go_reg, go_block, go_mv, go_p, go_q, go_h, go_g, go_pick, go_grd, grdG_tt, grdG_ff, grdG_tf, grdG_ft, grdG_undef, go_call, List.map_cons, List.map_nil, x_bin, x_un, x_ext, extV_tup, x_cvI, cvIV_int, x_cvF, cvFV_int, x_eq, eqGV_bool, x_fbits, fbV_f, x_ffrom, ffV_i, pickV_t, pickV_f, opG_ok, opR_some', put_some, put_none, eval_t, eval_c, eval_g, T.at_set, initEnv_cons, initEnv_nil, at_nil, go_o_nil, go_cond, condG_true, condG_false, go_ret, go_blk, go_skip, go_label, go_exit, exitG_c, exitG_o, exitG_blk, exitG_nil, go_nil, cont_exit, cont_ret', cont_panic', b_add, b_sub, b_mul, b_and, b_or, b_xor, b_andNot, b_eql, b_neq, b_lss, b_leq, b_gtr, b_geq, b_seql, b_sneq, beq_lit, f_eql, f_neq, f_lss, f_leq, f_gtr, f_geq, Nat.reduceEqDiff, Nat.reduceAdd, if_true, if_false, reduceCtorEq, decide_true, decide_false, Bool.not_true, Bool.not_false, Bool.and_self, Bool.and_true, Bool.true_and, Bool.and_false, Bool.false_and, Bool.or_true, Bool.true_or, Bool.or_false, Bool.false_or, List.getElem?_cons_zero, List.getElem?_cons_succ, Int.toNat_natCast, Int.reduceLE, Int.reduceLT, Int.reduceEq, Int.reduceNeg, back1r, back2r, conv_int, conv_bool, conv_float, conv_nan, conv_str, Option.some.injEq, AV.float.injEq, AV.int.injEq, AV.bool.injEq, AV.str.injEq, true_and, and_true, h0, h5, h6, h7, h8, h10, hw, decide_eq_true (show ((i : Int) < ((j - k : Nat) : Int)) by omega), decide_eq_true (show (((n0 * 2 ^ i : Nat) : Int) ≤ (m : Int)) by omega), hw2]
      refine ⟨N - 1, by omega, i + 1, ?_⟩
      simp only [go_seq, go_reg, go_block, go_mv, go_p, go_q, go_h, go_g, go_pick, go_grd, grdG_tt, grdG_ff, grdG_tf, grdG_ft, grdG_undef, go_call, List.map_cons, List.map_nil, x_bin, x_un, x_ext, extV_tup, x_cvI, cvIV_int, x_cvF, cvFV_int, x_eq, eqGV_bool, x_fbits, fbV_f, x_ffrom, ffV_i, pickV_t, pickV_f, opG_ok, opR_some', put_some, put_none, eval_t, eval_c, eval_g, T.at_set, initEnv_cons, initEnv_nil, at_nil, go_o_nil, go_cond, condG_true, condG_false, go_ret, go_blk, go_skip, go_label, go_exit, exitG_c, exitG_o, exitG_blk, exitG_nil, go_nil, cont_exit, cont_ret', cont_panic', b_add, b_sub, b_mul, b_and, b_or, b_xor, b_andNot, b_eql, b_neq, b_lss, b_leq, b_gtr, b_geq, b_seql, b_sneq, beq_lit, f_eql, f_neq, f_lss, f_leq, f_gtr, f_geq, Nat.reduceEqDiff, Nat.reduceAdd, if_true, if_false, reduceCtorEq, decide_true, decide_false, Bool.not_true, Bool.not_false, Bool.and_self, Bool.and_true, Bool.true_and, Bool.and_false, Bool.false_and, Bool.or_true, Bool.true_or, Bool.or_false, Bool.false_or, List.getElem?_cons_zero, List.getElem?_cons_succ, Int.toNat_natCast, Int.reduceLE, Int.reduceLT, Int.reduceEq, Int.reduceNeg, back1r, back2r, conv_int, conv_bool, conv_float, conv_nan, conv_str, Option.some.injEq, AV.float.injEq, AV.int.injEq, AV.bool.injEq, AV.str.injEq, true_and, and_true, h0, h5, h6, h7, h8]
      refine ⟨?_, by omega, ?_⟩
      · rw [i64_wrap (by omega) (by omega)]; omega
      · rw [Nat.pow_succ, ← Nat.mul_assoc]; omega
theorem s68 {x y : Nat} (fx : x < Fl.inf) (fy : y < Fl.inf) (y0 : 0 < y) {r : Nat} (hr : r < Fl.inf) (hv : Fl.V r = Fl.V x % Fl.V y) (h : Heap) : Does C 68 [.int .u64 (x : Int), .int .u64 (y : Int)] h (.float .f64 r) h := by
  refine does_pure (fn := X68) rfl rfl rfl (mapO_cons conv_int (mapO_cons conv_int mapO_nil)) ?_
  have hfx : x < 9218868437227405312 := fx
  have hfy : y < 9218868437227405312 := fy
  have q1 := ex_lt fx
  have q2 := ex_lt fy
  have q3 : Fl.mant x < 9007199254740992 := Fl.mant_lt
  have q4 : Fl.mant y < 9007199254740992 := Fl.mant_lt
  have q5 := mant_pos y0
  rw [V_mod] at hv
  simp only [go_seq, go_reg, go_block, go_mv, go_p, go_q, go_h, go_g, go_pick, go_grd, grdG_tt, grdG_ff, grdG_tf, grdG_ft, grdG_undef, go_call, List.map_cons, List.map_nil, x_bin, x_un, x_ext, extV_tup, x_cvI, cvIV_int, x_cvF, cvFV_int, x_eq, eqGV_bool, x_fbits, fbV_f, x_ffrom, ffV_i, pickV_t, pickV_f, opG_ok, opR_some', put_some, put_none, eval_t, eval_c, eval_g, T.at_set, initEnv_cons, initEnv_nil, at_nil, go_o_nil, go_cond, condG_true, condG_false, go_ret, go_blk, go_skip, go_label, go_exit, exitG_c, exitG_o, exitG_blk, exitG_nil, go_nil, cont_exit, cont_ret', cont_panic', b_add, b_sub, b_mul, b_and, b_or, b_xor, b_andNot, b_eql, b_neq, b_lss, b_leq, b_gtr, b_geq, b_seql, b_sneq, beq_lit, f_eql, f_neq, f_lss, f_leq, f_gtr, f_geq, Nat.reduceEqDiff, Nat.reduceAdd, if_true, if_false, reduceCtorEq, decide_true, decide_false, Bool.not_true, Bool.not_false, Bool.and_self, Bool.and_true, Bool.true_and, Bool.and_false, Bool.false_and, Bool.or_true, Bool.true_or, Bool.or_false, Bool.false_or, List.getElem?_cons_zero, List.getElem?_cons_succ, Int.toNat_natCast, Int.reduceLE, Int.reduceLT, Int.reduceEq, Int.reduceNeg, back1r, back2r, conv_int, conv_bool, conv_float, conv_nan, conv_str, Option.some.injEq, AV.float.injEq, AV.int.injEq, AV.bool.injEq, AV.str.injEq, true_and, and_true, X68, callG_of (s107 hfx _), callG_of (s107 hfy _), condG_dec]
  refine ⟨fun hj => ?_, fun hj => ?_⟩
  · have he : eM x y = Fl.ex y := by unfold eM; omega
    have hn : nM x y = Fl.mant y := by unfold nM; rw [he]; simp
    have hb0 : ((Fl.mant y : Nat) : Int) ≠ 0 := by omega
    have hz : zM x y < nM x y := Nat.mod_lt _ (nM_pos y0)
    have loop := l68a (m := Fl.mant x) (n := nM x y) (z := zM x y) (j := Fl.ex y) (k := Fl.ex x) (r := r) (by rw [hn]; exact q4) hr (by rw [hv, he]) (by omega) (by omega) hz (Fl.ex x - Fl.ex y)
    simp only [go_seq, go_reg, go_block, go_mv, go_p, go_q, go_h, go_g, go_pick, go_grd, grdG_tt, grdG_ff, grdG_tf, grdG_ft, grdG_undef, go_call, List.map_cons, List.map_nil, x_bin, x_un, x_ext, extV_tup, x_cvI, cvIV_int, x_cvF, cvFV_int, x_eq, eqGV_bool, x_fbits, fbV_f, x_ffrom, ffV_i, pickV_t, pickV_f, opG_ok, opR_some', put_some, put_none, eval_t, eval_c, eval_g, T.at_set, initEnv_cons, initEnv_nil, at_nil, go_o_nil, go_cond, condG_true, condG_false, go_ret, go_blk, go_skip, go_label, go_exit, exitG_c, exitG_o, exitG_blk, exitG_nil, go_nil, cont_exit, cont_ret', cont_panic', b_add, b_sub, b_mul, b_and, b_or, b_xor, b_andNot, b_eql, b_neq, b_lss, b_leq, b_gtr, b_geq, b_seql, b_sneq, beq_lit, f_eql, f_neq, f_lss, f_leq, f_gtr, f_geq, Nat.reduceEqDiff, Nat.reduceAdd, if_true, if_false, reduceCtorEq, decide_true, decide_false, Bool.not_true, Bool.not_false, Bool.and_self, Bool.and_true, Bool.true_and, Bool.and_false, Bool.false_and, Bool.or_true, Bool.true_or, Bool.or_false, Bool.false_or, List.getElem?_cons_zero, List.getElem?_cons_succ, Int.toNat_natCast, Int.reduceLE, Int.reduceLT, Int.reduceEq, Int.reduceNeg, back1r, back2r, conv_int, conv_bool, conv_float, conv_nan, conv_str, Option.some.injEq, AV.float.injEq, AV.int.injEq, AV.bool.injEq, AV.str.injEq, true_and, and_true, b_rem hb0, tmod_nat]
    refine loop _ .empty ⟨Fl.mant x % Fl.mant y, 0, ?_⟩
    simp only [go_seq, go_reg, go_block, go_mv, go_p, go_q, go_h, go_g, go_pick, go_grd, grdG_tt, grdG_ff, grdG_tf, grdG_ft, grdG_undef, go_call, List.map_cons, List.map_nil, x_bin, x_un, x_ext, extV_tup, x_cvI, cvIV_int, x_cvF, cvFV_int, x_eq, eqGV_bool, x_fbits, fbV_f, x_ffrom, ffV_i, pickV_t, pickV_f, opG_ok, opR_some', put_some, put_none, eval_t, eval_c, eval_g, T.at_set, initEnv_cons, initEnv_nil, at_nil, go_o_nil, go_cond, condG_true, condG_false, go_ret, go_blk, go_skip, go_label, go_exit, exitG_c, exitG_o, exitG_blk, exitG_nil, go_nil, cont_exit, cont_ret', cont_panic', b_add, b_sub, b_mul, b_and, b_or, b_xor, b_andNot, b_eql, b_neq, b_lss, b_leq, b_gtr, b_geq, b_seql, b_sneq, beq_lit, f_eql, f_neq, f_lss, f_leq, f_gtr, f_geq, Nat.reduceEqDiff, Nat.reduceAdd, if_true, if_false, reduceCtorEq, decide_true, decide_false, Bool.not_true, Bool.not_false, Bool.and_self, Bool.and_true, Bool.true_and, Bool.and_false, Bool.false_and, Bool.or_true, Bool.true_or, Bool.or_false, Bool.false_or, List.getElem?_cons_zero, List.getElem?_cons_succ, Int.toNat_natCast, Int.reduceLE, Int.reduceLT, Int.reduceEq, Int.reduceNeg, back1r, back2r, conv_int, conv_bool, conv_float, conv_nan, conv_str, Option.some.injEq, AV.float.injEq, AV.int.injEq, AV.bool.injEq, AV.str.injEq, true_and, and_true, hn]
    refine ⟨rfl, by omega, Nat.mod_lt _ q5, ?_⟩
    rw [mulmod]; unfold zM; rw [he, hn]
  · have he : eM x y = Fl.ex x := by unfold eM; omega
    have hn : nM x y = Fl.mant y * 2 ^ (Fl.ex y - Fl.ex x) := by unfold nM; rw [he]
    have hzm : zM x y = Fl.mant x % nM x y := by unfold zM; rw [he]; simp
    have loop := l68b (x := x) (m := Fl.mant x) (n0 := Fl.mant y) (j := Fl.ex y) (k := Fl.ex x) (r := r) q3 q5 hr (by omega) (by omega) (fun hl => Fl.V_inj (by
      rw [hv, hzm, hn, Nat.mod_eq_of_lt hl, he, ← Fl.V_eq])) (fun hg => by rw [hv, hzm, hn, he]) (Fl.ex y - Fl.ex x)
    refine loop _ .empty ⟨0, ?_⟩
    simp only [go_seq, go_reg, go_block, go_mv, go_p, go_q, go_h, go_g, go_pick, go_grd, grdG_tt, grdG_ff, grdG_tf, grdG_ft, grdG_undef, go_call, List.map_cons, List.map_nil, x_bin, x_un, x_ext, extV_tup, x_cvI, cvIV_int, x_cvF, cvFV_int, x_eq, eqGV_bool, x_fbits, fbV_f, x_ffrom, ffV_i, pickV_t, pickV_f, opG_ok, opR_some', put_some, put_none, eval_t, eval_c, eval_g, T.at_set, initEnv_cons, initEnv_nil, at_nil, go_o_nil, go_cond, condG_true, condG_false, go_ret, go_blk, go_skip, go_label, go_exit, exitG_c, exitG_o, exitG_blk, exitG_nil, go_nil, cont_exit, cont_ret', cont_panic', b_add, b_sub, b_mul, b_and, b_or, b_xor, b_andNot, b_eql, b_neq, b_lss, b_leq, b_gtr, b_geq, b_seql, b_sneq, beq_lit, f_eql, f_neq, f_lss, f_leq, f_gtr, f_geq, Nat.reduceEqDiff, Nat.reduceAdd, if_true, if_false, reduceCtorEq, decide_true, decide_false, Bool.not_true, Bool.not_false, Bool.and_self, Bool.and_true, Bool.true_and, Bool.and_false, Bool.false_and, Bool.or_true, Bool.true_or, Bool.or_false, Bool.false_or, List.getElem?_cons_zero, List.getElem?_cons_succ, Int.toNat_natCast, Int.reduceLE, Int.reduceLT, Int.reduceEq, Int.reduceNeg, back1r, back2r, conv_int, conv_bool, conv_float, conv_nan, conv_str, Option.some.injEq, AV.float.injEq, AV.int.injEq, AV.bool.injEq, AV.str.injEq, true_and, and_true]
    refine ⟨by simp, rfl, by omega, by simp; omega⟩
end Go.Proofs.YtmadknpaljaecaaGreatDoor.Ev.D
namespace Go.Proofs.YtmadknpaljaecaaGreatDoor.Ev
open Go

/-! Continuations that get values written out. -/
def fL {α β : Type} : List α → (List α → β) → β
  | [], k => k []
  | a :: r, k => fL r fun r => k (a :: r)
theorem fL_eq {α β : Type} : ∀ (l : List α) (k : List α → β), fL l k = k l
  | [], k => rfl
  | a :: r, k => by simp only [fL]; exact fL_eq r _
theorem fNat_eq {β : Type} (n : Nat) (k : Nat → β) : fNat n k = k n := by cases n <;> rfl
theorem fInt_eq {β : Type} (n : Int) (k : Int → β) : fInt n k = k n := by cases n <;> simp only [fInt, fNat_eq]

def fAV {β : Type} (v : AV) (k : AV → β) : β := match v with
  | .int kd n => fInt n fun n => k (.int kd n)
  | .bool b => (match b with | true => k (.bool true) | false => k (.bool false))
  | .str s => (match s with | ⟨n, v⟩ => fNat n fun n => fNat v fun v => k (.str ⟨n, v⟩))
  | .float kd b => fNat b fun b => k (.float kd b)
  | .ref b off => fNat b fun b => fNat off fun off => k (.ref b off)
  | .sl b off len es cap => fNat b fun b => fNat off fun off => fNat len fun len => (match cap with
    | none => k (.sl b off len es none)
    | some c => fNat c fun c => k (.sl b off len es (some c)))
  | .agg cs => fL cs fun cs => k (.agg cs)
  | .tup cs => fL cs fun cs => k (.tup cs)
  | .isl w len cs => fNat len fun len => fL cs fun cs => k (.isl w len cs)
  | .iptr w cs => fL cs fun cs => k (.iptr w cs)
  | v => k v
theorem fAV_eq {β : Type} (v : AV) (k : AV → β) : fAV v k = k v := by
  cases v <;> simp only [fAV, fInt_eq, fNat_eq, fL_eq]
  · rename_i b; cases b <;> rfl
  · rename_i cap; cases cap <;> rfl

namespace T
variable {α β : Type}
theorem singleK_eq (v : α) : ∀ (f n : Nat) (k : T α → β), singleK f n v k = k (single f n v)
  | 0, n, k => rfl
  | f + 1, 0, k => rfl
  | f + 1, n + 1, k => by
    simp only [singleK, single]
    cases Nat.beq (n % 2) 0
    · exact singleK_eq v f (n / 2) _
    · exact singleK_eq v f (n / 2) _
theorem setK_eq (v : α) : ∀ (t : T α) (n : Nat) (k : T α → β), t.setK n v k = k (t.set n v)
  | .nil, n, k => singleK_eq v (n + 1) n k
  | .node l x r, 0, k => rfl
  | .node l x r, n + 1, k => by
    simp only [setK, set]
    cases Nat.beq (n % 2) 0
    · exact setK_eq v r (n / 2) _
    · exact setK_eq v l (n / 2) _
end T

def wrKK {β : Type} : List AV → T AV → Nat → (T AV → β) → β
  | [], cs, _, k => k cs
  | v :: r, cs, off, k => fAV v fun v => cs.setK off v fun cs => wrKK r cs (off + 1) k
theorem wrKK_eq {β : Type} : ∀ (l : List AV) (cs : T AV) (off : Nat) (k : T AV → β), wrKK l cs off k = k (wr cs l off)
  | [], cs, off, k => rfl
  | v :: r, cs, off, k => by simp only [wrKK, wr, fAV_eq, T.setK_eq]; exact wrKK_eq r _ _ k

/-- a heap with its new block written out -/
def setH {β : Type} (h : Heap) (b : Nat) (x : Blk) (k : Heap → β) : β := h.t.setK b x fun t => k ⟨t, h.next⟩
theorem setH_eq {β : Type} (h : Heap) (b : Nat) (x : Blk) (k : Heap → β) : setH h b x k = k (h.set b x) := by simp only [setH, T.setK_eq]; rfl
def newH {β : Type} (h : Heap) (x : Blk) (k : Heap → β) : β := h.t.setK h.next x fun t => fNat (h.next + 1) fun n => k ⟨t, n⟩
theorem newH_eq {β : Type} (h : Heap) (x : Blk) (k : Heap → β) : newH h x k = k (h.new x) := by simp only [newH, T.setK_eq, fNat_eq]; rfl
end Go.Proofs.YtmadknpaljaecaaGreatDoor.Ev
namespace Go.Proofs.YtmadknpaljaecaaGreatDoor.Ev
open Go

/-- quick values: what a match looks at first -/
inductive V where
  | i (k : Nat) (n : Int)
  | b (x : Bool)
  | s (x : BStr)
  | r (b off : Nat)
  | o (v : AV)
  deriving Inhabited

def kNo : IntKind → Nat | .i8 => 0 | .i16 => 1 | .i32 => 2 | .i64 => 3 | .u8 => 4 | .u16 => 5 | .u32 => 6 | .u64 => 7
def noK : Nat → IntKind | 0 => .i8 | 1 => .i16 | 2 => .i32 | 3 => .i64 | 4 => .u8 | 5 => .u16 | 6 => .u32 | _ => .u64

noncomputable def V.av (v : V) : AV :=
  V.rec (fun k n => .int (noK k) n) (fun x => .bool x) (fun x => .str x) (fun b off => .ref b off) (fun v => v) v
noncomputable def V.of (v : AV) : V := match v with
  | .int k n => .i (kNo k) n | .bool x => .b x | .str x => .s x | .ref p off => .r p off | v => .o v

noncomputable section
variable {β : Type}

def gR (t : T V) : Nat → V :=
  T.rec (fun _ => .o .undef) (fun _ x _ ihl ihr n => Nat.rec (Option.rec (.o .undef) (fun v => v) x) (fun m _ => Bool.rec (ihr (m / 2)) (ihl (m / 2)) (Nat.beq (m % 2) 0)) n) t
def singleR (f : Nat) : Nat → V → (T V → β) → β :=
  Nat.rec (fun _ _ k => k .nil) (fun _ ih n v k => Nat.rec (k (.node .nil (some v) .nil)) (fun m _ => Bool.rec (ih (m / 2) v fun t => k (.node .nil none t)) (ih (m / 2) v fun t => k (.node t none .nil)) (Nat.beq (m % 2) 0)) n) f
def sR (t : T V) : Nat → V → (T V → β) → β :=
  T.rec (fun n v k => singleR (n + 1) n v k) (fun l x r ihl ihr n v k => Nat.rec (k (.node l (some v) r)) (fun m _ => Bool.rec (ihr (m / 2) v fun t => k (.node l x t)) (ihl (m / 2) v fun t => k (.node t x r)) (Nat.beq (m % 2) 0)) n) t

def fN (n : Nat) (k : Nat → β) : β := Nat.rec (k 0) (fun p _ => k (Nat.succ p)) n
def fI (n : Int) (k : Int → β) : β := Int.rec (fun m => fN m fun m => k (.ofNat m)) (fun m => fN m fun m => k (.negSucc m)) n
def fB (x : Bool) (k : Bool → β) : β := Bool.rec (k false) (k true) x

def fV (v : V) (k : V → β) : β :=
  V.rec (fun kd n => fI n fun n => k (.i kd n)) (fun x => fB x fun x => k (.b x)) (fun s => BStr.rec (fun n v => fN n fun n => fN v fun v => k (.s ⟨n, v⟩)) s)
    (fun b off => fN b fun b => fN off fun off => k (.r b off)) (fun v => fAV v fun v => k (.o v)) v

def evV (C : Ctx) (env : T V) (x : XO) : V :=
  XO.rec (fun n => gR env n) (fun v => V.of v) (fun k => .o (C.glob k)) x
def evA (C : Ctx) (env : T V) (x : XO) : AV := (evV C env x).av

/-- quick wrap at a kind's number -/
def wrK (k : Nat) (n : Int) : Int :=
  Int.rec (fun m => Bool.rec (Bool.rec (wrapF (noK k) (.ofNat m)) (.ofNat (m % 256)) (Nat.beq k 4)) (Bool.rec (wrapF .i64 (.ofNat m)) (.ofNat m) (Nat.blt m 9223372036854775808)) (Nat.beq k 3))
    (fun m => wrapF (noK k) (.negSucc m)) n

/-- integer operations by their numbers -/
def binI (op : BinOp) (k : Nat) (x y : Int) : Option V :=
  BinOp.rec (some (.i k (wrK k (x + y)))) (some (.i k (wrK k (x - y)))) (some (.i k (wrK k (x * y))))
    ((intArith .quo (noK k) x y).map V.of) ((intArith .rem (noK k) x y).map V.of) (some (.i k (andF (noK k) x y))) (some (.i k (orF (noK k) x y))) (some (.i k (xorF (noK k) x y)))
    none none (some (.i k (andNotF (noK k) x y)))
    (some (.b (eqI x y))) (some (.b (not (eqI x y)))) (some (.b (ltI x y))) (some (.b (leI x y))) (some (.b (ltI y x))) (some (.b (leI y x))) op

/-- an operation's result, handed on -/
def okV (o : Option V) (k : V → OpR) : OpR := Option.rec (.no 1) (fun v => k v) o

def slowBin (op : BinOp) (x y : V) (k : V → OpR) : OpR := okV ((binV op x.av y.av).map V.of) k
def isShift (op : BinOp) : Bool := BinOp.rec false false false false false false false false true true false false false false false false false op
def fBin (op : BinOp) (x y : V) (k : V → OpR) : OpR :=
  V.rec (fun kx a => V.rec (fun ky b => Bool.rec (Bool.rec (.no 2) (okV (binI op kx a b) k) (Nat.beq kx ky)) (slowBin op x y k) (isShift op)) (fun _ => slowBin op x y k) (fun _ => slowBin op x y k) (fun _ _ => slowBin op x y k) (fun _ => slowBin op x y k) y)
    (fun _ => slowBin op x y k) (fun _ => slowBin op x y k) (fun _ _ => slowBin op x y k) (fun _ => slowBin op x y k) x

def slowPA (C : Ctx) (env : T V) (h : Heap) (o : PA) (k : V → OpR) : OpR :=
  OpR.rec (fun v _ => k (V.of v)) (fun _ _ => .no 3) (fun w => .no w) (ePA (evA C env) h o)

def fLenS (x : V) (k : V → OpR) : OpR := V.rec (fun _ _ => .no 4) (fun _ => .no 4) (fun s => BStr.rec (fun n _ => k (.i 3 (.ofNat n))) s) (fun _ _ => .no 4) (fun _ => .no 4) x
def fIxS (x i : V) (k : V → OpR) : OpR :=
  V.rec (fun _ _ => .no 5) (fun _ => .no 5) (fun s => V.rec (fun _ n => Int.rec (fun m => Bool.rec (.no 5) (k (.i 4 (.ofNat (s.at_ m)))) (Nat.blt m s.n)) (fun _ => .no 5) n) (fun _ => .no 5) (fun _ => .no 5) (fun _ _ => .no 5) (fun _ => .no 5) i)
    (fun _ _ => .no 5) (fun _ => .no 5) x
def fCvI (kd : IntKind) (x : V) (k : V → OpR) : OpR := V.rec (fun _ n => k (.i (kNo kd) (wrK (kNo kd) n))) (fun _ => .no 6) (fun _ => .no 6) (fun _ _ => .no 6) (fun _ => .no 6) x

def fPA (C : Ctx) (env : T V) (h : Heap) (o : PA) (k : V → OpR) : OpR :=
  PA.rec (fun op x y => fBin op (evV C env x) (evV C env y) k) (fun neg kn x y => slowPA C env h (.eq neg kn x y) k) (fun op x => slowPA C env h (.un op x) k)
    (fun x i => slowPA C env h (.ext x i) k) (fun x => fLenS (evV C env x) k) (fun x => slowPA C env h (.lenSl x) k) (fun x => slowPA C env h (.capSl x) k)
    (fun x => slowPA C env h (.nilchk x) k) (fun off x => slowPA C env h (.fa off x) k) (fun s x i => slowPA C env h (.iaS s x i) k) (fun l s x i => slowPA C env h (.iaA l s x i) k)
    (fun x i => fIxS (evV C env x) (evV C env i) k) (fun kd x => fCvI kd (evV C env x) k) (fun x lo hi => slowPA C env h (.slS x lo hi) k) (fun x => slowPA C env h (.sid x) k) o

abbrev CallF := Nat → List AV → Heap → OpR

def fPick (c : V) (a b : V) (k : V → OpR) : OpR := V.rec (fun _ _ => .no 7) (fun x => Bool.rec (k b) (k a) x) (fun _ => .no 7) (fun _ _ => .no 7) (fun _ => .no 7) c

def fOp (call : CallF) (C : Ctx) (env : T V) (h : Heap) (o : XOp) (k : V → Heap → OpR) (kp : AV → Heap → OpR) : OpR :=
  XOp.rec (fun x => k (evV C env x) h) (fun o => fPA C env h o fun v => k v h) (fun o => OpR.rec (fun v h => k (V.of v) h) kp (fun w => .no w) (eHA (evA C env) h o))
    (fun f args => OpR.rec (fun v h => k (V.of v) h) kp (fun w => .no w) (call f (args.map (evA C env)) h))
    (fun c a b => fPick (evV C env c) (evV C env a) (evV C env b) fun v => k v h)
    (fun o => OpR.rec (fun v h => k (V.of v) h) kp (fun w => .no w) (ePB (evA C env) h o))
    (fun o => OpR.rec (fun v h => k (V.of v) h) kp (fun w => .no w) (eHB (evA C env) h o))
    (fun f args => OpR.rec (fun v h => k (V.of v) h) kp (fun w => .no w) (xop call (evA C env) h (.callv f args)))
    (fun x => OpR.rec (fun v h => k (V.of v) h) kp (fun w => .no w) (xop call (evA C env) h (.panic x))) (.no 8) o

def fGrd (env : T V) (g : Option (Nat × Bool)) (yes no : OpR) : OpR :=
  Option.rec yes (fun p => Prod.rec (fun t b => V.rec (fun _ _ => .no 9) (fun x => Bool.rec (Bool.rec yes no b) (Bool.rec no yes b) x) (fun _ => .no 9) (fun _ _ => .no 9) (fun v => AV.casesOn (motive_1 := fun _ => OpR) v (.no 9) no (fun _ => .no 9) (fun _ _ => .no 9) (fun _ _ => .no 9) (fun _ => .no 9) (fun _ => .no 9) (.no 9) (.no 9) (.no 9) (.no 9) (.no 9) (fun _ => .no 9) (fun _ => .no 9) (fun _ _ => .no 9) (fun _ _ _ _ _ => .no 9) (fun _ _ => .no 9) (fun _ _ _ => .no 9) (fun _ _ => .no 9) (fun _ _ _ => .no 9) (fun _ => .no 9) (fun _ _ _ => .no 9)) (gR env t)) p) g

def fPut (env : T V) (d : Option Nat) (v : V) (k : T V → OpR) : OpR := Option.rec (k env) (fun d => fV v fun v => sR env d v k) d

def fOps (call : CallF) (C : Ctx) (l : List XOper) (kd : XExit → T V → Heap → OpR) : T V → Heap → OpR :=
  List.rec (fun env h => kd .nrm env h)
    (fun o _ ih env h => XOper.rec (fun dst op grd =>
      fGrd env grd (fOp call C env h op (fun v h' => fPut env dst v fun env => ih env h') (fun v h' => kd (.panic v) env h'))
        (fPut env dst (.o .undef) fun env => ih env h)) o) l

/-- what must be asked again -/
structure RecF where
  op : XOp
  env : T V
  lo : Nat
  hi : Nat
  v : V

abbrev KD := T V → Heap → List Heap → List RecF → OpR
def fDraw (call : CallF) (C : Ctx) (l : List (XOper × DI)) (kd : KD) : T V → Heap → List Heap → List RecF → OpR :=
  List.rec (fun env h hs rs => kd env h hs rs)
    (fun p _ ih env h hs rs => Prod.rec (fun o d => XOper.rec (fun dst op grd =>
      fGrd env grd (fOp call C env h op (fun v h' => fPut env dst v fun env' => DI.rec (ih env' h' (h :: hs) rs) (fun lo hi => ih env' h hs (⟨op, env, lo, hi, v⟩ :: rs)) (ih env' h hs rs) d) (fun _ _ => .no 23))
        (fPut env dst (.o .undef) fun env' => DI.rec (ih env' h (h :: hs) rs) (fun _ _ => ih env' h hs rs) (ih env' h hs rs) d)) o) p) l
/-- in every one of these memories the same -/
def fSame (call : CallF) (C : Ctx) (r : RecF) (l : List Heap) (k : OpR) : OpR :=
  List.rec k (fun h _ ih => fOp call C r.env h r.op (fun v _ => Bool.rec (.no 24) ih (avEq depth r.v.av v.av)) (fun _ _ => .no 25)) l
def fAgain (call : CallF) (C : Ctx) (hs : List Heap) (rs : List RecF) (k : OpR) : OpR :=
  List.rec k (fun r _ ih => Bool.rec (fSame call C r (span hs r.lo r.hi) ih) ih (Nat.beq r.lo r.hi)) rs

abbrev KX := XExit → T V → Heap → OpR
def onNrm (e : XExit) (yes no : OpR) : OpR := XExit.rec yes (fun _ => no) (fun _ => no) no (fun _ => no) e

def resF (env : T V) (h : Heap) (l : List XRes) : Option (List AV) :=
  List.rec (some []) (fun r _ ih => XRes.rec (fun t => Option.map ((gR env t).av :: ·) ih)
    (fun t agg n => V.rec (fun _ _ => none) (fun _ => none) (fun _ => none) (fun b off => match h.get b with
      | some (.cells m d cs _ _) => (match asLoad agg (rd m d cs off n) with
        | some v => Option.map (v :: ·) ih
        | none => none)
      | _ => none) (fun _ => none) (gR env t)) r) l

def initF (l : List AV) : Nat → T V → (T V → OpR) → OpR :=
  List.rec (fun _ e k => k e) (fun v _ ih i e k => fV (V.of v) fun v => sR e i v fun e => ih (i + 1) e k) l

def retF (fn : XFn) (f : Nat) (h : Heap) : KX := fun e env h' => match e with
  | .ret | .nrm => (match resF env h' fn.results with
    | some vs => (match mapO (conv false h' depth) vs with | some vs => .ok (one vs) h | none => .no (4000000 + f))
    | none => .no (3000000 + f))
  | .panic v => (match conv false h' depth v with | some v => .panic v h | none => .no (5000000 + f))
  | _ => .no (6000000 + f)
def retE (fn : XFn) (f : Nat) : KX := fun e env h' => match e with
  | .ret | .nrm => (match resF env h' fn.results with
    | some vs => .ok (one vs) h'
    | none => .no (7000000 + f))
  | .panic v => .panic v h'
  | _ => .no (8000000 + f)

def callF (ih : XCode → T V → Heap → KX → OpR) (C : Ctx) : CallF := fun f args h =>
  match C.sum f with
  | some g => g args h
  | none =>
  match C.fns f with
  | none => .no (1000000 + f)
  | some fn => Bool.rec (initF args 0 .nil fun env => ih fn.body env h (retE fn f))
      (match mapO (conv true h depth) args with
      | none => .no (2000000 + f)
      | some args => initF args 0 .nil fun env => ih fn.body env .empty (retF fn f h)) fn.pure

def stepF (ih : XCode → T V → Heap → KX → OpR) (C : Ctx) (c : XCode) (env : T V) (h : Heap) (k : KX) : OpR :=
  XCode.casesOn (motive := fun _ => OpR) c (k .nrm env h)
    (fun ops => fOps (callF ih C) C ops k env h)
    (fun ops => fDraw (callF ih C) C ops (fun env h hs rs => fAgain (callF ih C) C (h :: hs).reverse rs (k .nrm env h)) env h [] [])
    (fun a b => ih a env h fun e env h => onNrm e (ih b env h k) (k e env h))
    (fun c a b => V.rec (fun _ _ => .no 20) (fun x => Bool.rec (ih b env h k) (ih a env h k) x) (fun _ => .no 20) (fun _ _ => .no 20) (fun _ => .no 20) (evV C env c))
    (fun id c => ih c env h fun e env h => XExit.rec (k .nrm env h) (fun i => Bool.rec (k (.exit i) env h) (k .nrm env h) (Nat.beq i id)) (fun l => k (.goto l) env h) (k .ret env h) (fun v => k (.panic v) env h) e)
    (fun c' => ih c' env h fun e env h => onNrm e (ih c env h k) (k e env h))
    (fun id => k (.exit id) env h)
    (fun c => ih (.scopeAt c c) env h k)
    (fun c cur => ih cur env h fun e env h => match e with
      | .goto l => (match findLabel c l with | some r => ih (.scopeAt c r) env h k | none => k (.goto l) env h)
      | e => k e env h)
    (fun _ => k .nrm env h) (fun l => k (.goto l) env h) (k .ret env h) (.no 21)

def exF (C : Ctx) (n : Nat) : XCode → T V → Heap → KX → OpR :=
  Nat.rec (fun _ _ _ _ => .no 22) (fun _ ih => stepF ih C) n
end
end Go.Proofs.YtmadknpaljaecaaGreatDoor.Ev
namespace Go.Proofs.YtmadknpaljaecaaGreatDoor.Ev
open Go
set_option linter.unusedVariables false
set_option linter.unusedSimpArgs false

def OpR.say : OpR → Prop
  | .no _ => False
  | _ => True

theorem gR_eq (t : T V) : ∀ n, gR t n = (t.get n).getD (.o .undef) := by
  induction t with
  | nil => intro n; rfl
  | node l x r ihl ihr =>
    intro n
    cases n with
    | zero => cases x <;> rfl
    | succ m =>
      show (Bool.rec (gR r (m / 2)) (gR l (m / 2)) (Nat.beq (m % 2) 0) : V) = _
      simp only [T.get]
      cases Nat.beq (m % 2) 0
      · exact ihr _
      · exact ihl _

theorem singleR_eq {β : Type} (v : V) : ∀ (f n : Nat) (k : T V → β), singleR f n v k = k (T.single f n v)
  | 0, n, k => rfl
  | f + 1, 0, k => rfl
  | f + 1, n + 1, k => by
    show (Bool.rec (singleR f (n / 2) v fun t => k (.node .nil none t)) (singleR f (n / 2) v fun t => k (.node t none .nil)) (Nat.beq (n % 2) 0) : β) = _
    simp only [T.single]
    cases Nat.beq (n % 2) 0
    · exact singleR_eq v f (n / 2) _
    · exact singleR_eq v f (n / 2) _
theorem sR_eq {β : Type} (t : T V) : ∀ (n : Nat) (v : V) (k : T V → β), sR t n v k = k (t.set n v) := by
  induction t with
  | nil => intro n v k; exact singleR_eq v (n + 1) n k
  | node l x r ihl ihr =>
    intro n v k
    cases n with
    | zero => rfl
    | succ n =>
      show (Bool.rec (sR r (n / 2) v fun t => k (.node l x t)) (sR l (n / 2) v fun t => k (.node t x r)) (Nat.beq (n % 2) 0) : β) = _
      simp only [T.set]
      cases Nat.beq (n % 2) 0
      · exact ihr _ _ _
      · exact ihl _ _ _

theorem fN_eq {β : Type} (n : Nat) (k : Nat → β) : fN n k = k n := by cases n <;> rfl
theorem fI_eq {β : Type} (n : Int) (k : Int → β) : fI n k = k n := by
  cases n with
  | ofNat m => exact fN_eq m fun m => k (.ofNat m)
  | negSucc m => exact fN_eq m fun m => k (.negSucc m)
theorem fB_eq {β : Type} (x : Bool) (k : Bool → β) : fB x k = k x := by cases x <;> rfl
theorem fV_eq {β : Type} (v : V) (k : V → β) : fV v k = k v := by
  cases v with
  | i kd n => exact fI_eq n fun n => k (.i kd n)
  | b x => exact fB_eq x fun x => k (.b x)
  | s x =>
    cases x with
    | mk n v =>
      show fN n (fun n => fN v fun v => k (.s ⟨n, v⟩)) = _
      rw [fN_eq, fN_eq]
  | r b off =>
    show fN b (fun b => fN off fun off => k (.r b off)) = _
    rw [fN_eq, fN_eq]
  | o v => exact fAV_eq v fun v => k (.o v)

theorem noK_kNo (k : IntKind) : noK (kNo k) = k := by cases k <;> rfl
theorem of_av (v : AV) : (V.of v).av = v := by
  cases v <;> try rfl
  rename_i k n
  show AV.int (noK (kNo k)) n = _
  rw [noK_kNo]

/-- quick temporaries tell the slow ones -/
def RE (ev : T V) (env : T AV) : Prop := ∀ t, (gR ev t).av = env.at t

theorem RE.set {ev : T V} {env : T AV} (h : RE ev env) (n : Nat) {v : V} {a : AV} (hv : v.av = a) : RE (ev.set n v) (env.set n a) := by
  intro t
  have h1 := h t
  rw [gR_eq] at h1 ⊢
  have e1 : ∀ (t : T V) (n : Nat) (v : V) (m : Nat), (t.set n v).get m = if m = n then some v else t.get m := T.get_set
  have e2 : ∀ (t : T AV) (n m : Nat) (v : AV), (t.set n v).at m = if m = n then v else t.at m := T.at_set
  rw [e1, e2]
  by_cases hm : t = n
  · rw [if_pos hm, if_pos hm]; exact hv
  · rw [if_neg hm, if_neg hm]; exact h1

theorem evA_eq {C : Ctx} {ev : T V} {env : T AV} (h : RE ev env) (x : XO) : (evV C ev x).av = eval C env x := by
  cases x with
  | t n => exact h n
  | c v => exact of_av v
  | g k => rfl
theorem evA_fun {C : Ctx} {ev : T V} {env : T AV} (h : RE ev env) : evA C ev = eval C env := funext fun x => evA_eq h x
end Go.Proofs.YtmadknpaljaecaaGreatDoor.Ev
namespace Go.Proofs.YtmadknpaljaecaaGreatDoor.Ev
open Go
set_option linter.unusedVariables false
set_option linter.unusedSimpArgs false

theorem wrK_eq (k : Nat) (n : Int) : wrK k n = wrapF (noK k) n := by
  cases n with
  | negSucc m => rfl
  | ofNat m =>
    show (Bool.rec (Bool.rec (wrapF (noK k) (.ofNat m)) (.ofNat (m % 256)) (Nat.beq k 4)) (Bool.rec (wrapF .i64 (.ofNat m)) (.ofNat m) (Nat.blt m 9223372036854775808)) (Nat.beq k 3) : Int) = _
    rcases beq_cases k 3 with ⟨e, eb⟩ | ⟨e, eb⟩ <;> rw [eb]
    · subst e
      show (Bool.rec (wrapF .i64 (.ofNat m)) (.ofNat m) (Nat.blt m 9223372036854775808) : Int) = wrapF .i64 (.ofNat m)
      cases hb : Nat.blt m 9223372036854775808
      · rfl
      · show Int.ofNat m = wrapF .i64 (.ofNat m)
        simp only [wrapF, hb, cond_true]
    · show (Bool.rec (wrapF (noK k) (.ofNat m)) (.ofNat (m % 256)) (Nat.beq k 4) : Int) = _
      rcases beq_cases k 4 with ⟨e2, eb2⟩ | ⟨e2, eb2⟩ <;> rw [eb2]
      subst e2
      rfl

theorem okV_say {o : Option V} {k : V → OpR} (h : (okV o k).say) : ∃ v, o = some v ∧ okV o k = k v := by
  cases o with
  | none => exact h.elim
  | some v => exact ⟨v, rfl, rfl⟩

theorem map_of {o : Option AV} {v : V} (h : o.map V.of = some v) : o = some v.av := by
  cases o with
  | none => cases h
  | some a => cases h; rw [of_av]

theorem binI_ok {op : BinOp} {k : Nat} {x y : Int} {v : V} (h : binI op k x y = some v) : binV op (.int (noK k) x) (.int (noK k) y) = some v.av := by
  have e : op ≠ .shl → op ≠ .shr → binV op (.int (noK k) x) (.int (noK k) y) = intArith op (noK k) x y := by
    intro h1 h2
    cases op <;> first | (exact absurd rfl h1) | (exact absurd rfl h2) | (simp only [binV, if_true])
  cases op
  case shl => cases h
  case shr => cases h
  case quo => rw [e (by simp) (by simp)]; exact map_of h
  case rem => rw [e (by simp) (by simp)]; exact map_of h
  all_goals
    rw [e (by simp) (by simp)]
    have h' := Option.some.inj h
    subst h'
    first
      | rfl
      | (simp only [intArith]; rw [← wrK_eq]; rfl)

theorem slowBin_ok {op : BinOp} {x y : V} {k : V → OpR} (h : (slowBin op x y k).say) : ∃ v, binV op x.av y.av = some v.av ∧ slowBin op x y k = k v := by
  obtain ⟨v, h1, h2⟩ := okV_say h
  exact ⟨v, map_of h1, h2⟩

theorem fBin_ok {op : BinOp} {x y : V} {k : V → OpR} (h : (fBin op x y k).say) : ∃ v, binV op x.av y.av = some v.av ∧ fBin op x y k = k v := by
  cases x with
  | i kx a =>
    cases y with
    | i ky b =>
      have e : fBin op (.i kx a) (.i ky b) k = (Bool.rec (Bool.rec (.no 2) (okV (binI op kx a b) k) (Nat.beq kx ky)) (slowBin op (.i kx a) (.i ky b) k) (isShift op) : OpR) := rfl
      rw [e] at h ⊢
      cases hs : isShift op with
      | true => rw [hs] at h; exact slowBin_ok h
      | false =>
        rw [hs] at h
        rcases beq_cases kx ky with ⟨e2, eb⟩ | ⟨e2, eb⟩
        · simp only [eb] at h ⊢
          subst e2
          obtain ⟨v, h1, h2⟩ := okV_say h
          exact ⟨v, binI_ok h1, h2⟩
        · simp only [eb] at h; exact h.elim
    | _ => exact slowBin_ok h
  | _ => exact slowBin_ok h

theorem rec_say {r : OpR} {k : AV → Heap → OpR} {kp : AV → Heap → OpR} (h : (OpR.rec k kp (fun w => .no w) r : OpR).say) : (∃ v h', r = .ok v h' ∧ (OpR.rec k kp (fun w => .no w) r : OpR) = k v h') ∨ (∃ v h', r = .panic v h' ∧ (OpR.rec k kp (fun w => .no w) r : OpR) = kp v h') := by
  cases r with
  | ok v h' => exact .inl ⟨v, h', rfl, rfl⟩
  | panic v h' => exact .inr ⟨v, h', rfl, rfl⟩
  | no w => exact h.elim

theorem slowPA_ok {C : Ctx} {ev : T V} {env : T AV} (he : RE ev env) {h : Heap} {o : PA} {k : V → OpR} (hs : (slowPA C ev h o k).say) : ∃ v, ePA (eval C env) h o = .ok v.av h ∧ slowPA C ev h o k = k v := by
  have e : slowPA C ev h o k = (OpR.rec (fun v _ => k (V.of v)) (fun _ _ => .no 3) (fun w => .no w) (ePA (evA C ev) h o) : OpR) := rfl
  rw [e] at hs ⊢
  rw [evA_fun he] at hs ⊢
  cases hr : ePA (eval C env) h o with
  | no w => rw [hr] at hs; exact hs.elim
  | panic v h' => rw [hr] at hs; exact hs.elim
  | ok v h' =>
    have := (free_PA _ _ hr).1
    subst this
    exact ⟨V.of v, by rw [of_av], rfl⟩

theorem fPA_ok {C : Ctx} {ev : T V} {env : T AV} (he : RE ev env) {h : Heap} {o : PA} {k : V → OpR} (hs : (fPA C ev h o k).say) : ∃ v, ePA (eval C env) h o = .ok v.av h ∧ fPA C ev h o k = k v := by
  cases o with
  | bin op x y =>
    have e : fPA C ev h (.bin op x y) k = fBin op (evV C ev x) (evV C ev y) k := rfl
    rw [e] at hs ⊢
    obtain ⟨v, h1, h2⟩ := fBin_ok hs
    rw [evA_eq he, evA_eq he] at h1
    exact ⟨v, by simp only [ePA, o_bin, h1, opR], h2⟩
  | lenS x =>
    have e : fPA C ev h (.lenS x) k = fLenS (evV C ev x) k := rfl
    rw [e] at hs ⊢
    have hx := evA_eq (C := C) he x
    cases hv : evV C ev x with
    | s s =>
      cases s with
      | mk n w =>
        rw [hv] at hx
        refine ⟨.i 3 (.ofNat n), ?_, rfl⟩
        simp only [ePA, o_lenS, ← hx]
        rfl
    | _ => rw [hv] at hs; exact hs.elim
  | ixS x i =>
    have e : fPA C ev h (.ixS x i) k = fIxS (evV C ev x) (evV C ev i) k := rfl
    rw [e] at hs ⊢
    have hx := evA_eq (C := C) he x
    have hi := evA_eq (C := C) he i
    cases hv : evV C ev x with
    | s s =>
      rw [hv] at hx hs
      cases hw : evV C ev i with
      | i kd n =>
        rw [hw] at hi hs
        cases n with
        | ofNat m =>
          have e2 : fIxS (.s s) (.i kd (.ofNat m)) k = (Bool.rec (.no 5) (k (.i 4 (.ofNat (s.at_ m)))) (Nat.blt m s.n) : OpR) := rfl
          rw [e2] at hs ⊢
          cases hb : Nat.blt m s.n with
          | false => rw [hb] at hs; exact hs.elim
          | true =>
            refine ⟨.i 4 (.ofNat (s.at_ m)), ?_, rfl⟩
            simp only [ePA, o_ixS, ← hx, ← hi]
            show (match natBelow s.n (.int (noK kd) (.ofNat m)) with | some i => OpR.ok (.int .u8 (.ofNat (s.at_ i))) h | none => .no 15) = _
            simp only [natBelow, hb, cond_true]
            rfl
        | negSucc m => exact hs.elim
      | _ => rw [hw] at hs; exact hs.elim
    | _ => rw [hv] at hs; exact hs.elim
  | cvI kd x =>
    have e : fPA C ev h (.cvI kd x) k = fCvI kd (evV C ev x) k := rfl
    rw [e] at hs ⊢
    have hx := evA_eq (C := C) he x
    cases hv : evV C ev x with
    | i k0 n =>
      rw [hv] at hx
      refine ⟨.i (kNo kd) (wrK (kNo kd) n), ?_, rfl⟩
      simp only [ePA, o_cvI, ← hx]
      show OpR.ok (.int kd (wrapF kd n)) h = OpR.ok (.int (noK (kNo kd)) (wrK (kNo kd) n)) h
      rw [wrK_eq, noK_kNo]
    | _ => rw [hv] at hs; exact hs.elim
  | eq a b c d => exact slowPA_ok he hs
  | un a b => exact slowPA_ok he hs
  | ext a b => exact slowPA_ok he hs
  | lenSl a => exact slowPA_ok he hs
  | capSl a => exact slowPA_ok he hs
  | nilchk a => exact slowPA_ok he hs
  | fa a b => exact slowPA_ok he hs
  | iaS a b c => exact slowPA_ok he hs
  | iaA a b c d => exact slowPA_ok he hs
  | slS a b c => exact slowPA_ok he hs
  | sid a => exact slowPA_ok he hs
end Go.Proofs.YtmadknpaljaecaaGreatDoor.Ev
namespace Go.Proofs.YtmadknpaljaecaaGreatDoor.Ev
open Go
set_option linter.unusedVariables false
set_option linter.unusedSimpArgs false

def CallRel (call : CallF) (callS : CallT) : Prop := ∀ f args h, (call f args h).say → callS f args h = call f args h

theorem recV_say {r : OpR} {k : V → Heap → OpR} {kp : AV → Heap → OpR} (h : (OpR.rec (fun v h => k (V.of v) h) kp (fun w => .no w) r : OpR).say) :
    (∃ v h', r = .ok v.av h' ∧ (OpR.rec (fun v h => k (V.of v) h) kp (fun w => .no w) r : OpR) = k v h') ∨ (∃ v h', r = .panic v h' ∧ (OpR.rec (fun v h => k (V.of v) h) kp (fun w => .no w) r : OpR) = kp v h') := by
  cases r with
  | ok v h' => exact .inl ⟨V.of v, h', by rw [of_av], rfl⟩
  | panic v h' => exact .inr ⟨v, h', rfl, rfl⟩
  | no w => exact h.elim

theorem fOp_ok {call : CallF} {callS : CallT} (hcall : CallRel call callS) {C : Ctx} {ev : T V} {env : T AV} (he : RE ev env) {h : Heap} {o : XOp} {k : V → Heap → OpR} {kp : AV → Heap → OpR} (hs : (fOp call C ev h o k kp).say) :
    (∃ v h', xop callS (eval C env) h o = .ok v.av h' ∧ fOp call C ev h o k kp = k v h') ∨ (∃ v h', xop callS (eval C env) h o = .panic v h' ∧ fOp call C ev h o k kp = kp v h') := by
  cases o with
  | mv x => exact .inl ⟨evV C ev x, h, by simp only [xop, evA_eq he], rfl⟩
  | p o =>
    have e : fOp call C ev h (.p o) k kp = fPA C ev h o (fun v => k v h) := rfl
    rw [e] at hs ⊢
    obtain ⟨v, h1, h2⟩ := fPA_ok he hs
    exact .inl ⟨v, h, h1, h2⟩
  | h o =>
    have e : fOp call C ev h (.h o) k kp = (OpR.rec (fun v h => k (V.of v) h) kp (fun w => .no w) (eHA (evA C ev) h o) : OpR) := rfl
    rw [e] at hs ⊢
    rw [evA_fun he] at hs ⊢
    exact recV_say hs
  | call f args =>
    have e : fOp call C ev h (.call f args) k kp = (OpR.rec (fun v h => k (V.of v) h) kp (fun w => .no w) (call f (args.map (evA C ev)) h) : OpR) := rfl
    rw [e] at hs ⊢
    rw [evA_fun he] at hs ⊢
    have hc : (call f (args.map (eval C env)) h).say := by
      cases hr : call f (args.map (eval C env)) h with
      | no w => rw [hr] at hs; exact hs
      | ok _ _ => trivial
      | panic _ _ => trivial
    have := hcall _ _ _ hc
    simp only [xop, this]
    exact recV_say hs
  | pick c a b =>
    have e : fOp call C ev h (.pick c a b) k kp = fPick (evV C ev c) (evV C ev a) (evV C ev b) (fun v => k v h) := rfl
    rw [e] at hs ⊢
    have hx := evA_eq (C := C) he c
    cases hv : evV C ev c with
    | b x =>
      rw [hv] at hx
      refine .inl ?_
      cases x with
      | true => exact ⟨evV C ev a, h, by simp only [xop, ← hx, evA_eq he]; rfl, rfl⟩
      | false => exact ⟨evV C ev b, h, by simp only [xop, ← hx, evA_eq he]; rfl, rfl⟩
    | _ => rw [hv] at hs; exact hs.elim
  | q o =>
    have e : fOp call C ev h (.q o) k kp = (OpR.rec (fun v h => k (V.of v) h) kp (fun w => .no w) (ePB (evA C ev) h o) : OpR) := rfl
    rw [e] at hs ⊢
    rw [evA_fun he] at hs ⊢
    exact recV_say hs
  | g o =>
    have e : fOp call C ev h (.g o) k kp = (OpR.rec (fun v h => k (V.of v) h) kp (fun w => .no w) (eHB (evA C ev) h o) : OpR) := rfl
    rw [e] at hs ⊢
    rw [evA_fun he] at hs ⊢
    exact recV_say hs
  | callv f args =>
    have e : fOp call C ev h (.callv f args) k kp = (OpR.rec (fun v h => k (V.of v) h) kp (fun w => .no w) (xop call (evA C ev) h (.callv f args)) : OpR) := rfl
    rw [e] at hs ⊢
    rw [evA_fun he] at hs ⊢
    have hc : xop callS (eval C env) h (.callv f args) = xop call (eval C env) h (.callv f args) := by
      simp only [xop] at hs ⊢
      split
      · rename_i g a b hg
        rw [hg] at hs
        refine hcall _ _ _ ?_
        cases hr : call g (a ++ args.map (eval C env) ++ b) h with
        | no w => simp only [hr] at hs; exact hs.elim
        | ok _ _ => trivial
        | panic _ _ => trivial
      · rfl
    rw [hc]
    exact recV_say hs
  | panic x =>
    have e : fOp call C ev h (.panic x) k kp = (OpR.rec (fun v h => k (V.of v) h) kp (fun w => .no w) (xop call (evA C ev) h (.panic x)) : OpR) := rfl
    rw [e] at hs ⊢
    rw [evA_fun he] at hs ⊢
    exact recV_say hs
  | bad => exact hs.elim

theorem fGrd_ok {ev : T V} {env : T AV} (he : RE ev env) {g : Option (Nat × Bool)} {yes no : OpR} (hs : (fGrd ev g yes no).say) : ∃ b, wanted env g = some b ∧ fGrd ev g yes no = (if b = true then yes else no) := by
  cases g with
  | none => exact ⟨true, rfl, rfl⟩
  | some p =>
    obtain ⟨t, b⟩ := p
    have hx := he t
    simp only [wanted, ← hx]
    cases hv : gR ev t with
    | b x =>
      have e : fGrd ev (some (t, b)) yes no = (match gR ev t with | .b x => (if (x == b) = true then yes else no) | _ => fGrd ev (some (t, b)) yes no) := by
        rw [hv]
        show (V.rec (motive := fun _ => OpR) _ _ _ _ _ (gR ev t)) = _
        rw [hv]
        cases x <;> cases b <;> rfl
      refine ⟨x == b, rfl, ?_⟩
      rw [e, hv]
    | o v =>
      have e : fGrd ev (some (t, b)) yes no = (AV.casesOn (motive_1 := fun _ => OpR) v (.no 9) no (fun _ => .no 9) (fun _ _ => .no 9) (fun _ _ => .no 9) (fun _ => .no 9) (fun _ => .no 9) (.no 9) (.no 9) (.no 9) (.no 9) (.no 9) (fun _ => .no 9) (fun _ => .no 9) (fun _ _ => .no 9) (fun _ _ _ _ _ => .no 9) (fun _ _ => .no 9) (fun _ _ _ => .no 9) (fun _ _ => .no 9) (fun _ _ _ => .no 9) (fun _ => .no 9) (fun _ _ _ => .no 9)) := by
        show (V.rec (motive := fun _ => OpR) _ _ _ _ _ (gR ev t)) = _
        rw [hv]
      rw [e] at hs ⊢
      cases v with
      | undef => exact ⟨false, rfl, rfl⟩
      | _ => exact hs.elim
    | i k n =>
      exfalso
      have e : fGrd ev (some (t, b)) yes no = .no 9 := by
        show (V.rec (motive := fun _ => OpR) _ _ _ _ _ (gR ev t)) = _
        rw [hv]
      rw [e] at hs; exact hs
    | s x =>
      exfalso
      have e : fGrd ev (some (t, b)) yes no = .no 9 := by
        show (V.rec (motive := fun _ => OpR) _ _ _ _ _ (gR ev t)) = _
        rw [hv]
      rw [e] at hs; exact hs
    | r x y =>
      exfalso
      have e : fGrd ev (some (t, b)) yes no = .no 9 := by
        show (V.rec (motive := fun _ => OpR) _ _ _ _ _ (gR ev t)) = _
        rw [hv]
      rw [e] at hs; exact hs

theorem fPut_eq {ev : T V} {d : Option Nat} {v : V} {k : T V → OpR} : ∃ ev', fPut ev d v k = k ev' ∧ ∀ env a, RE ev env → v.av = a → RE ev' (put env d a) := by
  cases d with
  | none => exact ⟨ev, rfl, fun env a h _ => h⟩
  | some d =>
    refine ⟨ev.set d v, ?_, fun env a h hv => h.set d hv⟩
    show fV v (fun v => sR ev d v k) = _
    rw [fV_eq, sR_eq]

/-- operations, one after the other -/
theorem fOps_ok {call : CallF} {callS : CallT} (hcall : CallRel call callS) {C : Ctx} {kd : XExit → T V → Heap → OpR} : ∀ (l : List XOper) (ev : T V) (env : T AV) (h : Heap), RE ev env → (fOps call C l kd ev h).say →
    ∃ e ev' env' h', xops callS C l env h = .ok e env' h' ∧ RE ev' env' ∧ fOps call C l kd ev h = kd e ev' h'
  | [], ev, env, h, he, hs => ⟨.nrm, ev, env, h, rfl, he, rfl⟩
  | ⟨dst, op, grd⟩ :: r, ev, env, h, he, hs => by
    have e : fOps call C (⟨dst, op, grd⟩ :: r) kd ev h = fGrd ev grd (fOp call C ev h op (fun v h' => fPut ev dst v fun env => fOps call C r kd env h') (fun v h' => kd (.panic v) ev h')) (fPut ev dst (.o .undef) fun env => fOps call C r kd env h) := rfl
    rw [e] at hs ⊢
    obtain ⟨b, hb1, hb2⟩ := fGrd_ok he hs
    rw [hb2] at hs ⊢
    simp only [xops, hb1]
    cases b with
    | true =>
      simp only [if_true] at hs ⊢
      rcases fOp_ok hcall he hs with ⟨v, h', h1, h2⟩ | ⟨v, h', h1, h2⟩
      · rw [h2] at hs ⊢
        rw [h1]
        obtain ⟨ev', p1, p2⟩ := fPut_eq (ev := ev) (d := dst) (v := v) (k := fun env => fOps call C r kd env h')
        rw [p1] at hs ⊢
        exact fOps_ok hcall r ev' _ h' (p2 env v.av he rfl) hs
      · rw [h2]
        rw [h1]
        exact ⟨.panic v, ev, env, h', rfl, he, rfl⟩
    | false =>
      simp only [Bool.false_eq_true, if_false] at hs ⊢
      obtain ⟨ev', p1, p2⟩ := fPut_eq (ev := ev) (d := dst) (v := .o .undef) (k := fun env => fOps call C r kd env h)
      rw [p1] at hs ⊢
      exact fOps_ok hcall r ev' _ h (p2 env .undef he rfl) hs
end Go.Proofs.YtmadknpaljaecaaGreatDoor.Ev
namespace Go.Proofs.YtmadknpaljaecaaGreatDoor.Ev
open Go
set_option linter.unusedVariables false
set_option linter.unusedSimpArgs false

/-- what is to be asked again, quick and slow -/
def RecR (r : RecF) (s : Rec) : Prop := r.op = s.op ∧ RE r.env s.env ∧ r.lo = s.lo ∧ r.hi = s.hi ∧ r.v.av = s.v
inductive RecRs : List RecF → List Rec → Prop
  | nil : RecRs [] []
  | cons {r s rs ss} : RecR r s → RecRs rs ss → RecRs (r :: rs) (s :: ss)

theorem fDraw_ok {call : CallF} {callS : CallT} (hcall : CallRel call callS) {C : Ctx} {kd : KD} : ∀ (l : List (XOper × DI)) (ev : T V) (env : T AV) (h : Heap) (hs : List Heap) (rs : List RecF) (ss : List Rec), RE ev env → RecRs rs ss → (fDraw call C l kd ev h hs rs).say →
    ∃ ev' env' h' hs' rs' ss', runD callS C l env h hs ss = some (env', h' :: hs', ss') ∧ RE ev' env' ∧ RecRs rs' ss' ∧ fDraw call C l kd ev h hs rs = kd ev' h' hs' rs'
  | [], ev, env, h, hs, rs, ss, he, hr, hsay => ⟨ev, env, h, hs, rs, ss, rfl, he, hr, rfl⟩
  | (⟨dst, op, grd⟩, d) :: r, ev, env, h, hs, rs, ss, he, hr, hsay => by
    have e : fDraw call C ((⟨dst, op, grd⟩, d) :: r) kd ev h hs rs = fGrd ev grd
        (fOp call C ev h op (fun v h' => fPut ev dst v fun env' => DI.rec (fDraw call C r kd env' h' (h :: hs) rs) (fun lo hi => fDraw call C r kd env' h hs (⟨op, ev, lo, hi, v⟩ :: rs)) (fDraw call C r kd env' h hs rs) d) (fun _ _ => .no 23))
        (fPut ev dst (.o .undef) fun env' => DI.rec (fDraw call C r kd env' h (h :: hs) rs) (fun _ _ => fDraw call C r kd env' h hs rs) (fDraw call C r kd env' h hs rs) d) := rfl
    rw [e] at hsay ⊢
    obtain ⟨b, hb1, hb2⟩ := fGrd_ok he hsay
    rw [hb2] at hsay ⊢
    simp only [runD, hb1]
    cases b with
    | true =>
      simp only [if_true] at hsay ⊢
      rcases fOp_ok hcall he hsay with ⟨v, h', h1, h2⟩ | ⟨v, h', h1, h2⟩
      · rw [h2] at hsay ⊢
        rw [h1]
        obtain ⟨ev', p1, p2⟩ := fPut_eq (ev := ev) (d := dst) (v := v) (k := fun env' => DI.rec (fDraw call C r kd env' h' (h :: hs) rs) (fun lo hi => fDraw call C r kd env' h hs (⟨op, ev, lo, hi, v⟩ :: rs)) (fDraw call C r kd env' h hs rs) d)
        rw [p1] at hsay ⊢
        have he' := p2 env v.av he rfl
        cases d with
        | wr => exact fDraw_ok hcall r ev' _ h' (h :: hs) rs ss he' hr hsay
        | rd lo hi => exact fDraw_ok hcall r ev' _ h hs (⟨op, ev, lo, hi, v⟩ :: rs) (⟨op, env, lo, hi, v.av⟩ :: ss) he' (.cons ⟨rfl, he, rfl, rfl, rfl⟩ hr) hsay
        | free => exact fDraw_ok hcall r ev' _ h hs rs ss he' hr hsay
      · rw [h2] at hsay
        exact hsay.elim
    | false =>
      simp only [Bool.false_eq_true, if_false] at hsay ⊢
      obtain ⟨ev', p1, p2⟩ := fPut_eq (ev := ev) (d := dst) (v := .o .undef) (k := fun env' => DI.rec (fDraw call C r kd env' h (h :: hs) rs) (fun _ _ => fDraw call C r kd env' h hs rs) (fDraw call C r kd env' h hs rs) d)
      rw [p1] at hsay ⊢
      have he' := p2 env .undef he rfl
      cases d with
      | wr => exact fDraw_ok hcall r ev' _ h (h :: hs) rs ss he' hr hsay
      | rd lo hi => exact fDraw_ok hcall r ev' _ h hs rs ss he' hr hsay
      | free => exact fDraw_ok hcall r ev' _ h hs rs ss he' hr hsay

theorem fSame_ok {call : CallF} {callS : CallT} (hcall : CallRel call callS) {C : Ctx} {r : RecF} {s : Rec} (hr : RecR r s) {k : OpR} : ∀ (l : List Heap), (fSame call C r l k).say →
    (l.all fun h => match xop callS (eval C s.env) h s.op with | .ok v _ => avEq depth s.v v | _ => false) = true ∧ fSame call C r l k = k
  | [], hs => ⟨rfl, rfl⟩
  | h :: l, hs => by
    have e : fSame call C r (h :: l) k = fOp call C r.env h r.op (fun v _ => Bool.rec (.no 24) (fSame call C r l k) (avEq depth r.v.av v.av)) (fun _ _ => .no 25) := rfl
    rw [e] at hs ⊢
    obtain ⟨r1, r2, r3, r4, r5⟩ := hr
    rcases fOp_ok hcall r2 hs with ⟨v, h', h1, h2⟩ | ⟨v, h', h1, h2⟩
    · rw [h2] at hs ⊢
      cases ha : avEq depth r.v.av v.av with
      | false => rw [ha] at hs; exact hs.elim
      | true =>
        rw [ha] at hs
        obtain ⟨g1, g2⟩ := fSame_ok hcall ⟨r1, r2, r3, r4, r5⟩ l hs
        refine ⟨?_, g2⟩
        simp only [List.all_cons, g1, Bool.and_true]
        rw [← r1, h1]
        simp only
        rw [← r5]; exact ha
    · rw [h2] at hs; exact hs.elim

theorem fAgain_ok {call : CallF} {callS : CallT} (hcall : CallRel call callS) {C : Ctx} {hs : List Heap} {k : OpR} : ∀ (rs : List RecF) (ss : List Rec), RecRs rs ss → (fAgain call C hs rs k).say →
    ss.all (again callS C hs) = true ∧ fAgain call C hs rs k = k
  | [], _, .nil, h => ⟨rfl, rfl⟩
  | r :: rs, _, .cons (s := s) (ss := ss) h1 h2, h => by
    have e : fAgain call C hs (r :: rs) k = (Bool.rec (fSame call C r (span hs r.lo r.hi) (fAgain call C hs rs k)) (fAgain call C hs rs k) (Nat.beq r.lo r.hi) : OpR) := rfl
    rw [e] at h ⊢
    obtain ⟨r1, r2, r3, r4, r5⟩ := h1
    simp only [List.all_cons, again, ← r3, ← r4]
    cases hb : Nat.beq r.lo r.hi with
    | true =>
      rw [hb] at h
      obtain ⟨g1, g2⟩ := fAgain_ok hcall rs ss h2 h
      exact ⟨by rw [g1]; rfl, g2⟩
    | false =>
      rw [hb] at h
      have h' : (fSame call C r (span hs r.lo r.hi) (fAgain call C hs rs k)).say := h
      obtain ⟨g1, g2⟩ := fSame_ok hcall ⟨r1, r2, r3, r4, r5⟩ _ h'
      rw [g2] at h'
      obtain ⟨g3, g4⟩ := fAgain_ok hcall rs ss h2 h'
      refine ⟨?_, by show fSame call C r (span hs r.lo r.hi) (fAgain call C hs rs k) = k; rw [g2, g4]⟩
      rw [g3, Bool.and_true]
      exact g1
end Go.Proofs.YtmadknpaljaecaaGreatDoor.Ev
namespace Go.Proofs.YtmadknpaljaecaaGreatDoor.Ev
open Go
set_option linter.unusedVariables false
set_option linter.unusedSimpArgs false

theorem resF_some {ev : T V} {env : T AV} (he : RE ev env) (h : Heap) : ∀ (l : List XRes) (vs : List AV), resF ev h l = some vs → results env h l = some vs
  | [], vs, hv => hv
  | .tmp t :: r, vs, hv => by
    have e : resF ev h (.tmp t :: r) = Option.map ((gR ev t).av :: ·) (resF ev h r) := rfl
    rw [e] at hv
    obtain ⟨ws, h1, rfl⟩ := Option.map_eq_some_iff.1 hv
    simp only [results, resF_some he h r ws h1, Option.map_some, he t]
  | .cell t a n :: r, vs, hv => by
    have hx := he t
    simp only [results]
    rw [← hx]
    have e : resF ev h (.cell t a n :: r) = (V.rec (fun _ _ => none) (fun _ => none) (fun _ => none) (fun b off => match h.get b with
      | some (.cells m d cs _ _) => (match asLoad a (rd m d cs off n) with
        | some v => Option.map (v :: ·) (resF ev h r)
        | none => none)
      | _ => none) (fun _ => none) (gR ev t) : Option (List AV)) := rfl
    rw [e] at hv
    cases hg : gR ev t with
    | r b off =>
      rw [hg] at hv
      show (match h.get b with
        | some (.cells m d cs _ _) => (match asLoad a (rd m d cs off n) with
          | some v => Option.map (v :: ·) (results env h r)
          | none => none)
        | _ => none) = _
      simp only at hv
      split at hv
      · split at hv
        · obtain ⟨ws, h1, rfl⟩ := Option.map_eq_some_iff.1 hv
          simp only [resF_some he h r ws h1, Option.map_some]
        · cases hv
      · cases hv
    | _ => rw [hg] at hv; cases hv

theorem initF_eq : ∀ (l : List AV) (i : Nat) (ev : T V) (env : T AV) (k : T V → OpR), RE ev env → ∃ ev', initF l i ev k = k ev' ∧ RE ev' (initEnv l i env)
  | [], i, ev, env, k, he => ⟨ev, rfl, he⟩
  | v :: r, i, ev, env, k, he => by
    have e : initF (v :: r) i ev k = fV (V.of v) fun v => sR ev i v fun e => initF r (i + 1) e k := rfl
    rw [e, fV_eq, sR_eq]
    exact initF_eq r (i + 1) _ _ k (he.set i (of_av v))

theorem RE_nil : RE .nil .nil := fun t => rfl

def ExRel (C : Ctx) (ihF : XCode → T V → Heap → KX → OpR) (ih : XCode → T AV → Heap → Out) : Prop :=
  ∀ c ev env h k, RE ev env → (ihF c ev h k).say → ∃ e ev' env' h', ih c env h = .ok e env' h' ∧ RE ev' env' ∧ ihF c ev h k = k e ev' h'

theorem callF_ok {C : Ctx} {ihF : XCode → T V → Heap → KX → OpR} {ih : XCode → T AV → Heap → Out} (hih : ExRel C ihF ih) : CallRel (callF ihF C) (callFn ih C) := by
  intro f args h hs
  unfold callF at hs ⊢
  unfold callFn
  cases hsum : C.sum f with
  | some g => rfl
  | none =>
  rw [hsum] at hs
  simp only at hs ⊢
  unfold callB
  cases hfn : C.fns f with
  | none => rfl
  | some fn =>
    rw [hfn] at hs
    simp only at hs ⊢
    cases hp : fn.pure with
    | true =>
      rw [hp] at hs
      simp only at hs ⊢
      cases hm : mapO (conv true h depth) args with
      | none => rw [hm] at hs <;> exact hs.elim
      | some args' =>
        rw [hm] at hs
        simp only at hs ⊢
        obtain ⟨ev, h1, h2⟩ := initF_eq args' 0 .nil .nil (fun env => ihF fn.body env .empty (retF fn f h)) RE_nil
        rw [h1] at hs ⊢
        obtain ⟨e, ev', env', h', g1, g2, g3⟩ := hih fn.body ev _ .empty (retF fn f h) h2 hs
        rw [g3] at hs ⊢
        rw [g1]
        cases e with
        | nrm =>
          simp only [retF] at hs ⊢
          cases hr : resF ev' h' fn.results with
          | none => rw [hr] at hs <;> exact hs.elim
          | some vs =>
            rw [hr] at hs
            simp only [resF_some g2 h' _ _ hr] at hs ⊢
            cases hm2 : mapO (conv false h' depth) vs with
            | none => rw [hm2] at hs <;> exact hs.elim
            | some ws => rfl
        | ret =>
          simp only [retF] at hs ⊢
          cases hr : resF ev' h' fn.results with
          | none => rw [hr] at hs <;> exact hs.elim
          | some vs =>
            rw [hr] at hs
            simp only [resF_some g2 h' _ _ hr] at hs ⊢
            cases hm2 : mapO (conv false h' depth) vs with
            | none => rw [hm2] at hs <;> exact hs.elim
            | some ws => rfl
        | exit _ => rfl
        | goto _ => rfl
        | panic v => rfl
    | false =>
      rw [hp] at hs
      simp only at hs ⊢
      obtain ⟨ev, h1, h2⟩ := initF_eq args 0 .nil .nil (fun env => ihF fn.body env h (retE fn f)) RE_nil
      rw [h1] at hs ⊢
      obtain ⟨e, ev', env', h', g1, g2, g3⟩ := hih fn.body ev _ h (retE fn f) h2 hs
      rw [g3] at hs ⊢
      rw [g1]
      cases e with
      | nrm =>
        simp only [retE] at hs ⊢
        cases hr : resF ev' h' fn.results with
        | none => rw [hr] at hs <;> exact hs.elim
        | some vs => simp only [resF_some g2 h' _ _ hr]
      | ret =>
        simp only [retE] at hs ⊢
        cases hr : resF ev' h' fn.results with
        | none => rw [hr] at hs <;> exact hs.elim
        | some vs => simp only [resF_some g2 h' _ _ hr]
      | exit _ => rfl
      | goto _ => rfl
      | panic v => rfl

theorem onNrm_nrm (y n : OpR) : onNrm .nrm y n = y := rfl

theorem stepF_ok {C : Ctx} {ihF : XCode → T V → Heap → KX → OpR} {ih : XCode → T AV → Heap → Out} (hih : ExRel C ihF ih) : ExRel C (stepF ihF C) (step C ih) := by
  have hcall := callF_ok hih
  intro c ev env h k he hs
  cases c with
  | skip => exact ⟨.nrm, ev, env, h, rfl, he, rfl⟩
  | label l => exact ⟨.nrm, ev, env, h, rfl, he, rfl⟩
  | goto l => exact ⟨.goto l, ev, env, h, rfl, he, rfl⟩
  | exit l => exact ⟨.exit l, ev, env, h, rfl, he, rfl⟩
  | ret => exact ⟨.ret, ev, env, h, rfl, he, rfl⟩
  | bad => exact hs.elim
  | reg ops =>
    obtain ⟨e, ev', env', h', g1, g2, g3⟩ := fOps_ok hcall ops ev env h he hs
    exact ⟨e, ev', env', h', g1, g2, g3⟩
  | draw ops =>
    have e : stepF ihF C (.draw ops) ev h k = fDraw (callF ihF C) C ops (fun env h hs rs => fAgain (callF ihF C) C (h :: hs).reverse rs (k .nrm env h)) ev h [] [] := rfl
    rw [e] at hs ⊢
    obtain ⟨ev', env', h', hs', rs', ss', g1, g2, g3, g4⟩ := fDraw_ok hcall ops ev env h [] [] [] he .nil hs
    rw [g4] at hs ⊢
    obtain ⟨g5, g6⟩ := fAgain_ok hcall rs' ss' g3 hs
    refine ⟨.nrm, ev', env', h', ?_, g2, g6⟩
    simp only [step, xdraw, g1, g5, cond_true]
  | seq a b =>
    have e : stepF ihF C (.seq a b) ev h k = ihF a ev h (fun e env h => onNrm e (ihF b env h k) (k e env h)) := rfl
    rw [e] at hs ⊢
    obtain ⟨x, ev', env', h', g1, g2, g3⟩ := hih a ev env h _ he hs
    rw [g3] at hs ⊢
    simp only [step, g1]
    cases x with
    | nrm =>
      obtain ⟨y, ev2, env2, h2, q1, q2, q3⟩ := hih b ev' env' h' k g2 hs
      exact ⟨y, ev2, env2, h2, q1, q2, q3⟩
    | exit i => exact ⟨_, ev', env', h', rfl, g2, rfl⟩
    | goto i => exact ⟨_, ev', env', h', rfl, g2, rfl⟩
    | ret => exact ⟨_, ev', env', h', rfl, g2, rfl⟩
    | panic i => exact ⟨_, ev', env', h', rfl, g2, rfl⟩
  | cond x a b =>
    have hx := evA_eq (C := C) he x
    have e : stepF ihF C (.cond x a b) ev h k = (V.rec (fun _ _ => .no 20) (fun x => Bool.rec (ihF b ev h k) (ihF a ev h k) x) (fun _ => .no 20) (fun _ _ => .no 20) (fun _ => .no 20) (evV C ev x) : OpR) := rfl
    rw [e] at hs ⊢
    cases hv : evV C ev x with
    | b y =>
      rw [hv] at hx hs
      simp only [step, ← hx]
      cases y with
      | true => exact hih a ev env h k he hs
      | false => exact hih b ev env h k he hs
    | _ => rw [hv] at hs; exact hs.elim
  | block id a =>
    have e : stepF ihF C (.block id a) ev h k = ihF a ev h (fun e env h => XExit.rec (k .nrm env h) (fun i => Bool.rec (k (.exit i) env h) (k .nrm env h) (Nat.beq i id)) (fun l => k (.goto l) env h) (k .ret env h) (fun v => k (.panic v) env h) e) := rfl
    rw [e] at hs ⊢
    obtain ⟨x, ev', env', h', g1, g2, g3⟩ := hih a ev env h _ he hs
    rw [g3]
    simp only [step, g1]
    cases x with
    | nrm => exact ⟨_, ev', env', h', rfl, g2, rfl⟩
    | exit i =>
      have e2 : (XExit.rec (k .nrm ev' h') (fun i => Bool.rec (k (.exit i) ev' h') (k .nrm ev' h') (Nat.beq i id)) (fun l => k (.goto l) ev' h') (k .ret ev' h') (fun v => k (.panic v) ev' h') (.exit i) : OpR) = (Bool.rec (k (.exit i) ev' h') (k .nrm ev' h') (Nat.beq i id) : OpR) := rfl
      rw [e2]
      cases hb : Nat.beq i id with
      | true => exact ⟨.nrm, ev', env', h', by simp only [hb, cond_true], g2, rfl⟩
      | false => exact ⟨.exit i, ev', env', h', by simp only [hb, cond_false], g2, rfl⟩
    | goto i => exact ⟨_, ev', env', h', rfl, g2, rfl⟩
    | ret => exact ⟨_, ev', env', h', rfl, g2, rfl⟩
    | panic i => exact ⟨_, ev', env', h', rfl, g2, rfl⟩
  | loop a =>
    have e : stepF ihF C (.loop a) ev h k = ihF a ev h (fun e env h => onNrm e (ihF (.loop a) env h k) (k e env h)) := rfl
    rw [e] at hs ⊢
    obtain ⟨x, ev', env', h', g1, g2, g3⟩ := hih a ev env h _ he hs
    rw [g3] at hs ⊢
    simp only [step, g1]
    cases x with
    | nrm => exact hih (.loop a) ev' env' h' k g2 hs
    | exit i => exact ⟨_, ev', env', h', rfl, g2, rfl⟩
    | goto i => exact ⟨_, ev', env', h', rfl, g2, rfl⟩
    | ret => exact ⟨_, ev', env', h', rfl, g2, rfl⟩
    | panic i => exact ⟨_, ev', env', h', rfl, g2, rfl⟩
  | scope a => exact hih (.scopeAt a a) ev env h k he hs
  | scopeAt a b =>
    have e : stepF ihF C (.scopeAt a b) ev h k = ihF b ev h (fun e env h => match e with
      | .goto l => (match findLabel a l with | some r => ihF (.scopeAt a r) env h k | none => k (.goto l) env h)
      | e => k e env h) := rfl
    rw [e] at hs ⊢
    obtain ⟨x, ev', env', h', g1, g2, g3⟩ := hih b ev env h _ he hs
    rw [g3] at hs ⊢
    simp only [step, g1]
    cases x with
    | nrm => exact ⟨_, ev', env', h', rfl, g2, rfl⟩
    | exit i => exact ⟨_, ev', env', h', rfl, g2, rfl⟩
    | goto l =>
      simp only at hs ⊢
      cases hf : findLabel a l with
      | none => exact ⟨_, ev', env', h', rfl, g2, rfl⟩
      | some r =>
        rw [hf] at hs
        exact hih (.scopeAt a r) ev' env' h' k g2 hs
    | ret => exact ⟨_, ev', env', h', rfl, g2, rfl⟩
    | panic i => exact ⟨_, ev', env', h', rfl, g2, rfl⟩

theorem exF_ok (C : Ctx) : ∀ n, ExRel C (exF C n) (ex C n)
  | 0 => fun c ev env h k he hs => hs.elim
  | n + 1 => by
    have := stepF_ok (exF_ok C n)
    intro c ev env h k he hs
    exact this c ev env h k he hs

/-- what the quick evaluator answers, the slow one answers -/
theorem callF_ex (C : Ctx) (n : Nat) : CallRel (callF (exF C n) C) (callFn (ex C n) C) := callF_ok (exF_ok C n)
end Go.Proofs.YtmadknpaljaecaaGreatDoor.Ev
