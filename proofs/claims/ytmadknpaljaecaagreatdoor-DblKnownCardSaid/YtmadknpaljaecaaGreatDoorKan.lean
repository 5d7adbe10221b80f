import Derived.KernelRfl
import Derived.Test.YtmadknpaljaecaaGreatDoorKad
import Derived.Test.YtmadknpaljaecaaGreatDoorKai
set_option linter.all false
namespace Go.Proofs.YtmadknpaljaecaaGreatDoor.Ev.D
open Go Go.Proofs.YtmadknpaljaecaaGreatDoor.Ev
set_option maxRecDepth 1000000
theorem e0 : isVal (callF (exF C 100000000) C 33 [.float .f64 5055640609639927018] .empty) (.tup [(.str ⟨0, 0⟩), (.int .i64 40)]) = true := by kernel_rfl
theorem e1 : isVal (callF (exF C 100000000) C 33 [.float .f64 13516115794094627663] .empty) (.tup [(.str ⟨1, 48⟩), (.int .i64 0)]) = true := by kernel_rfl
theorem e2 : isVal (callF (exF C 100000000) C 33 [.float .f64 9221120237041090561] .empty) (.tup [(.str ⟨0, 0⟩), (.int .i64 80)]) = true := by kernel_rfl
theorem e3 : isVal (callF (exF C 100000000) C 24 [.float .f64 13824249416176474522, .int .i64 0, .str ⟨4, 1751215206⟩] .empty) (.tup [(.float .f64 9223372036854775808), (.int .i64 0)]) = true := by kernel_rfl
theorem e4 : isVal (callF (exF C 100000000) C 24 [.float .f64 4593671619917905920, .int .i64 2, .str ⟨4, 1702258030⟩] .empty) (.tup [(.float .f64 4593311331947716280), (.int .i64 0)]) = true := by kernel_rfl
theorem e5 : isVal (callF (exF C 100000000) C 24 [.float .f64 4653212373585231872, .int .i64 (-2), .str ⟨4, 1702258030⟩] .empty) (.tup [(.float .f64 4652992471259676672), (.int .i64 0)]) = true := by kernel_rfl
theorem e6 : isVal (callF (exF C 100000000) C 24 [.float .f64 4607182418800017408, .int .i64 21, .str ⟨2, 30064⟩] .empty) (.tup [(.float .f64 0), (.int .i64 6)]) = true := by kernel_rfl
theorem e7 : isVal (callF (exF C 100000000) C 41 [.str ⟨3, 3223088⟩] .empty) (.tup [(.float .f64 0), (.int .i64 1)]) = true := by kernel_rfl
end Go.Proofs.YtmadknpaljaecaaGreatDoor.Ev.D
