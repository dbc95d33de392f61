import Derived.Test.YtgkhcfjooiekkaaGreatDoorX16
set_option linter.unusedVariables false
set_option linter.unusedSimpArgs false
namespace Go.Sw
open Go.Proofs Go.Proofs.Tryz
set_option maxRecDepth 20000
set_option maxHeartbeats 4000000
theorem inR_ok {V:Fz} {K:List Res} {w:World} {x:Int} {lo:Int} {b:Int}  (N:Mem V K w) :
  Calls prog 53 #[.int .i64 x,.int .i64 lo,.int .i64 b] w (fun ee w'=>ee=.returned (.bool ((decide (lo<=x)&&decide (x<=b))))/\Mem V K w'):=by
 refine zK func53 ntmps53 fun Q hQ a J=>?_
 by_cases c:lo<=x
 refine Qq (fun a J=>?_) (o:=by exact fun J O=>y_leqD J rfl rfl)
 refine zF ?_
 exact zM N (by first | rfl | simp [*])
 refine zF ?_
 exact zM N (by first | rfl | simp [*])
end Go.Sw
