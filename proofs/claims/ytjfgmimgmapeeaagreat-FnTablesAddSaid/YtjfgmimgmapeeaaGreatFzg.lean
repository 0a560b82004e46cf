/-
  The resolved text of the functions, each tied to the program's own by the kernel.
-/
import Derived.Test.YtjfgmimgmapeeaaGreatProg
import Derived.Test.YtjfgmimgmapeeaaGreatFzf
namespace Go.Proofs.YtjfgmimgmapeeaaGreat.M
open Go Go.RowKit
set_option maxRecDepth 100000

def r10 : RFunc := ⟨67, [.cell true 4 8, .t 9],
 (.seq
  (.reg [⟨(some 4), .m (.box (.t 0)), none⟩, ⟨(some 8), .m (.alloc [(.int .i64 0), (.int .i64 0), (.int .i64 0), .nils]), none⟩, ⟨(some 9), .v (.mov (.c (.bool false))), none⟩])
  (.seq
   (.seq
    (.reg [⟨(some 13), .v (.load true 4 (.t 4)), none⟩, ⟨(some 14), .call 55 [(.t 13)], none⟩, ⟨(some 15), .v (.un .not (.t 14)), none⟩, ⟨(some 16), .v (.mov (.t 15)), none⟩, ⟨(some 17), .v (.mov (.t 1)), (some (16, false))⟩, ⟨(some 18), .call 56 [(.t 17)], (some (16, false))⟩, ⟨(some 19), .v (.un .not (.t 18)), (some (16, false))⟩, ⟨(some 20), .v (.pick (.t 16) (.c (.bool true)) (.t 19)), none⟩, ⟨(some 21), .v (.mov (.t 20)), none⟩, ⟨(some 22), .v (.mov (.t 2)), (some (21, false))⟩, ⟨(some 23), .v (.mov (.t 1)), (some (21, false))⟩, ⟨(some 24), .v (.len (.t 23)), (some (21, false))⟩, ⟨(some 25), .v (.bin .sub (.t 24) (.c (.int .i64 1))), (some (21, false))⟩, ⟨(some 26), .call 57 [(.t 22), (.c (.int .i64 0)), (.t 25)], (some (21, false))⟩, ⟨(some 27), .v (.un .not (.t 26)), (some (21, false))⟩, ⟨(some 28), .v (.pick (.t 21) (.c (.bool true)) (.t 27)), none⟩, ⟨(some 29), .v (.mov (.t 28)), none⟩, ⟨(some 30), .v (.mov (.t 3)), (some (29, false))⟩, ⟨(some 31), .v (.faddr 2 (.t 4)), (some (29, false))⟩, ⟨(some 32), .v (.load false 1 (.t 31)), (some (29, false))⟩, ⟨(some 33), .call 58 [(.t 32)], (some (29, false))⟩, ⟨(some 34), .v (.bin .sub (.t 33) (.c (.int .i64 1))), (some (29, false))⟩, ⟨(some 35), .call 57 [(.t 30), (.c (.int .i64 0)), (.t 34)], (some (29, false))⟩, ⟨(some 36), .v (.un .not (.t 35)), (some (29, false))⟩, ⟨(some 37), .v (.pick (.t 29) (.c (.bool true)) (.t 36)), none⟩])
    (.cond (.t 37)
     (.seq
      (.reg [⟨(some 38), .v (.bld [(.int .i64 0), (.int .i64 0), (.int .i64 0), .nils] []), none⟩, ⟨none, .m (.store 4 (.t 8) (.t 38)), none⟩, ⟨(some 9), .v (.mov (.c (.bool false))), none⟩])
      .ret)
     .skip))
   (.seq
    (.reg [⟨(some 10), .v (.mov (.c .nils)), none⟩])
    (.seq
     (.seq
      (.reg [⟨(some 39), .v (.mov (.t 1)), none⟩, ⟨(some 40), .v (.len (.t 39)), none⟩, ⟨(some 41), .v (.mov (.c (.int .i64 0))), none⟩])
      (.block 0
       (.loop
        (.seq
         (.reg [⟨(some 42), .v (.bin .lss (.t 41) (.t 40)), none⟩])
         (.seq
          (.cond (.t 42)
           .skip
           (.exit 0))
          (.seq
           (.block 1
            (.seq
             (.reg [⟨(some 43), .v (.iaddr 1 (.t 39) (.t 41)), none⟩, ⟨(some 44), .v (.load false 1 (.t 43)), none⟩, ⟨(some 12), .v (.mov (.t 44)), none⟩])
             (.reg [⟨(some 45), .v (.mov (.t 10)), none⟩, ⟨(some 46), .v (.load true 4 (.t 4)), none⟩, ⟨(some 47), .v (.mov (.t 12)), none⟩, ⟨(some 48), .call 59 [(.t 46), (.t 47)], none⟩, ⟨(some 49), .m (.bsl 1 1 [(.int .i64 0)] [(0, 1, (.t 48))]), none⟩, ⟨(some 50), .m (.app false 1 8 (.t 45) (.t 49)), none⟩, ⟨(some 10), .v (.mov (.t 50)), none⟩])))
           (.reg [⟨(some 51), .v (.bin .add (.t 41) (.c (.int .i64 1))), none⟩, ⟨(some 41), .v (.mov (.t 51)), none⟩])))))))
     (.seq
      (.reg [⟨(some 52), .v (.mov (.t 10)), none⟩, ⟨(some 53), .v (.mov (.t 2)), none⟩, ⟨(some 54), .v (.mov (.t 3)), none⟩, ⟨(some 55), .v (.iaddr 1 (.t 52) (.t 53)), none⟩, ⟨none, .m (.store 1 (.t 55) (.t 54)), none⟩])
      (.seq
       (.reg [⟨(some 56), .v (.faddr 0 (.t 4)), none⟩, ⟨(some 57), .v (.load false 1 (.t 56)), none⟩, ⟨(some 58), .v (.mov (.t 1)), none⟩, ⟨(some 59), .v (.mov (.t 10)), none⟩, ⟨(some 60), .v (.faddr 1 (.t 4)), none⟩, ⟨(some 61), .v (.load false 1 (.t 60)), none⟩, ⟨(some 62), .v (.faddr 2 (.t 4)), none⟩, ⟨(some 63), .v (.load false 1 (.t 62)), none⟩, ⟨(some 64), .call 60 [(.t 57), (.t 58), (.t 59), (.t 61), (.t 63)], none⟩, ⟨(some 65), .v (.ext (.t 64) 0), none⟩, ⟨(some 66), .v (.ext (.t 64) 1), none⟩, ⟨none, .m (.store 4 (.t 8) (.t 65)), none⟩, ⟨(some 9), .v (.mov (.t 66)), none⟩])
       .ret))))))⟩
theorem e10 : rFunc Tryz.prog Tryz.f10 = some r10 := by kernel_rfl
def r13 : RFunc := ⟨58, [.cell true 4 8, .t 9],
 (.seq
  (.reg [⟨(some 4), .m (.box (.t 0)), none⟩, ⟨(some 8), .m (.alloc [(.int .i64 0), (.int .i64 0), (.int .i64 0), .nils]), none⟩, ⟨(some 9), .v (.mov (.c (.bool false))), none⟩])
  (.seq
   (.seq
    (.reg [⟨(some 13), .v (.load true 4 (.t 4)), none⟩, ⟨(some 14), .call 34 [(.t 13)], none⟩, ⟨(some 15), .v (.un .not (.t 14)), none⟩, ⟨(some 16), .v (.mov (.t 15)), none⟩, ⟨(some 17), .v (.mov (.t 1)), (some (16, false))⟩, ⟨(some 18), .call 62 [(.t 17)], (some (16, false))⟩, ⟨(some 19), .v (.un .not (.t 18)), (some (16, false))⟩, ⟨(some 20), .v (.pick (.t 16) (.c (.bool true)) (.t 19)), none⟩, ⟨(some 21), .v (.mov (.t 20)), none⟩, ⟨(some 22), .v (.mov (.t 2)), (some (21, false))⟩, ⟨(some 23), .v (.mov (.t 1)), (some (21, false))⟩, ⟨(some 24), .v (.len (.t 23)), (some (21, false))⟩, ⟨(some 25), .v (.bin .sub (.t 24) (.c (.int .i64 1))), (some (21, false))⟩, ⟨(some 26), .call 63 [(.t 22), (.c (.int .i64 0)), (.t 25)], (some (21, false))⟩, ⟨(some 27), .v (.un .not (.t 26)), (some (21, false))⟩, ⟨(some 28), .v (.pick (.t 21) (.c (.bool true)) (.t 27)), none⟩])
    (.cond (.t 28)
     (.seq
      (.reg [⟨(some 29), .v (.bld [(.int .i64 0), (.int .i64 0), (.int .i64 0), .nils] []), none⟩, ⟨none, .m (.store 4 (.t 8) (.t 29)), none⟩, ⟨(some 9), .v (.mov (.c (.bool false))), none⟩])
      .ret)
     .skip))
   (.seq
    (.reg [⟨(some 30), .m (.bsl 1 0 [(.int .i64 0)] []), none⟩, ⟨(some 10), .v (.mov (.t 30)), none⟩])
    (.seq
     (.seq
      (.reg [⟨(some 31), .v (.mov (.t 1)), none⟩, ⟨(some 32), .v (.len (.t 31)), none⟩, ⟨(some 33), .v (.mov (.c (.int .i64 0))), none⟩])
      (.block 0
       (.loop
        (.seq
         (.reg [⟨(some 34), .v (.bin .lss (.t 33) (.t 32)), none⟩])
         (.seq
          (.cond (.t 34)
           .skip
           (.exit 0))
          (.seq
           (.block 1
            (.seq
             (.reg [⟨(some 35), .v (.iaddr 1 (.t 31) (.t 33)), none⟩, ⟨(some 36), .v (.load false 1 (.t 35)), none⟩, ⟨(some 12), .v (.mov (.t 36)), none⟩])
             (.reg [⟨(some 37), .v (.mov (.t 10)), none⟩, ⟨(some 38), .v (.mov (.t 12)), none⟩, ⟨(some 39), .call 64 [(.t 4), (.t 38)], none⟩, ⟨(some 40), .m (.bsl 1 1 [(.int .i64 0)] [(0, 1, (.t 39))]), none⟩, ⟨(some 41), .m (.app false 1 8 (.t 37) (.t 40)), none⟩, ⟨(some 10), .v (.mov (.t 41)), none⟩])))
           (.reg [⟨(some 42), .v (.bin .add (.t 33) (.c (.int .i64 1))), none⟩, ⟨(some 33), .v (.mov (.t 42)), none⟩])))))))
     (.seq
      (.reg [⟨(some 43), .v (.mov (.t 10)), none⟩, ⟨(some 44), .v (.mov (.t 2)), none⟩, ⟨(some 45), .v (.mov (.t 3)), none⟩, ⟨(some 46), .v (.iaddr 1 (.t 43) (.t 44)), none⟩, ⟨none, .m (.store 1 (.t 46) (.t 45)), none⟩])
      (.seq
       (.reg [⟨(some 47), .v (.faddr 0 (.t 4)), none⟩, ⟨(some 48), .v (.load false 1 (.t 47)), none⟩, ⟨(some 49), .v (.mov (.t 1)), none⟩, ⟨(some 50), .v (.mov (.t 10)), none⟩, ⟨(some 51), .v (.faddr 1 (.t 4)), none⟩, ⟨(some 52), .v (.load false 1 (.t 51)), none⟩, ⟨(some 53), .v (.faddr 2 (.t 4)), none⟩, ⟨(some 54), .v (.load false 1 (.t 53)), none⟩, ⟨(some 55), .call 31 [(.t 48), (.t 49), (.t 50), (.t 52), (.t 54)], none⟩, ⟨(some 56), .v (.ext (.t 55) 0), none⟩, ⟨(some 57), .v (.ext (.t 55) 1), none⟩, ⟨none, .m (.store 4 (.t 8) (.t 56)), none⟩, ⟨(some 9), .v (.mov (.t 57)), none⟩])
       .ret))))))⟩
theorem e13 : rFunc Tryz.prog Tryz.f13 = some r13 := by kernel_rfl
end Go.Proofs.YtjfgmimgmapeeaaGreat.M
