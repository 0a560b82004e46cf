/-
  The resolved text of the functions, each tied to the program's own by the kernel.
-/
import Derived.Test.YtakjemikampncaaGreatDoorProg
import Derived.Test.YtakjemikampncaaGreatDoorM21
import Derived.Test.YtakjemikampncaaGreatDoorM23
namespace Go.Proofs.YtakjemikampncaaGreatDoor.M
open Go Go.RowKit
set_option maxRecDepth 100000

def r130 : RFunc := ⟨6, [.t 2],
 (.seq
  (.reg [⟨(some 2), .v (.mov (.c (.bool false))), none⟩])
  (.seq
   (.reg [⟨(some 3), .v (.mov (.t 0)), none⟩, ⟨(some 4), .v (.mov (.t 0)), none⟩, ⟨(some 5), .v (.bin .neq (.t 3) (.t 4)), none⟩, ⟨(some 2), .v (.mov (.t 5)), none⟩])
   .ret))⟩
theorem e130 : rFunc Tryz.prog Tryz.f130 = some r130 := by kernel_rfl
def r107 : RFunc := ⟨20, [.t 4],
 (.seq
  (.reg [⟨(some 4), .v (.mov (.c (.int .i64 0))), none⟩])
  (.seq
   (.reg [⟨(some 7), .v (.mov (.t 0)), none⟩, ⟨(some 8), .call 130 [(.t 7)], none⟩, ⟨(some 5), .v (.mov (.t 8)), none⟩])
   (.seq
    (.reg [⟨(some 9), .v (.mov (.t 1)), none⟩, ⟨(some 10), .call 130 [(.t 9)], none⟩, ⟨(some 6), .v (.mov (.t 10)), none⟩])
    (.seq
     (.seq
      (.reg [⟨(some 11), .v (.mov (.t 5)), none⟩])
      (.cond (.t 11)
       (.seq
        (.seq
         (.reg [⟨(some 12), .v (.mov (.t 6)), none⟩])
         (.cond (.t 12)
          (.seq
           (.reg [⟨(some 4), .v (.mov (.c (.int .i64 0))), none⟩])
           .ret)
          .skip))
        (.seq
         (.reg [⟨(some 4), .v (.mov (.c (.int .i64 (-1)))), none⟩])
         .ret))
       .skip))
     (.seq
      (.seq
       (.reg [⟨(some 13), .v (.mov (.t 6)), none⟩])
       (.cond (.t 13)
        (.seq
         (.reg [⟨(some 4), .v (.mov (.c (.int .i64 1))), none⟩])
         .ret)
        .skip))
      (.seq
       (.seq
        (.reg [⟨(some 14), .v (.mov (.t 0)), none⟩, ⟨(some 15), .v (.mov (.t 1)), none⟩, ⟨(some 16), .v (.bin .lss (.t 14) (.t 15)), none⟩])
        (.cond (.t 16)
         (.seq
          (.reg [⟨(some 4), .v (.mov (.c (.int .i64 (-1)))), none⟩])
          .ret)
         .skip))
       (.seq
        (.seq
         (.reg [⟨(some 17), .v (.mov (.t 0)), none⟩, ⟨(some 18), .v (.mov (.t 1)), none⟩, ⟨(some 19), .v (.bin .gtr (.t 17) (.t 18)), none⟩])
         (.cond (.t 19)
          (.seq
           (.reg [⟨(some 4), .v (.mov (.c (.int .i64 1))), none⟩])
           .ret)
          .skip))
        (.seq
         (.reg [⟨(some 4), .v (.mov (.c (.int .i64 0))), none⟩])
         .ret))))))))⟩
theorem e107 : rFunc Tryz.prog Tryz.f107 = some r107 := by kernel_rfl
def r106 : RFunc := ⟨18, [.t 2],
 (.seq
  (.reg [⟨(some 2), .v (.mov (.c (.int .i64 0))), none⟩])
  (.seq
   (.reg [⟨(some 3), .v (.mov (.c (.int .i64 0))), none⟩])
   (.seq
    (.seq
     (.reg [⟨(some 6), .v (.mov (.t 0)), none⟩, ⟨(some 7), .v (.len (.t 6)), none⟩, ⟨(some 8), .v (.mov (.c (.int .i64 0))), none⟩])
     (.block 0
      (.loop
       (.seq
        (.reg [⟨(some 9), .v (.bin .lss (.t 8) (.t 7)), none⟩])
        (.seq
         (.cond (.t 9)
          .skip
          (.exit 0))
         (.seq
          (.block 1
           (.seq
            (.reg [⟨(some 10), .v (.iaddr 1 (.t 6) (.t 8)), none⟩, ⟨(some 11), .v (.load false 1 (.t 10)), none⟩, ⟨(some 5), .v (.mov (.t 11)), none⟩])
            (.seq
             (.reg [⟨(some 12), .v (.mov (.t 5)), none⟩, ⟨(some 13), .v (.mov (.t 3)), none⟩, ⟨(some 14), .v (.bin .neq (.t 12) (.t 13)), none⟩])
             (.cond (.t 14)
              (.seq
               (.reg [⟨(some 15), .v (.mov (.t 5)), none⟩, ⟨(some 2), .v (.mov (.t 15)), none⟩])
               .ret)
              .skip))))
          (.reg [⟨(some 16), .v (.bin .add (.t 8) (.c (.int .i64 1))), none⟩, ⟨(some 8), .v (.mov (.t 16)), none⟩])))))))
    (.seq
     (.reg [⟨(some 17), .v (.mov (.t 3)), none⟩, ⟨(some 2), .v (.mov (.t 17)), none⟩])
     .ret))))⟩
theorem e106 : rFunc Tryz.prog Tryz.f106 = some r106 := by kernel_rfl
def r105 : RFunc := ⟨15, [.t 4],
 (.seq
  (.reg [⟨(some 4), .v (.mov (.c (.int .i64 0))), none⟩])
  (.seq
   (.reg [⟨(some 5), .v (.mov (.t 0)), none⟩, ⟨(some 6), .v (.lens (.t 5)), none⟩, ⟨(some 7), .v (.mov (.t 1)), none⟩, ⟨(some 8), .v (.lens (.t 7)), none⟩, ⟨(some 9), .call 107 [(.t 6), (.t 8)], none⟩, ⟨(some 10), .v (.mov (.t 0)), none⟩, ⟨(some 11), .v (.mov (.t 1)), none⟩, ⟨(some 12), .call 108 [(.t 10), (.t 11)], none⟩, ⟨(some 13), .m (.bsl 1 2 [(.int .i64 0)] [(0, 1, (.t 9)), (1, 1, (.t 12))]), none⟩, ⟨(some 14), .call 106 [(.t 13)], none⟩, ⟨(some 4), .v (.mov (.t 14)), none⟩])
   .ret))⟩
theorem e105 : rFunc Tryz.prog Tryz.f105 = some r105 := by kernel_rfl
end Go.Proofs.YtakjemikampncaaGreatDoor.M
