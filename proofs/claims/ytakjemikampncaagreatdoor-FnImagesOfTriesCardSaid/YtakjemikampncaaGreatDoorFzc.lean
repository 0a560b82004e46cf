/-
  The resolved text of the functions, each tied to the program's own by the kernel.
-/
import Derived.Test.YtakjemikampncaaGreatDoorProg
import Derived.Test.YtakjemikampncaaGreatDoorFzb
namespace Go.Proofs.YtakjemikampncaaGreatDoor.M
open Go Go.RowKit
attribute [local instance] dqF
set_option maxRecDepth 100000

def r31 : RFunc := ⟨19, [.t 2],
 (.seq
  (.reg [⟨(some 2), .v (.mov (.c (.str []))), none⟩])
  (.seq
   (.reg [⟨(some 3), .v (.mov (.c (.str [116, 114, 105, 101]))), none⟩])
   (.seq
    (.seq
     (.reg [⟨(some 6), .v (.mov (.t 0)), none⟩, ⟨(some 7), .v (.len (.t 6)), none⟩, ⟨(some 8), .v (.mov (.c (.int .i64 0))), none⟩])
     (.block 0
      (.loop
       (.seq
        (.reg [⟨(some 9), .v (.bin .lss (.t 8) (.t 7)), none⟩])
        (.seq
         (.cond (.t 9)
          .skip
          (.exit 0))
         (.seq
          (.block 1
           (.seq
            (.reg [⟨(some 10), .v (.iaddr 1 (.t 6) (.t 8)), none⟩, ⟨(some 11), .v (.load false 1 (.t 10)), none⟩, ⟨(some 5), .v (.mov (.t 11)), none⟩])
            (.reg [⟨(some 12), .v (.mov (.t 3)), none⟩, ⟨(some 13), .v (.mov (.t 5)), none⟩, ⟨(some 14), .v (.bin .add (.c (.str [32])) (.t 13)), none⟩, ⟨(some 15), .v (.bin .add (.t 12) (.t 14)), none⟩, ⟨(some 3), .v (.mov (.t 15)), none⟩])))
          (.reg [⟨(some 16), .v (.bin .add (.t 8) (.c (.int .i64 1))), none⟩, ⟨(some 8), .v (.mov (.t 16)), none⟩])))))))
    (.seq
     (.reg [⟨(some 17), .v (.mov (.t 3)), none⟩, ⟨(some 18), .call 40 [(.t 17)], none⟩, ⟨(some 2), .v (.mov (.t 18)), none⟩])
     .ret))))⟩
theorem e31 : rFunc Tryz.prog Tryz.f31 = some r31 := by kernel_rfl
def r12 : RFunc := ⟨15, [.t 2, .t 3],
 (.seq
  (.reg [⟨(some 1), .m (.box (.t 0)), none⟩, ⟨(some 2), .v (.mov (.c (.str []))), none⟩, ⟨(some 3), .v (.mov (.c (.bool false))), none⟩])
  (.seq
   (.reg [⟨(some 7), .v (.load true 5 (.t 1)), none⟩, ⟨(some 8), .call 30 [(.t 7)], none⟩, ⟨(some 6), .v (.mov (.t 8)), none⟩, ⟨(some 9), .v (.ext (.t 6) 0), none⟩, ⟨(some 10), .v (.ext (.t 6) 1), none⟩, ⟨(some 4), .v (.mov (.t 9)), none⟩, ⟨(some 5), .v (.mov (.t 10)), none⟩])
   (.seq
    (.seq
     (.reg [⟨(some 11), .v (.mov (.t 5)), none⟩, ⟨(some 12), .v (.un .not (.t 11)), none⟩])
     (.cond (.t 12)
      (.seq
       (.reg [⟨(some 2), .v (.mov (.c (.str []))), none⟩, ⟨(some 3), .v (.mov (.c (.bool false))), none⟩])
       .ret)
      .skip))
    (.seq
     (.reg [⟨(some 13), .v (.mov (.t 4)), none⟩, ⟨(some 14), .call 31 [(.t 13)], none⟩, ⟨(some 2), .v (.mov (.t 14)), none⟩, ⟨(some 3), .v (.mov (.c (.bool true))), none⟩])
     .ret))))⟩
theorem e12 : rFunc Tryz.prog Tryz.f12 = some r12 := by kernel_rfl
def r33 : RFunc := ⟨12, [.t 2, .t 3],
 (.seq
  (.reg [⟨(some 2), .v (.mov (.c .nils)), none⟩, ⟨(some 3), .v (.mov (.c (.bool false))), none⟩])
  (.seq
   (.reg [⟨(some 5), .v (.mov (.t 0)), none⟩, ⟨(some 6), .call 59 [(.t 5)], none⟩, ⟨(some 4), .v (.mov (.t 6)), none⟩])
   (.seq
    (.seq
     (.reg [⟨(some 7), .v (.mov (.t 4)), none⟩, ⟨(some 8), .v (.seq false (.t 7) (.c .nils)), none⟩])
     (.cond (.t 8)
      (.seq
       (.reg [⟨(some 2), .v (.mov (.c .nils)), none⟩, ⟨(some 3), .v (.mov (.c (.bool false))), none⟩])
       .ret)
      .skip))
    (.seq
     (.reg [⟨(some 9), .v (.mov (.t 0)), none⟩, ⟨(some 10), .v (.mov (.t 4)), none⟩, ⟨(some 11), .call 60 [(.t 9), (.t 10)], none⟩, ⟨(some 2), .v (.mov (.t 11)), none⟩, ⟨(some 3), .v (.mov (.c (.bool true))), none⟩])
     .ret))))⟩
theorem e33 : rFunc Tryz.prog Tryz.f33 = some r33 := by kernel_rfl
def r34 : RFunc := ⟨11, [.t 2, .t 3],
 (.seq
  (.reg [⟨(some 2), .v (.mov (.c (.str []))), none⟩, ⟨(some 3), .v (.mov (.c (.bool false))), none⟩])
  (.seq
   (.reg [⟨(some 4), .m (.bsl 1 1 [(.str [])] [(0, 1, (.c (.str [116, 114, 105, 101])))]), none⟩, ⟨(some 5), .v (.mov (.t 0)), none⟩, ⟨(some 6), .m (.app false 1 16 (.t 4) (.t 5)), none⟩, ⟨(some 7), .call 61 [(.t 6), (.c (.str [32]))], none⟩, ⟨(some 8), .call 37 [(.t 7)], none⟩, ⟨(some 9), .v (.ext (.t 8) 0), none⟩, ⟨(some 10), .v (.ext (.t 8) 1), none⟩, ⟨(some 2), .v (.mov (.t 9)), none⟩, ⟨(some 3), .v (.mov (.t 10)), none⟩])
   .ret))⟩
theorem e34 : rFunc Tryz.prog Tryz.f34 = some r34 := by kernel_rfl
def r14 : RFunc := ⟨16, [.t 2, .t 3],
 (.seq
  (.reg [⟨(some 1), .m (.box (.t 0)), none⟩, ⟨(some 2), .v (.mov (.c (.str []))), none⟩, ⟨(some 3), .v (.mov (.c (.bool false))), none⟩])
  (.seq
   (.reg [⟨(some 7), .call 33 [(.t 1)], none⟩, ⟨(some 6), .v (.mov (.t 7)), none⟩, ⟨(some 8), .v (.ext (.t 6) 0), none⟩, ⟨(some 9), .v (.ext (.t 6) 1), none⟩, ⟨(some 4), .v (.mov (.t 8)), none⟩, ⟨(some 5), .v (.mov (.t 9)), none⟩])
   (.seq
    (.seq
     (.reg [⟨(some 10), .v (.mov (.t 5)), none⟩, ⟨(some 11), .v (.un .not (.t 10)), none⟩])
     (.cond (.t 11)
      (.seq
       (.reg [⟨(some 2), .v (.mov (.c (.str []))), none⟩, ⟨(some 3), .v (.mov (.c (.bool false))), none⟩])
       .ret)
      .skip))
    (.seq
     (.reg [⟨(some 12), .v (.mov (.t 4)), none⟩, ⟨(some 13), .call 34 [(.t 12)], none⟩, ⟨(some 14), .v (.ext (.t 13) 0), none⟩, ⟨(some 15), .v (.ext (.t 13) 1), none⟩, ⟨(some 2), .v (.mov (.t 14)), none⟩, ⟨(some 3), .v (.mov (.t 15)), none⟩])
     .ret))))⟩
theorem e14 : rFunc Tryz.prog Tryz.f14 = some r14 := by kernel_rfl
end Go.Proofs.YtakjemikampncaaGreatDoor.M
