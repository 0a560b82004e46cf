/-
  The resolved text of the functions, each tied to the program's own by the kernel.
-/
import Derived.Test.YtbkcenkfecndjaaGreatDoorProg
import Derived.Test.YtbkcenkfecndjaaGreatDoorFkz
import Derived.Test.YtbkcenkfecndjaaGreatDoorShelf
namespace Go.Proofs.YtbkcenkfecndjaaGreatDoor.M
open Go Go.RowKit
set_option maxRecDepth 100000

def r4 : RFunc := ⟨16, [.t 4],
 (.seq
  (.reg [⟨(some 4), .v (.mov (.c (.bool false))), none⟩])
  (.seq
   (.reg [⟨(some 5), .v (.mov (.t 0)), none⟩, ⟨(some 6), .v (.len (.t 5)), none⟩, ⟨(some 7), .v (.bin .gtr (.t 6) (.c (.int .i64 1048576))), none⟩, ⟨(some 8), .v (.mov (.t 7)), none⟩, ⟨(some 9), .v (.mov (.t 1)), (some (8, false))⟩, ⟨(some 10), .v (.len (.t 9)), (some (8, false))⟩, ⟨(some 11), .v (.mov (.t 0)), (some (8, false))⟩, ⟨(some 12), .v (.len (.t 11)), (some (8, false))⟩, ⟨(some 13), .v (.bin .sub (.c (.int .i64 1048576)) (.t 12)), (some (8, false))⟩, ⟨(some 14), .v (.bin .gtr (.t 10) (.t 13)), (some (8, false))⟩, ⟨(some 15), .v (.pick (.t 8) (.c (.bool true)) (.t 14)), none⟩, ⟨(some 4), .v (.mov (.t 15)), none⟩])
   .ret))⟩
theorem e4 : rFunc Tryz.prog Tryz.f4 = some r4 := by kernel_rfl
def r3 : RFunc := ⟨110, [.t 4],
 (.seq
  (.reg [⟨(some 4), .v (.mov (.c (.bool false))), none⟩])
  (.seq
   (.seq
    (.reg [⟨(some 23), .v (.mov (.t 0)), none⟩, ⟨(some 24), .v (.mov (.t 1)), none⟩, ⟨(some 25), .call 4 [(.t 23), (.t 24)], none⟩])
    (.cond (.t 25)
     (.seq
      (.reg [⟨(some 4), .v (.mov (.c (.bool true))), none⟩])
      .ret)
     .skip))
   (.seq
    (.reg [⟨(some 26), .v (.mov (.t 0)), none⟩, ⟨(some 27), .call 5 [(.t 26)], none⟩, ⟨(some 5), .m (.alloc [(.int .i64 0), (.int .i64 0), (.int .i64 0), (.int .i64 0), .nils, (.int .i64 0), .nils]), none⟩, ⟨none, .m (.store 7 (.t 5) (.t 27)), none⟩])
    (.seq
     (.reg [⟨(some 28), .v (.mov (.t 1)), none⟩, ⟨(some 29), .call 6 [(.t 28)], none⟩, ⟨(some 6), .m (.alloc [(.int .i64 0), (.int .i64 0), .nils]), none⟩, ⟨none, .m (.store 3 (.t 6) (.t 29)), none⟩])
     (.seq
      (.reg [⟨(some 31), .v (.load true 7 (.t 5)), none⟩, ⟨(some 32), .call 7 [(.t 31)], none⟩, ⟨(some 30), .v (.mov (.t 32)), none⟩, ⟨(some 33), .v (.ext (.t 30) 0), none⟩, ⟨(some 34), .v (.ext (.t 30) 1), none⟩, ⟨(some 7), .v (.mov (.t 33)), none⟩, ⟨(some 8), .v (.mov (.t 34)), none⟩])
      (.seq
       (.reg [⟨(some 36), .v (.load true 7 (.t 5)), none⟩, ⟨(some 37), .call 8 [(.t 36)], none⟩, ⟨(some 35), .v (.mov (.t 37)), none⟩, ⟨(some 38), .v (.ext (.t 35) 0), none⟩, ⟨(some 39), .v (.ext (.t 35) 1), none⟩, ⟨(some 9), .v (.mov (.t 38)), none⟩, ⟨(some 10), .v (.mov (.t 39)), none⟩])
       (.seq
        (.seq
         (.reg [⟨(some 40), .v (.mov (.t 8)), none⟩, ⟨(some 41), .v (.mov (.t 10)), none⟩, ⟨(some 42), .v (.beq true (.t 40) (.t 41)), none⟩, ⟨(some 43), .v (.mov (.t 42)), none⟩, ⟨(some 44), .v (.mov (.t 7)), (some (43, false))⟩, ⟨(some 45), .v (.mov (.t 9)), (some (43, false))⟩, ⟨(some 46), .v (.bin .neq (.t 44) (.t 45)), (some (43, false))⟩, ⟨(some 47), .v (.pick (.t 43) (.c (.bool true)) (.t 46)), none⟩])
         (.cond (.t 47)
          (.seq
           (.reg [⟨(some 4), .v (.mov (.c (.bool false))), none⟩])
           .ret)
          .skip))
        (.seq
         (.reg [⟨(some 49), .v (.load true 3 (.t 6)), none⟩, ⟨(some 50), .call 9 [(.t 49)], none⟩, ⟨(some 48), .v (.mov (.t 50)), none⟩, ⟨(some 51), .v (.ext (.t 48) 0), none⟩, ⟨(some 52), .v (.ext (.t 48) 1), none⟩, ⟨(some 11), .v (.mov (.t 51)), none⟩, ⟨(some 12), .v (.mov (.t 52)), none⟩])
         (.seq
          (.reg [⟨(some 54), .v (.load true 3 (.t 6)), none⟩, ⟨(some 55), .call 10 [(.t 54)], none⟩, ⟨(some 53), .v (.mov (.t 55)), none⟩, ⟨(some 56), .v (.ext (.t 53) 0), none⟩, ⟨(some 57), .v (.ext (.t 53) 1), none⟩, ⟨(some 13), .v (.mov (.t 56)), none⟩, ⟨(some 14), .v (.mov (.t 57)), none⟩])
          (.seq
           (.seq
            (.reg [⟨(some 58), .v (.mov (.t 12)), none⟩, ⟨(some 59), .v (.mov (.t 14)), none⟩, ⟨(some 60), .v (.beq true (.t 58) (.t 59)), none⟩, ⟨(some 61), .v (.mov (.t 60)), none⟩, ⟨(some 62), .v (.mov (.t 11)), (some (61, false))⟩, ⟨(some 63), .v (.mov (.t 13)), (some (61, false))⟩, ⟨(some 64), .v (.bin .neq (.t 62) (.t 63)), (some (61, false))⟩, ⟨(some 65), .v (.pick (.t 61) (.c (.bool true)) (.t 64)), none⟩])
            (.cond (.t 65)
             (.seq
              (.reg [⟨(some 4), .v (.mov (.c (.bool false))), none⟩])
              .ret)
             .skip))
           (.seq
            (.seq
             (.reg [⟨(some 66), .v (.mov (.t 10)), none⟩])
             (.cond (.t 66)
              (.seq
               (.reg [⟨(some 68), .v (.mov (.t 7)), none⟩, ⟨(some 69), .call 11 [(.t 68)], none⟩, ⟨(some 67), .v (.mov (.t 69)), none⟩, ⟨(some 70), .v (.ext (.t 67) 0), none⟩, ⟨(some 71), .v (.ext (.t 67) 1), none⟩, ⟨(some 15), .m (.alloc [(.int .i64 0), (.int .i64 0), (.int .i64 0), (.int .i64 0), .nils, (.int .i64 0), .nils]), none⟩, ⟨none, .m (.store 7 (.t 15) (.t 70)), none⟩, ⟨(some 16), .v (.mov (.t 71)), none⟩])
               (.seq
                (.reg [⟨(some 73), .v (.mov (.t 7)), none⟩, ⟨(some 74), .call 12 [(.t 73)], none⟩, ⟨(some 72), .v (.mov (.t 74)), none⟩, ⟨(some 75), .v (.ext (.t 72) 0), none⟩, ⟨(some 76), .v (.ext (.t 72) 1), none⟩, ⟨(some 17), .m (.alloc [(.int .i64 0), (.int .i64 0), .nils]), none⟩, ⟨none, .m (.store 3 (.t 17) (.t 75)), none⟩, ⟨(some 18), .v (.mov (.t 76)), none⟩])
                (.seq
                 (.reg [⟨(some 77), .v (.mov (.t 16)), none⟩, ⟨(some 78), .v (.un .not (.t 77)), none⟩, ⟨(some 79), .v (.mov (.t 78)), none⟩, ⟨(some 80), .v (.mov (.t 18)), (some (79, false))⟩, ⟨(some 81), .v (.pick (.t 79) (.c (.bool true)) (.t 80)), none⟩, ⟨(some 82), .v (.mov (.t 81)), none⟩, ⟨(some 83), .v (.load true 7 (.t 15)), (some (82, false))⟩, ⟨(some 84), .v (.load true 7 (.t 5)), (some (82, false))⟩, ⟨(some 85), .call 13 [(.t 83), (.t 84)], (some (82, false))⟩, ⟨(some 86), .v (.un .not (.t 85)), (some (82, false))⟩, ⟨(some 87), .v (.pick (.t 82) (.c (.bool true)) (.t 86)), none⟩])
                 (.cond (.t 87)
                  (.seq
                   (.reg [⟨(some 4), .v (.mov (.c (.bool false))), none⟩])
                   .ret)
                  .skip))))
              .skip))
            (.seq
             (.seq
              (.reg [⟨(some 88), .v (.mov (.t 14)), none⟩])
              (.cond (.t 88)
               (.seq
                (.reg [⟨(some 90), .v (.mov (.t 11)), none⟩, ⟨(some 91), .call 12 [(.t 90)], none⟩, ⟨(some 89), .v (.mov (.t 91)), none⟩, ⟨(some 92), .v (.ext (.t 89) 0), none⟩, ⟨(some 93), .v (.ext (.t 89) 1), none⟩, ⟨(some 19), .m (.alloc [(.int .i64 0), (.int .i64 0), .nils]), none⟩, ⟨none, .m (.store 3 (.t 19) (.t 92)), none⟩, ⟨(some 20), .v (.mov (.t 93)), none⟩])
                (.seq
                 (.reg [⟨(some 95), .v (.mov (.t 11)), none⟩, ⟨(some 96), .call 11 [(.t 95)], none⟩, ⟨(some 94), .v (.mov (.t 96)), none⟩, ⟨(some 97), .v (.ext (.t 94) 0), none⟩, ⟨(some 98), .v (.ext (.t 94) 1), none⟩, ⟨(some 21), .m (.alloc [(.int .i64 0), (.int .i64 0), (.int .i64 0), (.int .i64 0), .nils, (.int .i64 0), .nils]), none⟩, ⟨none, .m (.store 7 (.t 21) (.t 97)), none⟩, ⟨(some 22), .v (.mov (.t 98)), none⟩])
                 (.seq
                  (.reg [⟨(some 99), .v (.mov (.t 20)), none⟩, ⟨(some 100), .v (.un .not (.t 99)), none⟩, ⟨(some 101), .v (.mov (.t 100)), none⟩, ⟨(some 102), .v (.mov (.t 22)), (some (101, false))⟩, ⟨(some 103), .v (.pick (.t 101) (.c (.bool true)) (.t 102)), none⟩, ⟨(some 104), .v (.mov (.t 103)), none⟩, ⟨(some 105), .v (.load true 3 (.t 19)), (some (104, false))⟩, ⟨(some 106), .v (.load true 3 (.t 6)), (some (104, false))⟩, ⟨(some 107), .call 14 [(.t 105), (.t 106)], (some (104, false))⟩, ⟨(some 108), .v (.un .not (.t 107)), (some (104, false))⟩, ⟨(some 109), .v (.pick (.t 104) (.c (.bool true)) (.t 108)), none⟩])
                  (.cond (.t 109)
                   (.seq
                    (.reg [⟨(some 4), .v (.mov (.c (.bool false))), none⟩])
                    .ret)
                   .skip))))
               .skip))
             (.seq
              (.reg [⟨(some 4), .v (.mov (.c (.bool true))), none⟩])
              .ret)))))))))))))⟩
theorem e3 : rFunc Tryz.prog Tryz.f3 = some r3 := by kernel_rfl
end Go.Proofs.YtbkcenkfecndjaaGreatDoor.M
