/-
  The resolved text of the functions, each tied to the program's own by the kernel.
-/
import Derived.Test.YtidhhiecgehgfaaGreatProg
import Derived.Test.YtidhhiecgehgfaaGreatFkd
namespace Go.Proofs.YtidhhiecgehgfaaGreat.M
open Go Go.RowKit
set_option maxRecDepth 100000

def r57 : RFunc := ⟨21, [.t 4, .t 5, .t 6],
 (.seq
  (.reg [⟨(some 4), .v (.mov (.c (.str []))), none⟩, ⟨(some 5), .v (.mov (.c .nils)), none⟩, ⟨(some 6), .v (.mov (.c (.bool false))), none⟩])
  (.seq
   (.reg [⟨(some 8), .v (.mov (.t 0)), none⟩, ⟨(some 9), .call 75 [(.t 8)], none⟩, ⟨(some 7), .v (.mov (.t 9)), none⟩])
   (.seq
    (.seq
     (.reg [⟨(some 10), .v (.mov (.t 1)), none⟩, ⟨(some 11), .v (.mov (.t 7)), none⟩, ⟨(some 12), .v (.len (.t 11)), none⟩, ⟨(some 13), .v (.bin .sub (.t 12) (.c (.int .i64 1))), none⟩, ⟨(some 14), .call 60 [(.t 10), (.c (.int .i64 0)), (.t 13)], none⟩, ⟨(some 15), .v (.un .not (.t 14)), none⟩])
     (.cond (.t 15)
      (.seq
       (.reg [⟨(some 4), .v (.mov (.c (.str []))), none⟩, ⟨(some 5), .v (.mov (.c .nils)), none⟩, ⟨(some 6), .v (.mov (.c (.bool false))), none⟩])
       .ret)
      .skip))
    (.seq
     (.reg [⟨(some 16), .v (.mov (.t 7)), none⟩, ⟨(some 17), .v (.mov (.t 1)), none⟩, ⟨(some 18), .v (.iaddr 1 (.t 16) (.t 17)), none⟩, ⟨(some 19), .v (.load false 1 (.t 18)), none⟩, ⟨(some 20), .v (.mov (.t 7)), none⟩, ⟨(some 4), .v (.mov (.t 19)), none⟩, ⟨(some 5), .v (.mov (.t 20)), none⟩, ⟨(some 6), .v (.mov (.c (.bool true))), none⟩])
     .ret))))⟩
theorem e57 : rFunc Tryz.prog Tryz.f57 = some r57 := by kernel_rfl
def r33 : RFunc := ⟨17, [.t 4, .t 5],
 (.seq
  (.reg [⟨(some 2), .m (.box (.t 0)), none⟩, ⟨(some 4), .v (.mov (.c (.str []))), none⟩, ⟨(some 5), .v (.mov (.c (.bool false))), none⟩])
  (.seq
   (.reg [⟨(some 10), .v (.mov (.t 1)), none⟩, ⟨(some 11), .call 57 [(.t 2), (.t 10)], none⟩, ⟨(some 9), .v (.mov (.t 11)), none⟩, ⟨(some 12), .v (.ext (.t 9) 0), none⟩, ⟨(some 13), .v (.ext (.t 9) 1), none⟩, ⟨(some 14), .v (.ext (.t 9) 2), none⟩, ⟨(some 6), .v (.mov (.t 12)), none⟩, ⟨(some 7), .v (.mov (.t 13)), none⟩, ⟨(some 8), .v (.mov (.t 14)), none⟩])
   (.seq
    (.reg [⟨(some 15), .v (.mov (.t 6)), none⟩, ⟨(some 16), .v (.mov (.t 8)), none⟩, ⟨(some 4), .v (.mov (.t 15)), none⟩, ⟨(some 5), .v (.mov (.t 16)), none⟩])
    .ret)))⟩
theorem e33 : rFunc Tryz.prog Tryz.f33 = some r33 := by kernel_rfl
def r53 : RFunc := ⟨15, [.t 2, .t 3],
 (.seq
  (.reg [⟨(some 1), .m (.box (.t 0)), none⟩, ⟨(some 2), .v (.mov (.c .nils)), none⟩, ⟨(some 3), .v (.mov (.c (.bool false))), none⟩])
  (.seq
   (.reg [⟨(some 7), .v (.load true 5 (.t 1)), none⟩, ⟨(some 8), .call 61 [(.t 7)], none⟩, ⟨(some 6), .v (.mov (.t 8)), none⟩, ⟨(some 9), .v (.ext (.t 6) 0), none⟩, ⟨(some 10), .v (.ext (.t 6) 1), none⟩, ⟨(some 4), .v (.mov (.t 9)), none⟩, ⟨(some 5), .v (.mov (.t 10)), none⟩])
   (.seq
    (.seq
     (.reg [⟨(some 11), .v (.mov (.t 5)), none⟩, ⟨(some 12), .v (.un .not (.t 11)), none⟩])
     (.cond (.t 12)
      (.seq
       (.reg [⟨(some 2), .v (.mov (.c .nils)), none⟩, ⟨(some 3), .v (.mov (.c (.bool false))), none⟩])
       .ret)
      .skip))
    (.seq
     (.reg [⟨(some 13), .v (.mov (.t 4)), none⟩, ⟨(some 14), .call 88 [(.t 13)], none⟩, ⟨(some 2), .v (.mov (.t 14)), none⟩, ⟨(some 3), .v (.mov (.c (.bool true))), none⟩])
     .ret))))⟩
theorem e53 : rFunc Tryz.prog Tryz.f53 = some r53 := by kernel_rfl
def r34 : RFunc := ⟨27, [.t 4, .t 5],
 (.seq
  (.reg [⟨(some 2), .m (.box (.t 0)), none⟩, ⟨(some 4), .v (.mov (.c (.str []))), none⟩, ⟨(some 5), .v (.mov (.c (.bool false))), none⟩])
  (.seq
   (.reg [⟨(some 9), .v (.load true 5 (.t 2)), none⟩, ⟨(some 10), .call 53 [(.t 9)], none⟩, ⟨(some 8), .v (.mov (.t 10)), none⟩, ⟨(some 11), .v (.ext (.t 8) 0), none⟩, ⟨(some 12), .v (.ext (.t 8) 1), none⟩, ⟨(some 6), .v (.mov (.t 11)), none⟩, ⟨(some 7), .v (.mov (.t 12)), none⟩])
   (.seq
    (.seq
     (.reg [⟨(some 13), .v (.mov (.t 7)), none⟩, ⟨(some 14), .v (.un .not (.t 13)), none⟩, ⟨(some 15), .v (.mov (.t 14)), none⟩, ⟨(some 16), .v (.mov (.t 1)), (some (15, false))⟩, ⟨(some 17), .v (.mov (.t 6)), (some (15, false))⟩, ⟨(some 18), .v (.len (.t 17)), (some (15, false))⟩, ⟨(some 19), .v (.bin .sub (.t 18) (.c (.int .i64 1))), (some (15, false))⟩, ⟨(some 20), .call 54 [(.t 16), (.c (.int .i64 0)), (.t 19)], (some (15, false))⟩, ⟨(some 21), .v (.un .not (.t 20)), (some (15, false))⟩, ⟨(some 22), .v (.pick (.t 15) (.c (.bool true)) (.t 21)), none⟩])
     (.cond (.t 22)
      (.seq
       (.reg [⟨(some 4), .v (.mov (.c (.str []))), none⟩, ⟨(some 5), .v (.mov (.c (.bool false))), none⟩])
       .ret)
      .skip))
    (.seq
     (.reg [⟨(some 23), .v (.mov (.t 6)), none⟩, ⟨(some 24), .v (.mov (.t 1)), none⟩, ⟨(some 25), .v (.iaddr 1 (.t 23) (.t 24)), none⟩, ⟨(some 26), .v (.load false 1 (.t 25)), none⟩, ⟨(some 4), .v (.mov (.t 26)), none⟩, ⟨(some 5), .v (.mov (.c (.bool true))), none⟩])
     .ret))))⟩
theorem e34 : rFunc Tryz.prog Tryz.f34 = some r34 := by kernel_rfl
def r36 : RFunc := ⟨45, [.t 4, .t 5],
 (.seq
  (.reg [⟨(some 2), .m (.box (.t 0)), none⟩, ⟨(some 4), .v (.mov (.c (.str []))), none⟩, ⟨(some 5), .v (.mov (.c (.bool false))), none⟩])
  (.seq
   (.reg [⟨(some 13), .v (.mov (.t 1)), none⟩, ⟨(some 14), .call 57 [(.t 2), (.t 13)], none⟩, ⟨(some 12), .v (.mov (.t 14)), none⟩, ⟨(some 15), .v (.ext (.t 12) 0), none⟩, ⟨(some 16), .v (.ext (.t 12) 1), none⟩, ⟨(some 17), .v (.ext (.t 12) 2), none⟩, ⟨(some 6), .v (.mov (.t 15)), none⟩, ⟨(some 7), .v (.mov (.t 16)), none⟩, ⟨(some 8), .v (.mov (.t 17)), none⟩])
   (.seq
    (.seq
     (.reg [⟨(some 18), .v (.mov (.t 8)), none⟩, ⟨(some 19), .v (.un .not (.t 18)), none⟩])
     (.cond (.t 19)
      (.seq
       (.reg [⟨(some 4), .v (.mov (.c (.str []))), none⟩, ⟨(some 5), .v (.mov (.c (.bool false))), none⟩])
       .ret)
      .skip))
    (.seq
     (.reg [⟨(some 9), .v (.mov (.c (.str []))), none⟩])
     (.seq
      (.seq
       (.reg [⟨(some 20), .v (.mov (.t 7)), none⟩, ⟨(some 21), .v (.len (.t 20)), none⟩, ⟨(some 22), .v (.mov (.c (.int .i64 0))), none⟩])
       (.block 0
        (.loop
         (.seq
          (.reg [⟨(some 23), .v (.bin .lss (.t 22) (.t 21)), none⟩])
          (.seq
           (.cond (.t 23)
            .skip
            (.exit 0))
           (.seq
            (.block 1
             (.seq
              (.reg [⟨(some 24), .v (.iaddr 1 (.t 20) (.t 22)), none⟩, ⟨(some 25), .v (.load false 1 (.t 24)), none⟩, ⟨(some 11), .v (.mov (.t 25)), none⟩])
              (.seq
               (.reg [⟨(some 26), .v (.mov (.t 11)), none⟩, ⟨(some 27), .v (.lens (.t 26)), none⟩, ⟨(some 28), .v (.mov (.t 6)), none⟩, ⟨(some 29), .v (.lens (.t 28)), none⟩, ⟨(some 30), .v (.bin .add (.t 29) (.c (.int .i64 1))), none⟩, ⟨(some 31), .v (.bin .eql (.t 27) (.t 30)), none⟩, ⟨(some 32), .v (.mov (.t 31)), none⟩, ⟨(some 33), .v (.mov (.t 11)), (some (32, true))⟩, ⟨(some 34), .v (.mov (.t 6)), (some (32, true))⟩, ⟨(some 35), .call 76 [(.t 33), (.t 34)], (some (32, true))⟩, ⟨(some 36), .v (.pick (.t 32) (.t 35) (.c (.bool false))), none⟩])
               (.cond (.t 36)
                (.reg [⟨(some 37), .v (.mov (.t 9)), none⟩, ⟨(some 38), .v (.mov (.t 11)), none⟩, ⟨(some 39), .v (.mov (.t 6)), none⟩, ⟨(some 40), .v (.lens (.t 39)), none⟩, ⟨(some 41), .v (.sstr (.t 38) (some (.t 40)) none), none⟩, ⟨(some 42), .v (.bin .add (.t 37) (.t 41)), none⟩, ⟨(some 9), .v (.mov (.t 42)), none⟩])
                .skip))))
            (.reg [⟨(some 43), .v (.bin .add (.t 22) (.c (.int .i64 1))), none⟩, ⟨(some 22), .v (.mov (.t 43)), none⟩])))))))
      (.seq
       (.reg [⟨(some 44), .v (.mov (.t 9)), none⟩, ⟨(some 4), .v (.mov (.t 44)), none⟩, ⟨(some 5), .v (.mov (.c (.bool true))), none⟩])
       .ret))))))⟩
theorem e36 : rFunc Tryz.prog Tryz.f36 = some r36 := by kernel_rfl
end Go.Proofs.YtidhhiecgehgfaaGreat.M
