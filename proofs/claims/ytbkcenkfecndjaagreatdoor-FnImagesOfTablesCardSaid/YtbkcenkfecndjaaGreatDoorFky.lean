/-
  The resolved text of the functions, each tied to the program's own by the kernel.
-/
import Derived.Test.YtbkcenkfecndjaaGreatDoorProg
import Derived.Test.YtbkcenkfecndjaaGreatDoorFkw
import Derived.Test.YtbkcenkfecndjaaGreatDoorShelf
namespace Go.Proofs.YtbkcenkfecndjaaGreatDoor.M
open Go Go.RowKit
set_option maxRecDepth 100000

def r10 : RFunc := ⟨36, [.t 2, .t 3],
 (.seq
  (.reg [⟨(some 1), .m (.box (.t 0)), none⟩, ⟨(some 2), .v (.mov (.c (.str []))), none⟩, ⟨(some 3), .v (.mov (.c (.bool false))), none⟩])
  (.seq
   (.seq
    (.reg [⟨(some 7), .v (.load true 3 (.t 1)), none⟩, ⟨(some 8), .call 25 [(.t 7)], none⟩, ⟨(some 9), .v (.un .not (.t 8)), none⟩])
    (.cond (.t 9)
     (.seq
      (.reg [⟨(some 2), .v (.mov (.c (.str []))), none⟩, ⟨(some 3), .v (.mov (.c (.bool false))), none⟩])
      .ret)
     .skip))
   (.seq
    (.dreg (.fl ⟨(some 10), .v (.faddr 0 (.t 1)), none⟩ (.fl ⟨(some 11), .v (.load false 1 (.t 10)), none⟩ (.fl ⟨(some 15), .v (.faddr 1 (.t 1)), none⟩ (.fl ⟨(some 16), .v (.load false 1 (.t 15)), none⟩ (.nx ⟨(some 12), .call 21 [(.t 11)], none⟩ (.fl ⟨(some 13), .v (.bin .add (.c (.str [112, 101, 101, 108, 101, 100, 32])) (.t 12)), none⟩ (.fl ⟨(some 14), .v (.bin .add (.t 13) (.c (.str [32]))), none⟩ (.nx ⟨(some 17), .call 21 [(.t 16)], none⟩ (.fl ⟨(some 18), .v (.bin .add (.t 14) (.t 17)), none⟩ (.fl ⟨(some 19), .v (.bin .add (.t 18) (.c (.str [32]))), none⟩ (.fl ⟨(some 4), .v (.mov (.t 19)), none⟩ .done))))))))))))
    (.seq
     (.seq
      (.reg [⟨(some 20), .v (.faddr 2 (.t 1)), none⟩, ⟨(some 21), .v (.load false 1 (.t 20)), none⟩, ⟨(some 22), .v (.len (.t 21)), none⟩, ⟨(some 23), .v (.mov (.c (.int .i64 0))), none⟩])
      (.block 0
       (.loop
        (.seq
         (.reg [⟨(some 24), .v (.bin .lss (.t 23) (.t 22)), none⟩])
         (.seq
          (.cond (.t 24)
           .skip
           (.exit 0))
          (.seq
           (.block 1
            (.seq
             (.reg [⟨(some 25), .v (.iaddr 1 (.t 21) (.t 23)), none⟩, ⟨(some 26), .v (.load false 1 (.t 25)), none⟩, ⟨(some 6), .v (.mov (.t 26)), none⟩])
             (.reg [⟨(some 27), .v (.mov (.t 4)), none⟩, ⟨(some 28), .v (.mov (.t 6)), none⟩, ⟨(some 29), .call 21 [(.t 28)], none⟩, ⟨(some 30), .v (.bin .add (.t 27) (.t 29)), none⟩, ⟨(some 4), .v (.mov (.t 30)), none⟩])))
           (.reg [⟨(some 31), .v (.bin .add (.t 23) (.c (.int .i64 1))), none⟩, ⟨(some 23), .v (.mov (.t 31)), none⟩])))))))
     (.seq
      (.reg [⟨(some 32), .v (.mov (.t 4)), none⟩, ⟨(some 33), .call 23 [(.t 32)], none⟩, ⟨(some 34), .v (.ext (.t 33) 0), none⟩, ⟨(some 35), .v (.ext (.t 33) 1), none⟩, ⟨(some 2), .v (.mov (.t 34)), none⟩, ⟨(some 3), .v (.mov (.t 35)), none⟩])
      .ret)))))⟩
theorem e10 : rFunc Tryz.prog Tryz.f10 = some r10 := by kernel_rfl
def r95 : RFunc := ⟨19, [.t 4],
 (.seq
  (.reg [⟨(some 4), .v (.mov (.c (.int .i64 0))), none⟩])
  (.seq
   (.seq
    (.reg [⟨(some 6), .v (.mov (.t 0)), none⟩, ⟨(some 7), .v (.len (.t 6)), none⟩, ⟨(some 8), .v (.mov (.c (.int .i64 0))), none⟩])
    (.block 0
     (.loop
      (.seq
       (.reg [⟨(some 9), .v (.bin .lss (.t 8) (.t 7)), none⟩])
       (.seq
        (.cond (.t 9)
         .skip
         (.exit 0))
        (.seq
         (.block 1
          (.seq
           (.reg [⟨(some 10), .v (.mov (.t 8)), none⟩, ⟨(some 5), .v (.mov (.t 10)), none⟩])
           (.seq
            (.reg [⟨(some 11), .v (.mov (.t 1)), none⟩, ⟨(some 12), .v (.mov (.t 0)), none⟩, ⟨(some 13), .v (.mov (.t 5)), none⟩, ⟨(some 14), .v (.iaddr 1 (.t 12) (.t 13)), none⟩, ⟨(some 15), .v (.load false 1 (.t 14)), none⟩, ⟨(some 16), .callv (.t 11) [(.t 15)], none⟩])
            (.cond (.t 16)
             (.seq
              (.reg [⟨(some 17), .v (.mov (.t 5)), none⟩, ⟨(some 4), .v (.mov (.t 17)), none⟩])
              .ret)
             .skip))))
         (.reg [⟨(some 18), .v (.bin .add (.t 8) (.c (.int .i64 1))), none⟩, ⟨(some 8), .v (.mov (.t 18)), none⟩])))))))
   (.seq
    (.reg [⟨(some 4), .v (.mov (.c (.int .i64 (-1)))), none⟩])
    .ret)))⟩
theorem e95 : rFunc Tryz.prog Tryz.f95 = some r95 := by kernel_rfl
def r62 : RFunc := ⟨9, [.t 4],
 (.seq
  (.reg [⟨(some 4), .v (.mov (.c (.bool false))), none⟩])
  (.seq
   (.reg [⟨(some 5), .v (.mov (.t 0)), none⟩, ⟨(some 6), .v (.mov (.t 1)), none⟩, ⟨(some 7), .call 95 [(.t 5), (.t 6)], none⟩, ⟨(some 8), .v (.bin .geq (.t 7) (.c (.int .i64 0))), none⟩, ⟨(some 4), .v (.mov (.t 8)), none⟩])
   .ret))⟩
theorem e62 : rFunc Tryz.prog Tryz.f62 = some r62 := by kernel_rfl
def r65 : RFunc := ⟨5, [.t 2],
 (.seq
  (.reg [⟨(some 2), .v (.mov (.c (.bool false))), none⟩])
  (.seq
   (.reg [⟨(some 3), .v (.mov (.t 0)), none⟩, ⟨(some 4), .call 64 [(.t 3), (.c (.int .i64 0)), (.c (.int .i64 9999))], none⟩, ⟨(some 2), .v (.mov (.t 4)), none⟩])
   .ret))⟩
theorem e65 : rFunc Tryz.prog Tryz.f65 = some r65 := by kernel_rfl
def r66 : RFunc := ⟨5, [.t 2],
 (.seq
  (.reg [⟨(some 2), .v (.mov (.c (.bool false))), none⟩])
  (.seq
   (.reg [⟨(some 3), .v (.mov (.t 0)), none⟩, ⟨(some 4), .call 64 [(.t 3), (.c (.int .i64 1)), (.c (.int .i64 24))], none⟩, ⟨(some 2), .v (.mov (.t 4)), none⟩])
   .ret))⟩
theorem e66 : rFunc Tryz.prog Tryz.f66 = some r66 := by kernel_rfl
def r63 : RFunc := ⟨6, [.t 2],
 (.seq
  (.reg [⟨(some 2), .v (.mov (.c (.bool false))), none⟩])
  (.seq
   (.reg [⟨(some 3), .v (.mov (.t 0)), none⟩, ⟨(some 4), .call 64 [(.t 3), (.c (.int .i64 0)), (.c (.int .i64 3))], none⟩, ⟨(some 5), .v (.un .not (.t 4)), none⟩, ⟨(some 2), .v (.mov (.t 5)), none⟩])
   .ret))⟩
theorem e63 : rFunc Tryz.prog Tryz.f63 = some r63 := by kernel_rfl
def r24 : RFunc := ⟨28, [.t 2],
 (.seq
  (.reg [⟨(some 1), .m (.box (.t 0)), none⟩, ⟨(some 2), .v (.mov (.c (.bool false))), none⟩])
  (.seq
   (.reg [⟨(some 4), .v (.faddr 2 (.t 1)), none⟩, ⟨(some 5), .v (.load false 1 (.t 4)), none⟩, ⟨(some 6), .call 62 [(.t 5), (.c (.fn 63 []))], none⟩, ⟨(some 3), .v (.mov (.t 6)), none⟩])
   (.seq
    (.reg [⟨(some 7), .v (.mov (.t 3)), none⟩, ⟨(some 8), .v (.un .not (.t 7)), none⟩, ⟨(some 9), .v (.mov (.t 8)), none⟩, ⟨(some 10), .v (.faddr 0 (.t 1)), (some (9, true))⟩, ⟨(some 11), .v (.load false 1 (.t 10)), (some (9, true))⟩, ⟨(some 12), .call 65 [(.t 11)], (some (9, true))⟩, ⟨(some 13), .v (.pick (.t 9) (.t 12) (.c (.bool false))), none⟩, ⟨(some 14), .v (.mov (.t 13)), none⟩, ⟨(some 15), .v (.faddr 1 (.t 1)), (some (14, true))⟩, ⟨(some 16), .v (.load false 1 (.t 15)), (some (14, true))⟩, ⟨(some 17), .call 66 [(.t 16)], (some (14, true))⟩, ⟨(some 18), .v (.pick (.t 14) (.t 17) (.c (.bool false))), none⟩, ⟨(some 19), .v (.mov (.t 18)), none⟩, ⟨(some 20), .v (.faddr 2 (.t 1)), (some (19, true))⟩, ⟨(some 21), .v (.load false 1 (.t 20)), (some (19, true))⟩, ⟨(some 22), .v (.len (.t 21)), (some (19, true))⟩, ⟨(some 23), .v (.faddr 1 (.t 1)), (some (19, true))⟩, ⟨(some 24), .v (.load false 1 (.t 23)), (some (19, true))⟩, ⟨(some 25), .v (.bin .mul (.c (.int .i64 3)) (.t 24)), (some (19, true))⟩, ⟨(some 26), .v (.bin .eql (.t 22) (.t 25)), (some (19, true))⟩, ⟨(some 27), .v (.pick (.t 19) (.t 26) (.c (.bool false))), none⟩, ⟨(some 2), .v (.mov (.t 27)), none⟩])
    .ret)))⟩
theorem e24 : rFunc Tryz.prog Tryz.f24 = some r24 := by kernel_rfl
def r9 : RFunc := ⟨35, [.t 2, .t 3],
 (.seq
  (.reg [⟨(some 1), .m (.box (.t 0)), none⟩, ⟨(some 2), .v (.mov (.c (.str []))), none⟩, ⟨(some 3), .v (.mov (.c (.bool false))), none⟩])
  (.seq
   (.dreg (.fl ⟨(some 7), .v (.faddr 0 (.t 1)), none⟩ (.fl ⟨(some 8), .v (.load false 1 (.t 7)), none⟩ (.fl ⟨(some 12), .v (.faddr 1 (.t 1)), none⟩ (.fl ⟨(some 13), .v (.load false 1 (.t 12)), none⟩ (.nx ⟨(some 9), .call 18 [(.t 8)], none⟩ (.fl ⟨(some 10), .v (.bin .add (.c (.str [112, 101, 101, 108, 101, 100, 32])) (.t 9)), none⟩ (.fl ⟨(some 11), .v (.bin .add (.t 10) (.c (.str [32]))), none⟩ (.nx ⟨(some 14), .call 18 [(.t 13)], none⟩ (.fl ⟨(some 15), .v (.bin .add (.t 11) (.t 14)), none⟩ (.fl ⟨(some 16), .v (.bin .add (.t 15) (.c (.str [32]))), none⟩ (.fl ⟨(some 4), .v (.mov (.t 16)), none⟩ .done))))))))))))
   (.seq
    (.seq
     (.reg [⟨(some 17), .v (.faddr 2 (.t 1)), none⟩, ⟨(some 18), .v (.load false 1 (.t 17)), none⟩, ⟨(some 19), .v (.len (.t 18)), none⟩, ⟨(some 20), .v (.mov (.c (.int .i64 0))), none⟩])
     (.block 0
      (.loop
       (.seq
        (.reg [⟨(some 21), .v (.bin .lss (.t 20) (.t 19)), none⟩])
        (.seq
         (.cond (.t 21)
          .skip
          (.exit 0))
         (.seq
          (.block 1
           (.seq
            (.reg [⟨(some 22), .v (.iaddr 1 (.t 18) (.t 20)), none⟩, ⟨(some 23), .v (.load false 1 (.t 22)), none⟩, ⟨(some 6), .v (.mov (.t 23)), none⟩])
            (.reg [⟨(some 24), .v (.mov (.t 4)), none⟩, ⟨(some 25), .v (.mov (.t 6)), none⟩, ⟨(some 26), .call 18 [(.t 25)], none⟩, ⟨(some 27), .v (.bin .add (.t 24) (.t 26)), none⟩, ⟨(some 4), .v (.mov (.t 27)), none⟩])))
          (.reg [⟨(some 28), .v (.bin .add (.t 20) (.c (.int .i64 1))), none⟩, ⟨(some 20), .v (.mov (.t 28)), none⟩])))))))
    (.seq
     (.reg [⟨(some 29), .v (.mov (.t 4)), none⟩, ⟨(some 30), .v (.load true 3 (.t 1)), none⟩, ⟨(some 31), .call 24 [(.t 30)], none⟩, ⟨(some 32), .call 19 [(.t 29), (.t 31)], none⟩, ⟨(some 33), .v (.ext (.t 32) 0), none⟩, ⟨(some 34), .v (.ext (.t 32) 1), none⟩, ⟨(some 2), .v (.mov (.t 33)), none⟩, ⟨(some 3), .v (.mov (.t 34)), none⟩])
     .ret))))⟩
theorem e9 : rFunc Tryz.prog Tryz.f9 = some r9 := by kernel_rfl
def r68 : RFunc := ⟨32, [.t 2, .t 3],
 (.seq
  (.reg [⟨(some 2), .v (.mov (.c (.str []))), none⟩, ⟨(some 3), .v (.mov (.c (.bool false))), none⟩])
  (.seq
   (.reg [⟨(some 10), .v (.mov (.t 0)), none⟩, ⟨(some 11), .call 96 [(.t 10), (.c (.str [126]))], none⟩, ⟨(some 9), .v (.mov (.t 11)), none⟩, ⟨(some 12), .v (.ext (.t 9) 0), none⟩, ⟨(some 13), .v (.ext (.t 9) 1), none⟩, ⟨(some 14), .v (.ext (.t 9) 2), none⟩, ⟨(some 4), .v (.mov (.t 12)), none⟩, ⟨(some 5), .v (.mov (.t 13)), none⟩, ⟨(some 6), .v (.mov (.t 14)), none⟩])
   (.seq
    (.reg [⟨(some 16), .v (.mov (.t 4)), none⟩, ⟨(some 17), .call 52 [(.t 16)], none⟩, ⟨(some 15), .v (.mov (.t 17)), none⟩, ⟨(some 18), .v (.ext (.t 15) 0), none⟩, ⟨(some 19), .v (.ext (.t 15) 1), none⟩, ⟨(some 7), .v (.mov (.t 18)), none⟩, ⟨(some 8), .v (.mov (.t 19)), none⟩])
    (.seq
     (.seq
      (.reg [⟨(some 20), .v (.mov (.t 6)), none⟩, ⟨(some 21), .v (.un .not (.t 20)), none⟩, ⟨(some 22), .v (.mov (.t 21)), none⟩, ⟨(some 23), .v (.mov (.t 8)), (some (22, false))⟩, ⟨(some 24), .v (.un .not (.t 23)), (some (22, false))⟩, ⟨(some 25), .v (.pick (.t 22) (.c (.bool true)) (.t 24)), none⟩, ⟨(some 26), .v (.mov (.t 25)), none⟩, ⟨(some 27), .v (.mov (.t 7)), (some (26, false))⟩, ⟨(some 28), .v (.mov (.t 0)), (some (26, false))⟩, ⟨(some 29), .v (.bin .neq (.t 27) (.t 28)), (some (26, false))⟩, ⟨(some 30), .v (.pick (.t 26) (.c (.bool true)) (.t 29)), none⟩])
      (.cond (.t 30)
       (.seq
        (.reg [⟨(some 2), .v (.mov (.c (.str []))), none⟩, ⟨(some 3), .v (.mov (.c (.bool false))), none⟩])
        .ret)
       .skip))
     (.seq
      (.reg [⟨(some 31), .v (.mov (.t 4)), none⟩, ⟨(some 2), .v (.mov (.t 31)), none⟩, ⟨(some 3), .v (.mov (.c (.bool true))), none⟩])
      .ret)))))⟩
theorem e68 : rFunc Tryz.prog Tryz.f68 = some r68 := by kernel_rfl
def r26 : RFunc := ⟨27, [.t 4, .t 5],
 (.seq
  (.reg [⟨(some 4), .v (.mov (.c .nils)), none⟩, ⟨(some 5), .v (.mov (.c (.bool false))), none⟩])
  (.seq
   (.reg [⟨(some 10), .v (.mov (.t 0)), none⟩, ⟨(some 11), .call 68 [(.t 10)], none⟩, ⟨(some 9), .v (.mov (.t 11)), none⟩, ⟨(some 12), .v (.ext (.t 9) 0), none⟩, ⟨(some 13), .v (.ext (.t 9) 1), none⟩, ⟨(some 6), .v (.mov (.t 12)), none⟩, ⟨(some 7), .v (.mov (.t 13)), none⟩])
   (.seq
    (.reg [⟨(some 14), .v (.mov (.t 6)), none⟩, ⟨(some 15), .call 69 [(.t 14), (.c (.str [32]))], none⟩, ⟨(some 8), .v (.mov (.t 15)), none⟩])
    (.seq
     (.seq
      (.reg [⟨(some 16), .v (.mov (.t 7)), none⟩, ⟨(some 17), .v (.un .not (.t 16)), none⟩, ⟨(some 18), .v (.mov (.t 17)), none⟩, ⟨(some 19), .v (.mov (.t 8)), (some (18, false))⟩, ⟨(some 20), .v (.iaddr 1 (.t 19) (.c (.int .i64 0))), (some (18, false))⟩, ⟨(some 21), .v (.load false 1 (.t 20)), (some (18, false))⟩, ⟨(some 22), .v (.mov (.t 1)), (some (18, false))⟩, ⟨(some 23), .v (.bin .neq (.t 21) (.t 22)), (some (18, false))⟩, ⟨(some 24), .v (.pick (.t 18) (.c (.bool true)) (.t 23)), none⟩])
      (.cond (.t 24)
       (.seq
        (.reg [⟨(some 4), .v (.mov (.c .nils)), none⟩, ⟨(some 5), .v (.mov (.c (.bool false))), none⟩])
        .ret)
       .skip))
     (.seq
      (.reg [⟨(some 25), .v (.mov (.t 8)), none⟩, ⟨(some 26), .v (.slc 1 (.t 25) (some (.c (.int .i64 1))) none), none⟩, ⟨(some 4), .v (.mov (.t 26)), none⟩, ⟨(some 5), .v (.mov (.c (.bool true))), none⟩])
      .ret)))))⟩
theorem e26 : rFunc Tryz.prog Tryz.f26 = some r26 := by kernel_rfl
def r27 : RFunc := ⟨24, [.t 2, .t 3],
 (.seq
  (.reg [⟨(some 2), .v (.mov (.c (.int .i64 0))), none⟩, ⟨(some 3), .v (.mov (.c (.bool false))), none⟩])
  (.seq
   (.reg [⟨(some 7), .v (.mov (.t 0)), none⟩, ⟨(some 8), .call 70 [(.t 7)], none⟩, ⟨(some 6), .v (.mov (.t 8)), none⟩, ⟨(some 9), .v (.ext (.t 6) 0), none⟩, ⟨(some 10), .v (.ext (.t 6) 1), none⟩, ⟨(some 4), .v (.mov (.t 9)), none⟩, ⟨(some 5), .v (.mov (.t 10)), none⟩])
   (.seq
    (.reg [⟨(some 11), .v (.mov (.t 4)), none⟩, ⟨(some 12), .v (.mov (.t 5)), none⟩, ⟨(some 13), .v (.ieq false (.t 12) (.c .nili)), none⟩, ⟨(some 14), .v (.mov (.t 13)), none⟩, ⟨(some 15), .v (.mov (.t 4)), (some (14, true))⟩, ⟨(some 16), .v (.bin .geq (.t 15) (.c (.int .i64 0))), (some (14, true))⟩, ⟨(some 17), .v (.pick (.t 14) (.t 16) (.c (.bool false))), none⟩, ⟨(some 18), .v (.mov (.t 17)), none⟩, ⟨(some 19), .v (.mov (.t 4)), (some (18, true))⟩, ⟨(some 20), .call 18 [(.t 19)], (some (18, true))⟩, ⟨(some 21), .v (.mov (.t 0)), (some (18, true))⟩, ⟨(some 22), .v (.bin .eql (.t 20) (.t 21)), (some (18, true))⟩, ⟨(some 23), .v (.pick (.t 18) (.t 22) (.c (.bool false))), none⟩, ⟨(some 2), .v (.mov (.t 11)), none⟩, ⟨(some 3), .v (.mov (.t 23)), none⟩])
    .ret)))⟩
theorem e27 : rFunc Tryz.prog Tryz.f27 = some r27 := by kernel_rfl
def r12 : RFunc := ⟨75, [.cell true 3 2, .t 3],
 (.seq
  (.reg [⟨(some 2), .m (.alloc [(.int .i64 0), (.int .i64 0), .nils]), none⟩, ⟨(some 3), .v (.mov (.c (.bool false))), none⟩])
  (.seq
   (.reg [⟨(some 13), .v (.mov (.t 0)), none⟩, ⟨(some 14), .call 26 [(.t 13), (.c (.str [112, 101, 101, 108, 101, 100]))], none⟩, ⟨(some 12), .v (.mov (.t 14)), none⟩, ⟨(some 15), .v (.ext (.t 12) 0), none⟩, ⟨(some 16), .v (.ext (.t 12) 1), none⟩, ⟨(some 4), .v (.mov (.t 15)), none⟩, ⟨(some 5), .v (.mov (.t 16)), none⟩])
   (.seq
    (.seq
     (.reg [⟨(some 17), .v (.mov (.t 5)), none⟩, ⟨(some 18), .v (.un .not (.t 17)), none⟩, ⟨(some 19), .v (.mov (.t 18)), none⟩, ⟨(some 20), .v (.mov (.t 4)), (some (19, false))⟩, ⟨(some 21), .v (.len (.t 20)), (some (19, false))⟩, ⟨(some 22), .v (.bin .neq (.t 21) (.c (.int .i64 3))), (some (19, false))⟩, ⟨(some 23), .v (.pick (.t 19) (.c (.bool true)) (.t 22)), none⟩])
     (.cond (.t 23)
      (.seq
       (.reg [⟨(some 24), .v (.bld [(.int .i64 0), (.int .i64 0), .nils] []), none⟩, ⟨none, .m (.store 3 (.t 2) (.t 24)), none⟩, ⟨(some 3), .v (.mov (.c (.bool false))), none⟩])
       .ret)
      .skip))
    (.seq
     (.reg [⟨(some 26), .v (.mov (.t 4)), none⟩, ⟨(some 27), .v (.iaddr 1 (.t 26) (.c (.int .i64 0))), none⟩, ⟨(some 28), .v (.load false 1 (.t 27)), none⟩, ⟨(some 29), .call 27 [(.t 28)], none⟩, ⟨(some 25), .v (.mov (.t 29)), none⟩, ⟨(some 30), .v (.ext (.t 25) 0), none⟩, ⟨(some 31), .v (.ext (.t 25) 1), none⟩, ⟨(some 6), .v (.mov (.t 30)), none⟩, ⟨(some 7), .v (.mov (.t 31)), none⟩])
     (.seq
      (.reg [⟨(some 33), .v (.mov (.t 4)), none⟩, ⟨(some 34), .v (.iaddr 1 (.t 33) (.c (.int .i64 1))), none⟩, ⟨(some 35), .v (.load false 1 (.t 34)), none⟩, ⟨(some 36), .call 27 [(.t 35)], none⟩, ⟨(some 32), .v (.mov (.t 36)), none⟩, ⟨(some 37), .v (.ext (.t 32) 0), none⟩, ⟨(some 38), .v (.ext (.t 32) 1), none⟩, ⟨(some 8), .v (.mov (.t 37)), none⟩, ⟨(some 9), .v (.mov (.t 38)), none⟩])
      (.seq
       (.reg [⟨(some 39), .v (.mov (.t 6)), none⟩, ⟨(some 40), .v (.mov (.t 8)), none⟩, ⟨(some 41), .v (.bld [(.int .i64 0), (.int .i64 0), .nils] [(0, 1, (.t 39)), (1, 1, (.t 40))]), none⟩, ⟨(some 10), .m (.alloc [(.int .i64 0), (.int .i64 0), .nils]), none⟩, ⟨none, .m (.store 3 (.t 10) (.t 41)), none⟩])
       (.seq
        (.seq
         (.reg [⟨(some 42), .v (.mov (.t 4)), none⟩, ⟨(some 43), .v (.iaddr 1 (.t 42) (.c (.int .i64 2))), none⟩, ⟨(some 44), .v (.load false 1 (.t 43)), none⟩, ⟨(some 45), .v (.lens (.t 44)), none⟩, ⟨(some 46), .v (.mov (.c (.int .i64 0))), none⟩])
         (.block 0
          (.loop
           (.seq
            (.reg [⟨(some 47), .v (.bin .lss (.t 46) (.t 45)), none⟩])
            (.seq
             (.cond (.t 47)
              .skip
              (.exit 0))
             (.seq
              (.block 1
               (.seq
                (.reg [⟨(some 48), .v (.mov (.t 46)), none⟩, ⟨(some 11), .v (.mov (.t 48)), none⟩])
                (.dreg (.fl ⟨(some 49), .v (.faddr 2 (.t 10)), none⟩ (.fl ⟨(some 51), .v (.mov (.t 4)), none⟩ (.fl ⟨(some 52), .v (.iaddr 1 (.t 51) (.c (.int .i64 2))), none⟩ (.fl ⟨(some 54), .v (.mov (.t 11)), none⟩ (.both (.nx ⟨(some 50), .v (.load false 1 (.t 49)), none⟩ (.nx ⟨(some 53), .v (.load false 1 (.t 52)), none⟩ (.fl ⟨(some 55), .v (.sidx (.t 53) (.t 54)), none⟩ (.fl ⟨(some 56), .v (.conv .i64 (.t 55)), none⟩ (.fl ⟨(some 57), .v (.bin .sub (.t 56) (.c (.int .i64 48))), none⟩ (.nx ⟨(some 58), .m (.bsl 1 1 [(.int .i64 0)] [(0, 1, (.t 57))]), none⟩ (.nx ⟨(some 59), .m (.app false 1 8 (.t 50) (.t 58)), none⟩ (.fl ⟨(some 60), .v (.faddr 2 (.t 10)), none⟩ (.nx ⟨none, .m (.store 1 (.t 60) (.t 59)), none⟩ .done))))))))) (.nx ⟨(some 53), .v (.load false 1 (.t 52)), none⟩ (.fl ⟨(some 55), .v (.sidx (.t 53) (.t 54)), none⟩ (.fl ⟨(some 56), .v (.conv .i64 (.t 55)), none⟩ (.fl ⟨(some 57), .v (.bin .sub (.t 56) (.c (.int .i64 48))), none⟩ (.both (.nx ⟨(some 50), .v (.load false 1 (.t 49)), none⟩ (.nx ⟨(some 58), .m (.bsl 1 1 [(.int .i64 0)] [(0, 1, (.t 57))]), none⟩ (.nx ⟨(some 59), .m (.app false 1 8 (.t 50) (.t 58)), none⟩ (.fl ⟨(some 60), .v (.faddr 2 (.t 10)), none⟩ (.nx ⟨none, .m (.store 1 (.t 60) (.t 59)), none⟩ .done))))) (.nx ⟨(some 58), .m (.bsl 1 1 [(.int .i64 0)] [(0, 1, (.t 57))]), none⟩ (.nx ⟨(some 50), .v (.load false 1 (.t 49)), none⟩ (.nx ⟨(some 59), .m (.app false 1 8 (.t 50) (.t 58)), none⟩ (.fl ⟨(some 60), .v (.faddr 2 (.t 10)), none⟩ (.nx ⟨none, .m (.store 1 (.t 60) (.t 59)), none⟩ .done))))))))))))))))))
              (.reg [⟨(some 61), .v (.bin .add (.t 46) (.c (.int .i64 1))), none⟩, ⟨(some 46), .v (.mov (.t 61)), none⟩])))))))
        (.seq
         (.seq
          (.reg [⟨(some 62), .v (.mov (.t 7)), none⟩, ⟨(some 63), .v (.un .not (.t 62)), none⟩, ⟨(some 64), .v (.mov (.t 63)), none⟩, ⟨(some 65), .v (.mov (.t 9)), (some (64, false))⟩, ⟨(some 66), .v (.un .not (.t 65)), (some (64, false))⟩, ⟨(some 67), .v (.pick (.t 64) (.c (.bool true)) (.t 66)), none⟩, ⟨(some 68), .v (.mov (.t 67)), none⟩, ⟨(some 69), .v (.load true 3 (.t 10)), (some (68, false))⟩, ⟨(some 70), .call 24 [(.t 69)], (some (68, false))⟩, ⟨(some 71), .v (.un .not (.t 70)), (some (68, false))⟩, ⟨(some 72), .v (.pick (.t 68) (.c (.bool true)) (.t 71)), none⟩])
          (.cond (.t 72)
           (.seq
            (.reg [⟨(some 73), .v (.bld [(.int .i64 0), (.int .i64 0), .nils] []), none⟩, ⟨none, .m (.store 3 (.t 2) (.t 73)), none⟩, ⟨(some 3), .v (.mov (.c (.bool false))), none⟩])
            .ret)
           .skip))
         (.seq
          (.reg [⟨(some 74), .v (.load true 3 (.t 10)), none⟩, ⟨none, .m (.store 3 (.t 2) (.t 74)), none⟩, ⟨(some 3), .v (.mov (.c (.bool true))), none⟩])
          .ret)))))))))⟩
theorem e12 : rFunc Tryz.prog Tryz.f12 = some r12 := by kernel_rfl
def r28 : RFunc := ⟨14, [.cell true 7 4, .t 5],
 (.seq
  (.reg [⟨(some 4), .m (.alloc [(.int .i64 0), (.int .i64 0), (.int .i64 0), (.int .i64 0), .nils, (.int .i64 0), .nils]), none⟩, ⟨(some 5), .v (.mov (.c (.bool false))), none⟩])
  (.seq
   (.seq
    (.reg [⟨(some 6), .v (.mov (.t 0)), none⟩, ⟨(some 7), .v (.mov (.t 1)), none⟩, ⟨(some 8), .call 48 [(.t 6), (.t 7)], none⟩, ⟨(some 9), .v (.un .not (.t 8)), none⟩])
    (.cond (.t 9)
     (.seq
      (.reg [⟨(some 10), .v (.bld [(.int .i64 0), (.int .i64 0), (.int .i64 0), (.int .i64 0), .nils, (.int .i64 0), .nils] []), none⟩, ⟨none, .m (.store 7 (.t 4) (.t 10)), none⟩, ⟨(some 5), .v (.mov (.c (.bool false))), none⟩])
      .ret)
     .skip))
   (.seq
    (.reg [⟨(some 11), .v (.mov (.t 0)), none⟩, ⟨(some 12), .v (.mov (.t 1)), none⟩, ⟨(some 13), .call 49 [(.t 11), (.t 12)], none⟩, ⟨none, .m (.store 7 (.t 4) (.t 13)), none⟩, ⟨(some 5), .v (.mov (.c (.bool true))), none⟩])
    .ret)))⟩
theorem e28 : rFunc Tryz.prog Tryz.f28 = some r28 := by kernel_rfl
def r11 : RFunc := ⟨52, [.cell true 7 2, .t 3],
 (.seq
  (.reg [⟨(some 2), .m (.alloc [(.int .i64 0), (.int .i64 0), (.int .i64 0), (.int .i64 0), .nils, (.int .i64 0), .nils]), none⟩, ⟨(some 3), .v (.mov (.c (.bool false))), none⟩])
  (.seq
   (.reg [⟨(some 12), .v (.mov (.t 0)), none⟩, ⟨(some 13), .call 26 [(.t 12), (.c (.str [115, 112, 97, 114, 115, 101]))], none⟩, ⟨(some 11), .v (.mov (.t 13)), none⟩, ⟨(some 14), .v (.ext (.t 11) 0), none⟩, ⟨(some 15), .v (.ext (.t 11) 1), none⟩, ⟨(some 4), .v (.mov (.t 14)), none⟩, ⟨(some 5), .v (.mov (.t 15)), none⟩])
   (.seq
    (.seq
     (.reg [⟨(some 16), .v (.mov (.t 5)), none⟩, ⟨(some 17), .v (.un .not (.t 16)), none⟩, ⟨(some 18), .v (.mov (.t 17)), none⟩, ⟨(some 19), .v (.mov (.t 4)), (some (18, false))⟩, ⟨(some 20), .v (.len (.t 19)), (some (18, false))⟩, ⟨(some 21), .v (.bin .eql (.t 20) (.c (.int .i64 0))), (some (18, false))⟩, ⟨(some 22), .v (.pick (.t 18) (.c (.bool true)) (.t 21)), none⟩])
     (.cond (.t 22)
      (.seq
       (.reg [⟨(some 23), .v (.bld [(.int .i64 0), (.int .i64 0), (.int .i64 0), (.int .i64 0), .nils, (.int .i64 0), .nils] []), none⟩, ⟨none, .m (.store 7 (.t 2) (.t 23)), none⟩, ⟨(some 3), .v (.mov (.c (.bool false))), none⟩])
       .ret)
      .skip))
    (.seq
     (.reg [⟨(some 24), .m (.bsl 1 0 [(.int .i64 0)] []), none⟩, ⟨(some 6), .v (.mov (.t 24)), none⟩])
     (.seq
      (.seq
       (.reg [⟨(some 25), .v (.mov (.t 4)), none⟩, ⟨(some 26), .v (.len (.t 25)), none⟩, ⟨(some 27), .v (.mov (.c (.int .i64 0))), none⟩])
       (.block 0
        (.loop
         (.seq
          (.reg [⟨(some 28), .v (.bin .lss (.t 27) (.t 26)), none⟩])
          (.seq
           (.cond (.t 28)
            .skip
            (.exit 0))
           (.seq
            (.block 1
             (.seq
              (.reg [⟨(some 29), .v (.iaddr 1 (.t 25) (.t 27)), none⟩, ⟨(some 30), .v (.load false 1 (.t 29)), none⟩, ⟨(some 8), .v (.mov (.t 30)), none⟩])
              (.seq
               (.reg [⟨(some 32), .v (.mov (.t 8)), none⟩, ⟨(some 33), .call 27 [(.t 32)], none⟩, ⟨(some 31), .v (.mov (.t 33)), none⟩, ⟨(some 34), .v (.ext (.t 31) 0), none⟩, ⟨(some 35), .v (.ext (.t 31) 1), none⟩, ⟨(some 9), .v (.mov (.t 34)), none⟩, ⟨(some 10), .v (.mov (.t 35)), none⟩])
               (.seq
                (.seq
                 (.reg [⟨(some 36), .v (.mov (.t 10)), none⟩, ⟨(some 37), .v (.un .not (.t 36)), none⟩])
                 (.cond (.t 37)
                  (.seq
                   (.reg [⟨(some 38), .v (.bld [(.int .i64 0), (.int .i64 0), (.int .i64 0), (.int .i64 0), .nils, (.int .i64 0), .nils] []), none⟩, ⟨none, .m (.store 7 (.t 2) (.t 38)), none⟩, ⟨(some 3), .v (.mov (.c (.bool false))), none⟩])
                   .ret)
                  .skip))
                (.reg [⟨(some 39), .v (.mov (.t 6)), none⟩, ⟨(some 40), .v (.mov (.t 9)), none⟩, ⟨(some 41), .m (.bsl 1 1 [(.int .i64 0)] [(0, 1, (.t 40))]), none⟩, ⟨(some 42), .m (.app false 1 8 (.t 39) (.t 41)), none⟩, ⟨(some 6), .v (.mov (.t 42)), none⟩])))))
            (.reg [⟨(some 43), .v (.bin .add (.t 27) (.c (.int .i64 1))), none⟩, ⟨(some 27), .v (.mov (.t 43)), none⟩])))))))
      (.seq
       (.dreg (.fl ⟨(some 44), .v (.mov (.t 6)), none⟩ (.fl ⟨(some 45), .v (.slc 1 (.t 44) (some (.c (.int .i64 1))) none), none⟩ (.fl ⟨(some 46), .v (.mov (.t 6)), none⟩ (.fl ⟨(some 47), .v (.iaddr 1 (.t 46) (.c (.int .i64 0))), none⟩ (.nx ⟨(some 48), .v (.load false 1 (.t 47)), none⟩ (.nx ⟨(some 49), .call 28 [(.t 45), (.t 48)], none⟩ (.fl ⟨(some 50), .v (.ext (.t 49) 0), none⟩ (.fl ⟨(some 51), .v (.ext (.t 49) 1), none⟩ (.nx ⟨none, .m (.store 7 (.t 2) (.t 50)), none⟩ (.fl ⟨(some 3), .v (.mov (.t 51)), none⟩ .done)))))))))))
       .ret))))))⟩
theorem e11 : rFunc Tryz.prog Tryz.f11 = some r11 := by kernel_rfl
end Go.Proofs.YtbkcenkfecndjaaGreatDoor.M
