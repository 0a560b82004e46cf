/-
  The resolved text of the functions, each tied to the program's own by the kernel.
-/
import Derived.Test.YtbkcenkfecndjaaGreatDoorProg
import Derived.Test.YtbkcenkfecndjaaGreatDoorFkr
namespace Go.Proofs.YtbkcenkfecndjaaGreatDoor.M
open Go Go.RowKit
set_option maxRecDepth 100000

def r75 : RFunc := ⟨62, [.t 2],
 (.seq
  (.reg [⟨(some 2), .v (.mov (.c (.int .i64 0))), none⟩])
  (.seq
   (.reg [⟨(some 3), .v (.mov (.c (.int .i64 0))), none⟩])
   (.seq
    (.seq
     (.dreg (.fl ⟨(some 4), .v (.mov (.t 0)), none⟩ (.fl ⟨(some 5), .v (.nchk (.t 4)), none⟩ (.fl ⟨(some 6), .v (.faddr 1 (.t 5)), none⟩ (.fl ⟨(some 7), .v (.load false 1 (.t 6)), none⟩ (.fl ⟨(some 8), .v (.mov (.t 0)), none⟩ (.fl ⟨(some 9), .v (.nchk (.t 8)), none⟩ (.fl ⟨(some 10), .v (.faddr 0 (.t 9)), none⟩ (.fl ⟨(some 11), .v (.load false 1 (.t 10)), none⟩ (.fl ⟨(some 12), .v (.len (.t 11)), none⟩ (.fl ⟨(some 13), .v (.bin .lss (.t 7) (.t 12)), none⟩ .done)))))))))))
     (.cond (.t 13)
      (.dreg (.fl ⟨(some 14), .v (.mov (.t 0)), none⟩ (.fl ⟨(some 15), .v (.nchk (.t 14)), none⟩ (.fl ⟨(some 16), .v (.faddr 0 (.t 15)), none⟩ (.fl ⟨(some 17), .v (.load false 1 (.t 16)), none⟩ (.fl ⟨(some 18), .v (.mov (.t 0)), none⟩ (.fl ⟨(some 19), .v (.nchk (.t 18)), none⟩ (.fl ⟨(some 20), .v (.faddr 1 (.t 19)), none⟩ (.fl ⟨(some 21), .v (.load false 1 (.t 20)), none⟩ (.fl ⟨(some 22), .v (.iaddr 1 (.t 17) (.t 21)), none⟩ (.fl ⟨(some 23), .v (.load false 1 (.t 22)), none⟩ (.fl ⟨(some 24), .v (.conv .i64 (.t 23)), none⟩ (.fl ⟨(some 3), .v (.mov (.t 24)), none⟩ .done)))))))))))))
      .skip))
    (.seq
     (.reg [⟨(some 25), .v (.mov (.t 0)), none⟩, ⟨(some 26), .v (.nchk (.t 25)), none⟩, ⟨(some 27), .v (.faddr 1 (.t 26)), none⟩, ⟨(some 28), .v (.load false 1 (.t 27)), none⟩, ⟨(some 29), .v (.bin .add (.t 28) (.c (.int .i64 1))), none⟩, ⟨(some 30), .v (.nchk (.t 25)), none⟩, ⟨(some 31), .v (.faddr 1 (.t 30)), none⟩, ⟨none, .m (.store 1 (.t 31) (.t 29)), none⟩])
     (.seq
      (.reg [⟨(some 32), .v (.mov (.t 0)), none⟩, ⟨(some 33), .v (.mov (.t 0)), none⟩, ⟨(some 34), .v (.nchk (.t 33)), none⟩, ⟨(some 35), .v (.faddr 2 (.t 34)), none⟩, ⟨(some 36), .v (.load false 1 (.t 35)), none⟩, ⟨(some 37), .v (.bin .mul (.t 36) (.c (.int .u64 6364136223846793005))), none⟩, ⟨(some 38), .v (.mov (.t 3)), none⟩, ⟨(some 39), .v (.conv .u64 (.t 38)), none⟩, ⟨(some 40), .v (.bin .add (.t 37) (.t 39)), none⟩, ⟨(some 41), .v (.bin .add (.t 40) (.c (.int .u64 1442695040888963407))), none⟩, ⟨(some 42), .v (.nchk (.t 32)), none⟩, ⟨(some 43), .v (.faddr 2 (.t 42)), none⟩, ⟨none, .m (.store 1 (.t 43) (.t 41)), none⟩])
      (.seq
       (.seq
        (.dreg (.fl ⟨(some 44), .v (.mov (.t 0)), none⟩ (.fl ⟨(some 45), .v (.nchk (.t 44)), none⟩ (.fl ⟨(some 46), .v (.faddr 1 (.t 45)), none⟩ (.fl ⟨(some 47), .v (.load false 1 (.t 46)), none⟩ (.fl ⟨(some 48), .v (.mov (.t 0)), none⟩ (.fl ⟨(some 49), .v (.nchk (.t 48)), none⟩ (.fl ⟨(some 50), .v (.faddr 0 (.t 49)), none⟩ (.fl ⟨(some 51), .v (.load false 1 (.t 50)), none⟩ (.fl ⟨(some 52), .v (.len (.t 51)), none⟩ (.fl ⟨(some 53), .v (.bin .leq (.t 47) (.t 52)), none⟩ .done)))))))))))
        (.cond (.t 53)
         (.seq
          (.reg [⟨(some 54), .v (.mov (.t 3)), none⟩, ⟨(some 2), .v (.mov (.t 54)), none⟩])
          .ret)
         .skip))
       (.seq
        (.reg [⟨(some 55), .v (.mov (.t 0)), none⟩, ⟨(some 56), .v (.nchk (.t 55)), none⟩, ⟨(some 57), .v (.faddr 2 (.t 56)), none⟩, ⟨(some 58), .v (.load false 1 (.t 57)), none⟩, ⟨(some 59), .v (.bin .shr (.t 58) (.c (.int .u64 40))), none⟩, ⟨(some 60), .v (.bin .and (.t 59) (.c (.int .u64 255))), none⟩, ⟨(some 61), .v (.conv .i64 (.t 60)), none⟩, ⟨(some 2), .v (.mov (.t 61)), none⟩])
        .ret)))))))⟩
theorem e75 : rFunc Tryz.prog Tryz.f75 = some r75 := by kernel_rfl
def r35 : RFunc := ⟨20, [.t 4],
 (.seq
  (.reg [⟨(some 4), .v (.mov (.c (.int .i64 0))), none⟩])
  (.seq
   (.seq
    (.reg [⟨(some 6), .v (.mov (.t 1)), none⟩, ⟨(some 7), .v (.bin .leq (.t 6) (.c (.int .i64 1))), none⟩])
    (.cond (.t 7)
     (.seq
      (.reg [⟨(some 4), .v (.mov (.c (.int .i64 0))), none⟩])
      .ret)
     .skip))
   (.seq
    (.reg [⟨(some 8), .v (.mov (.t 0)), none⟩, ⟨(some 9), .call 75 [(.t 8)], none⟩, ⟨(some 5), .v (.mov (.t 9)), none⟩])
    (.seq
     (.seq
      (.reg [⟨(some 10), .v (.mov (.t 1)), none⟩, ⟨(some 11), .v (.bin .gtr (.t 10) (.c (.int .i64 200))), none⟩])
      (.cond (.t 11)
       (.reg [⟨(some 12), .v (.mov (.t 5)), none⟩, ⟨(some 13), .v (.bin .mul (.t 12) (.c (.int .i64 256))), none⟩, ⟨(some 14), .v (.mov (.t 0)), none⟩, ⟨(some 15), .call 75 [(.t 14)], none⟩, ⟨(some 16), .v (.bin .add (.t 13) (.t 15)), none⟩, ⟨(some 5), .v (.mov (.t 16)), none⟩])
       .skip))
     (.seq
      (.reg [⟨(some 17), .v (.mov (.t 5)), none⟩, ⟨(some 18), .v (.mov (.t 1)), none⟩, ⟨(some 19), .v (.bin .rem (.t 17) (.t 18)), none⟩, ⟨(some 4), .v (.mov (.t 19)), none⟩])
      .ret)))))⟩
theorem e35 : rFunc Tryz.prog Tryz.f35 = some r35 := by kernel_rfl
def r41 : RFunc := ⟨9, [.t 4],
 (.seq
  (.reg [⟨(some 4), .v (.mov (.c (.bool false))), none⟩])
  (.seq
   (.reg [⟨(some 5), .v (.mov (.t 0)), none⟩, ⟨(some 6), .v (.mov (.t 1)), none⟩, ⟨(some 7), .call 35 [(.t 5), (.t 6)], none⟩, ⟨(some 8), .v (.bin .eql (.t 7) (.c (.int .i64 0))), none⟩, ⟨(some 4), .v (.mov (.t 8)), none⟩])
   .ret))⟩
theorem e41 : rFunc Tryz.prog Tryz.f41 = some r41 := by kernel_rfl
def r80 : RFunc := ⟨28, [.t 2],
 (.seq
  (.reg [⟨(some 2), .v (.mov (.c (.str []))), none⟩])
  (.seq
   (.reg [⟨(some 3), .v (.mov (.c .nils)), none⟩])
   (.seq
    (.seq
     (.reg [⟨(some 5), .v (.mov (.t 0)), none⟩, ⟨(some 6), .call 35 [(.t 5), (.c (.int .i64 4))], none⟩, ⟨(some 7), .v (.bin .add (.c (.int .i64 1)) (.t 6)), none⟩, ⟨(some 4), .v (.mov (.t 7)), none⟩])
     (.block 0
      (.loop
       (.seq
        (.seq
         (.reg [⟨(some 8), .v (.mov (.t 4)), none⟩, ⟨(some 9), .v (.bin .gtr (.t 8) (.c (.int .i64 0))), none⟩])
         (.cond (.t 9)
          .skip
          (.exit 0)))
        (.seq
         (.block 1
          (.reg [⟨(some 12), .v (.mov (.t 3)), none⟩, ⟨(some 13), .v (.mov (.t 0)), none⟩, ⟨(some 14), .call 35 [(.t 13), (.c (.int .i64 11))], none⟩, ⟨(some 15), .v (.sidx (.c (.str [97, 97, 98, 98, 99, 120, 121, 122, 33, 125, 48])) (.t 14)), none⟩, ⟨(some 16), .m (.bsl 1 1 [(.int .u8 0)] [(0, 1, (.t 15))]), none⟩, ⟨(some 17), .m (.app false 1 1 (.t 12) (.t 16)), none⟩, ⟨(some 3), .v (.mov (.t 17)), none⟩]))
         (.reg [⟨(some 10), .v (.mov (.t 4)), none⟩, ⟨(some 11), .v (.bin .sub (.t 10) (.c (.int .i64 1))), none⟩, ⟨(some 4), .v (.mov (.t 11)), none⟩]))))))
    (.seq
     (.seq
      (.reg [⟨(some 18), .v (.mov (.t 0)), none⟩, ⟨(some 19), .call 41 [(.t 18), (.c (.int .i64 12))], none⟩])
      (.cond (.t 19)
       (.block 2
        (.loop
         (.seq
          (.seq
           (.reg [⟨(some 20), .v (.mov (.t 3)), none⟩, ⟨(some 21), .v (.len (.t 20)), none⟩, ⟨(some 22), .v (.bin .lss (.t 21) (.c (.int .i64 12))), none⟩])
           (.cond (.t 22)
            .skip
            (.exit 2)))
          (.block 3
           (.reg [⟨(some 23), .v (.mov (.t 3)), none⟩, ⟨(some 24), .m (.bsl 1 1 [(.int .u8 0)] [(0, 1, (.c (.int .u8 97)))]), none⟩, ⟨(some 25), .m (.app false 1 1 (.t 23) (.t 24)), none⟩, ⟨(some 3), .v (.mov (.t 25)), none⟩])))))
       .skip))
     (.seq
      (.reg [⟨(some 26), .v (.mov (.t 3)), none⟩, ⟨(some 27), .v (.cbs (.t 26)), none⟩, ⟨(some 2), .v (.mov (.t 27)), none⟩])
      .ret)))))⟩
theorem e80 : rFunc Tryz.prog Tryz.f80 = some r80 := by kernel_rfl
def r79 : RFunc := ⟨48, [.t 4],
 (.seq
  (.reg [⟨(some 4), .v (.mov (.c .nils)), none⟩])
  (.seq
   (.reg [⟨(some 5), .v (.mov (.c (.int .i64 0))), none⟩])
   (.seq
    (.block 0
     (.loop
      (.seq
       (.seq
        (.reg [⟨(some 7), .v (.mov (.t 5)), none⟩, ⟨(some 8), .v (.mov (.t 0)), none⟩, ⟨(some 9), .v (.len (.t 8)), none⟩, ⟨(some 10), .v (.bin .lss (.t 7) (.t 9)), none⟩, ⟨(some 11), .v (.mov (.t 10)), none⟩, ⟨(some 12), .v (.mov (.t 0)), (some (11, true))⟩, ⟨(some 13), .v (.mov (.t 5)), (some (11, true))⟩, ⟨(some 14), .v (.iaddr 1 (.t 12) (.t 13)), (some (11, true))⟩, ⟨(some 15), .v (.load false 1 (.t 14)), (some (11, true))⟩, ⟨(some 16), .v (.mov (.t 1)), (some (11, true))⟩, ⟨(some 17), .v (.bin .lss (.t 15) (.t 16)), (some (11, true))⟩, ⟨(some 18), .v (.pick (.t 11) (.t 17) (.c (.bool false))), none⟩])
        (.cond (.t 18)
         .skip
         (.exit 0)))
       (.block 1
        (.reg [⟨(some 19), .v (.mov (.t 5)), none⟩, ⟨(some 20), .v (.bin .add (.t 19) (.c (.int .i64 1))), none⟩, ⟨(some 5), .v (.mov (.t 20)), none⟩])))))
    (.seq
     (.seq
      (.reg [⟨(some 21), .v (.mov (.t 5)), none⟩, ⟨(some 22), .v (.mov (.t 0)), none⟩, ⟨(some 23), .v (.len (.t 22)), none⟩, ⟨(some 24), .v (.bin .lss (.t 21) (.t 23)), none⟩, ⟨(some 25), .v (.mov (.t 24)), none⟩, ⟨(some 26), .v (.mov (.t 0)), (some (25, true))⟩, ⟨(some 27), .v (.mov (.t 5)), (some (25, true))⟩, ⟨(some 28), .v (.iaddr 1 (.t 26) (.t 27)), (some (25, true))⟩, ⟨(some 29), .v (.load false 1 (.t 28)), (some (25, true))⟩, ⟨(some 30), .v (.mov (.t 1)), (some (25, true))⟩, ⟨(some 31), .v (.bin .eql (.t 29) (.t 30)), (some (25, true))⟩, ⟨(some 32), .v (.pick (.t 25) (.t 31) (.c (.bool false))), none⟩])
      (.cond (.t 32)
       (.seq
        (.reg [⟨(some 33), .v (.mov (.t 0)), none⟩, ⟨(some 4), .v (.mov (.t 33)), none⟩])
        .ret)
       .skip))
     (.seq
      (.reg [⟨(some 34), .m (.bsl 1 0 [(.str [])] []), none⟩, ⟨(some 35), .v (.mov (.t 0)), none⟩, ⟨(some 36), .v (.mov (.t 5)), none⟩, ⟨(some 37), .v (.slc 1 (.t 35) none (some (.t 36))), none⟩, ⟨(some 38), .m (.app false 1 16 (.t 34) (.t 37)), none⟩, ⟨(some 6), .v (.mov (.t 38)), none⟩])
      (.seq
       (.reg [⟨(some 39), .v (.mov (.t 6)), none⟩, ⟨(some 40), .v (.mov (.t 1)), none⟩, ⟨(some 41), .m (.bsl 1 1 [(.str [])] [(0, 1, (.t 40))]), none⟩, ⟨(some 42), .m (.app false 1 16 (.t 39) (.t 41)), none⟩, ⟨(some 6), .v (.mov (.t 42)), none⟩])
       (.seq
        (.reg [⟨(some 43), .v (.mov (.t 6)), none⟩, ⟨(some 44), .v (.mov (.t 0)), none⟩, ⟨(some 45), .v (.mov (.t 5)), none⟩, ⟨(some 46), .v (.slc 1 (.t 44) (some (.t 45)) none), none⟩, ⟨(some 47), .m (.app false 1 16 (.t 43) (.t 46)), none⟩, ⟨(some 4), .v (.mov (.t 47)), none⟩])
        .ret)))))))⟩
theorem e79 : rFunc Tryz.prog Tryz.f79 = some r79 := by kernel_rfl
def r39 : RFunc := ⟨20, [.t 4],
 (.seq
  (.reg [⟨(some 4), .v (.mov (.c .nils)), none⟩])
  (.seq
   (.reg [⟨(some 5), .v (.mov (.c .nils)), none⟩])
   (.seq
    (.seq
     (.reg [⟨(some 7), .v (.mov (.t 0)), none⟩, ⟨(some 8), .v (.mov (.t 1)), none⟩, ⟨(some 9), .v (.bin .add (.t 8) (.c (.int .i64 1))), none⟩, ⟨(some 10), .call 35 [(.t 7), (.t 9)], none⟩, ⟨(some 6), .v (.mov (.t 10)), none⟩])
     (.block 0
      (.loop
       (.seq
        (.seq
         (.reg [⟨(some 11), .v (.mov (.t 6)), none⟩, ⟨(some 12), .v (.bin .gtr (.t 11) (.c (.int .i64 0))), none⟩])
         (.cond (.t 12)
          .skip
          (.exit 0)))
        (.seq
         (.block 1
          (.reg [⟨(some 15), .v (.mov (.t 5)), none⟩, ⟨(some 16), .v (.mov (.t 0)), none⟩, ⟨(some 17), .call 80 [(.t 16)], none⟩, ⟨(some 18), .call 79 [(.t 15), (.t 17)], none⟩, ⟨(some 5), .v (.mov (.t 18)), none⟩]))
         (.reg [⟨(some 13), .v (.mov (.t 6)), none⟩, ⟨(some 14), .v (.bin .sub (.t 13) (.c (.int .i64 1))), none⟩, ⟨(some 6), .v (.mov (.t 14)), none⟩]))))))
    (.seq
     (.reg [⟨(some 19), .v (.mov (.t 5)), none⟩, ⟨(some 4), .v (.mov (.t 19)), none⟩])
     .ret))))⟩
theorem e39 : rFunc Tryz.prog Tryz.f39 = some r39 := by kernel_rfl
def r67 : RFunc := ⟨21, [.t 6],
 (.seq
  (.reg [⟨(some 6), .v (.mov (.c (.bool false))), none⟩])
  (.seq
   (.seq
    (.reg [⟨(some 9), .v (.mov (.t 0)), none⟩, ⟨(some 10), .v (.len (.t 9)), none⟩, ⟨(some 11), .v (.mov (.c (.int .i64 0))), none⟩])
    (.block 0
     (.loop
      (.seq
       (.reg [⟨(some 12), .v (.bin .lss (.t 11) (.t 10)), none⟩])
       (.seq
        (.cond (.t 12)
         .skip
         (.exit 0))
        (.seq
         (.block 1
          (.seq
           (.reg [⟨(some 13), .v (.iaddr 1 (.t 9) (.t 11)), none⟩, ⟨(some 14), .v (.load false 1 (.t 13)), none⟩, ⟨(some 8), .v (.mov (.t 14)), none⟩])
           (.seq
            (.reg [⟨(some 15), .v (.mov (.t 8)), none⟩, ⟨(some 16), .v (.mov (.t 1)), none⟩, ⟨(some 17), .v (.mov (.t 2)), none⟩, ⟨(some 18), .call 53 [(.t 15), (.t 16), (.t 17)], none⟩, ⟨(some 19), .v (.un .not (.t 18)), none⟩])
            (.cond (.t 19)
             (.seq
              (.reg [⟨(some 6), .v (.mov (.c (.bool false))), none⟩])
              .ret)
             .skip))))
         (.reg [⟨(some 20), .v (.bin .add (.t 11) (.c (.int .i64 1))), none⟩, ⟨(some 11), .v (.mov (.t 20)), none⟩])))))))
   (.seq
    (.reg [⟨(some 6), .v (.mov (.c (.bool true))), none⟩])
    .ret)))⟩
theorem e67 : rFunc Tryz.prog Tryz.f67 = some r67 := by kernel_rfl
def r25 : RFunc := ⟨25, [.t 2],
 (.seq
  (.reg [⟨(some 1), .m (.box (.t 0)), none⟩, ⟨(some 2), .v (.mov (.c (.bool false))), none⟩])
  (.seq
   (.reg [⟨(some 3), .v (.faddr 0 (.t 1)), none⟩, ⟨(some 4), .v (.load false 1 (.t 3)), none⟩, ⟨(some 5), .call 53 [(.t 4), (.c (.int .i64 0)), (.c (.int .i64 9999))], none⟩, ⟨(some 6), .v (.mov (.t 5)), none⟩, ⟨(some 7), .v (.faddr 1 (.t 1)), (some (6, true))⟩, ⟨(some 8), .v (.load false 1 (.t 7)), (some (6, true))⟩, ⟨(some 9), .call 53 [(.t 8), (.c (.int .i64 1)), (.c (.int .i64 24))], (some (6, true))⟩, ⟨(some 10), .v (.pick (.t 6) (.t 9) (.c (.bool false))), none⟩, ⟨(some 11), .v (.mov (.t 10)), none⟩, ⟨(some 12), .v (.faddr 2 (.t 1)), (some (11, true))⟩, ⟨(some 13), .v (.load false 1 (.t 12)), (some (11, true))⟩, ⟨(some 14), .v (.len (.t 13)), (some (11, true))⟩, ⟨(some 15), .v (.faddr 1 (.t 1)), (some (11, true))⟩, ⟨(some 16), .v (.load false 1 (.t 15)), (some (11, true))⟩, ⟨(some 17), .v (.bin .mul (.c (.int .i64 3)) (.t 16)), (some (11, true))⟩, ⟨(some 18), .v (.bin .eql (.t 14) (.t 17)), (some (11, true))⟩, ⟨(some 19), .v (.pick (.t 11) (.t 18) (.c (.bool false))), none⟩, ⟨(some 20), .v (.mov (.t 19)), none⟩, ⟨(some 21), .v (.faddr 2 (.t 1)), (some (20, true))⟩, ⟨(some 22), .v (.load false 1 (.t 21)), (some (20, true))⟩, ⟨(some 23), .call 67 [(.t 22), (.c (.int .i64 0)), (.c (.int .i64 3))], (some (20, true))⟩, ⟨(some 24), .v (.pick (.t 20) (.t 23) (.c (.bool false))), none⟩, ⟨(some 2), .v (.mov (.t 24)), none⟩])
   .ret))⟩
theorem e25 : rFunc Tryz.prog Tryz.f25 = some r25 := by kernel_rfl
def r71 : RFunc := ⟨12, [.t 4],
 (.seq
  (.reg [⟨(some 4), .v (.mov (.c (.int .i64 0))), none⟩])
  (.seq
   (.reg [⟨(some 5), .v (.mov (.t 1)), none⟩, ⟨(some 6), .v (.mov (.t 0)), none⟩, ⟨(some 7), .v (.mov (.t 1)), none⟩, ⟨(some 8), .v (.len (.t 7)), none⟩, ⟨(some 9), .call 35 [(.t 6), (.t 8)], none⟩, ⟨(some 10), .v (.iaddr 1 (.t 5) (.t 9)), none⟩, ⟨(some 11), .v (.load false 1 (.t 10)), none⟩, ⟨(some 4), .v (.mov (.t 11)), none⟩])
   .ret))⟩
theorem e71 : rFunc Tryz.prog Tryz.f71 = some r71 := by kernel_rfl
def r42 : RFunc := ⟨16, [.t 2],
 (.seq
  (.reg [⟨(some 2), .v (.mov (.c (.int .i64 0))), none⟩])
  (.seq
   (.seq
    (.reg [⟨(some 3), .v (.mov (.t 0)), none⟩, ⟨(some 4), .call 35 [(.t 3), (.c (.int .i64 12))], none⟩])
    (.block 0
     (.seq
      (.reg [⟨(some 6), .v (.bin .eql (.t 4) (.c (.int .i64 0))), none⟩, ⟨(some 5), .v (.mov (.t 6)), none⟩])
      (.cond (.t 5)
       (.seq
        (.reg [⟨(some 7), .v (.mov (.t 0)), none⟩, ⟨(some 8), .m (.bsl 1 3 [(.int .i64 0)] [(0, 1, (.c (.int .i64 (-1)))), (1, 1, (.c (.int .i64 9999))), (2, 1, (.c (.int .i64 10000)))]), none⟩, ⟨(some 9), .call 71 [(.t 7), (.t 8)], none⟩, ⟨(some 2), .v (.mov (.t 9)), none⟩])
        .ret)
       (.seq
        (.reg [⟨(some 11), .v (.bin .eql (.t 4) (.c (.int .i64 1))), none⟩, ⟨(some 10), .v (.mov (.t 11)), none⟩])
        (.cond (.t 10)
         (.seq
          (.reg [⟨(some 12), .v (.mov (.t 0)), none⟩, ⟨(some 13), .call 35 [(.t 12), (.c (.int .i64 10000))], none⟩, ⟨(some 2), .v (.mov (.t 13)), none⟩])
          .ret)
         .skip))))))
   (.seq
    (.reg [⟨(some 14), .v (.mov (.t 0)), none⟩, ⟨(some 15), .call 35 [(.t 14), (.c (.int .i64 20))], none⟩, ⟨(some 2), .v (.mov (.t 15)), none⟩])
    .ret)))⟩
theorem e42 : rFunc Tryz.prog Tryz.f42 = some r42 := by kernel_rfl
def r43 : RFunc := ⟨11, [.t 2],
 (.seq
  (.reg [⟨(some 2), .v (.mov (.c (.int .i64 0))), none⟩])
  (.seq
   (.seq
    (.reg [⟨(some 3), .v (.mov (.t 0)), none⟩, ⟨(some 4), .call 41 [(.t 3), (.c (.int .i64 8))], none⟩])
    (.cond (.t 4)
     (.seq
      (.reg [⟨(some 5), .v (.mov (.t 0)), none⟩, ⟨(some 6), .m (.bsl 1 5 [(.int .i64 0)] [(0, 1, (.c (.int .i64 (-1)))), (1, 1, (.c (.int .i64 0))), (2, 1, (.c (.int .i64 1))), (3, 1, (.c (.int .i64 24))), (4, 1, (.c (.int .i64 25)))]), none⟩, ⟨(some 7), .call 71 [(.t 5), (.t 6)], none⟩, ⟨(some 2), .v (.mov (.t 7)), none⟩])
      .ret)
     .skip))
   (.seq
    (.reg [⟨(some 8), .v (.mov (.t 0)), none⟩, ⟨(some 9), .call 35 [(.t 8), (.c (.int .i64 10))], none⟩, ⟨(some 10), .v (.bin .add (.c (.int .i64 1)) (.t 9)), none⟩, ⟨(some 2), .v (.mov (.t 10)), none⟩])
    .ret)))⟩
theorem e43 : rFunc Tryz.prog Tryz.f43 = some r43 := by kernel_rfl
def r16 : RFunc := ⟨75, [.cell true 3 2, .t 3],
 (.seq
  (.reg [⟨(some 2), .m (.alloc [(.int .i64 0), (.int .i64 0), .nils]), none⟩, ⟨(some 3), .v (.mov (.c .nils)), none⟩])
  (.seq
   (.reg [⟨(some 9), .v (.mov (.t 0)), none⟩, ⟨(some 10), .call 39 [(.t 9), (.c (.int .i64 9))], none⟩, ⟨(some 4), .v (.mov (.t 10)), none⟩])
   (.seq
    (.reg [⟨(some 11), .v (.mov (.t 4)), none⟩, ⟨(some 12), .v (.len (.t 11)), none⟩, ⟨(some 13), .v (.bin .add (.c (.int .i64 1)) (.t 12)), none⟩, ⟨(some 5), .v (.mov (.t 13)), none⟩])
    (.seq
     (.reg [⟨(some 15), .v (.mov (.t 0)), none⟩, ⟨(some 16), .call 35 [(.t 15), (.c (.int .i64 20))], none⟩, ⟨(some 17), .v (.mov (.t 4)), none⟩, ⟨(some 18), .v (.mov (.t 5)), none⟩, ⟨(some 19), .call 40 [(.t 16), (.t 17), (.t 18)], none⟩, ⟨(some 14), .v (.mov (.t 19)), none⟩, ⟨(some 20), .v (.ext (.t 14) 0), none⟩, ⟨(some 21), .v (.ext (.t 14) 1), none⟩, ⟨(some 6), .m (.alloc [(.int .i64 0), (.int .i64 0), .nils]), none⟩, ⟨none, .m (.store 3 (.t 6) (.t 20)), none⟩, ⟨(some 7), .v (.mov (.t 21)), none⟩])
     (.seq
      (.seq
       (.reg [⟨(some 22), .v (.load true 3 (.t 6)), none⟩, ⟨(some 23), .call 25 [(.t 22)], none⟩, ⟨(some 24), .v (.un .not (.t 23)), none⟩, ⟨(some 25), .v (.mov (.t 24)), none⟩, ⟨(some 26), .v (.mov (.t 0)), (some (25, false))⟩, ⟨(some 27), .call 41 [(.t 26), (.c (.int .i64 10))], (some (25, false))⟩, ⟨(some 28), .v (.pick (.t 25) (.c (.bool true)) (.t 27)), none⟩])
       (.cond (.t 28)
        (.seq
         (.reg [⟨(some 29), .v (.mov (.t 0)), none⟩, ⟨(some 30), .call 42 [(.t 29)], none⟩, ⟨(some 31), .v (.mov (.t 5)), none⟩, ⟨(some 32), .v (.bld [(.int .i64 0), (.int .i64 0), .nils] [(0, 1, (.t 30)), (1, 1, (.t 31))]), none⟩, ⟨none, .m (.store 3 (.t 6) (.t 32)), none⟩])
         (.seq
          (.reg [⟨(some 8), .v (.mov (.c (.int .i64 0))), none⟩])
          (.block 0
           (.loop
            (.seq
             (.seq
              (.reg [⟨(some 33), .v (.mov (.t 8)), none⟩, ⟨(some 34), .v (.mov (.t 5)), none⟩, ⟨(some 35), .v (.bin .mul (.c (.int .i64 3)) (.t 34)), none⟩, ⟨(some 36), .v (.bin .lss (.t 33) (.t 35)), none⟩])
              (.cond (.t 36)
               .skip
               (.exit 0)))
             (.seq
              (.block 1
               (.dreg (.fl ⟨(some 39), .v (.faddr 2 (.t 6)), none⟩ (.fl ⟨(some 41), .v (.mov (.t 0)), none⟩ (.both (.nx ⟨(some 40), .v (.load false 1 (.t 39)), none⟩ (.nx ⟨(some 42), .call 35 [(.t 41), (.c (.int .i64 4))], none⟩ (.nx ⟨(some 43), .m (.bsl 1 1 [(.int .i64 0)] [(0, 1, (.t 42))]), none⟩ (.nx ⟨(some 44), .m (.app false 1 8 (.t 40) (.t 43)), none⟩ (.fl ⟨(some 45), .v (.faddr 2 (.t 6)), none⟩ (.nx ⟨none, .m (.store 1 (.t 45) (.t 44)), none⟩ .done)))))) (.nx ⟨(some 42), .call 35 [(.t 41), (.c (.int .i64 4))], none⟩ (.both (.nx ⟨(some 40), .v (.load false 1 (.t 39)), none⟩ (.nx ⟨(some 43), .m (.bsl 1 1 [(.int .i64 0)] [(0, 1, (.t 42))]), none⟩ (.nx ⟨(some 44), .m (.app false 1 8 (.t 40) (.t 43)), none⟩ (.fl ⟨(some 45), .v (.faddr 2 (.t 6)), none⟩ (.nx ⟨none, .m (.store 1 (.t 45) (.t 44)), none⟩ .done))))) (.nx ⟨(some 43), .m (.bsl 1 1 [(.int .i64 0)] [(0, 1, (.t 42))]), none⟩ (.nx ⟨(some 40), .v (.load false 1 (.t 39)), none⟩ (.nx ⟨(some 44), .m (.app false 1 8 (.t 40) (.t 43)), none⟩ (.fl ⟨(some 45), .v (.faddr 2 (.t 6)), none⟩ (.nx ⟨none, .m (.store 1 (.t 45) (.t 44)), none⟩ .done))))))))))))
              (.reg [⟨(some 37), .v (.mov (.t 8)), none⟩, ⟨(some 38), .v (.bin .add (.t 37) (.c (.int .i64 1))), none⟩, ⟨(some 8), .v (.mov (.t 38)), none⟩])))))))
        .skip))
      (.seq
       (.seq
        (.reg [⟨(some 46), .v (.mov (.t 0)), none⟩, ⟨(some 47), .call 35 [(.t 46), (.c (.int .i64 14))], none⟩])
        (.block 2
         (.seq
          (.reg [⟨(some 49), .v (.bin .eql (.t 47) (.c (.int .i64 0))), none⟩, ⟨(some 48), .v (.mov (.t 49)), none⟩])
          (.cond (.t 48)
           (.dreg (.fl ⟨(some 50), .v (.faddr 2 (.t 6)), none⟩ (.fl ⟨(some 52), .v (.mov (.t 0)), none⟩ (.fl ⟨(some 53), .v (.faddr 2 (.t 6)), none⟩ (.fl ⟨(some 57), .v (.mov (.t 0)), none⟩ (.both (.nx ⟨(some 51), .v (.load false 1 (.t 50)), none⟩ (.nx ⟨(some 54), .v (.load false 1 (.t 53)), none⟩ (.fl ⟨(some 55), .v (.len (.t 54)), none⟩ (.nx ⟨(some 56), .call 35 [(.t 52), (.t 55)], none⟩ (.nx ⟨(some 58), .call 35 [(.t 57), (.c (.int .i64 6))], none⟩ (.fl ⟨(some 59), .v (.bin .sub (.t 58) (.c (.int .i64 1))), none⟩ (.fl ⟨(some 60), .v (.iaddr 1 (.t 51) (.t 56)), none⟩ (.nx ⟨none, .m (.store 1 (.t 60) (.t 59)), none⟩ .done)))))))) (.nx ⟨(some 54), .v (.load false 1 (.t 53)), none⟩ (.fl ⟨(some 55), .v (.len (.t 54)), none⟩ (.both (.nx ⟨(some 51), .v (.load false 1 (.t 50)), none⟩ (.nx ⟨(some 56), .call 35 [(.t 52), (.t 55)], none⟩ (.nx ⟨(some 58), .call 35 [(.t 57), (.c (.int .i64 6))], none⟩ (.fl ⟨(some 59), .v (.bin .sub (.t 58) (.c (.int .i64 1))), none⟩ (.fl ⟨(some 60), .v (.iaddr 1 (.t 51) (.t 56)), none⟩ (.nx ⟨none, .m (.store 1 (.t 60) (.t 59)), none⟩ .done)))))) (.nx ⟨(some 56), .call 35 [(.t 52), (.t 55)], none⟩ (.both (.nx ⟨(some 51), .v (.load false 1 (.t 50)), none⟩ (.nx ⟨(some 58), .call 35 [(.t 57), (.c (.int .i64 6))], none⟩ (.fl ⟨(some 59), .v (.bin .sub (.t 58) (.c (.int .i64 1))), none⟩ (.fl ⟨(some 60), .v (.iaddr 1 (.t 51) (.t 56)), none⟩ (.nx ⟨none, .m (.store 1 (.t 60) (.t 59)), none⟩ .done))))) (.nx ⟨(some 58), .call 35 [(.t 57), (.c (.int .i64 6))], none⟩ (.fl ⟨(some 59), .v (.bin .sub (.t 58) (.c (.int .i64 1))), none⟩ (.nx ⟨(some 51), .v (.load false 1 (.t 50)), none⟩ (.fl ⟨(some 60), .v (.iaddr 1 (.t 51) (.t 56)), none⟩ (.nx ⟨none, .m (.store 1 (.t 60) (.t 59)), none⟩ .done))))))))))))))))
           (.seq
            (.reg [⟨(some 62), .v (.bin .eql (.t 47) (.c (.int .i64 1))), none⟩, ⟨(some 61), .v (.mov (.t 62)), none⟩])
            (.cond (.t 61)
             (.reg [⟨(some 63), .v (.mov (.t 0)), none⟩, ⟨(some 64), .call 43 [(.t 63)], none⟩, ⟨(some 65), .v (.faddr 1 (.t 6)), none⟩, ⟨none, .m (.store 1 (.t 65) (.t 64)), none⟩])
             (.seq
              (.reg [⟨(some 67), .v (.bin .eql (.t 47) (.c (.int .i64 2))), none⟩, ⟨(some 66), .v (.mov (.t 67)), none⟩])
              (.cond (.t 66)
               (.reg [⟨(some 68), .v (.faddr 2 (.t 6)), none⟩, ⟨(some 69), .v (.load false 1 (.t 68)), none⟩, ⟨(some 70), .m (.bsl 1 1 [(.int .i64 0)] [(0, 1, (.c (.int .i64 0)))]), none⟩, ⟨(some 71), .m (.app false 1 8 (.t 69) (.t 70)), none⟩, ⟨(some 72), .v (.faddr 2 (.t 6)), none⟩, ⟨none, .m (.store 1 (.t 72) (.t 71)), none⟩])
               .skip))))))))
       (.seq
        (.reg [⟨(some 73), .v (.load true 3 (.t 6)), none⟩, ⟨(some 74), .v (.mov (.t 4)), none⟩, ⟨none, .m (.store 3 (.t 2) (.t 73)), none⟩, ⟨(some 3), .v (.mov (.t 74)), none⟩])
        .ret)))))))⟩
theorem e16 : rFunc Tryz.prog Tryz.f16 = some r16 := by kernel_rfl
def r6 : RFunc := ⟨15, [.cell true 3 2],
 (.seq
  (.reg [⟨(some 2), .m (.alloc [(.int .i64 0), (.int .i64 0), .nils]), none⟩])
  (.seq
   (.reg [⟨(some 6), .v (.mov (.t 0)), none⟩, ⟨(some 7), .v (.bld [.nils, (.int .i64 0), (.int .u64 0)] [(0, 1, (.t 6))]), none⟩, ⟨(some 8), .m (.box (.t 7)), none⟩, ⟨(some 3), .v (.mov (.t 8)), none⟩])
   (.seq
    (.reg [⟨(some 10), .v (.mov (.t 3)), none⟩, ⟨(some 11), .call 16 [(.t 10)], none⟩, ⟨(some 9), .v (.mov (.t 11)), none⟩, ⟨(some 12), .v (.ext (.t 9) 0), none⟩, ⟨(some 13), .v (.ext (.t 9) 1), none⟩, ⟨(some 4), .m (.alloc [(.int .i64 0), (.int .i64 0), .nils]), none⟩, ⟨none, .m (.store 3 (.t 4) (.t 12)), none⟩, ⟨(some 5), .v (.mov (.t 13)), none⟩])
    (.seq
     (.reg [⟨(some 14), .v (.load true 3 (.t 4)), none⟩, ⟨none, .m (.store 3 (.t 2) (.t 14)), none⟩])
     .ret))))⟩
theorem e6 : rFunc Tryz.prog Tryz.f6 = some r6 := by kernel_rfl
end Go.Proofs.YtbkcenkfecndjaaGreatDoor.M
