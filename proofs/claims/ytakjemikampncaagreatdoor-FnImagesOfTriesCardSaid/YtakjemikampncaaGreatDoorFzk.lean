/-
  The resolved text of the functions, each tied to the program's own by the kernel.
-/
import Derived.Test.YtakjemikampncaaGreatDoorProg
import Derived.Test.YtakjemikampncaaGreatDoorFzc
namespace Go.Proofs.YtakjemikampncaaGreatDoor.M
open Go Go.RowKit
attribute [local instance] dqF
set_option maxRecDepth 100000

def r95 : RFunc := ⟨62, [.t 2],
 (.seq
  (.reg [⟨(some 2), .v (.mov (.c (.int .i64 0))), none⟩])
  (.seq
   (.reg [⟨(some 3), .v (.mov (.c (.int .i64 0))), none⟩])
   (.seq
    (.seq
     (.dreg (.fl ⟨(some 4), .v (.mov (.t 0)), none⟩ (.fl ⟨(some 5), .v (.nchk (.t 4)), none⟩ (.fl ⟨(some 6), .v (.faddr 1 (.t 5)), none⟩ (.fl ⟨(some 7), .v (.load false 1 (.t 6)), none⟩ (.fl ⟨(some 8), .v (.mov (.t 0)), none⟩ (.fl ⟨(some 9), .v (.nchk (.t 8)), none⟩ (.fl ⟨(some 10), .v (.faddr 0 (.t 9)), none⟩ (.fl ⟨(some 11), .v (.load false 1 (.t 10)), none⟩ (.fl ⟨(some 12), .v (.len (.t 11)), none⟩ (.fl ⟨(some 13), .v (.bin .lss (.t 7) (.t 12)), none⟩ .done)))))))))))
     (.cond (.t 13)
      (.dreg (.fl ⟨(some 14), .v (.mov (.t 0)), none⟩ (.fl ⟨(some 15), .v (.nchk (.t 14)), none⟩ (.fl ⟨(some 16), .v (.faddr 0 (.t 15)), none⟩ (.fl ⟨(some 17), .v (.load false 1 (.t 16)), none⟩ (.fl ⟨(some 18), .v (.mov (.t 0)), none⟩ (.fl ⟨(some 19), .v (.nchk (.t 18)), none⟩ (.fl ⟨(some 20), .v (.faddr 1 (.t 19)), none⟩ (.fl ⟨(some 21), .v (.load false 1 (.t 20)), none⟩ (.fl ⟨(some 22), .v (.iaddr 1 (.t 17) (.t 21)), none⟩ (.fl ⟨(some 23), .v (.load false 1 (.t 22)), none⟩ (.fl ⟨(some 24), .v (.conv .i64 (.t 23)), none⟩ (.fl ⟨(some 3), .v (.mov (.t 24)), none⟩ .done)))))))))))))
      .skip))
    (.seq
     (.reg [⟨(some 25), .v (.mov (.t 0)), none⟩, ⟨(some 26), .v (.nchk (.t 25)), none⟩, ⟨(some 27), .v (.faddr 1 (.t 26)), none⟩, ⟨(some 28), .v (.load false 1 (.t 27)), none⟩, ⟨(some 29), .v (.bin .add (.t 28) (.c (.int .i64 1))), none⟩, ⟨(some 30), .v (.nchk (.t 25)), none⟩, ⟨(some 31), .v (.faddr 1 (.t 30)), none⟩, ⟨none, .m (.store 1 (.t 31) (.t 29)), none⟩])
     (.seq
      (.reg [⟨(some 32), .v (.mov (.t 0)), none⟩, ⟨(some 33), .v (.mov (.t 0)), none⟩, ⟨(some 34), .v (.nchk (.t 33)), none⟩, ⟨(some 35), .v (.faddr 2 (.t 34)), none⟩, ⟨(some 36), .v (.load false 1 (.t 35)), none⟩, ⟨(some 37), .v (.bin .mul (.t 36) (.c (.int .u64 6364136223846793005))), none⟩, ⟨(some 38), .v (.mov (.t 3)), none⟩, ⟨(some 39), .v (.conv .u64 (.t 38)), none⟩, ⟨(some 40), .v (.bin .add (.t 37) (.t 39)), none⟩, ⟨(some 41), .v (.bin .add (.t 40) (.c (.int .u64 1442695040888963407))), none⟩, ⟨(some 42), .v (.nchk (.t 32)), none⟩, ⟨(some 43), .v (.faddr 2 (.t 42)), none⟩, ⟨none, .m (.store 1 (.t 43) (.t 41)), none⟩])
      (.seq
       (.seq
        (.dreg (.fl ⟨(some 44), .v (.mov (.t 0)), none⟩ (.fl ⟨(some 45), .v (.nchk (.t 44)), none⟩ (.fl ⟨(some 46), .v (.faddr 1 (.t 45)), none⟩ (.fl ⟨(some 47), .v (.load false 1 (.t 46)), none⟩ (.fl ⟨(some 48), .v (.mov (.t 0)), none⟩ (.fl ⟨(some 49), .v (.nchk (.t 48)), none⟩ (.fl ⟨(some 50), .v (.faddr 0 (.t 49)), none⟩ (.fl ⟨(some 51), .v (.load false 1 (.t 50)), none⟩ (.fl ⟨(some 52), .v (.len (.t 51)), none⟩ (.fl ⟨(some 53), .v (.bin .leq (.t 47) (.t 52)), none⟩ .done)))))))))))
        (.cond (.t 53)
         (.seq
          (.reg [⟨(some 54), .v (.mov (.t 3)), none⟩, ⟨(some 2), .v (.mov (.t 54)), none⟩])
          .ret)
         .skip))
       (.seq
        (.reg [⟨(some 55), .v (.mov (.t 0)), none⟩, ⟨(some 56), .v (.nchk (.t 55)), none⟩, ⟨(some 57), .v (.faddr 2 (.t 56)), none⟩, ⟨(some 58), .v (.load false 1 (.t 57)), none⟩, ⟨(some 59), .v (.bin .shr (.t 58) (.c (.int .u64 40))), none⟩, ⟨(some 60), .v (.bin .and (.t 59) (.c (.int .u64 255))), none⟩, ⟨(some 61), .v (.conv .i64 (.t 60)), none⟩, ⟨(some 2), .v (.mov (.t 61)), none⟩])
        .ret)))))))⟩
theorem e95 : rFunc Tryz.prog Tryz.f95 = some r95 := by kernel_rfl
def r65 : RFunc := ⟨20, [.t 4],
 (.seq
  (.reg [⟨(some 4), .v (.mov (.c (.int .i64 0))), none⟩])
  (.seq
   (.seq
    (.reg [⟨(some 6), .v (.mov (.t 1)), none⟩, ⟨(some 7), .v (.bin .leq (.t 6) (.c (.int .i64 1))), none⟩])
    (.cond (.t 7)
     (.seq
      (.reg [⟨(some 4), .v (.mov (.c (.int .i64 0))), none⟩])
      .ret)
     .skip))
   (.seq
    (.reg [⟨(some 8), .v (.mov (.t 0)), none⟩, ⟨(some 9), .call 95 [(.t 8)], none⟩, ⟨(some 5), .v (.mov (.t 9)), none⟩])
    (.seq
     (.seq
      (.reg [⟨(some 10), .v (.mov (.t 1)), none⟩, ⟨(some 11), .v (.bin .gtr (.t 10) (.c (.int .i64 200))), none⟩])
      (.cond (.t 11)
       (.reg [⟨(some 12), .v (.mov (.t 5)), none⟩, ⟨(some 13), .v (.bin .mul (.t 12) (.c (.int .i64 256))), none⟩, ⟨(some 14), .v (.mov (.t 0)), none⟩, ⟨(some 15), .call 95 [(.t 14)], none⟩, ⟨(some 16), .v (.bin .add (.t 13) (.t 15)), none⟩, ⟨(some 5), .v (.mov (.t 16)), none⟩])
       .skip))
     (.seq
      (.reg [⟨(some 17), .v (.mov (.t 5)), none⟩, ⟨(some 18), .v (.mov (.t 1)), none⟩, ⟨(some 19), .v (.bin .rem (.t 17) (.t 18)), none⟩, ⟨(some 4), .v (.mov (.t 19)), none⟩])
      .ret)))))⟩
theorem e65 : rFunc Tryz.prog Tryz.f65 = some r65 := by kernel_rfl
def r63 : RFunc := ⟨9, [.t 4],
 (.seq
  (.reg [⟨(some 4), .v (.mov (.c (.bool false))), none⟩])
  (.seq
   (.reg [⟨(some 5), .v (.mov (.t 0)), none⟩, ⟨(some 6), .v (.mov (.t 1)), none⟩, ⟨(some 7), .call 65 [(.t 5), (.t 6)], none⟩, ⟨(some 8), .v (.bin .eql (.t 7) (.c (.int .i64 0))), none⟩, ⟨(some 4), .v (.mov (.t 8)), none⟩])
   .ret))⟩
theorem e63 : rFunc Tryz.prog Tryz.f63 = some r63 := by kernel_rfl
def r94 : RFunc := ⟨28, [.t 2],
 (.seq
  (.reg [⟨(some 2), .v (.mov (.c (.str []))), none⟩])
  (.seq
   (.reg [⟨(some 3), .v (.mov (.c .nils)), none⟩])
   (.seq
    (.seq
     (.reg [⟨(some 5), .v (.mov (.t 0)), none⟩, ⟨(some 6), .call 65 [(.t 5), (.c (.int .i64 4))], none⟩, ⟨(some 7), .v (.bin .add (.c (.int .i64 1)) (.t 6)), none⟩, ⟨(some 4), .v (.mov (.t 7)), none⟩])
     (.block 0
      (.loop
       (.seq
        (.seq
         (.reg [⟨(some 8), .v (.mov (.t 4)), none⟩, ⟨(some 9), .v (.bin .gtr (.t 8) (.c (.int .i64 0))), none⟩])
         (.cond (.t 9)
          .skip
          (.exit 0)))
        (.seq
         (.block 1
          (.reg [⟨(some 12), .v (.mov (.t 3)), none⟩, ⟨(some 13), .v (.mov (.t 0)), none⟩, ⟨(some 14), .call 65 [(.t 13), (.c (.int .i64 11))], none⟩, ⟨(some 15), .v (.sidx (.c (.str [97, 97, 98, 98, 99, 120, 121, 122, 33, 125, 48])) (.t 14)), none⟩, ⟨(some 16), .m (.bsl 1 1 [(.int .u8 0)] [(0, 1, (.t 15))]), none⟩, ⟨(some 17), .m (.app false 1 1 (.t 12) (.t 16)), none⟩, ⟨(some 3), .v (.mov (.t 17)), none⟩]))
         (.reg [⟨(some 10), .v (.mov (.t 4)), none⟩, ⟨(some 11), .v (.bin .sub (.t 10) (.c (.int .i64 1))), none⟩, ⟨(some 4), .v (.mov (.t 11)), none⟩]))))))
    (.seq
     (.seq
      (.reg [⟨(some 18), .v (.mov (.t 0)), none⟩, ⟨(some 19), .call 63 [(.t 18), (.c (.int .i64 12))], none⟩])
      (.cond (.t 19)
       (.block 2
        (.loop
         (.seq
          (.seq
           (.reg [⟨(some 20), .v (.mov (.t 3)), none⟩, ⟨(some 21), .v (.len (.t 20)), none⟩, ⟨(some 22), .v (.bin .lss (.t 21) (.c (.int .i64 12))), none⟩])
           (.cond (.t 22)
            .skip
            (.exit 2)))
          (.block 3
           (.reg [⟨(some 23), .v (.mov (.t 3)), none⟩, ⟨(some 24), .m (.bsl 1 1 [(.int .u8 0)] [(0, 1, (.c (.int .u8 97)))]), none⟩, ⟨(some 25), .m (.app false 1 1 (.t 23) (.t 24)), none⟩, ⟨(some 3), .v (.mov (.t 25)), none⟩])))))
       .skip))
     (.seq
      (.reg [⟨(some 26), .v (.mov (.t 3)), none⟩, ⟨(some 27), .v (.cbs (.t 26)), none⟩, ⟨(some 2), .v (.mov (.t 27)), none⟩])
      .ret)))))⟩
theorem e94 : rFunc Tryz.prog Tryz.f94 = some r94 := by kernel_rfl
def r62 : RFunc := ⟨20, [.t 4],
 (.seq
  (.reg [⟨(some 4), .v (.mov (.c .nils)), none⟩])
  (.seq
   (.reg [⟨(some 5), .v (.mov (.c .nils)), none⟩])
   (.seq
    (.seq
     (.reg [⟨(some 7), .v (.mov (.t 0)), none⟩, ⟨(some 8), .v (.mov (.t 1)), none⟩, ⟨(some 9), .v (.bin .add (.t 8) (.c (.int .i64 1))), none⟩, ⟨(some 10), .call 65 [(.t 7), (.t 9)], none⟩, ⟨(some 6), .v (.mov (.t 10)), none⟩])
     (.block 0
      (.loop
       (.seq
        (.seq
         (.reg [⟨(some 11), .v (.mov (.t 6)), none⟩, ⟨(some 12), .v (.bin .gtr (.t 11) (.c (.int .i64 0))), none⟩])
         (.cond (.t 12)
          .skip
          (.exit 0)))
        (.seq
         (.block 1
          (.reg [⟨(some 15), .v (.mov (.t 5)), none⟩, ⟨(some 16), .v (.mov (.t 0)), none⟩, ⟨(some 17), .call 94 [(.t 16)], none⟩, ⟨(some 18), .call 56 [(.t 15), (.t 17)], none⟩, ⟨(some 5), .v (.mov (.t 18)), none⟩]))
         (.reg [⟨(some 13), .v (.mov (.t 6)), none⟩, ⟨(some 14), .v (.bin .sub (.t 13) (.c (.int .i64 1))), none⟩, ⟨(some 6), .v (.mov (.t 14)), none⟩]))))))
    (.seq
     (.reg [⟨(some 19), .v (.mov (.t 5)), none⟩, ⟨(some 4), .v (.mov (.t 19)), none⟩])
     .ret))))⟩
theorem e62 : rFunc Tryz.prog Tryz.f62 = some r62 := by kernel_rfl
def r64 : RFunc := ⟨25, [.t 4],
 (.seq
  (.reg [⟨(some 4), .v (.mov (.c .nils)), none⟩])
  (.seq
   (.reg [⟨(some 5), .v (.mov (.c .nils)), none⟩])
   (.seq
    (.seq
     (.reg [⟨(some 6), .v (.mov (.c (.int .i64 0))), none⟩])
     (.block 0
      (.loop
       (.seq
        (.seq
         (.reg [⟨(some 7), .v (.mov (.t 6)), none⟩, ⟨(some 8), .v (.mov (.t 1)), none⟩, ⟨(some 9), .v (.bin .lss (.t 7) (.t 8)), none⟩])
         (.cond (.t 9)
          .skip
          (.exit 0)))
        (.seq
         (.block 1
          (.reg [⟨(some 12), .v (.mov (.t 5)), none⟩, ⟨(some 13), .v (.mov (.t 6)), none⟩, ⟨(some 14), .v (.bin .quo (.t 13) (.c (.int .i64 10))), none⟩, ⟨(some 15), .v (.bin .add (.c (.int .i64 97)) (.t 14)), none⟩, ⟨(some 16), .v (.conv .u8 (.t 15)), none⟩, ⟨(some 17), .v (.mov (.t 6)), none⟩, ⟨(some 18), .v (.bin .rem (.t 17) (.c (.int .i64 10))), none⟩, ⟨(some 19), .v (.bin .add (.c (.int .i64 48)) (.t 18)), none⟩, ⟨(some 20), .v (.conv .u8 (.t 19)), none⟩, ⟨(some 21), .m (.bsl 1 2 [(.int .u8 0)] [(0, 1, (.t 16)), (1, 1, (.t 20))]), none⟩, ⟨(some 22), .v (.cbs (.t 21)), none⟩, ⟨(some 23), .call 56 [(.t 12), (.t 22)], none⟩, ⟨(some 5), .v (.mov (.t 23)), none⟩]))
         (.reg [⟨(some 10), .v (.mov (.t 6)), none⟩, ⟨(some 11), .v (.bin .add (.t 10) (.c (.int .i64 1))), none⟩, ⟨(some 6), .v (.mov (.t 11)), none⟩]))))))
    (.seq
     (.reg [⟨(some 24), .v (.mov (.t 5)), none⟩, ⟨(some 4), .v (.mov (.t 24)), none⟩])
     .ret))))⟩
theorem e64 : rFunc Tryz.prog Tryz.f64 = some r64 := by kernel_rfl
def r66 : RFunc := ⟨18, [.t 2],
 (.seq
  (.reg [⟨(some 1), .m (.box (.t 0)), none⟩, ⟨(some 2), .v (.mov (.c .nils)), none⟩])
  (.seq
   (.reg [⟨(some 3), .v (.mov (.c .nils)), none⟩])
   (.seq
    (.seq
     (.reg [⟨(some 4), .v (.mov (.c (.int .i64 0))), none⟩])
     (.block 0
      (.loop
       (.seq
        (.seq
         (.reg [⟨(some 5), .v (.mov (.t 4)), none⟩, ⟨(some 6), .v (.faddr 0 (.t 1)), none⟩, ⟨(some 7), .v (.load false 1 (.t 6)), none⟩, ⟨(some 8), .v (.bin .lss (.t 5) (.t 7)), none⟩])
         (.cond (.t 8)
          .skip
          (.exit 0)))
        (.seq
         (.block 1
          (.reg [⟨(some 11), .v (.mov (.t 3)), none⟩, ⟨(some 12), .v (.load true 2 (.t 1)), none⟩, ⟨(some 13), .v (.mov (.t 4)), none⟩, ⟨(some 14), .call 55 [(.t 12), (.t 13)], none⟩, ⟨(some 15), .m (.bsl 1 1 [(.bool false)] [(0, 1, (.t 14))]), none⟩, ⟨(some 16), .m (.app false 1 1 (.t 11) (.t 15)), none⟩, ⟨(some 3), .v (.mov (.t 16)), none⟩]))
         (.reg [⟨(some 9), .v (.mov (.t 4)), none⟩, ⟨(some 10), .v (.bin .add (.t 9) (.c (.int .i64 1))), none⟩, ⟨(some 4), .v (.mov (.t 10)), none⟩]))))))
    (.seq
     (.reg [⟨(some 17), .v (.mov (.t 3)), none⟩, ⟨(some 2), .v (.mov (.t 17)), none⟩])
     .ret))))⟩
theorem e66 : rFunc Tryz.prog Tryz.f66 = some r66 := by kernel_rfl
def r67 : RFunc := ⟨68, [.t 6],
 (.seq
  (.reg [⟨(some 6), .v (.mov (.c (.str []))), none⟩])
  (.seq
   (.seq
    (.reg [⟨(some 10), .v (.mov (.t 0)), none⟩, ⟨(some 11), .call 65 [(.t 10), (.c (.int .i64 2))], none⟩, ⟨(some 12), .v (.bin .add (.c (.int .i64 1)) (.t 11)), none⟩, ⟨(some 7), .v (.mov (.t 12)), none⟩])
    (.block 0
     (.loop
      (.seq
       (.seq
        (.reg [⟨(some 13), .v (.mov (.t 7)), none⟩, ⟨(some 14), .v (.bin .gtr (.t 13) (.c (.int .i64 0))), none⟩, ⟨(some 15), .v (.mov (.t 14)), none⟩, ⟨(some 16), .v (.mov (.t 1)), (some (15, true))⟩, ⟨(some 17), .v (.lens (.t 16)), (some (15, true))⟩, ⟨(some 18), .v (.bin .gtr (.t 17) (.c (.int .i64 0))), (some (15, true))⟩, ⟨(some 19), .v (.pick (.t 15) (.t 18) (.c (.bool false))), none⟩])
        (.cond (.t 19)
         .skip
         (.exit 0)))
       (.seq
        (.block 1
         (.seq
          (.reg [⟨(some 22), .v (.mov (.t 0)), none⟩, ⟨(some 23), .v (.mov (.t 1)), none⟩, ⟨(some 24), .v (.lens (.t 23)), none⟩, ⟨(some 25), .call 65 [(.t 22), (.t 24)], none⟩, ⟨(some 8), .v (.mov (.t 25)), none⟩])
          (.seq
           (.reg [⟨(some 26), .v (.mov (.t 2)), none⟩, ⟨(some 27), .v (.mov (.t 0)), none⟩, ⟨(some 28), .v (.mov (.t 2)), none⟩, ⟨(some 29), .v (.lens (.t 28)), none⟩, ⟨(some 30), .call 65 [(.t 27), (.t 29)], none⟩, ⟨(some 31), .v (.sidx (.t 26) (.t 30)), none⟩, ⟨(some 32), .m (.bsl 1 1 [(.int .u8 0)] [(0, 1, (.t 31))]), none⟩, ⟨(some 33), .v (.cbs (.t 32)), none⟩, ⟨(some 9), .v (.mov (.t 33)), none⟩])
           (.seq
            (.reg [⟨(some 34), .v (.mov (.t 0)), none⟩, ⟨(some 35), .call 65 [(.t 34), (.c (.int .i64 3))], none⟩])
            (.block 2
             (.seq
              (.reg [⟨(some 45), .v (.bin .eql (.t 35) (.c (.int .i64 0))), none⟩, ⟨(some 44), .v (.mov (.t 45)), none⟩])
              (.cond (.t 44)
               (.dreg (.fl ⟨(some 46), .v (.mov (.t 1)), none⟩ (.fl ⟨(some 47), .v (.mov (.t 8)), none⟩ (.fl ⟨(some 48), .v (.sstr (.t 46) none (some (.t 47))), none⟩ (.fl ⟨(some 49), .v (.mov (.t 9)), none⟩ (.fl ⟨(some 50), .v (.bin .add (.t 48) (.t 49)), none⟩ (.fl ⟨(some 51), .v (.mov (.t 1)), none⟩ (.fl ⟨(some 52), .v (.mov (.t 8)), none⟩ (.fl ⟨(some 53), .v (.sstr (.t 51) (some (.t 52)) none), none⟩ (.fl ⟨(some 54), .v (.bin .add (.t 50) (.t 53)), none⟩ (.fl ⟨(some 1), .v (.mov (.t 54)), none⟩ .done)))))))))))
               (.seq
                (.reg [⟨(some 56), .v (.bin .eql (.t 35) (.c (.int .i64 1))), none⟩, ⟨(some 55), .v (.mov (.t 56)), none⟩])
                (.cond (.t 55)
                 (.dreg (.fl ⟨(some 57), .v (.mov (.t 1)), none⟩ (.fl ⟨(some 58), .v (.mov (.t 8)), none⟩ (.fl ⟨(some 59), .v (.sstr (.t 57) none (some (.t 58))), none⟩ (.fl ⟨(some 60), .v (.mov (.t 9)), none⟩ (.fl ⟨(some 61), .v (.bin .add (.t 59) (.t 60)), none⟩ (.fl ⟨(some 62), .v (.mov (.t 1)), none⟩ (.fl ⟨(some 63), .v (.mov (.t 8)), none⟩ (.fl ⟨(some 64), .v (.bin .add (.t 63) (.c (.int .i64 1))), none⟩ (.fl ⟨(some 65), .v (.sstr (.t 62) (some (.t 64)) none), none⟩ (.fl ⟨(some 66), .v (.bin .add (.t 61) (.t 65)), none⟩ (.fl ⟨(some 1), .v (.mov (.t 66)), none⟩ .done))))))))))))
                 (.dreg (.fl ⟨(some 36), .v (.mov (.t 1)), none⟩ (.fl ⟨(some 37), .v (.mov (.t 8)), none⟩ (.fl ⟨(some 38), .v (.sstr (.t 36) none (some (.t 37))), none⟩ (.fl ⟨(some 39), .v (.mov (.t 1)), none⟩ (.fl ⟨(some 40), .v (.mov (.t 8)), none⟩ (.fl ⟨(some 41), .v (.bin .add (.t 40) (.c (.int .i64 1))), none⟩ (.fl ⟨(some 42), .v (.sstr (.t 39) (some (.t 41)) none), none⟩ (.fl ⟨(some 43), .v (.bin .add (.t 38) (.t 42)), none⟩ (.fl ⟨(some 1), .v (.mov (.t 43)), none⟩ .done)))))))))))))))))))
        (.reg [⟨(some 20), .v (.mov (.t 7)), none⟩, ⟨(some 21), .v (.bin .sub (.t 20) (.c (.int .i64 1))), none⟩, ⟨(some 7), .v (.mov (.t 21)), none⟩]))))))
   (.seq
    (.reg [⟨(some 67), .v (.mov (.t 1)), none⟩, ⟨(some 6), .v (.mov (.t 67)), none⟩])
    .ret)))⟩
theorem e67 : rFunc Tryz.prog Tryz.f67 = some r67 := by kernel_rfl
end Go.Proofs.YtakjemikampncaaGreatDoor.M
