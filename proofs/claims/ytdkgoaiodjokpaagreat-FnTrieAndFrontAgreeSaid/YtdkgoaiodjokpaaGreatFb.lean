/-
  The resolved text of the functions, each tied to the program's own by the kernel.
-/
import Derived.Test.YtdkgoaiodjokpaaGreatProg
import Derived.Test.YtdkgoaiodjokpaaGreatFa
namespace Go.Proofs.YtdkgoaiodjokpaaGreat.M
open Go Go.RowKit
set_option maxRecDepth 100000

def r70 : RFunc := ⟨62, [.t 2],
 (.seq
  (.reg [⟨(some 2), .v (.mov (.c (.int .i64 0))), none⟩])
  (.seq
   (.reg [⟨(some 3), .v (.mov (.c (.int .i64 0))), none⟩])
   (.seq
    (.seq
     (.dreg (.fl ⟨(some 4), .v (.mov (.t 0)), none⟩ (.fl ⟨(some 5), .v (.nchk (.t 4)), none⟩ (.fl ⟨(some 6), .v (.faddr 1 (.t 5)), none⟩ (.fl ⟨(some 7), .v (.load false 1 (.t 6)), none⟩ (.fl ⟨(some 8), .v (.mov (.t 0)), none⟩ (.fl ⟨(some 9), .v (.nchk (.t 8)), none⟩ (.fl ⟨(some 10), .v (.faddr 0 (.t 9)), none⟩ (.fl ⟨(some 11), .v (.load false 1 (.t 10)), none⟩ (.fl ⟨(some 12), .v (.len (.t 11)), none⟩ (.fl ⟨(some 13), .v (.bin .lss (.t 7) (.t 12)), none⟩ .done)))))))))))
     (.cond (.t 13)
      (.dreg (.fl ⟨(some 14), .v (.mov (.t 0)), none⟩ (.fl ⟨(some 15), .v (.nchk (.t 14)), none⟩ (.fl ⟨(some 16), .v (.faddr 0 (.t 15)), none⟩ (.fl ⟨(some 17), .v (.load false 1 (.t 16)), none⟩ (.fl ⟨(some 18), .v (.mov (.t 0)), none⟩ (.fl ⟨(some 19), .v (.nchk (.t 18)), none⟩ (.fl ⟨(some 20), .v (.faddr 1 (.t 19)), none⟩ (.fl ⟨(some 21), .v (.load false 1 (.t 20)), none⟩ (.fl ⟨(some 22), .v (.iaddr 1 (.t 17) (.t 21)), none⟩ (.fl ⟨(some 23), .v (.load false 1 (.t 22)), none⟩ (.fl ⟨(some 24), .v (.conv .i64 (.t 23)), none⟩ (.fl ⟨(some 3), .v (.mov (.t 24)), none⟩ .done)))))))))))))
      .skip))
    (.seq
     (.reg [⟨(some 25), .v (.mov (.t 0)), none⟩, ⟨(some 26), .v (.nchk (.t 25)), none⟩, ⟨(some 27), .v (.faddr 1 (.t 26)), none⟩, ⟨(some 28), .v (.load false 1 (.t 27)), none⟩, ⟨(some 29), .v (.bin .add (.t 28) (.c (.int .i64 1))), none⟩, ⟨(some 30), .v (.nchk (.t 25)), none⟩, ⟨(some 31), .v (.faddr 1 (.t 30)), none⟩, ⟨none, .m (.store 1 (.t 31) (.t 29)), none⟩])
     (.seq
      (.reg [⟨(some 32), .v (.mov (.t 0)), none⟩, ⟨(some 33), .v (.mov (.t 0)), none⟩, ⟨(some 34), .v (.nchk (.t 33)), none⟩, ⟨(some 35), .v (.faddr 2 (.t 34)), none⟩, ⟨(some 36), .v (.load false 1 (.t 35)), none⟩, ⟨(some 37), .v (.bin .mul (.t 36) (.c (.int .u64 6364136223846793005))), none⟩, ⟨(some 38), .v (.mov (.t 3)), none⟩, ⟨(some 39), .v (.conv .u64 (.t 38)), none⟩, ⟨(some 40), .v (.bin .add (.t 37) (.t 39)), none⟩, ⟨(some 41), .v (.bin .add (.t 40) (.c (.int .u64 1442695040888963407))), none⟩, ⟨(some 42), .v (.nchk (.t 32)), none⟩, ⟨(some 43), .v (.faddr 2 (.t 42)), none⟩, ⟨none, .m (.store 1 (.t 43) (.t 41)), none⟩])
      (.seq
       (.seq
        (.dreg (.fl ⟨(some 44), .v (.mov (.t 0)), none⟩ (.fl ⟨(some 45), .v (.nchk (.t 44)), none⟩ (.fl ⟨(some 46), .v (.faddr 1 (.t 45)), none⟩ (.fl ⟨(some 47), .v (.load false 1 (.t 46)), none⟩ (.fl ⟨(some 48), .v (.mov (.t 0)), none⟩ (.fl ⟨(some 49), .v (.nchk (.t 48)), none⟩ (.fl ⟨(some 50), .v (.faddr 0 (.t 49)), none⟩ (.fl ⟨(some 51), .v (.load false 1 (.t 50)), none⟩ (.fl ⟨(some 52), .v (.len (.t 51)), none⟩ (.fl ⟨(some 53), .v (.bin .leq (.t 47) (.t 52)), none⟩ .done)))))))))))
        (.cond (.t 53)
         (.seq
          (.reg [⟨(some 54), .v (.mov (.t 3)), none⟩, ⟨(some 2), .v (.mov (.t 54)), none⟩])
          .ret)
         .skip))
       (.seq
        (.reg [⟨(some 55), .v (.mov (.t 0)), none⟩, ⟨(some 56), .v (.nchk (.t 55)), none⟩, ⟨(some 57), .v (.faddr 2 (.t 56)), none⟩, ⟨(some 58), .v (.load false 1 (.t 57)), none⟩, ⟨(some 59), .v (.bin .shr (.t 58) (.c (.int .u64 40))), none⟩, ⟨(some 60), .v (.bin .and (.t 59) (.c (.int .u64 255))), none⟩, ⟨(some 61), .v (.conv .i64 (.t 60)), none⟩, ⟨(some 2), .v (.mov (.t 61)), none⟩])
        .ret)))))))⟩
theorem e70 : rFunc Tryz.prog Tryz.f70 = some r70 := by kernel_rfl
def r29 : RFunc := ⟨20, [.t 4],
 (.seq
  (.reg [⟨(some 4), .v (.mov (.c (.int .i64 0))), none⟩])
  (.seq
   (.seq
    (.reg [⟨(some 6), .v (.mov (.t 1)), none⟩, ⟨(some 7), .v (.bin .leq (.t 6) (.c (.int .i64 1))), none⟩])
    (.cond (.t 7)
     (.seq
      (.reg [⟨(some 4), .v (.mov (.c (.int .i64 0))), none⟩])
      .ret)
     .skip))
   (.seq
    (.reg [⟨(some 8), .v (.mov (.t 0)), none⟩, ⟨(some 9), .call 70 [(.t 8)], none⟩, ⟨(some 5), .v (.mov (.t 9)), none⟩])
    (.seq
     (.seq
      (.reg [⟨(some 10), .v (.mov (.t 1)), none⟩, ⟨(some 11), .v (.bin .gtr (.t 10) (.c (.int .i64 200))), none⟩])
      (.cond (.t 11)
       (.reg [⟨(some 12), .v (.mov (.t 5)), none⟩, ⟨(some 13), .v (.bin .mul (.t 12) (.c (.int .i64 256))), none⟩, ⟨(some 14), .v (.mov (.t 0)), none⟩, ⟨(some 15), .call 70 [(.t 14)], none⟩, ⟨(some 16), .v (.bin .add (.t 13) (.t 15)), none⟩, ⟨(some 5), .v (.mov (.t 16)), none⟩])
       .skip))
     (.seq
      (.reg [⟨(some 17), .v (.mov (.t 5)), none⟩, ⟨(some 18), .v (.mov (.t 1)), none⟩, ⟨(some 19), .v (.bin .rem (.t 17) (.t 18)), none⟩, ⟨(some 4), .v (.mov (.t 19)), none⟩])
      .ret)))))⟩
theorem e29 : rFunc Tryz.prog Tryz.f29 = some r29 := by kernel_rfl
def r30 : RFunc := ⟨9, [.t 4],
 (.seq
  (.reg [⟨(some 4), .v (.mov (.c (.bool false))), none⟩])
  (.seq
   (.reg [⟨(some 5), .v (.mov (.t 0)), none⟩, ⟨(some 6), .v (.mov (.t 1)), none⟩, ⟨(some 7), .call 29 [(.t 5), (.t 6)], none⟩, ⟨(some 8), .v (.bin .eql (.t 7) (.c (.int .i64 0))), none⟩, ⟨(some 4), .v (.mov (.t 8)), none⟩])
   .ret))⟩
theorem e30 : rFunc Tryz.prog Tryz.f30 = some r30 := by kernel_rfl
def r79 : RFunc := ⟨28, [.t 2],
 (.seq
  (.reg [⟨(some 2), .v (.mov (.c (.str []))), none⟩])
  (.seq
   (.reg [⟨(some 3), .v (.mov (.c .nils)), none⟩])
   (.seq
    (.seq
     (.reg [⟨(some 5), .v (.mov (.t 0)), none⟩, ⟨(some 6), .call 29 [(.t 5), (.c (.int .i64 4))], none⟩, ⟨(some 7), .v (.bin .add (.c (.int .i64 1)) (.t 6)), none⟩, ⟨(some 4), .v (.mov (.t 7)), none⟩])
     (.block 0
      (.loop
       (.seq
        (.seq
         (.reg [⟨(some 8), .v (.mov (.t 4)), none⟩, ⟨(some 9), .v (.bin .gtr (.t 8) (.c (.int .i64 0))), none⟩])
         (.cond (.t 9)
          .skip
          (.exit 0)))
        (.seq
         (.block 1
          (.reg [⟨(some 12), .v (.mov (.t 3)), none⟩, ⟨(some 13), .v (.mov (.t 0)), none⟩, ⟨(some 14), .call 29 [(.t 13), (.c (.int .i64 11))], none⟩, ⟨(some 15), .v (.sidx (.c (.str [97, 97, 98, 98, 99, 120, 121, 122, 33, 125, 48])) (.t 14)), none⟩, ⟨(some 16), .m (.bsl 1 1 [(.int .u8 0)] [(0, 1, (.t 15))]), none⟩, ⟨(some 17), .m (.app false 1 1 (.t 12) (.t 16)), none⟩, ⟨(some 3), .v (.mov (.t 17)), none⟩]))
         (.reg [⟨(some 10), .v (.mov (.t 4)), none⟩, ⟨(some 11), .v (.bin .sub (.t 10) (.c (.int .i64 1))), none⟩, ⟨(some 4), .v (.mov (.t 11)), none⟩]))))))
    (.seq
     (.seq
      (.reg [⟨(some 18), .v (.mov (.t 0)), none⟩, ⟨(some 19), .call 30 [(.t 18), (.c (.int .i64 12))], none⟩])
      (.cond (.t 19)
       (.block 2
        (.loop
         (.seq
          (.seq
           (.reg [⟨(some 20), .v (.mov (.t 3)), none⟩, ⟨(some 21), .v (.len (.t 20)), none⟩, ⟨(some 22), .v (.bin .lss (.t 21) (.c (.int .i64 12))), none⟩])
           (.cond (.t 22)
            .skip
            (.exit 2)))
          (.block 3
           (.reg [⟨(some 23), .v (.mov (.t 3)), none⟩, ⟨(some 24), .m (.bsl 1 1 [(.int .u8 0)] [(0, 1, (.c (.int .u8 97)))]), none⟩, ⟨(some 25), .m (.app false 1 1 (.t 23) (.t 24)), none⟩, ⟨(some 3), .v (.mov (.t 25)), none⟩])))))
       .skip))
     (.seq
      (.reg [⟨(some 26), .v (.mov (.t 3)), none⟩, ⟨(some 27), .v (.cbs (.t 26)), none⟩, ⟨(some 2), .v (.mov (.t 27)), none⟩])
      .ret)))))⟩
theorem e79 : rFunc Tryz.prog Tryz.f79 = some r79 := by kernel_rfl
def r71 : RFunc := ⟨20, [.t 4],
 (.seq
  (.reg [⟨(some 4), .v (.mov (.c .nils)), none⟩])
  (.seq
   (.reg [⟨(some 5), .v (.mov (.c .nils)), none⟩])
   (.seq
    (.seq
     (.reg [⟨(some 7), .v (.mov (.t 0)), none⟩, ⟨(some 8), .v (.mov (.t 1)), none⟩, ⟨(some 9), .v (.bin .add (.t 8) (.c (.int .i64 1))), none⟩, ⟨(some 10), .call 29 [(.t 7), (.t 9)], none⟩, ⟨(some 6), .v (.mov (.t 10)), none⟩])
     (.block 0
      (.loop
       (.seq
        (.seq
         (.reg [⟨(some 11), .v (.mov (.t 6)), none⟩, ⟨(some 12), .v (.bin .gtr (.t 11) (.c (.int .i64 0))), none⟩])
         (.cond (.t 12)
          .skip
          (.exit 0)))
        (.seq
         (.block 1
          (.reg [⟨(some 15), .v (.mov (.t 5)), none⟩, ⟨(some 16), .v (.mov (.t 0)), none⟩, ⟨(some 17), .call 79 [(.t 16)], none⟩, ⟨(some 18), .call 122 [(.t 15), (.t 17)], none⟩, ⟨(some 5), .v (.mov (.t 18)), none⟩]))
         (.reg [⟨(some 13), .v (.mov (.t 6)), none⟩, ⟨(some 14), .v (.bin .sub (.t 13) (.c (.int .i64 1))), none⟩, ⟨(some 6), .v (.mov (.t 14)), none⟩]))))))
    (.seq
     (.reg [⟨(some 19), .v (.mov (.t 5)), none⟩, ⟨(some 4), .v (.mov (.t 19)), none⟩])
     .ret))))⟩
theorem e71 : rFunc Tryz.prog Tryz.f71 = some r71 := by kernel_rfl
def r73 : RFunc := ⟨25, [.t 4],
 (.seq
  (.reg [⟨(some 4), .v (.mov (.c .nils)), none⟩])
  (.seq
   (.reg [⟨(some 5), .v (.mov (.c .nils)), none⟩])
   (.seq
    (.seq
     (.reg [⟨(some 6), .v (.mov (.c (.int .i64 0))), none⟩])
     (.block 0
      (.loop
       (.seq
        (.seq
         (.reg [⟨(some 7), .v (.mov (.t 6)), none⟩, ⟨(some 8), .v (.mov (.t 1)), none⟩, ⟨(some 9), .v (.bin .lss (.t 7) (.t 8)), none⟩])
         (.cond (.t 9)
          .skip
          (.exit 0)))
        (.seq
         (.block 1
          (.reg [⟨(some 12), .v (.mov (.t 5)), none⟩, ⟨(some 13), .v (.mov (.t 6)), none⟩, ⟨(some 14), .v (.bin .quo (.t 13) (.c (.int .i64 10))), none⟩, ⟨(some 15), .v (.bin .add (.c (.int .i64 97)) (.t 14)), none⟩, ⟨(some 16), .v (.conv .u8 (.t 15)), none⟩, ⟨(some 17), .v (.mov (.t 6)), none⟩, ⟨(some 18), .v (.bin .rem (.t 17) (.c (.int .i64 10))), none⟩, ⟨(some 19), .v (.bin .add (.c (.int .i64 48)) (.t 18)), none⟩, ⟨(some 20), .v (.conv .u8 (.t 19)), none⟩, ⟨(some 21), .m (.bsl 1 2 [(.int .u8 0)] [(0, 1, (.t 16)), (1, 1, (.t 20))]), none⟩, ⟨(some 22), .v (.cbs (.t 21)), none⟩, ⟨(some 23), .call 122 [(.t 12), (.t 22)], none⟩, ⟨(some 5), .v (.mov (.t 23)), none⟩]))
         (.reg [⟨(some 10), .v (.mov (.t 6)), none⟩, ⟨(some 11), .v (.bin .add (.t 10) (.c (.int .i64 1))), none⟩, ⟨(some 6), .v (.mov (.t 11)), none⟩]))))))
    (.seq
     (.reg [⟨(some 24), .v (.mov (.t 5)), none⟩, ⟨(some 4), .v (.mov (.t 24)), none⟩])
     .ret))))⟩
theorem e73 : rFunc Tryz.prog Tryz.f73 = some r73 := by kernel_rfl
def r74 : RFunc := ⟨18, [.t 2],
 (.seq
  (.reg [⟨(some 1), .m (.box (.t 0)), none⟩, ⟨(some 2), .v (.mov (.c .nils)), none⟩])
  (.seq
   (.reg [⟨(some 3), .v (.mov (.c .nils)), none⟩])
   (.seq
    (.seq
     (.reg [⟨(some 4), .v (.mov (.c (.int .i64 0))), none⟩])
     (.block 0
      (.loop
       (.seq
        (.seq
         (.reg [⟨(some 5), .v (.mov (.t 4)), none⟩, ⟨(some 6), .v (.faddr 0 (.t 1)), none⟩, ⟨(some 7), .v (.load false 1 (.t 6)), none⟩, ⟨(some 8), .v (.bin .lss (.t 5) (.t 7)), none⟩])
         (.cond (.t 8)
          .skip
          (.exit 0)))
        (.seq
         (.block 1
          (.reg [⟨(some 11), .v (.mov (.t 3)), none⟩, ⟨(some 12), .v (.load true 2 (.t 1)), none⟩, ⟨(some 13), .v (.mov (.t 4)), none⟩, ⟨(some 14), .call 124 [(.t 12), (.t 13)], none⟩, ⟨(some 15), .m (.bsl 1 1 [(.bool false)] [(0, 1, (.t 14))]), none⟩, ⟨(some 16), .m (.app false 1 1 (.t 11) (.t 15)), none⟩, ⟨(some 3), .v (.mov (.t 16)), none⟩]))
         (.reg [⟨(some 9), .v (.mov (.t 4)), none⟩, ⟨(some 10), .v (.bin .add (.t 9) (.c (.int .i64 1))), none⟩, ⟨(some 4), .v (.mov (.t 10)), none⟩]))))))
    (.seq
     (.reg [⟨(some 17), .v (.mov (.t 3)), none⟩, ⟨(some 2), .v (.mov (.t 17)), none⟩])
     .ret))))⟩
theorem e74 : rFunc Tryz.prog Tryz.f74 = some r74 := by kernel_rfl
def r76 : RFunc := ⟨68, [.t 6],
 (.seq
  (.reg [⟨(some 6), .v (.mov (.c (.str []))), none⟩])
  (.seq
   (.seq
    (.reg [⟨(some 10), .v (.mov (.t 0)), none⟩, ⟨(some 11), .call 29 [(.t 10), (.c (.int .i64 2))], none⟩, ⟨(some 12), .v (.bin .add (.c (.int .i64 1)) (.t 11)), none⟩, ⟨(some 7), .v (.mov (.t 12)), none⟩])
    (.block 0
     (.loop
      (.seq
       (.seq
        (.reg [⟨(some 13), .v (.mov (.t 7)), none⟩, ⟨(some 14), .v (.bin .gtr (.t 13) (.c (.int .i64 0))), none⟩, ⟨(some 15), .v (.mov (.t 14)), none⟩, ⟨(some 16), .v (.mov (.t 1)), (some (15, true))⟩, ⟨(some 17), .v (.lens (.t 16)), (some (15, true))⟩, ⟨(some 18), .v (.bin .gtr (.t 17) (.c (.int .i64 0))), (some (15, true))⟩, ⟨(some 19), .v (.pick (.t 15) (.t 18) (.c (.bool false))), none⟩])
        (.cond (.t 19)
         .skip
         (.exit 0)))
       (.seq
        (.block 1
         (.seq
          (.reg [⟨(some 22), .v (.mov (.t 0)), none⟩, ⟨(some 23), .v (.mov (.t 1)), none⟩, ⟨(some 24), .v (.lens (.t 23)), none⟩, ⟨(some 25), .call 29 [(.t 22), (.t 24)], none⟩, ⟨(some 8), .v (.mov (.t 25)), none⟩])
          (.seq
           (.reg [⟨(some 26), .v (.mov (.t 2)), none⟩, ⟨(some 27), .v (.mov (.t 0)), none⟩, ⟨(some 28), .v (.mov (.t 2)), none⟩, ⟨(some 29), .v (.lens (.t 28)), none⟩, ⟨(some 30), .call 29 [(.t 27), (.t 29)], none⟩, ⟨(some 31), .v (.sidx (.t 26) (.t 30)), none⟩, ⟨(some 32), .m (.bsl 1 1 [(.int .u8 0)] [(0, 1, (.t 31))]), none⟩, ⟨(some 33), .v (.cbs (.t 32)), none⟩, ⟨(some 9), .v (.mov (.t 33)), none⟩])
           (.seq
            (.reg [⟨(some 34), .v (.mov (.t 0)), none⟩, ⟨(some 35), .call 29 [(.t 34), (.c (.int .i64 3))], none⟩])
            (.block 2
             (.seq
              (.reg [⟨(some 45), .v (.bin .eql (.t 35) (.c (.int .i64 0))), none⟩, ⟨(some 44), .v (.mov (.t 45)), none⟩])
              (.cond (.t 44)
               (.dreg (.fl ⟨(some 46), .v (.mov (.t 1)), none⟩ (.fl ⟨(some 47), .v (.mov (.t 8)), none⟩ (.fl ⟨(some 48), .v (.sstr (.t 46) none (some (.t 47))), none⟩ (.fl ⟨(some 49), .v (.mov (.t 9)), none⟩ (.fl ⟨(some 50), .v (.bin .add (.t 48) (.t 49)), none⟩ (.fl ⟨(some 51), .v (.mov (.t 1)), none⟩ (.fl ⟨(some 52), .v (.mov (.t 8)), none⟩ (.fl ⟨(some 53), .v (.sstr (.t 51) (some (.t 52)) none), none⟩ (.fl ⟨(some 54), .v (.bin .add (.t 50) (.t 53)), none⟩ (.fl ⟨(some 1), .v (.mov (.t 54)), none⟩ .done)))))))))))
               (.seq
                (.reg [⟨(some 56), .v (.bin .eql (.t 35) (.c (.int .i64 1))), none⟩, ⟨(some 55), .v (.mov (.t 56)), none⟩])
                (.cond (.t 55)
                 (.dreg (.fl ⟨(some 57), .v (.mov (.t 1)), none⟩ (.fl ⟨(some 58), .v (.mov (.t 8)), none⟩ (.fl ⟨(some 59), .v (.sstr (.t 57) none (some (.t 58))), none⟩ (.fl ⟨(some 60), .v (.mov (.t 9)), none⟩ (.fl ⟨(some 61), .v (.bin .add (.t 59) (.t 60)), none⟩ (.fl ⟨(some 62), .v (.mov (.t 1)), none⟩ (.fl ⟨(some 63), .v (.mov (.t 8)), none⟩ (.fl ⟨(some 64), .v (.bin .add (.t 63) (.c (.int .i64 1))), none⟩ (.fl ⟨(some 65), .v (.sstr (.t 62) (some (.t 64)) none), none⟩ (.fl ⟨(some 66), .v (.bin .add (.t 61) (.t 65)), none⟩ (.fl ⟨(some 1), .v (.mov (.t 66)), none⟩ .done))))))))))))
                 (.dreg (.fl ⟨(some 36), .v (.mov (.t 1)), none⟩ (.fl ⟨(some 37), .v (.mov (.t 8)), none⟩ (.fl ⟨(some 38), .v (.sstr (.t 36) none (some (.t 37))), none⟩ (.fl ⟨(some 39), .v (.mov (.t 1)), none⟩ (.fl ⟨(some 40), .v (.mov (.t 8)), none⟩ (.fl ⟨(some 41), .v (.bin .add (.t 40) (.c (.int .i64 1))), none⟩ (.fl ⟨(some 42), .v (.sstr (.t 39) (some (.t 41)) none), none⟩ (.fl ⟨(some 43), .v (.bin .add (.t 38) (.t 42)), none⟩ (.fl ⟨(some 1), .v (.mov (.t 43)), none⟩ .done)))))))))))))))))))
        (.reg [⟨(some 20), .v (.mov (.t 7)), none⟩, ⟨(some 21), .v (.bin .sub (.t 20) (.c (.int .i64 1))), none⟩, ⟨(some 7), .v (.mov (.t 21)), none⟩]))))))
   (.seq
    (.reg [⟨(some 67), .v (.mov (.t 1)), none⟩, ⟨(some 6), .v (.mov (.t 67)), none⟩])
    .ret)))⟩
theorem e76 : rFunc Tryz.prog Tryz.f76 = some r76 := by kernel_rfl
def r127 : RFunc := ⟨22, [.cell true 2 4],
 (.seq
  (.reg [⟨(some 4), .m (.alloc [(.int .i64 0), .nils]), none⟩])
  (.seq
   (.reg [⟨(some 5), .v (.mov (.c .nils)), none⟩])
   (.seq
    (.seq
     (.reg [⟨(some 7), .v (.mov (.t 0)), none⟩, ⟨(some 8), .v (.mov (.t 1)), none⟩, ⟨(some 9), .v (.bin .add (.t 8) (.c (.int .i64 1))), none⟩, ⟨(some 10), .call 29 [(.t 7), (.t 9)], none⟩, ⟨(some 6), .v (.mov (.t 10)), none⟩])
     (.block 0
      (.loop
       (.seq
        (.seq
         (.reg [⟨(some 11), .v (.mov (.t 6)), none⟩, ⟨(some 12), .v (.bin .gtr (.t 11) (.c (.int .i64 0))), none⟩])
         (.cond (.t 12)
          .skip
          (.exit 0)))
        (.seq
         (.block 1
          (.reg [⟨(some 15), .v (.mov (.t 5)), none⟩, ⟨(some 16), .v (.mov (.t 0)), none⟩, ⟨(some 17), .call 30 [(.t 16), (.c (.int .i64 2))], none⟩, ⟨(some 18), .m (.bsl 1 1 [(.bool false)] [(0, 1, (.t 17))]), none⟩, ⟨(some 19), .m (.app false 1 1 (.t 15) (.t 18)), none⟩, ⟨(some 5), .v (.mov (.t 19)), none⟩]))
         (.reg [⟨(some 13), .v (.mov (.t 6)), none⟩, ⟨(some 14), .v (.bin .sub (.t 13) (.c (.int .i64 1))), none⟩, ⟨(some 6), .v (.mov (.t 14)), none⟩]))))))
    (.seq
     (.reg [⟨(some 20), .v (.mov (.t 5)), none⟩, ⟨(some 21), .call 75 [(.t 20)], none⟩, ⟨none, .m (.store 2 (.t 4) (.t 21)), none⟩])
     .ret))))⟩
theorem e127 : rFunc Tryz.prog Tryz.f127 = some r127 := by kernel_rfl
def r31 : RFunc := ⟨12, [.t 4],
 (.seq
  (.reg [⟨(some 4), .v (.mov (.c (.int .i64 0))), none⟩])
  (.seq
   (.reg [⟨(some 5), .v (.mov (.t 1)), none⟩, ⟨(some 6), .v (.mov (.t 0)), none⟩, ⟨(some 7), .v (.mov (.t 1)), none⟩, ⟨(some 8), .v (.len (.t 7)), none⟩, ⟨(some 9), .call 29 [(.t 6), (.t 8)], none⟩, ⟨(some 10), .v (.iaddr 1 (.t 5) (.t 9)), none⟩, ⟨(some 11), .v (.load false 1 (.t 10)), none⟩, ⟨(some 4), .v (.mov (.t 11)), none⟩])
   .ret))⟩
theorem e31 : rFunc Tryz.prog Tryz.f31 = some r31 := by kernel_rfl
def r77 : RFunc := ⟨56, [.cell true 2 2],
 (.seq
  (.reg [⟨(some 2), .m (.alloc [(.int .i64 0), .nils]), none⟩])
  (.seq
   (.reg [⟨(some 4), .v (.mov (.t 0)), none⟩, ⟨(some 5), .call 127 [(.t 4), (.c (.int .i64 40))], none⟩, ⟨(some 3), .m (.alloc [(.int .i64 0), .nils]), none⟩, ⟨none, .m (.store 2 (.t 3) (.t 5)), none⟩])
   (.seq
    (.seq
     (.reg [⟨(some 6), .v (.mov (.t 0)), none⟩, ⟨(some 7), .call 29 [(.t 6), (.c (.int .i64 16))], none⟩])
     (.block 0
      (.seq
       (.reg [⟨(some 9), .v (.bin .eql (.t 7) (.c (.int .i64 0))), none⟩, ⟨(some 8), .v (.mov (.t 9)), none⟩])
       (.cond (.t 8)
        (.dreg (.fl ⟨(some 10), .v (.faddr 1 (.t 3)), none⟩ (.fl ⟨(some 12), .v (.mov (.t 0)), none⟩ (.both (.nx ⟨(some 11), .v (.load false 1 (.t 10)), none⟩ (.nx ⟨(some 13), .call 29 [(.t 12), (.c (.int .i64 2))], none⟩ (.nx ⟨(some 14), .m (.bsl 1 1 [(.int .i64 0)] [(0, 1, (.t 13))]), none⟩ (.nx ⟨(some 15), .m (.app false 1 8 (.t 11) (.t 14)), none⟩ (.fl ⟨(some 16), .v (.faddr 1 (.t 3)), none⟩ (.nx ⟨none, .m (.store 1 (.t 16) (.t 15)), none⟩ .done)))))) (.nx ⟨(some 13), .call 29 [(.t 12), (.c (.int .i64 2))], none⟩ (.both (.nx ⟨(some 11), .v (.load false 1 (.t 10)), none⟩ (.nx ⟨(some 14), .m (.bsl 1 1 [(.int .i64 0)] [(0, 1, (.t 13))]), none⟩ (.nx ⟨(some 15), .m (.app false 1 8 (.t 11) (.t 14)), none⟩ (.fl ⟨(some 16), .v (.faddr 1 (.t 3)), none⟩ (.nx ⟨none, .m (.store 1 (.t 16) (.t 15)), none⟩ .done))))) (.nx ⟨(some 14), .m (.bsl 1 1 [(.int .i64 0)] [(0, 1, (.t 13))]), none⟩ (.nx ⟨(some 11), .v (.load false 1 (.t 10)), none⟩ (.nx ⟨(some 15), .m (.app false 1 8 (.t 11) (.t 14)), none⟩ (.fl ⟨(some 16), .v (.faddr 1 (.t 3)), none⟩ (.nx ⟨none, .m (.store 1 (.t 16) (.t 15)), none⟩ .done)))))))))))
        (.seq
         (.reg [⟨(some 18), .v (.bin .eql (.t 7) (.c (.int .i64 1))), none⟩, ⟨(some 17), .v (.mov (.t 18)), none⟩])
         (.cond (.t 17)
          (.dreg (.fl ⟨(some 19), .v (.faddr 0 (.t 3)), none⟩ (.fl ⟨(some 21), .v (.mov (.t 0)), none⟩ (.both (.nx ⟨(some 20), .v (.load false 1 (.t 19)), none⟩ (.nx ⟨(some 22), .call 29 [(.t 21), (.c (.int .i64 3))], none⟩ (.fl ⟨(some 23), .v (.bin .sub (.t 22) (.c (.int .i64 1))), none⟩ (.fl ⟨(some 24), .v (.bin .add (.t 20) (.t 23)), none⟩ (.fl ⟨(some 25), .v (.faddr 0 (.t 3)), none⟩ (.nx ⟨none, .m (.store 1 (.t 25) (.t 24)), none⟩ .done)))))) (.nx ⟨(some 22), .call 29 [(.t 21), (.c (.int .i64 3))], none⟩ (.fl ⟨(some 23), .v (.bin .sub (.t 22) (.c (.int .i64 1))), none⟩ (.nx ⟨(some 20), .v (.load false 1 (.t 19)), none⟩ (.fl ⟨(some 24), .v (.bin .add (.t 20) (.t 23)), none⟩ (.fl ⟨(some 25), .v (.faddr 0 (.t 3)), none⟩ (.nx ⟨none, .m (.store 1 (.t 25) (.t 24)), none⟩ .done))))))))))
          (.seq
           (.reg [⟨(some 27), .v (.bin .eql (.t 7) (.c (.int .i64 2))), none⟩, ⟨(some 26), .v (.mov (.t 27)), none⟩])
           (.cond (.t 26)
            (.seq
             (.reg [⟨(some 28), .v (.faddr 1 (.t 3)), none⟩, ⟨(some 29), .v (.load false 1 (.t 28)), none⟩, ⟨(some 30), .v (.len (.t 29)), none⟩, ⟨(some 31), .v (.bin .gtr (.t 30) (.c (.int .i64 0))), none⟩])
             (.cond (.t 31)
              (.dreg (.fl ⟨(some 32), .v (.faddr 1 (.t 3)), none⟩ (.fl ⟨(some 34), .v (.mov (.t 0)), none⟩ (.fl ⟨(some 35), .v (.faddr 1 (.t 3)), none⟩ (.fl ⟨(some 39), .v (.mov (.t 0)), none⟩ (.both (.nx ⟨(some 33), .v (.load false 1 (.t 32)), none⟩ (.both (.nx ⟨(some 36), .v (.load false 1 (.t 35)), none⟩ (.fl ⟨(some 37), .v (.len (.t 36)), none⟩ (.both (.nx ⟨(some 38), .call 29 [(.t 34), (.t 37)], none⟩ (.nx ⟨(some 40), .m (.bsl 1 4 [(.int .i64 0)] [(0, 1, (.c (.int .i64 (-1)))), (1, 1, (.c (.int .i64 65535))), (2, 1, (.c (.int .i64 65536))), (3, 1, (.c (.int .i64 40000)))]), none⟩ (.nx ⟨(some 41), .call 31 [(.t 39), (.t 40)], none⟩ (.fl ⟨(some 42), .v (.iaddr 1 (.t 33) (.t 38)), none⟩ (.nx ⟨none, .m (.store 1 (.t 42) (.t 41)), none⟩ .done))))) (.nx ⟨(some 40), .m (.bsl 1 4 [(.int .i64 0)] [(0, 1, (.c (.int .i64 (-1)))), (1, 1, (.c (.int .i64 65535))), (2, 1, (.c (.int .i64 65536))), (3, 1, (.c (.int .i64 40000)))]), none⟩ (.nx ⟨(some 38), .call 29 [(.t 34), (.t 37)], none⟩ (.nx ⟨(some 41), .call 31 [(.t 39), (.t 40)], none⟩ (.fl ⟨(some 42), .v (.iaddr 1 (.t 33) (.t 38)), none⟩ (.nx ⟨none, .m (.store 1 (.t 42) (.t 41)), none⟩ .done)))))))) (.nx ⟨(some 40), .m (.bsl 1 4 [(.int .i64 0)] [(0, 1, (.c (.int .i64 (-1)))), (1, 1, (.c (.int .i64 65535))), (2, 1, (.c (.int .i64 65536))), (3, 1, (.c (.int .i64 40000)))]), none⟩ (.nx ⟨(some 36), .v (.load false 1 (.t 35)), none⟩ (.fl ⟨(some 37), .v (.len (.t 36)), none⟩ (.nx ⟨(some 38), .call 29 [(.t 34), (.t 37)], none⟩ (.nx ⟨(some 41), .call 31 [(.t 39), (.t 40)], none⟩ (.fl ⟨(some 42), .v (.iaddr 1 (.t 33) (.t 38)), none⟩ (.nx ⟨none, .m (.store 1 (.t 42) (.t 41)), none⟩ .done))))))))) (.both (.nx ⟨(some 36), .v (.load false 1 (.t 35)), none⟩ (.fl ⟨(some 37), .v (.len (.t 36)), none⟩ (.both (.nx ⟨(some 33), .v (.load false 1 (.t 32)), none⟩ (.both (.nx ⟨(some 38), .call 29 [(.t 34), (.t 37)], none⟩ (.nx ⟨(some 40), .m (.bsl 1 4 [(.int .i64 0)] [(0, 1, (.c (.int .i64 (-1)))), (1, 1, (.c (.int .i64 65535))), (2, 1, (.c (.int .i64 65536))), (3, 1, (.c (.int .i64 40000)))]), none⟩ (.nx ⟨(some 41), .call 31 [(.t 39), (.t 40)], none⟩ (.fl ⟨(some 42), .v (.iaddr 1 (.t 33) (.t 38)), none⟩ (.nx ⟨none, .m (.store 1 (.t 42) (.t 41)), none⟩ .done))))) (.nx ⟨(some 40), .m (.bsl 1 4 [(.int .i64 0)] [(0, 1, (.c (.int .i64 (-1)))), (1, 1, (.c (.int .i64 65535))), (2, 1, (.c (.int .i64 65536))), (3, 1, (.c (.int .i64 40000)))]), none⟩ (.nx ⟨(some 38), .call 29 [(.t 34), (.t 37)], none⟩ (.nx ⟨(some 41), .call 31 [(.t 39), (.t 40)], none⟩ (.fl ⟨(some 42), .v (.iaddr 1 (.t 33) (.t 38)), none⟩ (.nx ⟨none, .m (.store 1 (.t 42) (.t 41)), none⟩ .done))))))) (.both (.nx ⟨(some 38), .call 29 [(.t 34), (.t 37)], none⟩ (.both (.nx ⟨(some 33), .v (.load false 1 (.t 32)), none⟩ (.nx ⟨(some 40), .m (.bsl 1 4 [(.int .i64 0)] [(0, 1, (.c (.int .i64 (-1)))), (1, 1, (.c (.int .i64 65535))), (2, 1, (.c (.int .i64 65536))), (3, 1, (.c (.int .i64 40000)))]), none⟩ (.nx ⟨(some 41), .call 31 [(.t 39), (.t 40)], none⟩ (.fl ⟨(some 42), .v (.iaddr 1 (.t 33) (.t 38)), none⟩ (.nx ⟨none, .m (.store 1 (.t 42) (.t 41)), none⟩ .done))))) (.nx ⟨(some 40), .m (.bsl 1 4 [(.int .i64 0)] [(0, 1, (.c (.int .i64 (-1)))), (1, 1, (.c (.int .i64 65535))), (2, 1, (.c (.int .i64 65536))), (3, 1, (.c (.int .i64 40000)))]), none⟩ (.both (.nx ⟨(some 33), .v (.load false 1 (.t 32)), none⟩ (.nx ⟨(some 41), .call 31 [(.t 39), (.t 40)], none⟩ (.fl ⟨(some 42), .v (.iaddr 1 (.t 33) (.t 38)), none⟩ (.nx ⟨none, .m (.store 1 (.t 42) (.t 41)), none⟩ .done)))) (.nx ⟨(some 41), .call 31 [(.t 39), (.t 40)], none⟩ (.nx ⟨(some 33), .v (.load false 1 (.t 32)), none⟩ (.fl ⟨(some 42), .v (.iaddr 1 (.t 33) (.t 38)), none⟩ (.nx ⟨none, .m (.store 1 (.t 42) (.t 41)), none⟩ .done)))))))) (.nx ⟨(some 40), .m (.bsl 1 4 [(.int .i64 0)] [(0, 1, (.c (.int .i64 (-1)))), (1, 1, (.c (.int .i64 65535))), (2, 1, (.c (.int .i64 65536))), (3, 1, (.c (.int .i64 40000)))]), none⟩ (.both (.nx ⟨(some 33), .v (.load false 1 (.t 32)), none⟩ (.nx ⟨(some 38), .call 29 [(.t 34), (.t 37)], none⟩ (.nx ⟨(some 41), .call 31 [(.t 39), (.t 40)], none⟩ (.fl ⟨(some 42), .v (.iaddr 1 (.t 33) (.t 38)), none⟩ (.nx ⟨none, .m (.store 1 (.t 42) (.t 41)), none⟩ .done))))) (.nx ⟨(some 38), .call 29 [(.t 34), (.t 37)], none⟩ (.both (.nx ⟨(some 33), .v (.load false 1 (.t 32)), none⟩ (.nx ⟨(some 41), .call 31 [(.t 39), (.t 40)], none⟩ (.fl ⟨(some 42), .v (.iaddr 1 (.t 33) (.t 38)), none⟩ (.nx ⟨none, .m (.store 1 (.t 42) (.t 41)), none⟩ .done)))) (.nx ⟨(some 41), .call 31 [(.t 39), (.t 40)], none⟩ (.nx ⟨(some 33), .v (.load false 1 (.t 32)), none⟩ (.fl ⟨(some 42), .v (.iaddr 1 (.t 33) (.t 38)), none⟩ (.nx ⟨none, .m (.store 1 (.t 42) (.t 41)), none⟩ .done)))))))))))) (.nx ⟨(some 40), .m (.bsl 1 4 [(.int .i64 0)] [(0, 1, (.c (.int .i64 (-1)))), (1, 1, (.c (.int .i64 65535))), (2, 1, (.c (.int .i64 65536))), (3, 1, (.c (.int .i64 40000)))]), none⟩ (.both (.nx ⟨(some 33), .v (.load false 1 (.t 32)), none⟩ (.nx ⟨(some 36), .v (.load false 1 (.t 35)), none⟩ (.fl ⟨(some 37), .v (.len (.t 36)), none⟩ (.nx ⟨(some 38), .call 29 [(.t 34), (.t 37)], none⟩ (.nx ⟨(some 41), .call 31 [(.t 39), (.t 40)], none⟩ (.fl ⟨(some 42), .v (.iaddr 1 (.t 33) (.t 38)), none⟩ (.nx ⟨none, .m (.store 1 (.t 42) (.t 41)), none⟩ .done))))))) (.nx ⟨(some 36), .v (.load false 1 (.t 35)), none⟩ (.fl ⟨(some 37), .v (.len (.t 36)), none⟩ (.both (.nx ⟨(some 33), .v (.load false 1 (.t 32)), none⟩ (.nx ⟨(some 38), .call 29 [(.t 34), (.t 37)], none⟩ (.nx ⟨(some 41), .call 31 [(.t 39), (.t 40)], none⟩ (.fl ⟨(some 42), .v (.iaddr 1 (.t 33) (.t 38)), none⟩ (.nx ⟨none, .m (.store 1 (.t 42) (.t 41)), none⟩ .done))))) (.nx ⟨(some 38), .call 29 [(.t 34), (.t 37)], none⟩ (.both (.nx ⟨(some 33), .v (.load false 1 (.t 32)), none⟩ (.nx ⟨(some 41), .call 31 [(.t 39), (.t 40)], none⟩ (.fl ⟨(some 42), .v (.iaddr 1 (.t 33) (.t 38)), none⟩ (.nx ⟨none, .m (.store 1 (.t 42) (.t 41)), none⟩ .done)))) (.nx ⟨(some 41), .call 31 [(.t 39), (.t 40)], none⟩ (.nx ⟨(some 33), .v (.load false 1 (.t 32)), none⟩ (.fl ⟨(some 42), .v (.iaddr 1 (.t 33) (.t 38)), none⟩ (.nx ⟨none, .m (.store 1 (.t 42) (.t 41)), none⟩ .done))))))))))))))))))
              .skip))
            (.seq
             (.reg [⟨(some 44), .v (.bin .eql (.t 7) (.c (.int .i64 3))), none⟩, ⟨(some 43), .v (.mov (.t 44)), none⟩])
             (.cond (.t 43)
              (.reg [⟨(some 45), .v (.mov (.t 0)), none⟩, ⟨(some 46), .call 29 [(.t 45), (.c (.int .i64 2))], none⟩, ⟨(some 47), .v (.bin .sub (.c (.int .i64 4096)) (.t 46)), none⟩, ⟨(some 48), .call 125 [(.t 47)], none⟩, ⟨none, .m (.store 2 (.t 3) (.t 48)), none⟩])
              (.seq
               (.reg [⟨(some 50), .v (.bin .eql (.t 7) (.c (.int .i64 4))), none⟩, ⟨(some 49), .v (.mov (.t 50)), none⟩])
               (.cond (.t 49)
                (.reg [⟨(some 51), .v (.mov (.t 0)), none⟩, ⟨(some 52), .call 29 [(.t 51), (.c (.int .i64 5))], none⟩, ⟨(some 53), .v (.bin .mul (.c (.int .i64 16)) (.t 52)), none⟩, ⟨(some 54), .call 125 [(.t 53)], none⟩, ⟨none, .m (.store 2 (.t 3) (.t 54)), none⟩])
                .skip))))))))))))
    (.seq
     (.reg [⟨(some 55), .v (.load true 2 (.t 3)), none⟩, ⟨none, .m (.store 2 (.t 2) (.t 55)), none⟩])
     .ret))))⟩
theorem e77 : rFunc Tryz.prog Tryz.f77 = some r77 := by kernel_rfl
def r33 : RFunc := ⟨72, [.cell true 5 2],
 (.seq
  (.reg [⟨(some 2), .m (.alloc [(.int .i64 0), .nils, (.int .i64 0), .nils, (.str [])]), none⟩])
  (.seq
   (.reg [⟨(some 9), .v (.mov (.t 0)), none⟩, ⟨(some 10), .call 71 [(.t 9), (.c (.int .i64 8))], none⟩, ⟨(some 3), .v (.mov (.t 10)), none⟩])
   (.seq
    (.seq
     (.reg [⟨(some 11), .v (.mov (.t 0)), none⟩, ⟨(some 12), .call 30 [(.t 11), (.c (.int .i64 20))], none⟩])
     (.cond (.t 12)
      (.reg [⟨(some 13), .v (.mov (.t 0)), none⟩, ⟨(some 14), .call 73 [(.t 13), (.c (.int .i64 40))], none⟩, ⟨(some 3), .v (.mov (.t 14)), none⟩])
      .skip))
    (.seq
     (.reg [⟨(some 15), .v (.mov (.t 3)), none⟩, ⟨(some 16), .call 41 [(.t 15)], none⟩, ⟨(some 4), .m (.alloc [(.int .i64 0), .nils, (.int .i64 0), .nils, (.str [])]), none⟩, ⟨none, .m (.store 5 (.t 4) (.t 16)), none⟩])
     (.seq
      (.seq
       (.reg [⟨(some 17), .v (.mov (.t 0)), none⟩, ⟨(some 18), .call 29 [(.t 17), (.c (.int .i64 14))], none⟩])
       (.block 0
        (.seq
         (.reg [⟨(some 20), .v (.bin .eql (.t 18) (.c (.int .i64 0))), none⟩, ⟨(some 19), .v (.mov (.t 20)), none⟩])
         (.cond (.t 19)
          (.seq
           (.reg [⟨(some 21), .v (.faddr 0 (.t 4)), none⟩, ⟨(some 22), .v (.load true 2 (.t 21)), none⟩, ⟨(some 23), .call 74 [(.t 22)], none⟩, ⟨(some 5), .v (.mov (.t 23)), none⟩])
           (.seq
            (.reg [⟨(some 24), .v (.mov (.t 0)), none⟩, ⟨(some 25), .v (.mov (.t 5)), none⟩, ⟨(some 26), .v (.len (.t 25)), none⟩, ⟨(some 27), .call 29 [(.t 24), (.t 26)], none⟩, ⟨(some 6), .v (.mov (.t 27)), none⟩])
            (.seq
             (.reg [⟨(some 28), .v (.mov (.t 5)), none⟩, ⟨(some 29), .v (.mov (.t 6)), none⟩, ⟨(some 30), .v (.mov (.t 5)), none⟩, ⟨(some 31), .v (.mov (.t 6)), none⟩, ⟨(some 32), .v (.iaddr 1 (.t 30) (.t 31)), none⟩, ⟨(some 33), .v (.load false 1 (.t 32)), none⟩, ⟨(some 34), .v (.un .not (.t 33)), none⟩, ⟨(some 35), .v (.iaddr 1 (.t 28) (.t 29)), none⟩, ⟨none, .m (.store 1 (.t 35) (.t 34)), none⟩])
             (.reg [⟨(some 36), .v (.mov (.t 5)), none⟩, ⟨(some 37), .call 75 [(.t 36)], none⟩, ⟨(some 38), .v (.faddr 0 (.t 4)), none⟩, ⟨none, .m (.store 2 (.t 38) (.t 37)), none⟩]))))
          (.seq
           (.reg [⟨(some 40), .v (.bin .eql (.t 18) (.c (.int .i64 1))), none⟩, ⟨(some 39), .v (.mov (.t 40)), none⟩])
           (.cond (.t 39)
            (.seq
             (.reg [⟨(some 41), .v (.faddr 2 (.t 4)), none⟩, ⟨(some 42), .v (.load true 2 (.t 41)), none⟩, ⟨(some 43), .call 74 [(.t 42)], none⟩, ⟨(some 7), .v (.mov (.t 43)), none⟩])
             (.seq
              (.reg [⟨(some 44), .v (.mov (.t 0)), none⟩, ⟨(some 45), .v (.mov (.t 7)), none⟩, ⟨(some 46), .v (.len (.t 45)), none⟩, ⟨(some 47), .call 29 [(.t 44), (.t 46)], none⟩, ⟨(some 8), .v (.mov (.t 47)), none⟩])
              (.seq
               (.reg [⟨(some 48), .v (.mov (.t 7)), none⟩, ⟨(some 49), .v (.mov (.t 8)), none⟩, ⟨(some 50), .v (.mov (.t 7)), none⟩, ⟨(some 51), .v (.mov (.t 8)), none⟩, ⟨(some 52), .v (.iaddr 1 (.t 50) (.t 51)), none⟩, ⟨(some 53), .v (.load false 1 (.t 52)), none⟩, ⟨(some 54), .v (.un .not (.t 53)), none⟩, ⟨(some 55), .v (.iaddr 1 (.t 48) (.t 49)), none⟩, ⟨none, .m (.store 1 (.t 55) (.t 54)), none⟩])
               (.reg [⟨(some 56), .v (.mov (.t 7)), none⟩, ⟨(some 57), .call 75 [(.t 56)], none⟩, ⟨(some 58), .v (.faddr 2 (.t 4)), none⟩, ⟨none, .m (.store 2 (.t 58) (.t 57)), none⟩]))))
            (.seq
             (.reg [⟨(some 60), .v (.bin .eql (.t 18) (.c (.int .i64 2))), none⟩, ⟨(some 59), .v (.mov (.t 60)), none⟩])
             (.cond (.t 59)
              (.reg [⟨(some 61), .v (.mov (.t 0)), none⟩, ⟨(some 62), .v (.faddr 4 (.t 4)), none⟩, ⟨(some 63), .v (.load false 1 (.t 62)), none⟩, ⟨(some 64), .call 76 [(.t 61), (.t 63), (.c (.str [97, 98, 122, 125, 32]))], none⟩, ⟨(some 65), .v (.faddr 4 (.t 4)), none⟩, ⟨none, .m (.store 1 (.t 65) (.t 64)), none⟩])
              (.seq
               (.reg [⟨(some 67), .v (.bin .eql (.t 18) (.c (.int .i64 3))), none⟩, ⟨(some 66), .v (.mov (.t 67)), none⟩])
               (.cond (.t 66)
                (.reg [⟨(some 68), .v (.mov (.t 0)), none⟩, ⟨(some 69), .call 77 [(.t 68)], none⟩, ⟨(some 70), .v (.faddr 2 (.t 4)), none⟩, ⟨none, .m (.store 2 (.t 70) (.t 69)), none⟩])
                .skip))))))))))
      (.seq
       (.reg [⟨(some 71), .v (.load true 5 (.t 4)), none⟩, ⟨none, .m (.store 5 (.t 2) (.t 71)), none⟩])
       .ret))))))⟩
theorem e33 : rFunc Tryz.prog Tryz.f33 = some r33 := by kernel_rfl
def r35 : RFunc := ⟨15, [.t 4],
 (.seq
  (.reg [⟨(some 3), .m (.box (.t 1)), none⟩, ⟨(some 4), .v (.mov (.c .nils)), none⟩])
  (.seq
   (.reg [⟨(some 8), .v (.load true 5 (.t 3)), none⟩, ⟨(some 9), .call 80 [(.t 8)], none⟩, ⟨(some 7), .v (.mov (.t 9)), none⟩, ⟨(some 10), .v (.ext (.t 7) 0), none⟩, ⟨(some 11), .v (.ext (.t 7) 1), none⟩, ⟨(some 5), .v (.mov (.t 10)), none⟩, ⟨(some 6), .v (.mov (.t 11)), none⟩])
   (.seq
    (.seq
     (.reg [⟨(some 12), .v (.mov (.t 6)), none⟩, ⟨(some 13), .v (.un .not (.t 12)), none⟩])
     (.cond (.t 13)
      (.seq
       (.reg [⟨(some 4), .v (.mov (.c .nils)), none⟩])
       .ret)
      .skip))
    (.seq
     (.reg [⟨(some 14), .v (.mov (.t 5)), none⟩, ⟨(some 4), .v (.mov (.t 14)), none⟩])
     .ret))))⟩
theorem e35 : rFunc Tryz.prog Tryz.f35 = some r35 := by kernel_rfl
def r123 : RFunc := ⟨12, [.t 4],
 (.seq
  (.reg [⟨(some 4), .v (.mov (.c (.str []))), none⟩])
  (.seq
   (.reg [⟨(some 5), .v (.mov (.t 1)), none⟩, ⟨(some 6), .v (.mov (.t 0)), none⟩, ⟨(some 7), .v (.mov (.t 1)), none⟩, ⟨(some 8), .v (.len (.t 7)), none⟩, ⟨(some 9), .call 29 [(.t 6), (.t 8)], none⟩, ⟨(some 10), .v (.iaddr 1 (.t 5) (.t 9)), none⟩, ⟨(some 11), .v (.load false 1 (.t 10)), none⟩, ⟨(some 4), .v (.mov (.t 11)), none⟩])
   .ret))⟩
theorem e123 : rFunc Tryz.prog Tryz.f123 = some r123 := by kernel_rfl
def r72 : RFunc := ⟨21, [.t 2],
 (.seq
  (.reg [⟨(some 2), .v (.mov (.c (.str []))), none⟩])
  (.seq
   (.seq
    (.reg [⟨(some 3), .v (.mov (.t 0)), none⟩, ⟨(some 4), .call 29 [(.t 3), (.c (.int .i64 16))], none⟩])
    (.block 0
     (.seq
      (.reg [⟨(some 6), .v (.bin .eql (.t 4) (.c (.int .i64 0))), none⟩, ⟨(some 5), .v (.mov (.t 6)), none⟩])
      (.cond (.t 5)
       (.seq
        (.reg [⟨(some 2), .v (.mov (.c (.str []))), none⟩])
        .ret)
       (.seq
        (.reg [⟨(some 8), .v (.bin .eql (.t 4) (.c (.int .i64 1))), none⟩, ⟨(some 7), .v (.mov (.t 8)), none⟩])
        (.cond (.t 7)
         (.seq
          (.reg [⟨(some 9), .v (.mov (.t 0)), none⟩, ⟨(some 10), .call 79 [(.t 9)], none⟩, ⟨(some 11), .v (.bin .add (.t 10) (.c (.str [32]))), none⟩, ⟨(some 2), .v (.mov (.t 11)), none⟩])
          .ret)
         (.seq
          (.reg [⟨(some 13), .v (.bin .eql (.t 4) (.c (.int .i64 2))), none⟩, ⟨(some 12), .v (.mov (.t 13)), none⟩])
          (.cond (.t 12)
           (.seq
            (.reg [⟨(some 2), .v (.mov (.c (.str [97, 97, 97, 97, 97, 97, 97, 97, 97, 97, 97, 97, 97]))), none⟩])
            .ret)
           (.seq
            (.reg [⟨(some 15), .v (.bin .eql (.t 4) (.c (.int .i64 3))), none⟩, ⟨(some 14), .v (.mov (.t 15)), none⟩])
            (.cond (.t 14)
             (.seq
              (.reg [⟨(some 16), .v (.mov (.t 0)), none⟩, ⟨(some 17), .m (.bsl 1 4 [(.str [])] [(0, 1, (.c (.str [126]))), (1, 1, (.c (.str [125]))), (2, 1, (.c (.str [97, 126]))), (3, 1, (.c (.str [127])))]), none⟩, ⟨(some 18), .call 123 [(.t 16), (.t 17)], none⟩, ⟨(some 2), .v (.mov (.t 18)), none⟩])
              .ret)
             .skip))))))))))
   (.seq
    (.reg [⟨(some 19), .v (.mov (.t 0)), none⟩, ⟨(some 20), .call 79 [(.t 19)], none⟩, ⟨(some 2), .v (.mov (.t 20)), none⟩])
    .ret)))⟩
theorem e72 : rFunc Tryz.prog Tryz.f72 = some r72 := by kernel_rfl
def r78 : RFunc := ⟨17, [.t 4],
 (.seq
  (.reg [⟨(some 4), .v (.mov (.c (.str []))), none⟩])
  (.seq
   (.seq
    (.reg [⟨(some 5), .v (.mov (.t 1)), none⟩, ⟨(some 6), .v (.len (.t 5)), none⟩, ⟨(some 7), .v (.bin .gtr (.t 6) (.c (.int .i64 0))), none⟩, ⟨(some 8), .v (.mov (.t 7)), none⟩, ⟨(some 9), .v (.mov (.t 0)), (some (8, true))⟩, ⟨(some 10), .call 30 [(.t 9), (.c (.int .i64 2))], (some (8, true))⟩, ⟨(some 11), .v (.pick (.t 8) (.t 10) (.c (.bool false))), none⟩])
    (.cond (.t 11)
     (.seq
      (.reg [⟨(some 12), .v (.mov (.t 0)), none⟩, ⟨(some 13), .v (.mov (.t 1)), none⟩, ⟨(some 14), .call 123 [(.t 12), (.t 13)], none⟩, ⟨(some 4), .v (.mov (.t 14)), none⟩])
      .ret)
     .skip))
   (.seq
    (.reg [⟨(some 15), .v (.mov (.t 0)), none⟩, ⟨(some 16), .call 72 [(.t 15)], none⟩, ⟨(some 4), .v (.mov (.t 16)), none⟩])
    .ret)))⟩
theorem e78 : rFunc Tryz.prog Tryz.f78 = some r78 := by kernel_rfl
def r34 : RFunc := ⟨27, [.t 4],
 (.seq
  (.reg [⟨(some 4), .v (.mov (.c (.str []))), none⟩])
  (.seq
   (.reg [⟨(some 6), .v (.mov (.t 0)), none⟩, ⟨(some 7), .v (.mov (.t 1)), none⟩, ⟨(some 8), .call 78 [(.t 6), (.t 7)], none⟩, ⟨(some 5), .v (.mov (.t 8)), none⟩])
   (.seq
    (.seq
     (.reg [⟨(some 9), .v (.mov (.t 0)), none⟩, ⟨(some 10), .call 29 [(.t 9), (.c (.int .i64 4))], none⟩])
     (.block 0
      (.seq
       (.reg [⟨(some 12), .v (.bin .eql (.t 10) (.c (.int .i64 0))), none⟩, ⟨(some 11), .v (.mov (.t 12)), none⟩])
       (.cond (.t 11)
        (.seq
         (.reg [⟨(some 13), .v (.mov (.t 5)), none⟩, ⟨(some 14), .v (.mov (.t 0)), none⟩, ⟨(some 15), .v (.mov (.t 5)), none⟩, ⟨(some 16), .v (.lens (.t 15)), none⟩, ⟨(some 17), .v (.bin .add (.t 16) (.c (.int .i64 1))), none⟩, ⟨(some 18), .call 29 [(.t 14), (.t 17)], none⟩, ⟨(some 19), .v (.sstr (.t 13) none (some (.t 18))), none⟩, ⟨(some 4), .v (.mov (.t 19)), none⟩])
         .ret)
        (.seq
         (.reg [⟨(some 21), .v (.bin .eql (.t 10) (.c (.int .i64 1))), none⟩, ⟨(some 20), .v (.mov (.t 21)), none⟩])
         (.cond (.t 20)
          (.seq
           (.reg [⟨(some 22), .v (.mov (.t 5)), none⟩, ⟨(some 23), .v (.mov (.t 0)), none⟩, ⟨(some 24), .call 79 [(.t 23)], none⟩, ⟨(some 25), .v (.bin .add (.t 22) (.t 24)), none⟩, ⟨(some 4), .v (.mov (.t 25)), none⟩])
           .ret)
          .skip))))))
    (.seq
     (.reg [⟨(some 26), .v (.mov (.t 5)), none⟩, ⟨(some 4), .v (.mov (.t 26)), none⟩])
     .ret))))⟩
theorem e34 : rFunc Tryz.prog Tryz.f34 = some r34 := by kernel_rfl
def r7 : RFunc := ⟨17, [.cell true 5 2, .t 3],
 (.seq
  (.reg [⟨(some 2), .m (.alloc [(.int .i64 0), .nils, (.int .i64 0), .nils, (.str [])]), none⟩, ⟨(some 3), .v (.mov (.c (.str []))), none⟩])
  (.seq
   (.reg [⟨(some 6), .v (.mov (.t 0)), none⟩, ⟨(some 7), .v (.bld [.nils, (.int .i64 0), (.int .u64 0)] [(0, 1, (.t 6))]), none⟩, ⟨(some 8), .m (.box (.t 7)), none⟩, ⟨(some 4), .v (.mov (.t 8)), none⟩])
   (.seq
    (.reg [⟨(some 9), .v (.mov (.t 4)), none⟩, ⟨(some 10), .call 33 [(.t 9)], none⟩, ⟨(some 5), .m (.alloc [(.int .i64 0), .nils, (.int .i64 0), .nils, (.str [])]), none⟩, ⟨none, .m (.store 5 (.t 5) (.t 10)), none⟩])
    (.seq
     (.dreg (.fl ⟨(some 12), .v (.mov (.t 4)), none⟩ (.fl ⟨(some 13), .v (.mov (.t 4)), none⟩ (.both (.nx ⟨(some 11), .v (.load true 5 (.t 5)), none⟩ (.nx ⟨(some 14), .v (.load true 5 (.t 5)), none⟩ (.nx ⟨(some 15), .call 35 [(.t 13), (.t 14)], none⟩ (.nx ⟨(some 16), .call 34 [(.t 12), (.t 15)], none⟩ (.nx ⟨none, .m (.store 5 (.t 2) (.t 11)), none⟩ (.fl ⟨(some 3), .v (.mov (.t 16)), none⟩ .done)))))) (.nx ⟨(some 14), .v (.load true 5 (.t 5)), none⟩ (.both (.nx ⟨(some 11), .v (.load true 5 (.t 5)), none⟩ (.nx ⟨(some 15), .call 35 [(.t 13), (.t 14)], none⟩ (.nx ⟨(some 16), .call 34 [(.t 12), (.t 15)], none⟩ (.nx ⟨none, .m (.store 5 (.t 2) (.t 11)), none⟩ (.fl ⟨(some 3), .v (.mov (.t 16)), none⟩ .done))))) (.nx ⟨(some 15), .call 35 [(.t 13), (.t 14)], none⟩ (.both (.nx ⟨(some 11), .v (.load true 5 (.t 5)), none⟩ (.nx ⟨(some 16), .call 34 [(.t 12), (.t 15)], none⟩ (.nx ⟨none, .m (.store 5 (.t 2) (.t 11)), none⟩ (.fl ⟨(some 3), .v (.mov (.t 16)), none⟩ .done)))) (.nx ⟨(some 16), .call 34 [(.t 12), (.t 15)], none⟩ (.nx ⟨(some 11), .v (.load true 5 (.t 5)), none⟩ (.nx ⟨none, .m (.store 5 (.t 2) (.t 11)), none⟩ (.fl ⟨(some 3), .v (.mov (.t 16)), none⟩ .done))))))))))))
     .ret))))⟩
theorem e7 : rFunc Tryz.prog Tryz.f7 = some r7 := by kernel_rfl
def r32 : RFunc := ⟨41, [.t 4],
 (.seq
  (.reg [⟨(some 4), .v (.mov (.c .nils)), none⟩])
  (.seq
   (.reg [⟨(some 6), .v (.mov (.t 0)), none⟩, ⟨(some 7), .v (.mov (.t 1)), none⟩, ⟨(some 8), .call 71 [(.t 6), (.t 7)], none⟩, ⟨(some 5), .v (.mov (.t 8)), none⟩])
   (.seq
    (.seq
     (.reg [⟨(some 9), .v (.mov (.t 0)), none⟩, ⟨(some 10), .call 29 [(.t 9), (.c (.int .i64 14))], none⟩])
     (.block 0
      (.seq
       (.reg [⟨(some 12), .v (.bin .eql (.t 10) (.c (.int .i64 0))), none⟩, ⟨(some 11), .v (.mov (.t 12)), none⟩])
       (.cond (.t 11)
        (.reg [⟨(some 13), .v (.mov (.t 5)), none⟩, ⟨(some 14), .v (.mov (.t 0)), none⟩, ⟨(some 15), .call 72 [(.t 14)], none⟩, ⟨(some 16), .m (.bsl 1 1 [(.str [])] [(0, 1, (.t 15))]), none⟩, ⟨(some 17), .m (.app false 1 16 (.t 13) (.t 16)), none⟩, ⟨(some 5), .v (.mov (.t 17)), none⟩])
        (.seq
         (.reg [⟨(some 19), .v (.bin .eql (.t 10) (.c (.int .i64 1))), none⟩, ⟨(some 18), .v (.mov (.t 19)), none⟩])
         (.cond (.t 18)
          (.seq
           (.reg [⟨(some 20), .v (.mov (.t 5)), none⟩, ⟨(some 21), .v (.len (.t 20)), none⟩, ⟨(some 22), .v (.bin .gtr (.t 21) (.c (.int .i64 0))), none⟩])
           (.cond (.t 22)
            (.reg [⟨(some 23), .v (.mov (.t 5)), none⟩, ⟨(some 24), .v (.mov (.t 5)), none⟩, ⟨(some 25), .v (.mov (.t 0)), none⟩, ⟨(some 26), .v (.mov (.t 5)), none⟩, ⟨(some 27), .v (.len (.t 26)), none⟩, ⟨(some 28), .call 29 [(.t 25), (.t 27)], none⟩, ⟨(some 29), .v (.iaddr 1 (.t 24) (.t 28)), none⟩, ⟨(some 30), .v (.load false 1 (.t 29)), none⟩, ⟨(some 31), .m (.bsl 1 1 [(.str [])] [(0, 1, (.t 30))]), none⟩, ⟨(some 32), .m (.app false 1 16 (.t 23) (.t 31)), none⟩, ⟨(some 5), .v (.mov (.t 32)), none⟩])
            .skip))
          (.seq
           (.reg [⟨(some 34), .v (.bin .eql (.t 10) (.c (.int .i64 2))), none⟩, ⟨(some 33), .v (.mov (.t 34)), none⟩])
           (.cond (.t 33)
            (.reg [⟨(some 35), .v (.mov (.t 0)), none⟩, ⟨(some 36), .v (.mov (.t 0)), none⟩, ⟨(some 37), .call 29 [(.t 36), (.c (.int .i64 2))], none⟩, ⟨(some 38), .v (.bin .add (.c (.int .i64 40)) (.t 37)), none⟩, ⟨(some 39), .call 73 [(.t 35), (.t 38)], none⟩, ⟨(some 5), .v (.mov (.t 39)), none⟩])
            .skip))))))))
    (.seq
     (.reg [⟨(some 40), .v (.mov (.t 5)), none⟩, ⟨(some 4), .v (.mov (.t 40)), none⟩])
     .ret))))⟩
theorem e32 : rFunc Tryz.prog Tryz.f32 = some r32 := by kernel_rfl
def r6 : RFunc := ⟨20, [.t 2, .t 3],
 (.seq
  (.reg [⟨(some 2), .v (.mov (.c .nils)), none⟩, ⟨(some 3), .v (.mov (.c (.int .i64 0))), none⟩])
  (.seq
   (.reg [⟨(some 6), .v (.mov (.t 0)), none⟩, ⟨(some 7), .v (.bld [.nils, (.int .i64 0), (.int .u64 0)] [(0, 1, (.t 6))]), none⟩, ⟨(some 8), .m (.box (.t 7)), none⟩, ⟨(some 4), .v (.mov (.t 8)), none⟩])
   (.seq
    (.reg [⟨(some 9), .v (.mov (.t 4)), none⟩, ⟨(some 10), .call 29 [(.t 9), (.c (.int .i64 4))], none⟩, ⟨(some 11), .v (.bin .add (.c (.int .i64 1)) (.t 10)), none⟩, ⟨(some 5), .v (.mov (.t 11)), none⟩])
    (.seq
     (.seq
      (.reg [⟨(some 12), .v (.mov (.t 4)), none⟩, ⟨(some 13), .call 30 [(.t 12), (.c (.int .i64 6))], none⟩])
      (.cond (.t 13)
       (.reg [⟨(some 14), .v (.mov (.t 4)), none⟩, ⟨(some 15), .m (.bsl 1 4 [(.int .i64 0)] [(0, 1, (.c (.int .i64 (-1)))), (1, 1, (.c (.int .i64 0))), (2, 1, (.c (.int .i64 16))), (3, 1, (.c (.int .i64 17)))]), none⟩, ⟨(some 16), .call 31 [(.t 14), (.t 15)], none⟩, ⟨(some 5), .v (.mov (.t 16)), none⟩])
       .skip))
     (.seq
      (.reg [⟨(some 17), .v (.mov (.t 4)), none⟩, ⟨(some 18), .call 32 [(.t 17), (.c (.int .i64 10))], none⟩, ⟨(some 19), .v (.mov (.t 5)), none⟩, ⟨(some 2), .v (.mov (.t 18)), none⟩, ⟨(some 3), .v (.mov (.t 19)), none⟩])
      .ret)))))⟩
theorem e6 : rFunc Tryz.prog Tryz.f6 = some r6 := by kernel_rfl
end Go.Proofs.YtdkgoaiodjokpaaGreat.M
