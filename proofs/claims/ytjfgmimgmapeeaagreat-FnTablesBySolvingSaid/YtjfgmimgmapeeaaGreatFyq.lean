/-
  The resolved text of the functions, each tied to the program's own by the kernel.
-/
import Derived.Test.YtjfgmimgmapeeaaGreatProg
import Derived.Test.YtjfgmimgmapeeaaGreatFyp
namespace Go.Proofs.YtjfgmimgmapeeaaGreat.M
open Go Go.RowKit
set_option maxRecDepth 100000

def r136 : RFunc := ⟨10, [.t 4],
 (.seq
  (.reg [⟨(some 4), .v (.mov (.c (.int .i64 0))), none⟩])
  (.seq
   (.seq
    (.reg [⟨(some 5), .v (.mov (.t 0)), none⟩, ⟨(some 6), .v (.mov (.t 1)), none⟩, ⟨(some 7), .v (.bin .gtr (.t 5) (.t 6)), none⟩])
    (.cond (.t 7)
     (.seq
      (.reg [⟨(some 8), .v (.mov (.t 0)), none⟩, ⟨(some 4), .v (.mov (.t 8)), none⟩])
      .ret)
     .skip))
   (.seq
    (.reg [⟨(some 9), .v (.mov (.t 1)), none⟩, ⟨(some 4), .v (.mov (.t 9)), none⟩])
    .ret)))⟩
theorem e136 : rFunc Tryz.prog Tryz.f136 = some r136 := by kernel_rfl
def r131 : RFunc := ⟨62, [.t 2],
 (.seq
  (.reg [⟨(some 2), .v (.mov (.c (.int .i64 0))), none⟩])
  (.seq
   (.reg [⟨(some 3), .v (.mov (.c (.int .i64 0))), none⟩])
   (.seq
    (.seq
     (.dreg (.fl ⟨(some 4), .v (.mov (.t 0)), none⟩ (.fl ⟨(some 5), .v (.nchk (.t 4)), none⟩ (.fl ⟨(some 6), .v (.faddr 1 (.t 5)), none⟩ (.fl ⟨(some 7), .v (.load false 1 (.t 6)), none⟩ (.fl ⟨(some 8), .v (.mov (.t 0)), none⟩ (.fl ⟨(some 9), .v (.nchk (.t 8)), none⟩ (.fl ⟨(some 10), .v (.faddr 0 (.t 9)), none⟩ (.fl ⟨(some 11), .v (.load false 1 (.t 10)), none⟩ (.fl ⟨(some 12), .v (.len (.t 11)), none⟩ (.fl ⟨(some 13), .v (.bin .lss (.t 7) (.t 12)), none⟩ .done)))))))))))
     (.cond (.t 13)
      (.dreg (.fl ⟨(some 14), .v (.mov (.t 0)), none⟩ (.fl ⟨(some 15), .v (.nchk (.t 14)), none⟩ (.fl ⟨(some 16), .v (.faddr 0 (.t 15)), none⟩ (.fl ⟨(some 17), .v (.load false 1 (.t 16)), none⟩ (.fl ⟨(some 18), .v (.mov (.t 0)), none⟩ (.fl ⟨(some 19), .v (.nchk (.t 18)), none⟩ (.fl ⟨(some 20), .v (.faddr 1 (.t 19)), none⟩ (.fl ⟨(some 21), .v (.load false 1 (.t 20)), none⟩ (.fl ⟨(some 22), .v (.iaddr 1 (.t 17) (.t 21)), none⟩ (.fl ⟨(some 23), .v (.load false 1 (.t 22)), none⟩ (.fl ⟨(some 24), .v (.conv .i64 (.t 23)), none⟩ (.fl ⟨(some 3), .v (.mov (.t 24)), none⟩ .done)))))))))))))
      .skip))
    (.seq
     (.reg [⟨(some 25), .v (.mov (.t 0)), none⟩, ⟨(some 26), .v (.nchk (.t 25)), none⟩, ⟨(some 27), .v (.faddr 1 (.t 26)), none⟩, ⟨(some 28), .v (.load false 1 (.t 27)), none⟩, ⟨(some 29), .v (.bin .add (.t 28) (.c (.int .i64 1))), none⟩, ⟨(some 30), .v (.nchk (.t 25)), none⟩, ⟨(some 31), .v (.faddr 1 (.t 30)), none⟩, ⟨none, .m (.store 1 (.t 31) (.t 29)), none⟩])
     (.seq
      (.reg [⟨(some 32), .v (.mov (.t 0)), none⟩, ⟨(some 33), .v (.mov (.t 0)), none⟩, ⟨(some 34), .v (.nchk (.t 33)), none⟩, ⟨(some 35), .v (.faddr 2 (.t 34)), none⟩, ⟨(some 36), .v (.load false 1 (.t 35)), none⟩, ⟨(some 37), .v (.bin .mul (.t 36) (.c (.int .u64 6364136223846793005))), none⟩, ⟨(some 38), .v (.mov (.t 3)), none⟩, ⟨(some 39), .v (.conv .u64 (.t 38)), none⟩, ⟨(some 40), .v (.bin .add (.t 37) (.t 39)), none⟩, ⟨(some 41), .v (.bin .add (.t 40) (.c (.int .u64 1442695040888963407))), none⟩, ⟨(some 42), .v (.nchk (.t 32)), none⟩, ⟨(some 43), .v (.faddr 2 (.t 42)), none⟩, ⟨none, .m (.store 1 (.t 43) (.t 41)), none⟩])
      (.seq
       (.seq
        (.dreg (.fl ⟨(some 44), .v (.mov (.t 0)), none⟩ (.fl ⟨(some 45), .v (.nchk (.t 44)), none⟩ (.fl ⟨(some 46), .v (.faddr 1 (.t 45)), none⟩ (.fl ⟨(some 47), .v (.load false 1 (.t 46)), none⟩ (.fl ⟨(some 48), .v (.mov (.t 0)), none⟩ (.fl ⟨(some 49), .v (.nchk (.t 48)), none⟩ (.fl ⟨(some 50), .v (.faddr 0 (.t 49)), none⟩ (.fl ⟨(some 51), .v (.load false 1 (.t 50)), none⟩ (.fl ⟨(some 52), .v (.len (.t 51)), none⟩ (.fl ⟨(some 53), .v (.bin .leq (.t 47) (.t 52)), none⟩ .done)))))))))))
        (.cond (.t 53)
         (.seq
          (.reg [⟨(some 54), .v (.mov (.t 3)), none⟩, ⟨(some 2), .v (.mov (.t 54)), none⟩])
          .ret)
         .skip))
       (.seq
        (.reg [⟨(some 55), .v (.mov (.t 0)), none⟩, ⟨(some 56), .v (.nchk (.t 55)), none⟩, ⟨(some 57), .v (.faddr 2 (.t 56)), none⟩, ⟨(some 58), .v (.load false 1 (.t 57)), none⟩, ⟨(some 59), .v (.bin .shr (.t 58) (.c (.int .u64 40))), none⟩, ⟨(some 60), .v (.bin .and (.t 59) (.c (.int .u64 255))), none⟩, ⟨(some 61), .v (.conv .i64 (.t 60)), none⟩, ⟨(some 2), .v (.mov (.t 61)), none⟩])
        .ret)))))))⟩
theorem e131 : rFunc Tryz.prog Tryz.f131 = some r131 := by kernel_rfl
def r71 : RFunc := ⟨20, [.t 4],
 (.seq
  (.reg [⟨(some 4), .v (.mov (.c (.int .i64 0))), none⟩])
  (.seq
   (.seq
    (.reg [⟨(some 6), .v (.mov (.t 1)), none⟩, ⟨(some 7), .v (.bin .leq (.t 6) (.c (.int .i64 1))), none⟩])
    (.cond (.t 7)
     (.seq
      (.reg [⟨(some 4), .v (.mov (.c (.int .i64 0))), none⟩])
      .ret)
     .skip))
   (.seq
    (.reg [⟨(some 8), .v (.mov (.t 0)), none⟩, ⟨(some 9), .call 131 [(.t 8)], none⟩, ⟨(some 5), .v (.mov (.t 9)), none⟩])
    (.seq
     (.seq
      (.reg [⟨(some 10), .v (.mov (.t 1)), none⟩, ⟨(some 11), .v (.bin .gtr (.t 10) (.c (.int .i64 200))), none⟩])
      (.cond (.t 11)
       (.reg [⟨(some 12), .v (.mov (.t 5)), none⟩, ⟨(some 13), .v (.bin .mul (.t 12) (.c (.int .i64 256))), none⟩, ⟨(some 14), .v (.mov (.t 0)), none⟩, ⟨(some 15), .call 131 [(.t 14)], none⟩, ⟨(some 16), .v (.bin .add (.t 13) (.t 15)), none⟩, ⟨(some 5), .v (.mov (.t 16)), none⟩])
       .skip))
     (.seq
      (.reg [⟨(some 17), .v (.mov (.t 5)), none⟩, ⟨(some 18), .v (.mov (.t 1)), none⟩, ⟨(some 19), .v (.bin .rem (.t 17) (.t 18)), none⟩, ⟨(some 4), .v (.mov (.t 19)), none⟩])
      .ret)))))⟩
theorem e71 : rFunc Tryz.prog Tryz.f71 = some r71 := by kernel_rfl
def r77 : RFunc := ⟨11, [.t 4],
 (.seq
  (.reg [⟨(some 4), .v (.mov (.c (.int .i64 0))), none⟩])
  (.seq
   (.reg [⟨(some 5), .v (.mov (.t 0)), none⟩, ⟨(some 6), .v (.mov (.t 1)), none⟩, ⟨(some 7), .call 136 [(.t 6), (.c (.int .i64 0))], none⟩, ⟨(some 8), .v (.bin .add (.t 7) (.c (.int .i64 4))), none⟩, ⟨(some 9), .call 71 [(.t 5), (.t 8)], none⟩, ⟨(some 10), .v (.bin .sub (.t 9) (.c (.int .i64 1))), none⟩, ⟨(some 4), .v (.mov (.t 10)), none⟩])
   .ret))⟩
theorem e77 : rFunc Tryz.prog Tryz.f77 = some r77 := by kernel_rfl
def r70 : RFunc := ⟨9, [.t 4],
 (.seq
  (.reg [⟨(some 4), .v (.mov (.c (.bool false))), none⟩])
  (.seq
   (.reg [⟨(some 5), .v (.mov (.t 0)), none⟩, ⟨(some 6), .v (.mov (.t 1)), none⟩, ⟨(some 7), .call 71 [(.t 5), (.t 6)], none⟩, ⟨(some 8), .v (.bin .eql (.t 7) (.c (.int .i64 0))), none⟩, ⟨(some 4), .v (.mov (.t 8)), none⟩])
   .ret))⟩
theorem e70 : rFunc Tryz.prog Tryz.f70 = some r70 := by kernel_rfl
def r132 : RFunc := ⟨28, [.t 2],
 (.seq
  (.reg [⟨(some 2), .v (.mov (.c (.str []))), none⟩])
  (.seq
   (.reg [⟨(some 3), .v (.mov (.c .nils)), none⟩])
   (.seq
    (.seq
     (.reg [⟨(some 5), .v (.mov (.t 0)), none⟩, ⟨(some 6), .call 71 [(.t 5), (.c (.int .i64 4))], none⟩, ⟨(some 7), .v (.bin .add (.c (.int .i64 1)) (.t 6)), none⟩, ⟨(some 4), .v (.mov (.t 7)), none⟩])
     (.block 0
      (.loop
       (.seq
        (.seq
         (.reg [⟨(some 8), .v (.mov (.t 4)), none⟩, ⟨(some 9), .v (.bin .gtr (.t 8) (.c (.int .i64 0))), none⟩])
         (.cond (.t 9)
          .skip
          (.exit 0)))
        (.seq
         (.block 1
          (.reg [⟨(some 12), .v (.mov (.t 3)), none⟩, ⟨(some 13), .v (.mov (.t 0)), none⟩, ⟨(some 14), .call 71 [(.t 13), (.c (.int .i64 11))], none⟩, ⟨(some 15), .v (.sidx (.c (.str [97, 97, 98, 98, 99, 120, 121, 122, 33, 125, 48])) (.t 14)), none⟩, ⟨(some 16), .m (.bsl 1 1 [(.int .u8 0)] [(0, 1, (.t 15))]), none⟩, ⟨(some 17), .m (.app false 1 1 (.t 12) (.t 16)), none⟩, ⟨(some 3), .v (.mov (.t 17)), none⟩]))
         (.reg [⟨(some 10), .v (.mov (.t 4)), none⟩, ⟨(some 11), .v (.bin .sub (.t 10) (.c (.int .i64 1))), none⟩, ⟨(some 4), .v (.mov (.t 11)), none⟩]))))))
    (.seq
     (.seq
      (.reg [⟨(some 18), .v (.mov (.t 0)), none⟩, ⟨(some 19), .call 70 [(.t 18), (.c (.int .i64 12))], none⟩])
      (.cond (.t 19)
       (.block 2
        (.loop
         (.seq
          (.seq
           (.reg [⟨(some 20), .v (.mov (.t 3)), none⟩, ⟨(some 21), .v (.len (.t 20)), none⟩, ⟨(some 22), .v (.bin .lss (.t 21) (.c (.int .i64 12))), none⟩])
           (.cond (.t 22)
            .skip
            (.exit 2)))
          (.block 3
           (.reg [⟨(some 23), .v (.mov (.t 3)), none⟩, ⟨(some 24), .m (.bsl 1 1 [(.int .u8 0)] [(0, 1, (.c (.int .u8 97)))]), none⟩, ⟨(some 25), .m (.app false 1 1 (.t 23) (.t 24)), none⟩, ⟨(some 3), .v (.mov (.t 25)), none⟩])))))
       .skip))
     (.seq
      (.reg [⟨(some 26), .v (.mov (.t 3)), none⟩, ⟨(some 27), .v (.cbs (.t 26)), none⟩, ⟨(some 2), .v (.mov (.t 27)), none⟩])
      .ret)))))⟩
theorem e132 : rFunc Tryz.prog Tryz.f132 = some r132 := by kernel_rfl
def r133 : RFunc := ⟨12, [.t 4],
 (.seq
  (.reg [⟨(some 4), .v (.mov (.c (.str []))), none⟩])
  (.seq
   (.reg [⟨(some 5), .v (.mov (.t 1)), none⟩, ⟨(some 6), .v (.mov (.t 0)), none⟩, ⟨(some 7), .v (.mov (.t 1)), none⟩, ⟨(some 8), .v (.len (.t 7)), none⟩, ⟨(some 9), .call 71 [(.t 6), (.t 8)], none⟩, ⟨(some 10), .v (.iaddr 1 (.t 5) (.t 9)), none⟩, ⟨(some 11), .v (.load false 1 (.t 10)), none⟩, ⟨(some 4), .v (.mov (.t 11)), none⟩])
   .ret))⟩
theorem e133 : rFunc Tryz.prog Tryz.f133 = some r133 := by kernel_rfl
def r73 : RFunc := ⟨21, [.t 2],
 (.seq
  (.reg [⟨(some 2), .v (.mov (.c (.str []))), none⟩])
  (.seq
   (.seq
    (.reg [⟨(some 3), .v (.mov (.t 0)), none⟩, ⟨(some 4), .call 71 [(.t 3), (.c (.int .i64 16))], none⟩])
    (.block 0
     (.seq
      (.reg [⟨(some 6), .v (.bin .eql (.t 4) (.c (.int .i64 0))), none⟩, ⟨(some 5), .v (.mov (.t 6)), none⟩])
      (.cond (.t 5)
       (.seq
        (.reg [⟨(some 2), .v (.mov (.c (.str []))), none⟩])
        .ret)
       (.seq
        (.reg [⟨(some 8), .v (.bin .eql (.t 4) (.c (.int .i64 1))), none⟩, ⟨(some 7), .v (.mov (.t 8)), none⟩])
        (.cond (.t 7)
         (.seq
          (.reg [⟨(some 9), .v (.mov (.t 0)), none⟩, ⟨(some 10), .call 132 [(.t 9)], none⟩, ⟨(some 11), .v (.bin .add (.t 10) (.c (.str [32]))), none⟩, ⟨(some 2), .v (.mov (.t 11)), none⟩])
          .ret)
         (.seq
          (.reg [⟨(some 13), .v (.bin .eql (.t 4) (.c (.int .i64 2))), none⟩, ⟨(some 12), .v (.mov (.t 13)), none⟩])
          (.cond (.t 12)
           (.seq
            (.reg [⟨(some 2), .v (.mov (.c (.str [97, 97, 97, 97, 97, 97, 97, 97, 97, 97, 97, 97, 97]))), none⟩])
            .ret)
           (.seq
            (.reg [⟨(some 15), .v (.bin .eql (.t 4) (.c (.int .i64 3))), none⟩, ⟨(some 14), .v (.mov (.t 15)), none⟩])
            (.cond (.t 14)
             (.seq
              (.reg [⟨(some 16), .v (.mov (.t 0)), none⟩, ⟨(some 17), .m (.bsl 1 4 [(.str [])] [(0, 1, (.c (.str [126]))), (1, 1, (.c (.str [125]))), (2, 1, (.c (.str [97, 126]))), (3, 1, (.c (.str [127])))]), none⟩, ⟨(some 18), .call 133 [(.t 16), (.t 17)], none⟩, ⟨(some 2), .v (.mov (.t 18)), none⟩])
              .ret)
             .skip))))))))))
   (.seq
    (.reg [⟨(some 19), .v (.mov (.t 0)), none⟩, ⟨(some 20), .call 132 [(.t 19)], none⟩, ⟨(some 2), .v (.mov (.t 20)), none⟩])
    .ret)))⟩
theorem e73 : rFunc Tryz.prog Tryz.f73 = some r73 := by kernel_rfl
def r78 : RFunc := ⟨12, [.t 4],
 (.seq
  (.reg [⟨(some 4), .v (.mov (.c (.int .i64 0))), none⟩])
  (.seq
   (.reg [⟨(some 5), .v (.mov (.t 1)), none⟩, ⟨(some 6), .v (.mov (.t 0)), none⟩, ⟨(some 7), .v (.mov (.t 1)), none⟩, ⟨(some 8), .v (.len (.t 7)), none⟩, ⟨(some 9), .call 71 [(.t 6), (.t 8)], none⟩, ⟨(some 10), .v (.iaddr 1 (.t 5) (.t 9)), none⟩, ⟨(some 11), .v (.load false 1 (.t 10)), none⟩, ⟨(some 4), .v (.mov (.t 11)), none⟩])
   .ret))⟩
theorem e78 : rFunc Tryz.prog Tryz.f78 = some r78 := by kernel_rfl
def r130 : RFunc := ⟨16, [.t 2],
 (.seq
  (.reg [⟨(some 2), .v (.mov (.c (.int .i64 0))), none⟩])
  (.seq
   (.seq
    (.reg [⟨(some 3), .v (.mov (.t 0)), none⟩, ⟨(some 4), .call 71 [(.t 3), (.c (.int .i64 12))], none⟩])
    (.block 0
     (.seq
      (.reg [⟨(some 6), .v (.bin .eql (.t 4) (.c (.int .i64 0))), none⟩, ⟨(some 5), .v (.mov (.t 6)), none⟩])
      (.cond (.t 5)
       (.seq
        (.reg [⟨(some 7), .v (.mov (.t 0)), none⟩, ⟨(some 8), .m (.bsl 1 3 [(.int .i64 0)] [(0, 1, (.c (.int .i64 (-1)))), (1, 1, (.c (.int .i64 9999))), (2, 1, (.c (.int .i64 10000)))]), none⟩, ⟨(some 9), .call 78 [(.t 7), (.t 8)], none⟩, ⟨(some 2), .v (.mov (.t 9)), none⟩])
        .ret)
       (.seq
        (.reg [⟨(some 11), .v (.bin .eql (.t 4) (.c (.int .i64 1))), none⟩, ⟨(some 10), .v (.mov (.t 11)), none⟩])
        (.cond (.t 10)
         (.seq
          (.reg [⟨(some 12), .v (.mov (.t 0)), none⟩, ⟨(some 13), .call 71 [(.t 12), (.c (.int .i64 10000))], none⟩, ⟨(some 2), .v (.mov (.t 13)), none⟩])
          .ret)
         .skip))))))
   (.seq
    (.reg [⟨(some 14), .v (.mov (.t 0)), none⟩, ⟨(some 15), .call 71 [(.t 14), (.c (.int .i64 20))], none⟩, ⟨(some 2), .v (.mov (.t 15)), none⟩])
    .ret)))⟩
theorem e130 : rFunc Tryz.prog Tryz.f130 = some r130 := by kernel_rfl
def r168 : RFunc := ⟨48, [.t 4],
 (.seq
  (.reg [⟨(some 4), .v (.mov (.c .nils)), none⟩])
  (.seq
   (.reg [⟨(some 5), .v (.mov (.c (.int .i64 0))), none⟩])
   (.seq
    (.block 0
     (.loop
      (.seq
       (.seq
        (.reg [⟨(some 7), .v (.mov (.t 5)), none⟩, ⟨(some 8), .v (.mov (.t 0)), none⟩, ⟨(some 9), .v (.len (.t 8)), none⟩, ⟨(some 10), .v (.bin .lss (.t 7) (.t 9)), none⟩, ⟨(some 11), .v (.mov (.t 10)), none⟩, ⟨(some 12), .v (.mov (.t 0)), (some (11, true))⟩, ⟨(some 13), .v (.mov (.t 5)), (some (11, true))⟩, ⟨(some 14), .v (.iaddr 1 (.t 12) (.t 13)), (some (11, true))⟩, ⟨(some 15), .v (.load false 1 (.t 14)), (some (11, true))⟩, ⟨(some 16), .v (.mov (.t 1)), (some (11, true))⟩, ⟨(some 17), .v (.bin .lss (.t 15) (.t 16)), (some (11, true))⟩, ⟨(some 18), .v (.pick (.t 11) (.t 17) (.c (.bool false))), none⟩])
        (.cond (.t 18)
         .skip
         (.exit 0)))
       (.block 1
        (.reg [⟨(some 19), .v (.mov (.t 5)), none⟩, ⟨(some 20), .v (.bin .add (.t 19) (.c (.int .i64 1))), none⟩, ⟨(some 5), .v (.mov (.t 20)), none⟩])))))
    (.seq
     (.seq
      (.reg [⟨(some 21), .v (.mov (.t 5)), none⟩, ⟨(some 22), .v (.mov (.t 0)), none⟩, ⟨(some 23), .v (.len (.t 22)), none⟩, ⟨(some 24), .v (.bin .lss (.t 21) (.t 23)), none⟩, ⟨(some 25), .v (.mov (.t 24)), none⟩, ⟨(some 26), .v (.mov (.t 0)), (some (25, true))⟩, ⟨(some 27), .v (.mov (.t 5)), (some (25, true))⟩, ⟨(some 28), .v (.iaddr 1 (.t 26) (.t 27)), (some (25, true))⟩, ⟨(some 29), .v (.load false 1 (.t 28)), (some (25, true))⟩, ⟨(some 30), .v (.mov (.t 1)), (some (25, true))⟩, ⟨(some 31), .v (.bin .eql (.t 29) (.t 30)), (some (25, true))⟩, ⟨(some 32), .v (.pick (.t 25) (.t 31) (.c (.bool false))), none⟩])
      (.cond (.t 32)
       (.seq
        (.reg [⟨(some 33), .v (.mov (.t 0)), none⟩, ⟨(some 4), .v (.mov (.t 33)), none⟩])
        .ret)
       .skip))
     (.seq
      (.reg [⟨(some 34), .m (.bsl 1 0 [(.str [])] []), none⟩, ⟨(some 35), .v (.mov (.t 0)), none⟩, ⟨(some 36), .v (.mov (.t 5)), none⟩, ⟨(some 37), .v (.slc 1 (.t 35) none (some (.t 36))), none⟩, ⟨(some 38), .m (.app false 1 16 (.t 34) (.t 37)), none⟩, ⟨(some 6), .v (.mov (.t 38)), none⟩])
      (.seq
       (.reg [⟨(some 39), .v (.mov (.t 6)), none⟩, ⟨(some 40), .v (.mov (.t 1)), none⟩, ⟨(some 41), .m (.bsl 1 1 [(.str [])] [(0, 1, (.t 40))]), none⟩, ⟨(some 42), .m (.app false 1 16 (.t 39) (.t 41)), none⟩, ⟨(some 6), .v (.mov (.t 42)), none⟩])
       (.seq
        (.reg [⟨(some 43), .v (.mov (.t 6)), none⟩, ⟨(some 44), .v (.mov (.t 0)), none⟩, ⟨(some 45), .v (.mov (.t 5)), none⟩, ⟨(some 46), .v (.slc 1 (.t 44) (some (.t 45)) none), none⟩, ⟨(some 47), .m (.app false 1 16 (.t 43) (.t 46)), none⟩, ⟨(some 4), .v (.mov (.t 47)), none⟩])
        .ret)))))))⟩
theorem e168 : rFunc Tryz.prog Tryz.f168 = some r168 := by kernel_rfl
def r134 : RFunc := ⟨20, [.t 4],
 (.seq
  (.reg [⟨(some 4), .v (.mov (.c .nils)), none⟩])
  (.seq
   (.reg [⟨(some 5), .v (.mov (.c .nils)), none⟩])
   (.seq
    (.seq
     (.reg [⟨(some 7), .v (.mov (.t 0)), none⟩, ⟨(some 8), .v (.mov (.t 1)), none⟩, ⟨(some 9), .v (.bin .add (.t 8) (.c (.int .i64 1))), none⟩, ⟨(some 10), .call 71 [(.t 7), (.t 9)], none⟩, ⟨(some 6), .v (.mov (.t 10)), none⟩])
     (.block 0
      (.loop
       (.seq
        (.seq
         (.reg [⟨(some 11), .v (.mov (.t 6)), none⟩, ⟨(some 12), .v (.bin .gtr (.t 11) (.c (.int .i64 0))), none⟩])
         (.cond (.t 12)
          .skip
          (.exit 0)))
        (.seq
         (.block 1
          (.reg [⟨(some 15), .v (.mov (.t 5)), none⟩, ⟨(some 16), .v (.mov (.t 0)), none⟩, ⟨(some 17), .call 132 [(.t 16)], none⟩, ⟨(some 18), .call 168 [(.t 15), (.t 17)], none⟩, ⟨(some 5), .v (.mov (.t 18)), none⟩]))
         (.reg [⟨(some 13), .v (.mov (.t 6)), none⟩, ⟨(some 14), .v (.bin .sub (.t 13) (.c (.int .i64 1))), none⟩, ⟨(some 6), .v (.mov (.t 14)), none⟩]))))))
    (.seq
     (.reg [⟨(some 19), .v (.mov (.t 5)), none⟩, ⟨(some 4), .v (.mov (.t 19)), none⟩])
     .ret))))⟩
theorem e134 : rFunc Tryz.prog Tryz.f134 = some r134 := by kernel_rfl
def r135 : RFunc := ⟨25, [.t 4],
 (.seq
  (.reg [⟨(some 4), .v (.mov (.c .nils)), none⟩])
  (.seq
   (.reg [⟨(some 5), .v (.mov (.c .nils)), none⟩])
   (.seq
    (.seq
     (.reg [⟨(some 6), .v (.mov (.c (.int .i64 0))), none⟩])
     (.block 0
      (.loop
       (.seq
        (.seq
         (.reg [⟨(some 7), .v (.mov (.t 6)), none⟩, ⟨(some 8), .v (.mov (.t 1)), none⟩, ⟨(some 9), .v (.bin .lss (.t 7) (.t 8)), none⟩])
         (.cond (.t 9)
          .skip
          (.exit 0)))
        (.seq
         (.block 1
          (.reg [⟨(some 12), .v (.mov (.t 5)), none⟩, ⟨(some 13), .v (.mov (.t 6)), none⟩, ⟨(some 14), .v (.bin .quo (.t 13) (.c (.int .i64 10))), none⟩, ⟨(some 15), .v (.bin .add (.c (.int .i64 97)) (.t 14)), none⟩, ⟨(some 16), .v (.conv .u8 (.t 15)), none⟩, ⟨(some 17), .v (.mov (.t 6)), none⟩, ⟨(some 18), .v (.bin .rem (.t 17) (.c (.int .i64 10))), none⟩, ⟨(some 19), .v (.bin .add (.c (.int .i64 48)) (.t 18)), none⟩, ⟨(some 20), .v (.conv .u8 (.t 19)), none⟩, ⟨(some 21), .m (.bsl 1 2 [(.int .u8 0)] [(0, 1, (.t 16)), (1, 1, (.t 20))]), none⟩, ⟨(some 22), .v (.cbs (.t 21)), none⟩, ⟨(some 23), .call 168 [(.t 12), (.t 22)], none⟩, ⟨(some 5), .v (.mov (.t 23)), none⟩]))
         (.reg [⟨(some 10), .v (.mov (.t 6)), none⟩, ⟨(some 11), .v (.bin .add (.t 10) (.c (.int .i64 1))), none⟩, ⟨(some 6), .v (.mov (.t 11)), none⟩]))))))
    (.seq
     (.reg [⟨(some 24), .v (.mov (.t 5)), none⟩, ⟨(some 4), .v (.mov (.t 24)), none⟩])
     .ret))))⟩
theorem e135 : rFunc Tryz.prog Tryz.f135 = some r135 := by kernel_rfl
def r76 : RFunc := ⟨41, [.t 4],
 (.seq
  (.reg [⟨(some 4), .v (.mov (.c .nils)), none⟩])
  (.seq
   (.reg [⟨(some 6), .v (.mov (.t 0)), none⟩, ⟨(some 7), .v (.mov (.t 1)), none⟩, ⟨(some 8), .call 134 [(.t 6), (.t 7)], none⟩, ⟨(some 5), .v (.mov (.t 8)), none⟩])
   (.seq
    (.seq
     (.reg [⟨(some 9), .v (.mov (.t 0)), none⟩, ⟨(some 10), .call 71 [(.t 9), (.c (.int .i64 14))], none⟩])
     (.block 0
      (.seq
       (.reg [⟨(some 12), .v (.bin .eql (.t 10) (.c (.int .i64 0))), none⟩, ⟨(some 11), .v (.mov (.t 12)), none⟩])
       (.cond (.t 11)
        (.reg [⟨(some 13), .v (.mov (.t 5)), none⟩, ⟨(some 14), .v (.mov (.t 0)), none⟩, ⟨(some 15), .call 73 [(.t 14)], none⟩, ⟨(some 16), .m (.bsl 1 1 [(.str [])] [(0, 1, (.t 15))]), none⟩, ⟨(some 17), .m (.app false 1 16 (.t 13) (.t 16)), none⟩, ⟨(some 5), .v (.mov (.t 17)), none⟩])
        (.seq
         (.reg [⟨(some 19), .v (.bin .eql (.t 10) (.c (.int .i64 1))), none⟩, ⟨(some 18), .v (.mov (.t 19)), none⟩])
         (.cond (.t 18)
          (.seq
           (.reg [⟨(some 20), .v (.mov (.t 5)), none⟩, ⟨(some 21), .v (.len (.t 20)), none⟩, ⟨(some 22), .v (.bin .gtr (.t 21) (.c (.int .i64 0))), none⟩])
           (.cond (.t 22)
            (.reg [⟨(some 23), .v (.mov (.t 5)), none⟩, ⟨(some 24), .v (.mov (.t 5)), none⟩, ⟨(some 25), .v (.mov (.t 0)), none⟩, ⟨(some 26), .v (.mov (.t 5)), none⟩, ⟨(some 27), .v (.len (.t 26)), none⟩, ⟨(some 28), .call 71 [(.t 25), (.t 27)], none⟩, ⟨(some 29), .v (.iaddr 1 (.t 24) (.t 28)), none⟩, ⟨(some 30), .v (.load false 1 (.t 29)), none⟩, ⟨(some 31), .m (.bsl 1 1 [(.str [])] [(0, 1, (.t 30))]), none⟩, ⟨(some 32), .m (.app false 1 16 (.t 23) (.t 31)), none⟩, ⟨(some 5), .v (.mov (.t 32)), none⟩])
            .skip))
          (.seq
           (.reg [⟨(some 34), .v (.bin .eql (.t 10) (.c (.int .i64 2))), none⟩, ⟨(some 33), .v (.mov (.t 34)), none⟩])
           (.cond (.t 33)
            (.reg [⟨(some 35), .v (.mov (.t 0)), none⟩, ⟨(some 36), .v (.mov (.t 0)), none⟩, ⟨(some 37), .call 71 [(.t 36), (.c (.int .i64 2))], none⟩, ⟨(some 38), .v (.bin .add (.c (.int .i64 40)) (.t 37)), none⟩, ⟨(some 39), .call 135 [(.t 35), (.t 38)], none⟩, ⟨(some 5), .v (.mov (.t 39)), none⟩])
            .skip))))))))
    (.seq
     (.reg [⟨(some 40), .v (.mov (.t 5)), none⟩, ⟨(some 4), .v (.mov (.t 40)), none⟩])
     .ret))))⟩
theorem e76 : rFunc Tryz.prog Tryz.f76 = some r76 := by kernel_rfl
end Go.Proofs.YtjfgmimgmapeeaaGreat.M
