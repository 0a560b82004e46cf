/-
  The resolved text of the functions, each tied to the program's own by the kernel.
-/
import Derived.Test.YtdioanhigobpcaaDoorProg
import Derived.Test.YtdioanhigobpcaaDoorM16
namespace Go.Proofs.YtdioanhigobpcaaDoor.M
open Go Go.RowKit
set_option maxRecDepth 100000

def r13 : RFunc := ⟨16, [.t 4],
 (.seq
  (.reg [⟨(some 4), .v (.mov (.c (.bool false))), none⟩])
  (.seq
   (.reg [⟨(some 5), .v (.mov (.t 0)), none⟩, ⟨(some 6), .v (.len (.t 5)), none⟩, ⟨(some 7), .v (.bin .gtr (.t 6) (.c (.int .i64 1048576))), none⟩, ⟨(some 8), .v (.mov (.t 7)), none⟩, ⟨(some 9), .v (.mov (.t 1)), (some (8, false))⟩, ⟨(some 10), .v (.len (.t 9)), (some (8, false))⟩, ⟨(some 11), .v (.mov (.t 0)), (some (8, false))⟩, ⟨(some 12), .v (.len (.t 11)), (some (8, false))⟩, ⟨(some 13), .v (.bin .sub (.c (.int .i64 1048576)) (.t 12)), (some (8, false))⟩, ⟨(some 14), .v (.bin .gtr (.t 10) (.t 13)), (some (8, false))⟩, ⟨(some 15), .v (.pick (.t 8) (.c (.bool true)) (.t 14)), none⟩, ⟨(some 4), .v (.mov (.t 15)), none⟩])
   .ret))⟩
theorem e13 : rFunc Tryd.prog Tryd.f13 = some r13 := by kernel_rfl
def r78 : RFunc := ⟨62, [.t 2],
 (.seq
  (.reg [⟨(some 2), .v (.mov (.c (.int .i64 0))), none⟩])
  (.seq
   (.reg [⟨(some 3), .v (.mov (.c (.int .i64 0))), none⟩])
   (.seq
    (.seq
     (.dreg (.fl ⟨(some 4), .v (.mov (.t 0)), none⟩ (.fl ⟨(some 5), .v (.nchk (.t 4)), none⟩ (.fl ⟨(some 6), .v (.faddr 1 (.t 5)), none⟩ (.fl ⟨(some 7), .v (.load false 1 (.t 6)), none⟩ (.fl ⟨(some 8), .v (.mov (.t 0)), none⟩ (.fl ⟨(some 9), .v (.nchk (.t 8)), none⟩ (.fl ⟨(some 10), .v (.faddr 0 (.t 9)), none⟩ (.fl ⟨(some 11), .v (.load false 1 (.t 10)), none⟩ (.fl ⟨(some 12), .v (.len (.t 11)), none⟩ (.fl ⟨(some 13), .v (.bin .lss (.t 7) (.t 12)), none⟩ .done)))))))))))
     (.cond (.t 13)
      (.dreg (.fl ⟨(some 14), .v (.mov (.t 0)), none⟩ (.fl ⟨(some 15), .v (.nchk (.t 14)), none⟩ (.fl ⟨(some 16), .v (.faddr 0 (.t 15)), none⟩ (.fl ⟨(some 17), .v (.load false 1 (.t 16)), none⟩ (.fl ⟨(some 18), .v (.mov (.t 0)), none⟩ (.fl ⟨(some 19), .v (.nchk (.t 18)), none⟩ (.fl ⟨(some 20), .v (.faddr 1 (.t 19)), none⟩ (.fl ⟨(some 21), .v (.load false 1 (.t 20)), none⟩ (.fl ⟨(some 22), .v (.iaddr 1 (.t 17) (.t 21)), none⟩ (.fl ⟨(some 23), .v (.load false 1 (.t 22)), none⟩ (.fl ⟨(some 24), .v (.conv .i64 (.t 23)), none⟩ (.fl ⟨(some 3), .v (.mov (.t 24)), none⟩ .done)))))))))))))
      .skip))
    (.seq
     (.reg [⟨(some 25), .v (.mov (.t 0)), none⟩, ⟨(some 26), .v (.nchk (.t 25)), none⟩, ⟨(some 27), .v (.faddr 1 (.t 26)), none⟩, ⟨(some 28), .v (.load false 1 (.t 27)), none⟩, ⟨(some 29), .v (.bin .add (.t 28) (.c (.int .i64 1))), none⟩, ⟨(some 30), .v (.nchk (.t 25)), none⟩, ⟨(some 31), .v (.faddr 1 (.t 30)), none⟩, ⟨none, .m (.store 1 (.t 31) (.t 29)), none⟩])
     (.seq
      (.reg [⟨(some 32), .v (.mov (.t 0)), none⟩, ⟨(some 33), .v (.mov (.t 0)), none⟩, ⟨(some 34), .v (.nchk (.t 33)), none⟩, ⟨(some 35), .v (.faddr 2 (.t 34)), none⟩, ⟨(some 36), .v (.load false 1 (.t 35)), none⟩, ⟨(some 37), .v (.bin .mul (.t 36) (.c (.int .u64 6364136223846793005))), none⟩, ⟨(some 38), .v (.mov (.t 3)), none⟩, ⟨(some 39), .v (.conv .u64 (.t 38)), none⟩, ⟨(some 40), .v (.bin .add (.t 37) (.t 39)), none⟩, ⟨(some 41), .v (.bin .add (.t 40) (.c (.int .u64 1442695040888963407))), none⟩, ⟨(some 42), .v (.nchk (.t 32)), none⟩, ⟨(some 43), .v (.faddr 2 (.t 42)), none⟩, ⟨none, .m (.store 1 (.t 43) (.t 41)), none⟩])
      (.seq
       (.seq
        (.dreg (.fl ⟨(some 44), .v (.mov (.t 0)), none⟩ (.fl ⟨(some 45), .v (.nchk (.t 44)), none⟩ (.fl ⟨(some 46), .v (.faddr 1 (.t 45)), none⟩ (.fl ⟨(some 47), .v (.load false 1 (.t 46)), none⟩ (.fl ⟨(some 48), .v (.mov (.t 0)), none⟩ (.fl ⟨(some 49), .v (.nchk (.t 48)), none⟩ (.fl ⟨(some 50), .v (.faddr 0 (.t 49)), none⟩ (.fl ⟨(some 51), .v (.load false 1 (.t 50)), none⟩ (.fl ⟨(some 52), .v (.len (.t 51)), none⟩ (.fl ⟨(some 53), .v (.bin .leq (.t 47) (.t 52)), none⟩ .done)))))))))))
        (.cond (.t 53)
         (.seq
          (.reg [⟨(some 54), .v (.mov (.t 3)), none⟩, ⟨(some 2), .v (.mov (.t 54)), none⟩])
          .ret)
         .skip))
       (.seq
        (.reg [⟨(some 55), .v (.mov (.t 0)), none⟩, ⟨(some 56), .v (.nchk (.t 55)), none⟩, ⟨(some 57), .v (.faddr 2 (.t 56)), none⟩, ⟨(some 58), .v (.load false 1 (.t 57)), none⟩, ⟨(some 59), .v (.bin .shr (.t 58) (.c (.int .u64 40))), none⟩, ⟨(some 60), .v (.bin .and (.t 59) (.c (.int .u64 255))), none⟩, ⟨(some 61), .v (.conv .i64 (.t 60)), none⟩, ⟨(some 2), .v (.mov (.t 61)), none⟩])
        .ret)))))))⟩
theorem e78 : rFunc Tryd.prog Tryd.f78 = some r78 := by kernel_rfl
def r52 : RFunc := ⟨20, [.t 4],
 (.seq
  (.reg [⟨(some 4), .v (.mov (.c (.int .i64 0))), none⟩])
  (.seq
   (.seq
    (.reg [⟨(some 6), .v (.mov (.t 1)), none⟩, ⟨(some 7), .v (.bin .leq (.t 6) (.c (.int .i64 1))), none⟩])
    (.cond (.t 7)
     (.seq
      (.reg [⟨(some 4), .v (.mov (.c (.int .i64 0))), none⟩])
      .ret)
     .skip))
   (.seq
    (.reg [⟨(some 8), .v (.mov (.t 0)), none⟩, ⟨(some 9), .call 78 [(.t 8)], none⟩, ⟨(some 5), .v (.mov (.t 9)), none⟩])
    (.seq
     (.seq
      (.reg [⟨(some 10), .v (.mov (.t 1)), none⟩, ⟨(some 11), .v (.bin .gtr (.t 10) (.c (.int .i64 200))), none⟩])
      (.cond (.t 11)
       (.reg [⟨(some 12), .v (.mov (.t 5)), none⟩, ⟨(some 13), .v (.bin .mul (.t 12) (.c (.int .i64 256))), none⟩, ⟨(some 14), .v (.mov (.t 0)), none⟩, ⟨(some 15), .call 78 [(.t 14)], none⟩, ⟨(some 16), .v (.bin .add (.t 13) (.t 15)), none⟩, ⟨(some 5), .v (.mov (.t 16)), none⟩])
       .skip))
     (.seq
      (.reg [⟨(some 17), .v (.mov (.t 5)), none⟩, ⟨(some 18), .v (.mov (.t 1)), none⟩, ⟨(some 19), .v (.bin .rem (.t 17) (.t 18)), none⟩, ⟨(some 4), .v (.mov (.t 19)), none⟩])
      .ret)))))⟩
theorem e52 : rFunc Tryd.prog Tryd.f52 = some r52 := by kernel_rfl
def r53 : RFunc := ⟨9, [.t 4],
 (.seq
  (.reg [⟨(some 4), .v (.mov (.c (.bool false))), none⟩])
  (.seq
   (.reg [⟨(some 5), .v (.mov (.t 0)), none⟩, ⟨(some 6), .v (.mov (.t 1)), none⟩, ⟨(some 7), .call 52 [(.t 5), (.t 6)], none⟩, ⟨(some 8), .v (.bin .eql (.t 7) (.c (.int .i64 0))), none⟩, ⟨(some 4), .v (.mov (.t 8)), none⟩])
   .ret))⟩
theorem e53 : rFunc Tryd.prog Tryd.f53 = some r53 := by kernel_rfl
def r54 : RFunc := ⟨12, [.t 4],
 (.seq
  (.reg [⟨(some 4), .v (.mov (.c (.int .i64 0))), none⟩])
  (.seq
   (.reg [⟨(some 5), .v (.mov (.t 1)), none⟩, ⟨(some 6), .v (.mov (.t 0)), none⟩, ⟨(some 7), .v (.mov (.t 1)), none⟩, ⟨(some 8), .v (.len (.t 7)), none⟩, ⟨(some 9), .call 52 [(.t 6), (.t 8)], none⟩, ⟨(some 10), .v (.iaddr 1 (.t 5) (.t 9)), none⟩, ⟨(some 11), .v (.load false 1 (.t 10)), none⟩, ⟨(some 4), .v (.mov (.t 11)), none⟩])
   .ret))⟩
theorem e54 : rFunc Tryd.prog Tryd.f54 = some r54 := by kernel_rfl
def r35 : RFunc := ⟨39, [.t 2],
 (.seq
  (.reg [⟨(some 2), .v (.mov (.c (.str []))), none⟩])
  (.seq
   (.reg [⟨(some 3), .v (.mov (.c .nils)), none⟩])
   (.seq
    (.seq
     (.reg [⟨(some 5), .v (.mov (.t 0)), none⟩, ⟨(some 6), .call 52 [(.t 5), (.c (.int .i64 12))], none⟩, ⟨(some 4), .v (.mov (.t 6)), none⟩])
     (.block 0
      (.loop
       (.seq
        (.seq
         (.reg [⟨(some 7), .v (.mov (.t 4)), none⟩, ⟨(some 8), .v (.bin .gtr (.t 7) (.c (.int .i64 0))), none⟩])
         (.cond (.t 8)
          .skip
          (.exit 0)))
        (.seq
         (.block 1
          (.reg [⟨(some 11), .v (.mov (.t 3)), none⟩, ⟨(some 12), .v (.mov (.t 0)), none⟩, ⟨(some 13), .call 52 [(.t 12), (.c (.int .i64 8))], none⟩, ⟨(some 14), .v (.sidx (.c (.str [97, 98, 35, 32, 48, 49, 57, 125])) (.t 13)), none⟩, ⟨(some 15), .m (.bsl 1 1 [(.int .u8 0)] [(0, 1, (.t 14))]), none⟩, ⟨(some 16), .m (.app false 1 1 (.t 11) (.t 15)), none⟩, ⟨(some 3), .v (.mov (.t 16)), none⟩]))
         (.reg [⟨(some 9), .v (.mov (.t 4)), none⟩, ⟨(some 10), .v (.bin .sub (.t 9) (.c (.int .i64 1))), none⟩, ⟨(some 4), .v (.mov (.t 10)), none⟩]))))))
    (.seq
     (.seq
      (.reg [⟨(some 17), .v (.mov (.t 0)), none⟩, ⟨(some 18), .call 53 [(.t 17), (.c (.int .i64 14))], none⟩])
      (.cond (.t 18)
       (.block 2
        (.loop
         (.seq
          (.seq
           (.reg [⟨(some 19), .v (.mov (.t 3)), none⟩, ⟨(some 20), .v (.len (.t 19)), none⟩, ⟨(some 21), .v (.mov (.t 0)), none⟩, ⟨(some 22), .call 52 [(.t 21), (.c (.int .i64 2))], none⟩, ⟨(some 23), .v (.bin .add (.c (.int .i64 6000)) (.t 22)), none⟩, ⟨(some 24), .v (.bin .lss (.t 20) (.t 23)), none⟩])
           (.cond (.t 24)
            .skip
            (.exit 2)))
          (.block 3
           (.reg [⟨(some 25), .v (.mov (.t 3)), none⟩, ⟨(some 26), .m (.bsl 1 1 [(.int .u8 0)] [(0, 1, (.c (.int .u8 125)))]), none⟩, ⟨(some 27), .m (.app false 1 1 (.t 25) (.t 26)), none⟩, ⟨(some 3), .v (.mov (.t 27)), none⟩])))))
       .skip))
     (.seq
      (.seq
       (.reg [⟨(some 28), .v (.mov (.t 0)), none⟩, ⟨(some 29), .call 53 [(.t 28), (.c (.int .i64 12))], none⟩])
       (.cond (.t 29)
        (.reg [⟨(some 30), .v (.mov (.t 3)), none⟩, ⟨(some 31), .v (.mov (.t 0)), none⟩, ⟨(some 32), .m (.bsl 1 4 [(.int .i64 0)] [(0, 1, (.c (.int .i64 10))), (1, 1, (.c (.int .i64 31))), (2, 1, (.c (.int .i64 126))), (3, 1, (.c (.int .i64 200)))]), none⟩, ⟨(some 33), .call 54 [(.t 31), (.t 32)], none⟩, ⟨(some 34), .v (.conv .u8 (.t 33)), none⟩, ⟨(some 35), .m (.bsl 1 1 [(.int .u8 0)] [(0, 1, (.t 34))]), none⟩, ⟨(some 36), .m (.app false 1 1 (.t 30) (.t 35)), none⟩, ⟨(some 3), .v (.mov (.t 36)), none⟩])
        .skip))
      (.seq
       (.reg [⟨(some 37), .v (.mov (.t 3)), none⟩, ⟨(some 38), .v (.cbs (.t 37)), none⟩, ⟨(some 2), .v (.mov (.t 38)), none⟩])
       .ret))))))⟩
theorem e35 : rFunc Tryd.prog Tryd.f35 = some r35 := by kernel_rfl
def r14 : RFunc := ⟨9, [.t 2],
 (.seq
  (.reg [⟨(some 2), .v (.mov (.c (.str []))), none⟩])
  (.seq
   (.reg [⟨(some 4), .v (.mov (.t 0)), none⟩, ⟨(some 5), .v (.bld [.nils, (.int .i64 0), (.int .u64 0)] [(0, 1, (.t 4))]), none⟩, ⟨(some 6), .m (.box (.t 5)), none⟩, ⟨(some 3), .v (.mov (.t 6)), none⟩])
   (.seq
    (.reg [⟨(some 7), .v (.mov (.t 3)), none⟩, ⟨(some 8), .call 35 [(.t 7)], none⟩, ⟨(some 2), .v (.mov (.t 8)), none⟩])
    .ret)))⟩
theorem e14 : rFunc Tryd.prog Tryd.f14 = some r14 := by kernel_rfl
def r10 : RFunc := ⟨40, [.t 2, .t 3],
 (.seq
  (.reg [⟨(some 2), .v (.mov (.c (.str []))), none⟩, ⟨(some 3), .v (.mov (.c (.bool false))), none⟩])
  (.seq
   (.reg [⟨(some 4), .v (.mov (.c (.int .i64 0))), none⟩])
   (.seq
    (.seq
     (.reg [⟨(some 6), .v (.mov (.t 0)), none⟩, ⟨(some 7), .v (.lens (.t 6)), none⟩, ⟨(some 8), .v (.mov (.c (.int .i64 0))), none⟩])
     (.block 0
      (.loop
       (.seq
        (.reg [⟨(some 9), .v (.bin .lss (.t 8) (.t 7)), none⟩])
        (.seq
         (.cond (.t 9)
          .skip
          (.exit 0))
         (.seq
          (.block 1
           (.seq
            (.reg [⟨(some 10), .v (.mov (.t 8)), none⟩, ⟨(some 5), .v (.mov (.t 10)), none⟩])
            (.seq
             (.seq
              (.reg [⟨(some 11), .v (.mov (.t 0)), none⟩, ⟨(some 12), .v (.mov (.t 5)), none⟩, ⟨(some 13), .v (.sidx (.t 11) (.t 12)), none⟩, ⟨(some 14), .v (.bin .lss (.t 13) (.c (.int .u8 32))), none⟩, ⟨(some 15), .v (.mov (.t 14)), none⟩, ⟨(some 16), .v (.mov (.t 0)), (some (15, false))⟩, ⟨(some 17), .v (.mov (.t 5)), (some (15, false))⟩, ⟨(some 18), .v (.sidx (.t 16) (.t 17)), (some (15, false))⟩, ⟨(some 19), .v (.bin .gtr (.t 18) (.c (.int .u8 125))), (some (15, false))⟩, ⟨(some 20), .v (.pick (.t 15) (.c (.bool true)) (.t 19)), none⟩])
              (.cond (.t 20)
               (.seq
                (.reg [⟨(some 2), .v (.mov (.c (.str []))), none⟩, ⟨(some 3), .v (.mov (.c (.bool false))), none⟩])
                .ret)
               .skip))
             (.reg [⟨(some 21), .v (.mov (.t 4)), none⟩, ⟨(some 22), .v (.mov (.t 5)), none⟩, ⟨(some 23), .v (.bin .add (.t 22) (.c (.int .i64 1))), none⟩, ⟨(some 24), .v (.mov (.t 0)), none⟩, ⟨(some 25), .v (.mov (.t 5)), none⟩, ⟨(some 26), .v (.sidx (.t 24) (.t 25)), none⟩, ⟨(some 27), .v (.conv .i64 (.t 26)), none⟩, ⟨(some 28), .v (.bin .mul (.t 23) (.t 27)), none⟩, ⟨(some 29), .v (.bin .add (.t 21) (.t 28)), none⟩, ⟨(some 30), .v (.bin .rem (.t 29) (.c (.int .i64 65521))), none⟩, ⟨(some 4), .v (.mov (.t 30)), none⟩]))))
          (.reg [⟨(some 31), .v (.bin .add (.t 8) (.c (.int .i64 1))), none⟩, ⟨(some 8), .v (.mov (.t 31)), none⟩])))))))
    (.seq
     (.seq
      (.reg [⟨(some 32), .v (.mov (.t 0)), none⟩, ⟨(some 33), .v (.lens (.t 32)), none⟩, ⟨(some 34), .v (.bin .gtr (.t 33) (.c (.int .i64 6000))), none⟩])
      (.cond (.t 34)
       (.seq
        (.reg [⟨(some 2), .v (.mov (.c (.str []))), none⟩, ⟨(some 3), .v (.mov (.c (.bool false))), none⟩])
        .ret)
       .skip))
     (.seq
      (.reg [⟨(some 35), .v (.mov (.t 0)), none⟩, ⟨(some 36), .v (.bin .add (.t 35) (.c (.str [126]))), none⟩, ⟨(some 37), .v (.mov (.t 4)), none⟩, ⟨(some 38), .call 32 [(.t 37)], none⟩, ⟨(some 39), .v (.bin .add (.t 36) (.t 38)), none⟩, ⟨(some 2), .v (.mov (.t 39)), none⟩, ⟨(some 3), .v (.mov (.c (.bool true))), none⟩])
      .ret)))))⟩
theorem e10 : rFunc Tryd.prog Tryd.f10 = some r10 := by kernel_rfl
def r30 : RFunc := ⟨23, [.t 2],
 (.seq
  (.reg [⟨(some 2), .v (.mov (.c (.bool false))), none⟩])
  (.seq
   (.seq
    (.reg [⟨(some 3), .v (.mov (.c (.int .i64 0))), none⟩])
    (.block 0
     (.loop
      (.seq
       (.seq
        (.reg [⟨(some 4), .v (.mov (.t 3)), none⟩, ⟨(some 5), .v (.mov (.t 0)), none⟩, ⟨(some 6), .v (.lens (.t 5)), none⟩, ⟨(some 7), .v (.bin .lss (.t 4) (.t 6)), none⟩])
        (.cond (.t 7)
         .skip
         (.exit 0)))
       (.seq
        (.block 1
         (.seq
          (.reg [⟨(some 10), .v (.mov (.t 0)), none⟩, ⟨(some 11), .v (.mov (.t 3)), none⟩, ⟨(some 12), .v (.sidx (.t 10) (.t 11)), none⟩, ⟨(some 13), .v (.bin .lss (.t 12) (.c (.int .u8 32))), none⟩, ⟨(some 14), .v (.mov (.t 13)), none⟩, ⟨(some 15), .v (.mov (.t 0)), (some (14, false))⟩, ⟨(some 16), .v (.mov (.t 3)), (some (14, false))⟩, ⟨(some 17), .v (.sidx (.t 15) (.t 16)), (some (14, false))⟩, ⟨(some 18), .v (.bin .gtr (.t 17) (.c (.int .u8 125))), (some (14, false))⟩, ⟨(some 19), .v (.pick (.t 14) (.c (.bool true)) (.t 18)), none⟩])
          (.cond (.t 19)
           (.seq
            (.reg [⟨(some 2), .v (.mov (.c (.bool false))), none⟩])
            .ret)
           .skip)))
        (.reg [⟨(some 8), .v (.mov (.t 3)), none⟩, ⟨(some 9), .v (.bin .add (.t 8) (.c (.int .i64 1))), none⟩, ⟨(some 3), .v (.mov (.t 9)), none⟩]))))))
   (.seq
    (.reg [⟨(some 20), .v (.mov (.t 0)), none⟩, ⟨(some 21), .v (.lens (.t 20)), none⟩, ⟨(some 22), .v (.bin .leq (.t 21) (.c (.int .i64 6000))), none⟩, ⟨(some 2), .v (.mov (.t 22)), none⟩])
    .ret)))⟩
theorem e30 : rFunc Tryd.prog Tryd.f30 = some r30 := by kernel_rfl
def r38 : RFunc := ⟨20, [.t 2],
 (.seq
  (.reg [⟨(some 2), .v (.mov (.c (.str []))), none⟩])
  (.seq
   (.seq
    (.reg [⟨(some 3), .v (.mov (.t 0)), none⟩, ⟨(some 4), .v (.bin .lss (.t 3) (.c (.int .i64 10))), none⟩])
    (.cond (.t 4)
     (.seq
      (.reg [⟨(some 5), .v (.mov (.t 0)), none⟩, ⟨(some 6), .v (.bin .add (.c (.int .i64 48)) (.t 5)), none⟩, ⟨(some 7), .v (.conv .u8 (.t 6)), none⟩, ⟨(some 8), .m (.bsl 1 1 [(.int .u8 0)] [(0, 1, (.t 7))]), none⟩, ⟨(some 9), .v (.cbs (.t 8)), none⟩, ⟨(some 2), .v (.mov (.t 9)), none⟩])
      .ret)
     .skip))
   (.seq
    (.dreg (.fl ⟨(some 10), .v (.mov (.t 0)), none⟩ (.fl ⟨(some 11), .v (.bin .quo (.t 10) (.c (.int .i64 10))), none⟩ (.fl ⟨(some 13), .v (.mov (.t 0)), none⟩ (.fl ⟨(some 14), .v (.bin .rem (.t 13) (.c (.int .i64 10))), none⟩ (.fl ⟨(some 15), .v (.bin .add (.c (.int .i64 48)) (.t 14)), none⟩ (.fl ⟨(some 16), .v (.conv .u8 (.t 15)), none⟩ (.both (.nx ⟨(some 12), .call 38 [(.t 11)], none⟩ (.nx ⟨(some 17), .m (.bsl 1 1 [(.int .u8 0)] [(0, 1, (.t 16))]), none⟩ (.fl ⟨(some 18), .v (.cbs (.t 17)), none⟩ (.fl ⟨(some 19), .v (.bin .add (.t 12) (.t 18)), none⟩ (.fl ⟨(some 2), .v (.mov (.t 19)), none⟩ .done))))) (.nx ⟨(some 17), .m (.bsl 1 1 [(.int .u8 0)] [(0, 1, (.t 16))]), none⟩ (.fl ⟨(some 18), .v (.cbs (.t 17)), none⟩ (.nx ⟨(some 12), .call 38 [(.t 11)], none⟩ (.fl ⟨(some 19), .v (.bin .add (.t 12) (.t 18)), none⟩ (.fl ⟨(some 2), .v (.mov (.t 19)), none⟩ .done)))))))))))))
    .ret)))⟩
theorem e38 : rFunc Tryd.prog Tryd.f38 = some r38 := by kernel_rfl
def r31 : RFunc := ⟨26, [.t 2],
 (.seq
  (.reg [⟨(some 2), .v (.mov (.c (.str []))), none⟩])
  (.seq
   (.reg [⟨(some 3), .v (.mov (.c (.int .i64 0))), none⟩])
   (.seq
    (.seq
     (.reg [⟨(some 4), .v (.mov (.c (.int .i64 0))), none⟩])
     (.block 0
      (.loop
       (.seq
        (.seq
         (.reg [⟨(some 5), .v (.mov (.t 4)), none⟩, ⟨(some 6), .v (.mov (.t 0)), none⟩, ⟨(some 7), .v (.lens (.t 6)), none⟩, ⟨(some 8), .v (.bin .lss (.t 5) (.t 7)), none⟩])
         (.cond (.t 8)
          .skip
          (.exit 0)))
        (.seq
         (.block 1
          (.reg [⟨(some 11), .v (.mov (.t 3)), none⟩, ⟨(some 12), .v (.mov (.t 4)), none⟩, ⟨(some 13), .v (.bin .add (.t 12) (.c (.int .i64 1))), none⟩, ⟨(some 14), .v (.mov (.t 0)), none⟩, ⟨(some 15), .v (.mov (.t 4)), none⟩, ⟨(some 16), .v (.sidx (.t 14) (.t 15)), none⟩, ⟨(some 17), .v (.conv .i64 (.t 16)), none⟩, ⟨(some 18), .v (.bin .mul (.t 13) (.t 17)), none⟩, ⟨(some 19), .v (.bin .add (.t 11) (.t 18)), none⟩, ⟨(some 20), .v (.bin .rem (.t 19) (.c (.int .i64 65521))), none⟩, ⟨(some 3), .v (.mov (.t 20)), none⟩]))
         (.reg [⟨(some 9), .v (.mov (.t 4)), none⟩, ⟨(some 10), .v (.bin .add (.t 9) (.c (.int .i64 1))), none⟩, ⟨(some 4), .v (.mov (.t 10)), none⟩]))))))
    (.seq
     (.reg [⟨(some 21), .v (.mov (.t 0)), none⟩, ⟨(some 22), .v (.bin .add (.t 21) (.c (.str [126]))), none⟩, ⟨(some 23), .v (.mov (.t 3)), none⟩, ⟨(some 24), .call 38 [(.t 23)], none⟩, ⟨(some 25), .v (.bin .add (.t 22) (.t 24)), none⟩, ⟨(some 2), .v (.mov (.t 25)), none⟩])
     .ret))))⟩
theorem e31 : rFunc Tryd.prog Tryd.f31 = some r31 := by kernel_rfl
def r9 : RFunc := ⟨9, [.t 2, .t 3],
 (.seq
  (.reg [⟨(some 2), .v (.mov (.c (.str []))), none⟩, ⟨(some 3), .v (.mov (.c (.bool false))), none⟩])
  (.seq
   (.seq
    (.reg [⟨(some 4), .v (.mov (.t 0)), none⟩, ⟨(some 5), .call 30 [(.t 4)], none⟩, ⟨(some 6), .v (.un .not (.t 5)), none⟩])
    (.cond (.t 6)
     (.seq
      (.reg [⟨(some 2), .v (.mov (.c (.str []))), none⟩, ⟨(some 3), .v (.mov (.c (.bool false))), none⟩])
      .ret)
     .skip))
   (.seq
    (.reg [⟨(some 7), .v (.mov (.t 0)), none⟩, ⟨(some 8), .call 31 [(.t 7)], none⟩, ⟨(some 2), .v (.mov (.t 8)), none⟩, ⟨(some 3), .v (.mov (.c (.bool true))), none⟩])
    .ret)))⟩
theorem e9 : rFunc Tryd.prog Tryd.f9 = some r9 := by kernel_rfl
def r12 : RFunc := ⟨32, [.t 2, .t 3],
 (.seq
  (.reg [⟨(some 2), .v (.mov (.c (.str []))), none⟩, ⟨(some 3), .v (.mov (.c (.bool false))), none⟩])
  (.seq
   (.reg [⟨(some 10), .v (.mov (.t 0)), none⟩, ⟨(some 11), .call 34 [(.t 10), (.c (.str [126]))], none⟩, ⟨(some 9), .v (.mov (.t 11)), none⟩, ⟨(some 12), .v (.ext (.t 9) 0), none⟩, ⟨(some 13), .v (.ext (.t 9) 1), none⟩, ⟨(some 14), .v (.ext (.t 9) 2), none⟩, ⟨(some 4), .v (.mov (.t 12)), none⟩, ⟨(some 5), .v (.mov (.t 13)), none⟩, ⟨(some 6), .v (.mov (.t 14)), none⟩])
   (.seq
    (.reg [⟨(some 16), .v (.mov (.t 4)), none⟩, ⟨(some 17), .call 10 [(.t 16)], none⟩, ⟨(some 15), .v (.mov (.t 17)), none⟩, ⟨(some 18), .v (.ext (.t 15) 0), none⟩, ⟨(some 19), .v (.ext (.t 15) 1), none⟩, ⟨(some 7), .v (.mov (.t 18)), none⟩, ⟨(some 8), .v (.mov (.t 19)), none⟩])
    (.seq
     (.seq
      (.reg [⟨(some 20), .v (.mov (.t 6)), none⟩, ⟨(some 21), .v (.un .not (.t 20)), none⟩, ⟨(some 22), .v (.mov (.t 21)), none⟩, ⟨(some 23), .v (.mov (.t 8)), (some (22, false))⟩, ⟨(some 24), .v (.un .not (.t 23)), (some (22, false))⟩, ⟨(some 25), .v (.pick (.t 22) (.c (.bool true)) (.t 24)), none⟩, ⟨(some 26), .v (.mov (.t 25)), none⟩, ⟨(some 27), .v (.mov (.t 7)), (some (26, false))⟩, ⟨(some 28), .v (.mov (.t 0)), (some (26, false))⟩, ⟨(some 29), .v (.bin .neq (.t 27) (.t 28)), (some (26, false))⟩, ⟨(some 30), .v (.pick (.t 26) (.c (.bool true)) (.t 29)), none⟩])
      (.cond (.t 30)
       (.seq
        (.reg [⟨(some 2), .v (.mov (.c (.str []))), none⟩, ⟨(some 3), .v (.mov (.c (.bool false))), none⟩])
        .ret)
       .skip))
     (.seq
      (.reg [⟨(some 31), .v (.mov (.t 4)), none⟩, ⟨(some 2), .v (.mov (.t 31)), none⟩, ⟨(some 3), .v (.mov (.c (.bool true))), none⟩])
      .ret)))))⟩
theorem e12 : rFunc Tryd.prog Tryd.f12 = some r12 := by kernel_rfl
def r5 : RFunc := ⟨87, [.t 4],
 (.seq
  (.reg [⟨(some 4), .v (.mov (.c (.bool false))), none⟩])
  (.seq
   (.seq
    (.reg [⟨(some 16), .v (.mov (.t 0)), none⟩, ⟨(some 17), .v (.mov (.t 1)), none⟩, ⟨(some 18), .call 13 [(.t 16), (.t 17)], none⟩])
    (.cond (.t 18)
     (.seq
      (.reg [⟨(some 4), .v (.mov (.c (.bool true))), none⟩])
      .ret)
     .skip))
   (.seq
    (.reg [⟨(some 19), .v (.mov (.t 0)), none⟩, ⟨(some 20), .call 14 [(.t 19)], none⟩, ⟨(some 5), .v (.mov (.t 20)), none⟩])
    (.seq
     (.reg [⟨(some 22), .v (.mov (.t 5)), none⟩, ⟨(some 23), .call 10 [(.t 22)], none⟩, ⟨(some 21), .v (.mov (.t 23)), none⟩, ⟨(some 24), .v (.ext (.t 21) 0), none⟩, ⟨(some 25), .v (.ext (.t 21) 1), none⟩, ⟨(some 6), .v (.mov (.t 24)), none⟩, ⟨(some 7), .v (.mov (.t 25)), none⟩])
     (.seq
      (.reg [⟨(some 27), .v (.mov (.t 5)), none⟩, ⟨(some 28), .call 9 [(.t 27)], none⟩, ⟨(some 26), .v (.mov (.t 28)), none⟩, ⟨(some 29), .v (.ext (.t 26) 0), none⟩, ⟨(some 30), .v (.ext (.t 26) 1), none⟩, ⟨(some 8), .v (.mov (.t 29)), none⟩, ⟨(some 9), .v (.mov (.t 30)), none⟩])
      (.seq
       (.seq
        (.reg [⟨(some 31), .v (.mov (.t 7)), none⟩, ⟨(some 32), .v (.mov (.t 9)), none⟩, ⟨(some 33), .v (.beq true (.t 31) (.t 32)), none⟩, ⟨(some 34), .v (.mov (.t 33)), none⟩, ⟨(some 35), .v (.mov (.t 6)), (some (34, false))⟩, ⟨(some 36), .v (.mov (.t 8)), (some (34, false))⟩, ⟨(some 37), .v (.bin .neq (.t 35) (.t 36)), (some (34, false))⟩, ⟨(some 38), .v (.pick (.t 34) (.c (.bool true)) (.t 37)), none⟩])
        (.cond (.t 38)
         (.seq
          (.reg [⟨(some 4), .v (.mov (.c (.bool false))), none⟩])
          .ret)
         .skip))
       (.seq
        (.seq
         (.reg [⟨(some 39), .v (.mov (.t 9)), none⟩, ⟨(some 40), .v (.un .not (.t 39)), none⟩])
         (.cond (.t 40)
          (.seq
           (.reg [⟨(some 4), .v (.mov (.c (.bool true))), none⟩])
           .ret)
          .skip))
        (.seq
         (.reg [⟨(some 42), .v (.mov (.t 6)), none⟩, ⟨(some 43), .call 12 [(.t 42)], none⟩, ⟨(some 41), .v (.mov (.t 43)), none⟩, ⟨(some 44), .v (.ext (.t 41) 0), none⟩, ⟨(some 45), .v (.ext (.t 41) 1), none⟩, ⟨(some 10), .v (.mov (.t 44)), none⟩, ⟨(some 11), .v (.mov (.t 45)), none⟩])
         (.seq
          (.seq
           (.reg [⟨(some 46), .v (.mov (.t 11)), none⟩, ⟨(some 47), .v (.un .not (.t 46)), none⟩, ⟨(some 48), .v (.mov (.t 47)), none⟩, ⟨(some 49), .v (.mov (.t 10)), (some (48, false))⟩, ⟨(some 50), .v (.mov (.t 5)), (some (48, false))⟩, ⟨(some 51), .v (.bin .neq (.t 49) (.t 50)), (some (48, false))⟩, ⟨(some 52), .v (.pick (.t 48) (.c (.bool true)) (.t 51)), none⟩])
           (.cond (.t 52)
            (.seq
             (.reg [⟨(some 4), .v (.mov (.c (.bool false))), none⟩])
             .ret)
            .skip))
          (.seq
           (.reg [⟨(some 53), .v (.mov (.t 1)), none⟩, ⟨(some 54), .v (.len (.t 53)), none⟩, ⟨(some 55), .v (.mov (.t 6)), none⟩, ⟨(some 56), .v (.lens (.t 55)), none⟩, ⟨(some 57), .v (.bin .rem (.t 54) (.t 56)), none⟩, ⟨(some 12), .v (.mov (.t 57)), none⟩])
           (.seq
            (.reg [⟨(some 13), .v (.mov (.c (.int .u8 35))), none⟩])
            (.seq
             (.seq
              (.reg [⟨(some 58), .v (.mov (.t 1)), none⟩, ⟨(some 59), .v (.len (.t 58)), none⟩, ⟨(some 60), .v (.bin .gtr (.t 59) (.c (.int .i64 0))), none⟩])
              (.cond (.t 60)
               (.reg [⟨(some 61), .v (.mov (.t 1)), none⟩, ⟨(some 62), .v (.iaddr 1 (.t 61) (.c (.int .i64 0))), none⟩, ⟨(some 63), .v (.load false 1 (.t 62)), none⟩, ⟨(some 13), .v (.mov (.t 63)), none⟩])
               .skip))
             (.seq
              (.dreg (.fl ⟨(some 65), .v (.mov (.t 6)), none⟩ (.fl ⟨(some 66), .v (.mov (.t 12)), none⟩ (.fl ⟨(some 67), .v (.sstr (.t 65) none (some (.t 66))), none⟩ (.fl ⟨(some 68), .v (.mov (.t 13)), none⟩ (.fl ⟨(some 72), .v (.mov (.t 6)), none⟩ (.fl ⟨(some 73), .v (.mov (.t 12)), none⟩ (.fl ⟨(some 74), .v (.bin .add (.t 73) (.c (.int .i64 1))), none⟩ (.fl ⟨(some 75), .v (.sstr (.t 72) (some (.t 74)) none), none⟩ (.nx ⟨(some 69), .m (.bsl 1 1 [(.int .u8 0)] [(0, 1, (.t 68))]), none⟩ (.fl ⟨(some 70), .v (.cbs (.t 69)), none⟩ (.fl ⟨(some 71), .v (.bin .add (.t 67) (.t 70)), none⟩ (.fl ⟨(some 76), .v (.bin .add (.t 71) (.t 75)), none⟩ (.nx ⟨(some 77), .call 12 [(.t 76)], none⟩ (.fl ⟨(some 64), .v (.mov (.t 77)), none⟩ (.fl ⟨(some 78), .v (.ext (.t 64) 0), none⟩ (.fl ⟨(some 79), .v (.ext (.t 64) 1), none⟩ (.fl ⟨(some 14), .v (.mov (.t 78)), none⟩ (.fl ⟨(some 15), .v (.mov (.t 79)), none⟩ .done)))))))))))))))))))
              (.seq
               (.reg [⟨(some 80), .v (.mov (.t 15)), none⟩, ⟨(some 81), .v (.mov (.t 13)), none⟩, ⟨(some 82), .v (.mov (.t 6)), none⟩, ⟨(some 83), .v (.mov (.t 12)), none⟩, ⟨(some 84), .v (.sidx (.t 82) (.t 83)), none⟩, ⟨(some 85), .v (.bin .eql (.t 81) (.t 84)), none⟩, ⟨(some 86), .v (.beq false (.t 80) (.t 85)), none⟩, ⟨(some 4), .v (.mov (.t 86)), none⟩])
               .ret))))))))))))))⟩
theorem e5 : rFunc Tryd.prog Tryd.f5 = some r5 := by kernel_rfl
end Go.Proofs.YtdioanhigobpcaaDoor.M
