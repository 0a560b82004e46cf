/-
  The resolved text of the functions, each tied to the program's own by the kernel.
-/
import Derived.Test.YtjfgmimgmapeeaaGreatProg
import Derived.Test.YtjfgmimgmapeeaaGreatM19
namespace Go.Proofs.YtjfgmimgmapeeaaGreat.M
open Go Go.RowKit
set_option maxRecDepth 100000

def r57 : RFunc := ⟨15, [.t 6],
 (.seq
  (.reg [⟨(some 6), .v (.mov (.c (.bool false))), none⟩])
  (.seq
   (.reg [⟨(some 7), .v (.mov (.t 0)), none⟩, ⟨(some 8), .v (.mov (.t 1)), none⟩, ⟨(some 9), .v (.bin .geq (.t 7) (.t 8)), none⟩, ⟨(some 10), .v (.mov (.t 9)), none⟩, ⟨(some 11), .v (.mov (.t 0)), (some (10, true))⟩, ⟨(some 12), .v (.mov (.t 2)), (some (10, true))⟩, ⟨(some 13), .v (.bin .leq (.t 11) (.t 12)), (some (10, true))⟩, ⟨(some 14), .v (.pick (.t 10) (.t 13) (.c (.bool false))), none⟩, ⟨(some 6), .v (.mov (.t 14)), none⟩])
   .ret))⟩
theorem e57 : rFunc Tryz.prog Tryz.f57 = some r57 := by kernel_rfl
def r75 : RFunc := ⟨23, [.t 2],
 (.seq
  (.reg [⟨(some 2), .v (.mov (.c (.bool false))), none⟩])
  (.seq
   (.seq
    (.reg [⟨(some 3), .v (.mov (.c (.int .i64 0))), none⟩])
    (.block 0
     (.loop
      (.seq
       (.seq
        (.reg [⟨(some 4), .v (.mov (.t 3)), none⟩, ⟨(some 5), .v (.mov (.t 0)), none⟩, ⟨(some 6), .v (.lens (.t 5)), none⟩, ⟨(some 7), .v (.bin .lss (.t 4) (.t 6)), none⟩])
        (.cond (.t 7)
         .skip
         (.exit 0)))
       (.seq
        (.block 1
         (.seq
          (.reg [⟨(some 10), .v (.mov (.t 0)), none⟩, ⟨(some 11), .v (.mov (.t 3)), none⟩, ⟨(some 12), .v (.sidx (.t 10) (.t 11)), none⟩, ⟨(some 13), .v (.bin .lss (.t 12) (.c (.int .u8 33))), none⟩, ⟨(some 14), .v (.mov (.t 13)), none⟩, ⟨(some 15), .v (.mov (.t 0)), (some (14, false))⟩, ⟨(some 16), .v (.mov (.t 3)), (some (14, false))⟩, ⟨(some 17), .v (.sidx (.t 15) (.t 16)), (some (14, false))⟩, ⟨(some 18), .v (.bin .gtr (.t 17) (.c (.int .u8 125))), (some (14, false))⟩, ⟨(some 19), .v (.pick (.t 14) (.c (.bool true)) (.t 18)), none⟩])
          (.cond (.t 19)
           (.seq
            (.reg [⟨(some 2), .v (.mov (.c (.bool false))), none⟩])
            .ret)
           .skip)))
        (.reg [⟨(some 8), .v (.mov (.t 3)), none⟩, ⟨(some 9), .v (.bin .add (.t 8) (.c (.int .i64 1))), none⟩, ⟨(some 3), .v (.mov (.t 9)), none⟩]))))))
   (.seq
    (.reg [⟨(some 20), .v (.mov (.t 0)), none⟩, ⟨(some 21), .v (.lens (.t 20)), none⟩, ⟨(some 22), .call 57 [(.t 21), (.c (.int .i64 1)), (.c (.int .i64 12))], none⟩, ⟨(some 2), .v (.mov (.t 22)), none⟩])
    .ret)))⟩
theorem e75 : rFunc Tryz.prog Tryz.f75 = some r75 := by kernel_rfl
def r56 : RFunc := ⟨32, [.t 2],
 (.seq
  (.reg [⟨(some 2), .v (.mov (.c (.bool false))), none⟩])
  (.seq
   (.seq
    (.reg [⟨(some 5), .v (.mov (.t 0)), none⟩, ⟨(some 6), .v (.len (.t 5)), none⟩, ⟨(some 7), .v (.mov (.c (.int .i64 0))), none⟩])
    (.block 0
     (.loop
      (.seq
       (.reg [⟨(some 8), .v (.bin .lss (.t 7) (.t 6)), none⟩])
       (.seq
        (.cond (.t 8)
         .skip
         (.exit 0))
        (.seq
         (.block 1
          (.seq
           (.reg [⟨(some 9), .v (.mov (.t 7)), none⟩, ⟨(some 10), .v (.iaddr 1 (.t 5) (.t 7)), none⟩, ⟨(some 11), .v (.load false 1 (.t 10)), none⟩, ⟨(some 3), .v (.mov (.t 9)), none⟩, ⟨(some 4), .v (.mov (.t 11)), none⟩])
           (.seq
            (.reg [⟨(some 12), .v (.mov (.t 4)), none⟩, ⟨(some 13), .call 75 [(.t 12)], none⟩, ⟨(some 14), .v (.un .not (.t 13)), none⟩, ⟨(some 15), .v (.mov (.t 14)), none⟩, ⟨(some 16), .v (.mov (.t 3)), (some (15, false))⟩, ⟨(some 17), .v (.bin .gtr (.t 16) (.c (.int .i64 0))), (some (15, false))⟩, ⟨(some 18), .v (.mov (.t 17)), (some (15, false))⟩, ⟨(some 19), .v (.mov (.t 0)), (some (18, true))⟩, ⟨(some 20), .v (.mov (.t 3)), (some (18, true))⟩, ⟨(some 21), .v (.bin .sub (.t 20) (.c (.int .i64 1))), (some (18, true))⟩, ⟨(some 22), .v (.iaddr 1 (.t 19) (.t 21)), (some (18, true))⟩, ⟨(some 23), .v (.load false 1 (.t 22)), (some (18, true))⟩, ⟨(some 24), .v (.mov (.t 4)), (some (18, true))⟩, ⟨(some 25), .v (.bin .geq (.t 23) (.t 24)), (some (18, true))⟩, ⟨(some 26), .v (.pick (.t 18) (.t 25) (.c (.bool false))), (some (15, false))⟩, ⟨(some 27), .v (.pick (.t 15) (.c (.bool true)) (.t 26)), none⟩])
            (.cond (.t 27)
             (.seq
              (.reg [⟨(some 2), .v (.mov (.c (.bool false))), none⟩])
              .ret)
             .skip))))
         (.reg [⟨(some 28), .v (.bin .add (.t 7) (.c (.int .i64 1))), none⟩, ⟨(some 7), .v (.mov (.t 28)), none⟩])))))))
   (.seq
    (.reg [⟨(some 29), .v (.mov (.t 0)), none⟩, ⟨(some 30), .v (.len (.t 29)), none⟩, ⟨(some 31), .v (.bin .leq (.t 30) (.c (.int .i64 40))), none⟩, ⟨(some 2), .v (.mov (.t 31)), none⟩])
    .ret)))⟩
theorem e56 : rFunc Tryz.prog Tryz.f56 = some r56 := by kernel_rfl
def r63 : RFunc := ⟨15, [.t 6],
 (.seq
  (.reg [⟨(some 6), .v (.mov (.c (.bool false))), none⟩])
  (.seq
   (.reg [⟨(some 7), .v (.mov (.t 0)), none⟩, ⟨(some 8), .v (.mov (.t 1)), none⟩, ⟨(some 9), .v (.bin .geq (.t 7) (.t 8)), none⟩, ⟨(some 10), .v (.mov (.t 9)), none⟩, ⟨(some 11), .v (.mov (.t 0)), (some (10, true))⟩, ⟨(some 12), .v (.mov (.t 2)), (some (10, true))⟩, ⟨(some 13), .v (.bin .leq (.t 11) (.t 12)), (some (10, true))⟩, ⟨(some 14), .v (.pick (.t 10) (.t 13) (.c (.bool false))), none⟩, ⟨(some 6), .v (.mov (.t 14)), none⟩])
   .ret))⟩
theorem e63 : rFunc Tryz.prog Tryz.f63 = some r63 := by kernel_rfl
def r74 : RFunc := ⟨23, [.t 2],
 (.seq
  (.reg [⟨(some 2), .v (.mov (.c (.bool false))), none⟩])
  (.seq
   (.seq
    (.reg [⟨(some 4), .v (.mov (.t 0)), none⟩, ⟨(some 5), .v (.lens (.t 4)), none⟩, ⟨(some 6), .v (.mov (.c (.int .i64 0))), none⟩])
    (.block 0
     (.loop
      (.seq
       (.reg [⟨(some 7), .v (.bin .lss (.t 6) (.t 5)), none⟩])
       (.seq
        (.cond (.t 7)
         .skip
         (.exit 0))
        (.seq
         (.block 1
          (.seq
           (.reg [⟨(some 8), .v (.mov (.t 6)), none⟩, ⟨(some 3), .v (.mov (.t 8)), none⟩])
           (.seq
            (.reg [⟨(some 9), .v (.mov (.t 0)), none⟩, ⟨(some 10), .v (.mov (.t 3)), none⟩, ⟨(some 11), .v (.sidx (.t 9) (.t 10)), none⟩, ⟨(some 12), .v (.bin .lss (.t 11) (.c (.int .u8 33))), none⟩, ⟨(some 13), .v (.mov (.t 12)), none⟩, ⟨(some 14), .v (.mov (.t 0)), (some (13, false))⟩, ⟨(some 15), .v (.mov (.t 3)), (some (13, false))⟩, ⟨(some 16), .v (.sidx (.t 14) (.t 15)), (some (13, false))⟩, ⟨(some 17), .v (.bin .gtr (.t 16) (.c (.int .u8 125))), (some (13, false))⟩, ⟨(some 18), .v (.pick (.t 13) (.c (.bool true)) (.t 17)), none⟩])
            (.cond (.t 18)
             (.seq
              (.reg [⟨(some 2), .v (.mov (.c (.bool false))), none⟩])
              .ret)
             .skip))))
         (.reg [⟨(some 19), .v (.bin .add (.t 6) (.c (.int .i64 1))), none⟩, ⟨(some 6), .v (.mov (.t 19)), none⟩])))))))
   (.seq
    (.reg [⟨(some 20), .v (.mov (.t 0)), none⟩, ⟨(some 21), .v (.lens (.t 20)), none⟩, ⟨(some 22), .call 63 [(.t 21), (.c (.int .i64 1)), (.c (.int .i64 12))], none⟩, ⟨(some 2), .v (.mov (.t 22)), none⟩])
    .ret)))⟩
theorem e74 : rFunc Tryz.prog Tryz.f74 = some r74 := by kernel_rfl
def r62 : RFunc := ⟨32, [.t 2],
 (.seq
  (.reg [⟨(some 2), .v (.mov (.c (.bool false))), none⟩])
  (.seq
   (.seq
    (.reg [⟨(some 5), .v (.mov (.t 0)), none⟩, ⟨(some 6), .v (.len (.t 5)), none⟩, ⟨(some 7), .v (.mov (.c (.int .i64 0))), none⟩])
    (.block 0
     (.loop
      (.seq
       (.reg [⟨(some 8), .v (.bin .lss (.t 7) (.t 6)), none⟩])
       (.seq
        (.cond (.t 8)
         .skip
         (.exit 0))
        (.seq
         (.block 1
          (.seq
           (.reg [⟨(some 9), .v (.mov (.t 7)), none⟩, ⟨(some 10), .v (.iaddr 1 (.t 5) (.t 7)), none⟩, ⟨(some 11), .v (.load false 1 (.t 10)), none⟩, ⟨(some 3), .v (.mov (.t 9)), none⟩, ⟨(some 4), .v (.mov (.t 11)), none⟩])
           (.seq
            (.reg [⟨(some 12), .v (.mov (.t 4)), none⟩, ⟨(some 13), .call 74 [(.t 12)], none⟩, ⟨(some 14), .v (.un .not (.t 13)), none⟩, ⟨(some 15), .v (.mov (.t 14)), none⟩, ⟨(some 16), .v (.mov (.t 3)), (some (15, false))⟩, ⟨(some 17), .v (.bin .gtr (.t 16) (.c (.int .i64 0))), (some (15, false))⟩, ⟨(some 18), .v (.mov (.t 17)), (some (15, false))⟩, ⟨(some 19), .v (.mov (.t 0)), (some (18, true))⟩, ⟨(some 20), .v (.mov (.t 3)), (some (18, true))⟩, ⟨(some 21), .v (.bin .sub (.t 20) (.c (.int .i64 1))), (some (18, true))⟩, ⟨(some 22), .v (.iaddr 1 (.t 19) (.t 21)), (some (18, true))⟩, ⟨(some 23), .v (.load false 1 (.t 22)), (some (18, true))⟩, ⟨(some 24), .v (.mov (.t 4)), (some (18, true))⟩, ⟨(some 25), .v (.bin .geq (.t 23) (.t 24)), (some (18, true))⟩, ⟨(some 26), .v (.pick (.t 18) (.t 25) (.c (.bool false))), (some (15, false))⟩, ⟨(some 27), .v (.pick (.t 15) (.c (.bool true)) (.t 26)), none⟩])
            (.cond (.t 27)
             (.seq
              (.reg [⟨(some 2), .v (.mov (.c (.bool false))), none⟩])
              .ret)
             .skip))))
         (.reg [⟨(some 28), .v (.bin .add (.t 7) (.c (.int .i64 1))), none⟩, ⟨(some 7), .v (.mov (.t 28)), none⟩])))))))
   (.seq
    (.reg [⟨(some 29), .v (.mov (.t 0)), none⟩, ⟨(some 30), .v (.len (.t 29)), none⟩, ⟨(some 31), .v (.bin .leq (.t 30) (.c (.int .i64 40))), none⟩, ⟨(some 2), .v (.mov (.t 31)), none⟩])
    .ret)))⟩
theorem e62 : rFunc Tryz.prog Tryz.f62 = some r62 := by kernel_rfl
def r186 : RFunc := ⟨50, [.t 6],
 (.seq
  (.reg [⟨(some 6), .v (.mov (.c (.int .i64 0))), none⟩])
  (.seq
   (.reg [⟨(some 11), .v (.mov (.t 0)), none⟩, ⟨(some 12), .v (.bin .mul (.c (.int .i64 31)) (.t 11)), none⟩, ⟨(some 13), .v (.mov (.t 1)), none⟩, ⟨(some 14), .v (.bin .mul (.c (.int .i64 977)) (.t 13)), none⟩, ⟨(some 15), .v (.bin .add (.t 12) (.t 14)), none⟩, ⟨(some 16), .v (.bin .add (.t 15) (.c (.int .i64 7))), none⟩, ⟨(some 17), .v (.bin .rem (.t 16) (.c (.int .i64 65521))), none⟩, ⟨(some 7), .v (.mov (.t 17)), none⟩])
   (.seq
    (.seq
     (.reg [⟨(some 8), .v (.mov (.c (.int .i64 0))), none⟩])
     (.block 0
      (.loop
       (.seq
        (.seq
         (.reg [⟨(some 18), .v (.mov (.t 8)), none⟩, ⟨(some 19), .v (.mov (.t 2)), none⟩, ⟨(some 20), .v (.lens (.t 19)), none⟩, ⟨(some 21), .v (.bin .lss (.t 18) (.t 20)), none⟩])
         (.cond (.t 21)
          .skip
          (.exit 0)))
        (.seq
         (.block 1
          (.reg [⟨(some 24), .v (.mov (.t 7)), none⟩, ⟨(some 25), .v (.bin .mul (.c (.int .i64 263)) (.t 24)), none⟩, ⟨(some 26), .v (.mov (.t 2)), none⟩, ⟨(some 27), .v (.mov (.t 8)), none⟩, ⟨(some 28), .v (.sidx (.t 26) (.t 27)), none⟩, ⟨(some 29), .v (.conv .i64 (.t 28)), none⟩, ⟨(some 30), .v (.bin .add (.t 25) (.t 29)), none⟩, ⟨(some 31), .v (.bin .rem (.t 30) (.c (.int .i64 65521))), none⟩, ⟨(some 7), .v (.mov (.t 31)), none⟩]))
         (.reg [⟨(some 22), .v (.mov (.t 8)), none⟩, ⟨(some 23), .v (.bin .add (.t 22) (.c (.int .i64 1))), none⟩, ⟨(some 8), .v (.mov (.t 23)), none⟩]))))))
    (.seq
     (.reg [⟨(some 32), .v (.mov (.t 7)), none⟩, ⟨(some 33), .v (.mov (.t 7)), none⟩, ⟨(some 34), .v (.bin .mul (.t 32) (.t 33)), none⟩, ⟨(some 35), .v (.bin .rem (.t 34) (.c (.int .i64 65521))), none⟩, ⟨(some 9), .v (.mov (.t 35)), none⟩])
     (.seq
      (.reg [⟨(some 36), .v (.mov (.t 9)), none⟩, ⟨(some 37), .v (.mov (.t 9)), none⟩, ⟨(some 38), .v (.bin .mul (.t 36) (.t 37)), none⟩, ⟨(some 39), .v (.bin .rem (.t 38) (.c (.int .i64 65521))), none⟩, ⟨(some 40), .v (.mov (.t 7)), none⟩, ⟨(some 41), .v (.bin .mul (.t 39) (.t 40)), none⟩, ⟨(some 42), .v (.bin .rem (.t 41) (.c (.int .i64 65521))), none⟩, ⟨(some 10), .v (.mov (.t 42)), none⟩])
      (.seq
       (.reg [⟨(some 43), .v (.mov (.t 10)), none⟩, ⟨(some 44), .v (.mov (.t 10)), none⟩, ⟨(some 45), .v (.bin .mul (.t 43) (.t 44)), none⟩, ⟨(some 46), .v (.bin .rem (.t 45) (.c (.int .i64 65521))), none⟩, ⟨(some 47), .v (.mov (.t 7)), none⟩, ⟨(some 48), .v (.bin .mul (.t 46) (.t 47)), none⟩, ⟨(some 49), .v (.bin .rem (.t 48) (.c (.int .i64 65521))), none⟩, ⟨(some 6), .v (.mov (.t 49)), none⟩])
       .ret))))))⟩
theorem e186 : rFunc Tryz.prog Tryz.f186 = some r186 := by kernel_rfl
def r165 : RFunc := ⟨16, [.t 8],
 (.seq
  (.reg [⟨(some 8), .v (.mov (.c (.int .i64 0))), none⟩])
  (.seq
   (.reg [⟨(some 9), .v (.mov (.t 0)), none⟩, ⟨(some 10), .v (.mov (.t 1)), none⟩, ⟨(some 11), .v (.mov (.t 2)), none⟩, ⟨(some 12), .call 186 [(.t 9), (.t 10), (.t 11)], none⟩, ⟨(some 13), .v (.mov (.t 3)), none⟩, ⟨(some 14), .v (.bin .mul (.t 12) (.t 13)), none⟩, ⟨(some 15), .v (.bin .quo (.t 14) (.c (.int .i64 65521))), none⟩, ⟨(some 8), .v (.mov (.t 15)), none⟩])
   .ret))⟩
theorem e165 : rFunc Tryz.prog Tryz.f165 = some r165 := by kernel_rfl
def r127 : RFunc := ⟨26, [.t 6],
 (.seq
  (.reg [⟨(some 6), .v (.mov (.c .nils)), none⟩])
  (.seq
   (.reg [⟨(some 7), .v (.mov (.c .nils)), none⟩])
   (.seq
    (.seq
     (.reg [⟨(some 8), .v (.mov (.c (.int .i64 0))), none⟩])
     (.block 0
      (.loop
       (.seq
        (.seq
         (.reg [⟨(some 9), .v (.mov (.t 8)), none⟩, ⟨(some 10), .v (.bin .lss (.t 9) (.c (.int .i64 3))), none⟩])
         (.cond (.t 10)
          .skip
          (.exit 0)))
        (.seq
         (.block 1
          (.reg [⟨(some 13), .v (.mov (.t 7)), none⟩, ⟨(some 14), .v (.mov (.t 0)), none⟩, ⟨(some 15), .v (.mov (.t 8)), none⟩, ⟨(some 16), .v (.mov (.t 1)), none⟩, ⟨(some 17), .v (.mov (.t 2)), none⟩, ⟨(some 18), .call 165 [(.t 14), (.t 15), (.t 16), (.t 17)], none⟩, ⟨(some 19), .v (.mov (.t 8)), none⟩, ⟨(some 20), .v (.mov (.t 2)), none⟩, ⟨(some 21), .v (.bin .mul (.t 19) (.t 20)), none⟩, ⟨(some 22), .v (.bin .add (.t 18) (.t 21)), none⟩, ⟨(some 23), .m (.bsl 1 1 [(.int .i64 0)] [(0, 1, (.t 22))]), none⟩, ⟨(some 24), .m (.app false 1 8 (.t 13) (.t 23)), none⟩, ⟨(some 7), .v (.mov (.t 24)), none⟩]))
         (.reg [⟨(some 11), .v (.mov (.t 8)), none⟩, ⟨(some 12), .v (.bin .add (.t 11) (.c (.int .i64 1))), none⟩, ⟨(some 8), .v (.mov (.t 12)), none⟩]))))))
    (.seq
     (.reg [⟨(some 25), .v (.mov (.t 7)), none⟩, ⟨(some 6), .v (.mov (.t 25)), none⟩])
     .ret))))⟩
theorem e127 : rFunc Tryz.prog Tryz.f127 = some r127 := by kernel_rfl
def r188 : RFunc := ⟨39, [.t 6],
 (.seq
  (.reg [⟨(some 6), .v (.mov (.c (.int .i64 0))), none⟩])
  (.seq
   (.reg [⟨(some 10), .v (.mov (.t 0)), none⟩, ⟨(some 11), .v (.bin .mul (.c (.int .i64 31)) (.t 10)), none⟩, ⟨(some 12), .v (.mov (.t 1)), none⟩, ⟨(some 13), .v (.bin .mul (.c (.int .i64 977)) (.t 12)), none⟩, ⟨(some 14), .v (.bin .add (.t 11) (.t 13)), none⟩, ⟨(some 15), .v (.bin .add (.t 14) (.c (.int .i64 7))), none⟩, ⟨(some 16), .v (.bin .rem (.t 15) (.c (.int .i64 65521))), none⟩, ⟨(some 7), .v (.mov (.t 16)), none⟩])
   (.seq
    (.seq
     (.reg [⟨(some 17), .v (.mov (.t 2)), none⟩, ⟨(some 18), .v (.lens (.t 17)), none⟩, ⟨(some 19), .v (.mov (.c (.int .i64 0))), none⟩])
     (.block 0
      (.loop
       (.seq
        (.reg [⟨(some 20), .v (.bin .lss (.t 19) (.t 18)), none⟩])
        (.seq
         (.cond (.t 20)
          .skip
          (.exit 0))
         (.seq
          (.block 1
           (.seq
            (.reg [⟨(some 21), .v (.mov (.t 19)), none⟩, ⟨(some 8), .v (.mov (.t 21)), none⟩])
            (.reg [⟨(some 22), .v (.mov (.t 7)), none⟩, ⟨(some 23), .v (.bin .mul (.c (.int .i64 263)) (.t 22)), none⟩, ⟨(some 24), .v (.mov (.t 2)), none⟩, ⟨(some 25), .v (.mov (.t 8)), none⟩, ⟨(some 26), .v (.sidx (.t 24) (.t 25)), none⟩, ⟨(some 27), .v (.conv .i64 (.t 26)), none⟩, ⟨(some 28), .v (.bin .add (.t 23) (.t 27)), none⟩, ⟨(some 29), .v (.bin .rem (.t 28) (.c (.int .i64 65521))), none⟩, ⟨(some 7), .v (.mov (.t 29)), none⟩])))
          (.reg [⟨(some 30), .v (.bin .add (.t 19) (.c (.int .i64 1))), none⟩, ⟨(some 19), .v (.mov (.t 30)), none⟩])))))))
    (.seq
     (.reg [⟨(some 9), .v (.mov (.c (.int .i64 1))), none⟩])
     (.seq
      (.seq
       (.reg [⟨(some 31), .v (.mov (.c (.int .i64 0))), none⟩])
       (.block 2
        (.loop
         (.seq
          (.reg [⟨(some 32), .v (.bin .lss (.t 31) (.c (.int .i64 11))), none⟩])
          (.seq
           (.cond (.t 32)
            .skip
            (.exit 2))
           (.seq
            (.block 3
             (.reg [⟨(some 33), .v (.mov (.t 9)), none⟩, ⟨(some 34), .v (.mov (.t 7)), none⟩, ⟨(some 35), .v (.bin .mul (.t 33) (.t 34)), none⟩, ⟨(some 36), .v (.bin .rem (.t 35) (.c (.int .i64 65521))), none⟩, ⟨(some 9), .v (.mov (.t 36)), none⟩]))
            (.reg [⟨(some 37), .v (.bin .add (.t 31) (.c (.int .i64 1))), none⟩, ⟨(some 31), .v (.mov (.t 37)), none⟩])))))))
      (.seq
       (.reg [⟨(some 38), .v (.mov (.t 9)), none⟩, ⟨(some 6), .v (.mov (.t 38)), none⟩])
       .ret))))))⟩
theorem e188 : rFunc Tryz.prog Tryz.f188 = some r188 := by kernel_rfl
def r167 : RFunc := ⟨16, [.t 8],
 (.seq
  (.reg [⟨(some 8), .v (.mov (.c (.int .i64 0))), none⟩])
  (.seq
   (.reg [⟨(some 9), .v (.mov (.t 0)), none⟩, ⟨(some 10), .v (.mov (.t 1)), none⟩, ⟨(some 11), .v (.mov (.t 2)), none⟩, ⟨(some 12), .call 188 [(.t 9), (.t 10), (.t 11)], none⟩, ⟨(some 13), .v (.mov (.t 3)), none⟩, ⟨(some 14), .v (.bin .mul (.t 12) (.t 13)), none⟩, ⟨(some 15), .v (.bin .quo (.t 14) (.c (.int .i64 65521))), none⟩, ⟨(some 8), .v (.mov (.t 15)), none⟩])
   .ret))⟩
theorem e167 : rFunc Tryz.prog Tryz.f167 = some r167 := by kernel_rfl
def r129 : RFunc := ⟨27, [.t 6],
 (.seq
  (.reg [⟨(some 6), .v (.mov (.c .nils)), none⟩])
  (.seq
   (.reg [⟨(some 9), .m (.bsl 1 0 [(.int .i64 0)] []), none⟩, ⟨(some 7), .v (.mov (.t 9)), none⟩])
   (.seq
    (.seq
     (.reg [⟨(some 10), .v (.mov (.c (.int .i64 0))), none⟩])
     (.block 0
      (.loop
       (.seq
        (.reg [⟨(some 11), .v (.bin .lss (.t 10) (.c (.int .i64 3))), none⟩])
        (.seq
         (.cond (.t 11)
          .skip
          (.exit 0))
         (.seq
          (.block 1
           (.seq
            (.reg [⟨(some 12), .v (.mov (.t 10)), none⟩, ⟨(some 8), .v (.mov (.t 12)), none⟩])
            (.reg [⟨(some 13), .v (.mov (.t 7)), none⟩, ⟨(some 14), .v (.mov (.t 0)), none⟩, ⟨(some 15), .v (.mov (.t 8)), none⟩, ⟨(some 16), .v (.mov (.t 1)), none⟩, ⟨(some 17), .v (.mov (.t 2)), none⟩, ⟨(some 18), .call 167 [(.t 14), (.t 15), (.t 16), (.t 17)], none⟩, ⟨(some 19), .v (.mov (.t 8)), none⟩, ⟨(some 20), .v (.mov (.t 2)), none⟩, ⟨(some 21), .v (.bin .mul (.t 19) (.t 20)), none⟩, ⟨(some 22), .v (.bin .add (.t 18) (.t 21)), none⟩, ⟨(some 23), .m (.bsl 1 1 [(.int .i64 0)] [(0, 1, (.t 22))]), none⟩, ⟨(some 24), .m (.app false 1 8 (.t 13) (.t 23)), none⟩, ⟨(some 7), .v (.mov (.t 24)), none⟩])))
          (.reg [⟨(some 25), .v (.bin .add (.t 10) (.c (.int .i64 1))), none⟩, ⟨(some 10), .v (.mov (.t 25)), none⟩])))))))
    (.seq
     (.reg [⟨(some 26), .v (.mov (.t 7)), none⟩, ⟨(some 6), .v (.mov (.t 26)), none⟩])
     .ret))))⟩
theorem e129 : rFunc Tryz.prog Tryz.f129 = some r129 := by kernel_rfl
end Go.Proofs.YtjfgmimgmapeeaaGreat.M
