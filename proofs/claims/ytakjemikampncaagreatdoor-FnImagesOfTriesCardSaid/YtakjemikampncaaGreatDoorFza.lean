/-
  The resolved text of the functions, each tied to the program's own by the kernel.
-/
import Derived.Test.YtakjemikampncaaGreatDoorProg
import Derived.Test.YtakjemikampncaaGreatDoorFy
namespace Go.Proofs.YtakjemikampncaaGreatDoor.M
open Go Go.RowKit
attribute [local instance] dqF
set_option maxRecDepth 100000

def r39 : RFunc := ⟨23, [.t 2],
 (.seq
  (.reg [⟨(some 2), .v (.mov (.c (.bool false))), none⟩])
  (.seq
   (.seq
    (.reg [⟨(some 3), .v (.mov (.c (.int .i64 0))), none⟩])
    (.block 0
     (.loop
      (.seq
       (.seq
        (.reg [⟨(some 4), .v (.mov (.t 3)), none⟩, ⟨(some 5), .v (.mov (.t 0)), none⟩, ⟨(some 6), .v (.lens (.t 5)), none⟩, ⟨(some 7), .v (.bin .lss (.t 4) (.t 6)), none⟩])
        (.cond (.t 7)
         .skip
         (.exit 0)))
       (.seq
        (.block 1
         (.seq
          (.reg [⟨(some 10), .v (.mov (.t 0)), none⟩, ⟨(some 11), .v (.mov (.t 3)), none⟩, ⟨(some 12), .v (.sidx (.t 10) (.t 11)), none⟩, ⟨(some 13), .v (.bin .lss (.t 12) (.c (.int .u8 32))), none⟩, ⟨(some 14), .v (.mov (.t 13)), none⟩, ⟨(some 15), .v (.mov (.t 0)), (some (14, false))⟩, ⟨(some 16), .v (.mov (.t 3)), (some (14, false))⟩, ⟨(some 17), .v (.sidx (.t 15) (.t 16)), (some (14, false))⟩, ⟨(some 18), .v (.bin .gtr (.t 17) (.c (.int .u8 125))), (some (14, false))⟩, ⟨(some 19), .v (.pick (.t 14) (.c (.bool true)) (.t 18)), none⟩])
          (.cond (.t 19)
           (.seq
            (.reg [⟨(some 2), .v (.mov (.c (.bool false))), none⟩])
            .ret)
           .skip)))
        (.reg [⟨(some 8), .v (.mov (.t 3)), none⟩, ⟨(some 9), .v (.bin .add (.t 8) (.c (.int .i64 1))), none⟩, ⟨(some 3), .v (.mov (.t 9)), none⟩]))))))
   (.seq
    (.reg [⟨(some 20), .v (.mov (.t 0)), none⟩, ⟨(some 21), .v (.lens (.t 20)), none⟩, ⟨(some 22), .v (.bin .leq (.t 21) (.c (.int .i64 6000))), none⟩, ⟨(some 2), .v (.mov (.t 22)), none⟩])
    .ret)))⟩
theorem e39 : rFunc Tryz.prog Tryz.f39 = some r39 := by kernel_rfl
def r72 : RFunc := ⟨20, [.t 2],
 (.seq
  (.reg [⟨(some 2), .v (.mov (.c (.str []))), none⟩])
  (.seq
   (.seq
    (.reg [⟨(some 3), .v (.mov (.t 0)), none⟩, ⟨(some 4), .v (.bin .lss (.t 3) (.c (.int .i64 10))), none⟩])
    (.cond (.t 4)
     (.seq
      (.reg [⟨(some 5), .v (.mov (.t 0)), none⟩, ⟨(some 6), .v (.bin .add (.c (.int .i64 48)) (.t 5)), none⟩, ⟨(some 7), .v (.conv .u8 (.t 6)), none⟩, ⟨(some 8), .m (.bsl 1 1 [(.int .u8 0)] [(0, 1, (.t 7))]), none⟩, ⟨(some 9), .v (.cbs (.t 8)), none⟩, ⟨(some 2), .v (.mov (.t 9)), none⟩])
      .ret)
     .skip))
   (.seq
    (.dreg (.fl ⟨(some 10), .v (.mov (.t 0)), none⟩ (.fl ⟨(some 11), .v (.bin .quo (.t 10) (.c (.int .i64 10))), none⟩ (.fl ⟨(some 13), .v (.mov (.t 0)), none⟩ (.fl ⟨(some 14), .v (.bin .rem (.t 13) (.c (.int .i64 10))), none⟩ (.fl ⟨(some 15), .v (.bin .add (.c (.int .i64 48)) (.t 14)), none⟩ (.fl ⟨(some 16), .v (.conv .u8 (.t 15)), none⟩ (.both (.nx ⟨(some 12), .call 72 [(.t 11)], none⟩ (.nx ⟨(some 17), .m (.bsl 1 1 [(.int .u8 0)] [(0, 1, (.t 16))]), none⟩ (.fl ⟨(some 18), .v (.cbs (.t 17)), none⟩ (.fl ⟨(some 19), .v (.bin .add (.t 12) (.t 18)), none⟩ (.fl ⟨(some 2), .v (.mov (.t 19)), none⟩ .done))))) (.nx ⟨(some 17), .m (.bsl 1 1 [(.int .u8 0)] [(0, 1, (.t 16))]), none⟩ (.fl ⟨(some 18), .v (.cbs (.t 17)), none⟩ (.nx ⟨(some 12), .call 72 [(.t 11)], none⟩ (.fl ⟨(some 19), .v (.bin .add (.t 12) (.t 18)), none⟩ (.fl ⟨(some 2), .v (.mov (.t 19)), none⟩ .done)))))))))))))
    .ret)))⟩
theorem e72 : rFunc Tryz.prog Tryz.f72 = some r72 := by kernel_rfl
def r40 : RFunc := ⟨26, [.t 2],
 (.seq
  (.reg [⟨(some 2), .v (.mov (.c (.str []))), none⟩])
  (.seq
   (.reg [⟨(some 3), .v (.mov (.c (.int .i64 0))), none⟩])
   (.seq
    (.seq
     (.reg [⟨(some 4), .v (.mov (.c (.int .i64 0))), none⟩])
     (.block 0
      (.loop
       (.seq
        (.seq
         (.reg [⟨(some 5), .v (.mov (.t 4)), none⟩, ⟨(some 6), .v (.mov (.t 0)), none⟩, ⟨(some 7), .v (.lens (.t 6)), none⟩, ⟨(some 8), .v (.bin .lss (.t 5) (.t 7)), none⟩])
         (.cond (.t 8)
          .skip
          (.exit 0)))
        (.seq
         (.block 1
          (.reg [⟨(some 11), .v (.mov (.t 3)), none⟩, ⟨(some 12), .v (.mov (.t 4)), none⟩, ⟨(some 13), .v (.bin .add (.t 12) (.c (.int .i64 1))), none⟩, ⟨(some 14), .v (.mov (.t 0)), none⟩, ⟨(some 15), .v (.mov (.t 4)), none⟩, ⟨(some 16), .v (.sidx (.t 14) (.t 15)), none⟩, ⟨(some 17), .v (.conv .i64 (.t 16)), none⟩, ⟨(some 18), .v (.bin .mul (.t 13) (.t 17)), none⟩, ⟨(some 19), .v (.bin .add (.t 11) (.t 18)), none⟩, ⟨(some 20), .v (.bin .rem (.t 19) (.c (.int .i64 65521))), none⟩, ⟨(some 3), .v (.mov (.t 20)), none⟩]))
         (.reg [⟨(some 9), .v (.mov (.t 4)), none⟩, ⟨(some 10), .v (.bin .add (.t 9) (.c (.int .i64 1))), none⟩, ⟨(some 4), .v (.mov (.t 10)), none⟩]))))))
    (.seq
     (.reg [⟨(some 21), .v (.mov (.t 0)), none⟩, ⟨(some 22), .v (.bin .add (.t 21) (.c (.str [126]))), none⟩, ⟨(some 23), .v (.mov (.t 3)), none⟩, ⟨(some 24), .call 72 [(.t 23)], none⟩, ⟨(some 25), .v (.bin .add (.t 22) (.t 24)), none⟩, ⟨(some 2), .v (.mov (.t 25)), none⟩])
     .ret))))⟩
theorem e40 : rFunc Tryz.prog Tryz.f40 = some r40 := by kernel_rfl
def r20 : RFunc := ⟨38, [.t 2, .t 3],
 (.seq
  (.reg [⟨(some 2), .v (.mov (.c (.str []))), none⟩, ⟨(some 3), .v (.mov (.c (.bool false))), none⟩])
  (.seq
   (.reg [⟨(some 5), .v (.mov (.t 0)), none⟩, ⟨(some 6), .v (.lens (.t 5)), none⟩, ⟨(some 7), .v (.bin .sub (.t 6) (.c (.int .i64 1))), none⟩, ⟨(some 4), .v (.mov (.t 7)), none⟩])
   (.seq
    (.block 0
     (.loop
      (.seq
       (.seq
        (.reg [⟨(some 8), .v (.mov (.t 4)), none⟩, ⟨(some 9), .v (.bin .geq (.t 8) (.c (.int .i64 0))), none⟩, ⟨(some 10), .v (.mov (.t 9)), none⟩, ⟨(some 11), .v (.mov (.t 0)), (some (10, true))⟩, ⟨(some 12), .v (.mov (.t 4)), (some (10, true))⟩, ⟨(some 13), .v (.sidx (.t 11) (.t 12)), (some (10, true))⟩, ⟨(some 14), .v (.bin .neq (.t 13) (.c (.int .u8 126))), (some (10, true))⟩, ⟨(some 15), .v (.pick (.t 10) (.t 14) (.c (.bool false))), none⟩])
        (.cond (.t 15)
         .skip
         (.exit 0)))
       (.block 1
        (.reg [⟨(some 16), .v (.mov (.t 4)), none⟩, ⟨(some 17), .v (.bin .sub (.t 16) (.c (.int .i64 1))), none⟩, ⟨(some 4), .v (.mov (.t 17)), none⟩])))))
    (.seq
     (.seq
      (.reg [⟨(some 18), .v (.mov (.t 4)), none⟩, ⟨(some 19), .v (.bin .lss (.t 18) (.c (.int .i64 0))), none⟩, ⟨(some 20), .v (.mov (.t 19)), none⟩, ⟨(some 21), .v (.mov (.t 0)), (some (20, false))⟩, ⟨(some 22), .v (.mov (.t 4)), (some (20, false))⟩, ⟨(some 23), .v (.sstr (.t 21) none (some (.t 22))), (some (20, false))⟩, ⟨(some 24), .call 39 [(.t 23)], (some (20, false))⟩, ⟨(some 25), .v (.un .not (.t 24)), (some (20, false))⟩, ⟨(some 26), .v (.pick (.t 20) (.c (.bool true)) (.t 25)), none⟩, ⟨(some 27), .v (.mov (.t 26)), none⟩, ⟨(some 28), .v (.mov (.t 0)), (some (27, false))⟩, ⟨(some 29), .v (.mov (.t 4)), (some (27, false))⟩, ⟨(some 30), .v (.sstr (.t 28) none (some (.t 29))), (some (27, false))⟩, ⟨(some 31), .call 40 [(.t 30)], (some (27, false))⟩, ⟨(some 32), .v (.mov (.t 0)), (some (27, false))⟩, ⟨(some 33), .v (.bin .neq (.t 31) (.t 32)), (some (27, false))⟩, ⟨(some 34), .v (.pick (.t 27) (.c (.bool true)) (.t 33)), none⟩])
      (.cond (.t 34)
       (.seq
        (.reg [⟨(some 2), .v (.mov (.c (.str []))), none⟩, ⟨(some 3), .v (.mov (.c (.bool false))), none⟩])
        .ret)
       .skip))
     (.seq
      (.reg [⟨(some 35), .v (.mov (.t 0)), none⟩, ⟨(some 36), .v (.mov (.t 4)), none⟩, ⟨(some 37), .v (.sstr (.t 35) none (some (.t 36))), none⟩, ⟨(some 2), .v (.mov (.t 37)), none⟩, ⟨(some 3), .v (.mov (.c (.bool true))), none⟩])
      .ret)))))⟩
theorem e20 : rFunc Tryz.prog Tryz.f20 = some r20 := by kernel_rfl
def r21 : RFunc := ⟨34, [.t 4],
 (.seq
  (.reg [⟨(some 4), .v (.mov (.c .nils)), none⟩])
  (.seq
   (.reg [⟨(some 5), .v (.mov (.c .nils)), none⟩])
   (.seq
    (.reg [⟨(some 6), .v (.mov (.c (.int .i64 0))), none⟩])
    (.seq
     (.seq
      (.reg [⟨(some 7), .v (.mov (.c (.int .i64 0))), none⟩])
      (.block 0
       (.loop
        (.seq
         (.seq
          (.reg [⟨(some 8), .v (.mov (.t 7)), none⟩, ⟨(some 9), .v (.mov (.t 0)), none⟩, ⟨(some 10), .v (.lens (.t 9)), none⟩, ⟨(some 11), .v (.bin .lss (.t 8) (.t 10)), none⟩])
          (.cond (.t 11)
           .skip
           (.exit 0)))
         (.seq
          (.block 1
           (.seq
            (.reg [⟨(some 14), .v (.mov (.t 0)), none⟩, ⟨(some 15), .v (.mov (.t 7)), none⟩, ⟨(some 16), .v (.sidx (.t 14) (.t 15)), none⟩, ⟨(some 17), .v (.mov (.t 1)), none⟩, ⟨(some 18), .v (.bin .eql (.t 16) (.t 17)), none⟩])
            (.cond (.t 18)
             (.seq
              (.reg [⟨(some 19), .v (.mov (.t 5)), none⟩, ⟨(some 20), .v (.mov (.t 0)), none⟩, ⟨(some 21), .v (.mov (.t 6)), none⟩, ⟨(some 22), .v (.mov (.t 7)), none⟩, ⟨(some 23), .v (.sstr (.t 20) (some (.t 21)) (some (.t 22))), none⟩, ⟨(some 24), .m (.bsl 1 1 [(.str [])] [(0, 1, (.t 23))]), none⟩, ⟨(some 25), .m (.app false 1 16 (.t 19) (.t 24)), none⟩, ⟨(some 5), .v (.mov (.t 25)), none⟩])
              (.reg [⟨(some 26), .v (.mov (.t 7)), none⟩, ⟨(some 27), .v (.bin .add (.t 26) (.c (.int .i64 1))), none⟩, ⟨(some 6), .v (.mov (.t 27)), none⟩]))
             .skip)))
          (.reg [⟨(some 12), .v (.mov (.t 7)), none⟩, ⟨(some 13), .v (.bin .add (.t 12) (.c (.int .i64 1))), none⟩, ⟨(some 7), .v (.mov (.t 13)), none⟩]))))))
     (.seq
      (.reg [⟨(some 28), .v (.mov (.t 5)), none⟩, ⟨(some 29), .v (.mov (.t 0)), none⟩, ⟨(some 30), .v (.mov (.t 6)), none⟩, ⟨(some 31), .v (.sstr (.t 29) (some (.t 30)) none), none⟩, ⟨(some 32), .m (.bsl 1 1 [(.str [])] [(0, 1, (.t 31))]), none⟩, ⟨(some 33), .m (.app false 1 16 (.t 28) (.t 32)), none⟩, ⟨(some 4), .v (.mov (.t 33)), none⟩])
      .ret)))))⟩
theorem e21 : rFunc Tryz.prog Tryz.f21 = some r21 := by kernel_rfl
def r6 : RFunc := ⟨32, [.cell true 5 2, .t 3],
 (.seq
  (.reg [⟨(some 2), .m (.alloc [(.int .i64 0), .nils, (.int .i64 0), .nils, (.str [])]), none⟩, ⟨(some 3), .v (.mov (.c (.bool false))), none⟩])
  (.seq
   (.reg [⟨(some 8), .v (.mov (.t 0)), none⟩, ⟨(some 9), .call 20 [(.t 8)], none⟩, ⟨(some 7), .v (.mov (.t 9)), none⟩, ⟨(some 10), .v (.ext (.t 7) 0), none⟩, ⟨(some 11), .v (.ext (.t 7) 1), none⟩, ⟨(some 4), .v (.mov (.t 10)), none⟩, ⟨(some 5), .v (.mov (.t 11)), none⟩])
   (.seq
    (.reg [⟨(some 12), .v (.mov (.t 4)), none⟩, ⟨(some 13), .call 21 [(.t 12), (.c (.int .u8 32))], none⟩, ⟨(some 6), .v (.mov (.t 13)), none⟩])
    (.seq
     (.seq
      (.reg [⟨(some 14), .v (.mov (.t 5)), none⟩, ⟨(some 15), .v (.un .not (.t 14)), none⟩, ⟨(some 16), .v (.mov (.t 15)), none⟩, ⟨(some 17), .v (.mov (.t 6)), (some (16, false))⟩, ⟨(some 18), .v (.iaddr 1 (.t 17) (.c (.int .i64 0))), (some (16, false))⟩, ⟨(some 19), .v (.load false 1 (.t 18)), (some (16, false))⟩, ⟨(some 20), .v (.bin .neq (.t 19) (.c (.str [116, 114, 105, 101]))), (some (16, false))⟩, ⟨(some 21), .v (.pick (.t 16) (.c (.bool true)) (.t 20)), none⟩, ⟨(some 22), .v (.mov (.t 21)), none⟩, ⟨(some 23), .v (.mov (.t 6)), (some (22, false))⟩, ⟨(some 24), .v (.slc 1 (.t 23) (some (.c (.int .i64 1))) none), (some (22, false))⟩, ⟨(some 25), .call 22 [(.t 24)], (some (22, false))⟩, ⟨(some 26), .v (.un .not (.t 25)), (some (22, false))⟩, ⟨(some 27), .v (.pick (.t 22) (.c (.bool true)) (.t 26)), none⟩])
      (.cond (.t 27)
       (.seq
        (.reg [⟨(some 28), .v (.bld [(.int .i64 0), .nils, (.int .i64 0), .nils, (.str [])] []), none⟩, ⟨none, .m (.store 5 (.t 2) (.t 28)), none⟩, ⟨(some 3), .v (.mov (.c (.bool false))), none⟩])
        .ret)
       .skip))
     (.seq
      (.reg [⟨(some 29), .v (.mov (.t 6)), none⟩, ⟨(some 30), .v (.slc 1 (.t 29) (some (.c (.int .i64 1))) none), none⟩, ⟨(some 31), .call 23 [(.t 30)], none⟩, ⟨none, .m (.store 5 (.t 2) (.t 31)), none⟩, ⟨(some 3), .v (.mov (.c (.bool true))), none⟩])
      .ret)))))⟩
theorem e6 : rFunc Tryz.prog Tryz.f6 = some r6 := by kernel_rfl
def r50 : RFunc := ⟨19, [.t 4],
 (.seq
  (.reg [⟨(some 4), .v (.mov (.c (.int .i64 0))), none⟩])
  (.seq
   (.seq
    (.reg [⟨(some 5), .v (.mov (.c (.int .i64 0))), none⟩])
    (.block 0
     (.loop
      (.seq
       (.seq
        (.reg [⟨(some 6), .v (.mov (.t 5)), none⟩, ⟨(some 7), .v (.mov (.t 0)), none⟩, ⟨(some 8), .v (.len (.t 7)), none⟩, ⟨(some 9), .v (.bin .lss (.t 6) (.t 8)), none⟩])
        (.cond (.t 9)
         .skip
         (.exit 0)))
       (.seq
        (.block 1
         (.seq
          (.reg [⟨(some 12), .v (.mov (.t 0)), none⟩, ⟨(some 13), .v (.mov (.t 5)), none⟩, ⟨(some 14), .v (.mov (.t 1)), none⟩, ⟨(some 15), .v (.iaddr 1 (.t 12) (.t 13)), none⟩, ⟨none, .m (.store 1 (.t 15) (.t 14)), none⟩])
          (.reg [⟨(some 16), .v (.mov (.t 1)), none⟩, ⟨(some 17), .v (.bin .add (.t 16) (.c (.int .i64 1))), none⟩, ⟨(some 1), .v (.mov (.t 17)), none⟩])))
        (.reg [⟨(some 10), .v (.mov (.t 5)), none⟩, ⟨(some 11), .v (.bin .add (.t 10) (.c (.int .i64 1))), none⟩, ⟨(some 5), .v (.mov (.t 11)), none⟩]))))))
   (.seq
    (.reg [⟨(some 18), .v (.mov (.t 1)), none⟩, ⟨(some 4), .v (.mov (.t 18)), none⟩])
    .ret)))⟩
theorem e50 : rFunc Tryz.prog Tryz.f50 = some r50 := by kernel_rfl
def r27 : RFunc := ⟨10, [.t 4],
 (.seq
  (.reg [⟨(some 2), .m (.box (.t 0)), none⟩, ⟨(some 4), .v (.mov (.c (.int .i64 0))), none⟩])
  (.seq
   (.reg [⟨(some 5), .v (.faddr 1 (.t 2)), none⟩, ⟨(some 6), .v (.load false 1 (.t 5)), none⟩, ⟨(some 7), .v (.mov (.t 1)), none⟩, ⟨(some 8), .call 50 [(.t 6), (.t 7)], none⟩, ⟨(some 1), .v (.mov (.t 8)), none⟩])
   (.seq
    (.reg [⟨(some 9), .v (.mov (.t 1)), none⟩, ⟨(some 4), .v (.mov (.t 9)), none⟩])
    .ret)))⟩
theorem e27 : rFunc Tryz.prog Tryz.f27 = some r27 := by kernel_rfl
def r9 : RFunc := ⟨14, [.t 4],
 (.seq
  (.reg [⟨(some 2), .m (.box (.t 0)), none⟩, ⟨(some 4), .v (.mov (.c (.int .i64 0))), none⟩])
  (.seq
   (.reg [⟨(some 5), .v (.faddr 0 (.t 2)), none⟩, ⟨(some 6), .v (.load true 2 (.t 5)), none⟩, ⟨(some 7), .v (.mov (.t 1)), none⟩, ⟨(some 8), .call 27 [(.t 6), (.t 7)], none⟩, ⟨(some 1), .v (.mov (.t 8)), none⟩])
   (.seq
    (.reg [⟨(some 9), .v (.faddr 2 (.t 2)), none⟩, ⟨(some 10), .v (.load true 2 (.t 9)), none⟩, ⟨(some 11), .v (.mov (.t 1)), none⟩, ⟨(some 12), .call 27 [(.t 10), (.t 11)], none⟩, ⟨(some 1), .v (.mov (.t 12)), none⟩])
    (.seq
     (.reg [⟨(some 13), .v (.mov (.t 1)), none⟩, ⟨(some 4), .v (.mov (.t 13)), none⟩])
     .ret))))⟩
theorem e9 : rFunc Tryz.prog Tryz.f9 = some r9 := by kernel_rfl
def r51 : RFunc := ⟨21, [.t 4],
 (.seq
  (.reg [⟨(some 4), .v (.mov (.c (.int .i64 0))), none⟩])
  (.seq
   (.seq
    (.reg [⟨(some 5), .v (.mov (.c (.int .i64 0))), none⟩])
    (.block 0
     (.loop
      (.seq
       (.seq
        (.reg [⟨(some 6), .v (.mov (.t 5)), none⟩, ⟨(some 7), .v (.mov (.t 0)), none⟩, ⟨(some 8), .v (.len (.t 7)), none⟩, ⟨(some 9), .v (.bin .lss (.t 6) (.t 8)), none⟩])
        (.cond (.t 9)
         .skip
         (.exit 0)))
       (.seq
        (.block 1
         (.seq
          (.seq
           (.reg [⟨(some 12), .v (.mov (.t 0)), none⟩, ⟨(some 13), .v (.mov (.t 5)), none⟩, ⟨(some 14), .v (.iaddr 1 (.t 12) (.t 13)), none⟩, ⟨(some 15), .v (.load false 1 (.t 14)), none⟩, ⟨(some 16), .v (.mov (.t 1)), none⟩, ⟨(some 17), .v (.bin .neq (.t 15) (.t 16)), none⟩])
           (.cond (.t 17)
            (.seq
             (.reg [⟨(some 4), .v (.mov (.c (.int .i64 (-1)))), none⟩])
             .ret)
            .skip))
          (.reg [⟨(some 18), .v (.mov (.t 1)), none⟩, ⟨(some 19), .v (.bin .add (.t 18) (.c (.int .i64 1))), none⟩, ⟨(some 1), .v (.mov (.t 19)), none⟩])))
        (.reg [⟨(some 10), .v (.mov (.t 5)), none⟩, ⟨(some 11), .v (.bin .add (.t 10) (.c (.int .i64 1))), none⟩, ⟨(some 5), .v (.mov (.t 11)), none⟩]))))))
   (.seq
    (.reg [⟨(some 20), .v (.mov (.t 1)), none⟩, ⟨(some 4), .v (.mov (.t 20)), none⟩])
    .ret)))⟩
theorem e51 : rFunc Tryz.prog Tryz.f51 = some r51 := by kernel_rfl
def r28 : RFunc := ⟨12, [.t 4],
 (.seq
  (.reg [⟨(some 2), .m (.box (.t 0)), none⟩, ⟨(some 4), .v (.mov (.c (.int .i64 0))), none⟩])
  (.seq
   (.reg [⟨(some 5), .v (.faddr 1 (.t 2)), none⟩, ⟨(some 6), .v (.load false 1 (.t 5)), none⟩, ⟨(some 7), .v (.mov (.t 1)), none⟩, ⟨(some 8), .call 51 [(.t 6), (.t 7)], none⟩, ⟨(some 1), .v (.mov (.t 8)), none⟩])
   (.seq
    (.seq
     (.reg [⟨(some 9), .v (.mov (.t 1)), none⟩, ⟨(some 10), .v (.bin .lss (.t 9) (.c (.int .i64 0))), none⟩])
     (.cond (.t 10)
      (.seq
       (.reg [⟨(some 4), .v (.mov (.c (.int .i64 (-1)))), none⟩])
       .ret)
      .skip))
    (.seq
     (.reg [⟨(some 11), .v (.mov (.t 1)), none⟩, ⟨(some 4), .v (.mov (.t 11)), none⟩])
     .ret))))⟩
theorem e28 : rFunc Tryz.prog Tryz.f28 = some r28 := by kernel_rfl
def r10 : RFunc := ⟨18, [.t 4],
 (.seq
  (.reg [⟨(some 2), .m (.box (.t 0)), none⟩, ⟨(some 4), .v (.mov (.c (.int .i64 0))), none⟩])
  (.seq
   (.reg [⟨(some 5), .v (.faddr 0 (.t 2)), none⟩, ⟨(some 6), .v (.load true 2 (.t 5)), none⟩, ⟨(some 7), .v (.mov (.t 1)), none⟩, ⟨(some 8), .call 28 [(.t 6), (.t 7)], none⟩, ⟨(some 1), .v (.mov (.t 8)), none⟩])
   (.seq
    (.seq
     (.reg [⟨(some 9), .v (.mov (.t 1)), none⟩, ⟨(some 10), .v (.bin .lss (.t 9) (.c (.int .i64 0))), none⟩])
     (.cond (.t 10)
      (.seq
       (.reg [⟨(some 4), .v (.mov (.c (.int .i64 (-1)))), none⟩])
       .ret)
      .skip))
    (.seq
     (.reg [⟨(some 11), .v (.faddr 2 (.t 2)), none⟩, ⟨(some 12), .v (.load true 2 (.t 11)), none⟩, ⟨(some 13), .v (.mov (.t 1)), none⟩, ⟨(some 14), .call 28 [(.t 12), (.t 13)], none⟩, ⟨(some 1), .v (.mov (.t 14)), none⟩])
     (.seq
      (.seq
       (.reg [⟨(some 15), .v (.mov (.t 1)), none⟩, ⟨(some 16), .v (.bin .lss (.t 15) (.c (.int .i64 0))), none⟩])
       (.cond (.t 16)
        (.seq
         (.reg [⟨(some 4), .v (.mov (.c (.int .i64 (-1)))), none⟩])
         .ret)
        .skip))
      (.seq
       (.reg [⟨(some 17), .v (.mov (.t 1)), none⟩, ⟨(some 4), .v (.mov (.t 17)), none⟩])
       .ret))))))⟩
theorem e10 : rFunc Tryz.prog Tryz.f10 = some r10 := by kernel_rfl
end Go.Proofs.YtakjemikampncaaGreatDoor.M
