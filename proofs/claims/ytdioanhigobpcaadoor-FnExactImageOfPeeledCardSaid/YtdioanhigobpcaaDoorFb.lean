/-
  The resolved text of the functions, each tied to the program's own by the kernel.
-/
import Derived.Test.YtdioanhigobpcaaDoorProg
import Derived.Test.YtdioanhigobpcaaDoorM16
namespace Go.Proofs.YtdioanhigobpcaaDoor.M
open Go Go.RowKit
set_option maxRecDepth 100000

def r36 : RFunc := ⟨12, [.t 4],
 (.seq
  (.reg [⟨(some 4), .v (.mov (.c (.int .i64 0))), none⟩])
  (.seq
   (.reg [⟨(some 5), .v (.mov (.t 1)), none⟩, ⟨(some 6), .v (.mov (.t 0)), none⟩, ⟨(some 7), .v (.len (.t 6)), none⟩, ⟨(some 8), .v (.bin .sub (.t 5) (.t 7)), none⟩, ⟨(some 1), .v (.mov (.t 8)), none⟩])
   (.seq
    (.seq
     (.reg [⟨(some 9), .v (.mov (.t 1)), none⟩, ⟨(some 10), .v (.bin .lss (.t 9) (.c (.int .i64 0))), none⟩])
     (.cond (.t 10)
      (.seq
       (.reg [⟨(some 4), .v (.mov (.c (.int .i64 (-1)))), none⟩])
       .ret)
      .skip))
    (.seq
     (.reg [⟨(some 11), .v (.mov (.t 1)), none⟩, ⟨(some 4), .v (.mov (.t 11)), none⟩])
     .ret))))⟩
theorem e36 : rFunc Tryd.prog Tryd.f36 = some r36 := by kernel_rfl
def r15 : RFunc := ⟨12, [.t 4],
 (.seq
  (.reg [⟨(some 2), .m (.box (.t 0)), none⟩, ⟨(some 4), .v (.mov (.c (.int .i64 0))), none⟩])
  (.seq
   (.reg [⟨(some 5), .v (.faddr 2 (.t 2)), none⟩, ⟨(some 6), .v (.load false 1 (.t 5)), none⟩, ⟨(some 7), .v (.mov (.t 1)), none⟩, ⟨(some 8), .call 36 [(.t 6), (.t 7)], none⟩, ⟨(some 1), .v (.mov (.t 8)), none⟩])
   (.seq
    (.seq
     (.reg [⟨(some 9), .v (.mov (.t 1)), none⟩, ⟨(some 10), .v (.bin .lss (.t 9) (.c (.int .i64 0))), none⟩])
     (.cond (.t 10)
      (.seq
       (.reg [⟨(some 4), .v (.mov (.c (.int .i64 (-1)))), none⟩])
       .ret)
      .skip))
    (.seq
     (.reg [⟨(some 11), .v (.mov (.t 1)), none⟩, ⟨(some 4), .v (.mov (.t 11)), none⟩])
     .ret))))⟩
theorem e15 : rFunc Tryd.prog Tryd.f15 = some r15 := by kernel_rfl
def r40 : RFunc := ⟨22, [.t 2],
 (.seq
  (.reg [⟨(some 2), .v (.mov (.c .nils)), none⟩])
  (.seq
   (.reg [⟨(some 5), .v (.mov (.t 0)), none⟩, ⟨(some 6), .v (.len (.t 5)), none⟩, ⟨(some 7), .m (.mks 1 8 [(.int .i64 0)] (.t 6) (.t 6)), none⟩, ⟨(some 3), .v (.mov (.t 7)), none⟩])
   (.seq
    (.seq
     (.reg [⟨(some 4), .v (.mov (.c (.int .i64 0))), none⟩])
     (.block 0
      (.loop
       (.seq
        (.seq
         (.reg [⟨(some 8), .v (.mov (.t 4)), none⟩, ⟨(some 9), .v (.mov (.t 0)), none⟩, ⟨(some 10), .v (.len (.t 9)), none⟩, ⟨(some 11), .v (.bin .lss (.t 8) (.t 10)), none⟩])
         (.cond (.t 11)
          .skip
          (.exit 0)))
        (.seq
         (.block 1
          (.reg [⟨(some 14), .v (.mov (.t 3)), none⟩, ⟨(some 15), .v (.mov (.t 4)), none⟩, ⟨(some 16), .v (.mov (.t 0)), none⟩, ⟨(some 17), .v (.mov (.t 4)), none⟩, ⟨(some 18), .v (.iaddr 1 (.t 16) (.t 17)), none⟩, ⟨(some 19), .v (.load false 1 (.t 18)), none⟩, ⟨(some 20), .v (.iaddr 1 (.t 14) (.t 15)), none⟩, ⟨none, .m (.store 1 (.t 20) (.t 19)), none⟩]))
         (.reg [⟨(some 12), .v (.mov (.t 4)), none⟩, ⟨(some 13), .v (.bin .add (.t 12) (.c (.int .i64 1))), none⟩, ⟨(some 4), .v (.mov (.t 13)), none⟩]))))))
    (.seq
     (.reg [⟨(some 21), .v (.mov (.t 3)), none⟩, ⟨(some 2), .v (.mov (.t 21)), none⟩])
     .ret))))⟩
theorem e40 : rFunc Tryd.prog Tryd.f40 = some r40 := by kernel_rfl
def r17 : RFunc := ⟨15, [.cell true 3 2],
 (.seq
  (.reg [⟨(some 1), .m (.box (.t 0)), none⟩, ⟨(some 2), .m (.alloc [(.int .i64 0), (.int .i64 0), .nils]), none⟩])
  (.seq
   (.reg [⟨(some 3), .m (.alloc [(.int .i64 0), (.int .i64 0), .nils]), none⟩])
   (.seq
    (.reg [⟨(some 4), .v (.faddr 0 (.t 1)), none⟩, ⟨(some 5), .v (.load false 1 (.t 4)), none⟩, ⟨(some 6), .v (.faddr 0 (.t 3)), none⟩, ⟨none, .m (.store 1 (.t 6) (.t 5)), none⟩])
    (.seq
     (.reg [⟨(some 7), .v (.faddr 1 (.t 1)), none⟩, ⟨(some 8), .v (.load false 1 (.t 7)), none⟩, ⟨(some 9), .v (.faddr 1 (.t 3)), none⟩, ⟨none, .m (.store 1 (.t 9) (.t 8)), none⟩])
     (.seq
      (.reg [⟨(some 10), .v (.faddr 2 (.t 1)), none⟩, ⟨(some 11), .v (.load false 1 (.t 10)), none⟩, ⟨(some 12), .call 40 [(.t 11)], none⟩, ⟨(some 13), .v (.faddr 2 (.t 3)), none⟩, ⟨none, .m (.store 1 (.t 13) (.t 12)), none⟩])
      (.seq
       (.reg [⟨(some 14), .v (.load true 3 (.t 3)), none⟩, ⟨none, .m (.store 3 (.t 2) (.t 14)), none⟩])
       .ret))))))⟩
theorem e17 : rFunc Tryd.prog Tryd.f17 = some r17 := by kernel_rfl
def r55 : RFunc := ⟨15, [.t 6],
 (.seq
  (.reg [⟨(some 6), .v (.mov (.c (.bool false))), none⟩])
  (.seq
   (.reg [⟨(some 7), .v (.mov (.t 0)), none⟩, ⟨(some 8), .v (.mov (.t 1)), none⟩, ⟨(some 9), .v (.bin .geq (.t 7) (.t 8)), none⟩, ⟨(some 10), .v (.mov (.t 9)), none⟩, ⟨(some 11), .v (.mov (.t 0)), (some (10, true))⟩, ⟨(some 12), .v (.mov (.t 2)), (some (10, true))⟩, ⟨(some 13), .v (.bin .leq (.t 11) (.t 12)), (some (10, true))⟩, ⟨(some 14), .v (.pick (.t 10) (.t 13) (.c (.bool false))), none⟩, ⟨(some 6), .v (.mov (.t 14)), none⟩])
   .ret))⟩
theorem e55 : rFunc Tryd.prog Tryd.f55 = some r55 := by kernel_rfl
def r56 : RFunc := ⟨21, [.t 6],
 (.seq
  (.reg [⟨(some 6), .v (.mov (.c (.bool false))), none⟩])
  (.seq
   (.seq
    (.reg [⟨(some 9), .v (.mov (.t 0)), none⟩, ⟨(some 10), .v (.len (.t 9)), none⟩, ⟨(some 11), .v (.mov (.c (.int .i64 0))), none⟩])
    (.block 0
     (.loop
      (.seq
       (.reg [⟨(some 12), .v (.bin .lss (.t 11) (.t 10)), none⟩])
       (.seq
        (.cond (.t 12)
         .skip
         (.exit 0))
        (.seq
         (.block 1
          (.seq
           (.reg [⟨(some 13), .v (.iaddr 1 (.t 9) (.t 11)), none⟩, ⟨(some 14), .v (.load false 1 (.t 13)), none⟩, ⟨(some 8), .v (.mov (.t 14)), none⟩])
           (.seq
            (.reg [⟨(some 15), .v (.mov (.t 8)), none⟩, ⟨(some 16), .v (.mov (.t 1)), none⟩, ⟨(some 17), .v (.mov (.t 2)), none⟩, ⟨(some 18), .call 55 [(.t 15), (.t 16), (.t 17)], none⟩, ⟨(some 19), .v (.un .not (.t 18)), none⟩])
            (.cond (.t 19)
             (.seq
              (.reg [⟨(some 6), .v (.mov (.c (.bool false))), none⟩])
              .ret)
             .skip))))
         (.reg [⟨(some 20), .v (.bin .add (.t 11) (.c (.int .i64 1))), none⟩, ⟨(some 11), .v (.mov (.t 20)), none⟩])))))))
   (.seq
    (.reg [⟨(some 6), .v (.mov (.c (.bool true))), none⟩])
    .ret)))⟩
theorem e56 : rFunc Tryd.prog Tryd.f56 = some r56 := by kernel_rfl
def r37 : RFunc := ⟨25, [.t 2],
 (.seq
  (.reg [⟨(some 1), .m (.box (.t 0)), none⟩, ⟨(some 2), .v (.mov (.c (.bool false))), none⟩])
  (.seq
   (.reg [⟨(some 3), .v (.faddr 0 (.t 1)), none⟩, ⟨(some 4), .v (.load false 1 (.t 3)), none⟩, ⟨(some 5), .call 55 [(.t 4), (.c (.int .i64 0)), (.c (.int .i64 9999))], none⟩, ⟨(some 6), .v (.mov (.t 5)), none⟩, ⟨(some 7), .v (.faddr 1 (.t 1)), (some (6, true))⟩, ⟨(some 8), .v (.load false 1 (.t 7)), (some (6, true))⟩, ⟨(some 9), .call 55 [(.t 8), (.c (.int .i64 1)), (.c (.int .i64 24))], (some (6, true))⟩, ⟨(some 10), .v (.pick (.t 6) (.t 9) (.c (.bool false))), none⟩, ⟨(some 11), .v (.mov (.t 10)), none⟩, ⟨(some 12), .v (.faddr 2 (.t 1)), (some (11, true))⟩, ⟨(some 13), .v (.load false 1 (.t 12)), (some (11, true))⟩, ⟨(some 14), .v (.len (.t 13)), (some (11, true))⟩, ⟨(some 15), .v (.faddr 1 (.t 1)), (some (11, true))⟩, ⟨(some 16), .v (.load false 1 (.t 15)), (some (11, true))⟩, ⟨(some 17), .v (.bin .mul (.c (.int .i64 3)) (.t 16)), (some (11, true))⟩, ⟨(some 18), .v (.bin .eql (.t 14) (.t 17)), (some (11, true))⟩, ⟨(some 19), .v (.pick (.t 11) (.t 18) (.c (.bool false))), none⟩, ⟨(some 20), .v (.mov (.t 19)), none⟩, ⟨(some 21), .v (.faddr 2 (.t 1)), (some (20, true))⟩, ⟨(some 22), .v (.load false 1 (.t 21)), (some (20, true))⟩, ⟨(some 23), .call 56 [(.t 22), (.c (.int .i64 0)), (.c (.int .i64 3))], (some (20, true))⟩, ⟨(some 24), .v (.pick (.t 20) (.t 23) (.c (.bool false))), none⟩, ⟨(some 2), .v (.mov (.t 24)), none⟩])
   .ret))⟩
theorem e37 : rFunc Tryd.prog Tryd.f37 = some r37 := by kernel_rfl
def r38 : RFunc := ⟨20, [.t 2],
 (.seq
  (.reg [⟨(some 2), .v (.mov (.c (.str []))), none⟩])
  (.seq
   (.seq
    (.reg [⟨(some 3), .v (.mov (.t 0)), none⟩, ⟨(some 4), .v (.bin .lss (.t 3) (.c (.int .i64 10))), none⟩])
    (.cond (.t 4)
     (.seq
      (.reg [⟨(some 5), .v (.mov (.t 0)), none⟩, ⟨(some 6), .v (.bin .add (.c (.int .i64 48)) (.t 5)), none⟩, ⟨(some 7), .v (.conv .u8 (.t 6)), none⟩, ⟨(some 8), .m (.bsl 1 1 [(.int .u8 0)] [(0, 1, (.t 7))]), none⟩, ⟨(some 9), .v (.cbs (.t 8)), none⟩, ⟨(some 2), .v (.mov (.t 9)), none⟩])
      .ret)
     .skip))
   (.seq
    (.dreg (.fl ⟨(some 10), .v (.mov (.t 0)), none⟩ (.fl ⟨(some 11), .v (.bin .quo (.t 10) (.c (.int .i64 10))), none⟩ (.fl ⟨(some 13), .v (.mov (.t 0)), none⟩ (.fl ⟨(some 14), .v (.bin .rem (.t 13) (.c (.int .i64 10))), none⟩ (.fl ⟨(some 15), .v (.bin .add (.c (.int .i64 48)) (.t 14)), none⟩ (.fl ⟨(some 16), .v (.conv .u8 (.t 15)), none⟩ (.both (.nx ⟨(some 12), .call 38 [(.t 11)], none⟩ (.nx ⟨(some 17), .m (.bsl 1 1 [(.int .u8 0)] [(0, 1, (.t 16))]), none⟩ (.fl ⟨(some 18), .v (.cbs (.t 17)), none⟩ (.fl ⟨(some 19), .v (.bin .add (.t 12) (.t 18)), none⟩ (.fl ⟨(some 2), .v (.mov (.t 19)), none⟩ .done))))) (.nx ⟨(some 17), .m (.bsl 1 1 [(.int .u8 0)] [(0, 1, (.t 16))]), none⟩ (.fl ⟨(some 18), .v (.cbs (.t 17)), none⟩ (.nx ⟨(some 12), .call 38 [(.t 11)], none⟩ (.fl ⟨(some 19), .v (.bin .add (.t 12) (.t 18)), none⟩ (.fl ⟨(some 2), .v (.mov (.t 19)), none⟩ .done)))))))))))))
    .ret)))⟩
theorem e38 : rFunc Tryd.prog Tryd.f38 = some r38 := by kernel_rfl
def r30 : RFunc := ⟨23, [.t 2],
 (.seq
  (.reg [⟨(some 2), .v (.mov (.c (.bool false))), none⟩])
  (.seq
   (.seq
    (.reg [⟨(some 3), .v (.mov (.c (.int .i64 0))), none⟩])
    (.block 0
     (.loop
      (.seq
       (.seq
        (.reg [⟨(some 4), .v (.mov (.t 3)), none⟩, ⟨(some 5), .v (.mov (.t 0)), none⟩, ⟨(some 6), .v (.lens (.t 5)), none⟩, ⟨(some 7), .v (.bin .lss (.t 4) (.t 6)), none⟩])
        (.cond (.t 7)
         .skip
         (.exit 0)))
       (.seq
        (.block 1
         (.seq
          (.reg [⟨(some 10), .v (.mov (.t 0)), none⟩, ⟨(some 11), .v (.mov (.t 3)), none⟩, ⟨(some 12), .v (.sidx (.t 10) (.t 11)), none⟩, ⟨(some 13), .v (.bin .lss (.t 12) (.c (.int .u8 32))), none⟩, ⟨(some 14), .v (.mov (.t 13)), none⟩, ⟨(some 15), .v (.mov (.t 0)), (some (14, false))⟩, ⟨(some 16), .v (.mov (.t 3)), (some (14, false))⟩, ⟨(some 17), .v (.sidx (.t 15) (.t 16)), (some (14, false))⟩, ⟨(some 18), .v (.bin .gtr (.t 17) (.c (.int .u8 125))), (some (14, false))⟩, ⟨(some 19), .v (.pick (.t 14) (.c (.bool true)) (.t 18)), none⟩])
          (.cond (.t 19)
           (.seq
            (.reg [⟨(some 2), .v (.mov (.c (.bool false))), none⟩])
            .ret)
           .skip)))
        (.reg [⟨(some 8), .v (.mov (.t 3)), none⟩, ⟨(some 9), .v (.bin .add (.t 8) (.c (.int .i64 1))), none⟩, ⟨(some 3), .v (.mov (.t 9)), none⟩]))))))
   (.seq
    (.reg [⟨(some 20), .v (.mov (.t 0)), none⟩, ⟨(some 21), .v (.lens (.t 20)), none⟩, ⟨(some 22), .v (.bin .leq (.t 21) (.c (.int .i64 6000))), none⟩, ⟨(some 2), .v (.mov (.t 22)), none⟩])
    .ret)))⟩
theorem e30 : rFunc Tryd.prog Tryd.f30 = some r30 := by kernel_rfl
def r31 : RFunc := ⟨26, [.t 2],
 (.seq
  (.reg [⟨(some 2), .v (.mov (.c (.str []))), none⟩])
  (.seq
   (.reg [⟨(some 3), .v (.mov (.c (.int .i64 0))), none⟩])
   (.seq
    (.seq
     (.reg [⟨(some 4), .v (.mov (.c (.int .i64 0))), none⟩])
     (.block 0
      (.loop
       (.seq
        (.seq
         (.reg [⟨(some 5), .v (.mov (.t 4)), none⟩, ⟨(some 6), .v (.mov (.t 0)), none⟩, ⟨(some 7), .v (.lens (.t 6)), none⟩, ⟨(some 8), .v (.bin .lss (.t 5) (.t 7)), none⟩])
         (.cond (.t 8)
          .skip
          (.exit 0)))
        (.seq
         (.block 1
          (.reg [⟨(some 11), .v (.mov (.t 3)), none⟩, ⟨(some 12), .v (.mov (.t 4)), none⟩, ⟨(some 13), .v (.bin .add (.t 12) (.c (.int .i64 1))), none⟩, ⟨(some 14), .v (.mov (.t 0)), none⟩, ⟨(some 15), .v (.mov (.t 4)), none⟩, ⟨(some 16), .v (.sidx (.t 14) (.t 15)), none⟩, ⟨(some 17), .v (.conv .i64 (.t 16)), none⟩, ⟨(some 18), .v (.bin .mul (.t 13) (.t 17)), none⟩, ⟨(some 19), .v (.bin .add (.t 11) (.t 18)), none⟩, ⟨(some 20), .v (.bin .rem (.t 19) (.c (.int .i64 65521))), none⟩, ⟨(some 3), .v (.mov (.t 20)), none⟩]))
         (.reg [⟨(some 9), .v (.mov (.t 4)), none⟩, ⟨(some 10), .v (.bin .add (.t 9) (.c (.int .i64 1))), none⟩, ⟨(some 4), .v (.mov (.t 10)), none⟩]))))))
    (.seq
     (.reg [⟨(some 21), .v (.mov (.t 0)), none⟩, ⟨(some 22), .v (.bin .add (.t 21) (.c (.str [126]))), none⟩, ⟨(some 23), .v (.mov (.t 3)), none⟩, ⟨(some 24), .call 38 [(.t 23)], none⟩, ⟨(some 25), .v (.bin .add (.t 22) (.t 24)), none⟩, ⟨(some 2), .v (.mov (.t 25)), none⟩])
     .ret))))⟩
theorem e31 : rFunc Tryd.prog Tryd.f31 = some r31 := by kernel_rfl
def r39 : RFunc := ⟨9, [.t 2, .t 3],
 (.seq
  (.reg [⟨(some 2), .v (.mov (.c (.str []))), none⟩, ⟨(some 3), .v (.mov (.c (.bool false))), none⟩])
  (.seq
   (.seq
    (.reg [⟨(some 4), .v (.mov (.t 0)), none⟩, ⟨(some 5), .call 30 [(.t 4)], none⟩, ⟨(some 6), .v (.un .not (.t 5)), none⟩])
    (.cond (.t 6)
     (.seq
      (.reg [⟨(some 2), .v (.mov (.c (.str []))), none⟩, ⟨(some 3), .v (.mov (.c (.bool false))), none⟩])
      .ret)
     .skip))
   (.seq
    (.reg [⟨(some 7), .v (.mov (.t 0)), none⟩, ⟨(some 8), .call 31 [(.t 7)], none⟩, ⟨(some 2), .v (.mov (.t 8)), none⟩, ⟨(some 3), .v (.mov (.c (.bool true))), none⟩])
    .ret)))⟩
theorem e39 : rFunc Tryd.prog Tryd.f39 = some r39 := by kernel_rfl
def r16 : RFunc := ⟨36, [.t 2, .t 3],
 (.seq
  (.reg [⟨(some 1), .m (.box (.t 0)), none⟩, ⟨(some 2), .v (.mov (.c (.str []))), none⟩, ⟨(some 3), .v (.mov (.c (.bool false))), none⟩])
  (.seq
   (.seq
    (.reg [⟨(some 7), .v (.load true 3 (.t 1)), none⟩, ⟨(some 8), .call 37 [(.t 7)], none⟩, ⟨(some 9), .v (.un .not (.t 8)), none⟩])
    (.cond (.t 9)
     (.seq
      (.reg [⟨(some 2), .v (.mov (.c (.str []))), none⟩, ⟨(some 3), .v (.mov (.c (.bool false))), none⟩])
      .ret)
     .skip))
   (.seq
    (.dreg (.fl ⟨(some 10), .v (.faddr 0 (.t 1)), none⟩ (.fl ⟨(some 11), .v (.load false 1 (.t 10)), none⟩ (.fl ⟨(some 15), .v (.faddr 1 (.t 1)), none⟩ (.fl ⟨(some 16), .v (.load false 1 (.t 15)), none⟩ (.nx ⟨(some 12), .call 38 [(.t 11)], none⟩ (.fl ⟨(some 13), .v (.bin .add (.c (.str [112, 101, 101, 108, 101, 100, 32])) (.t 12)), none⟩ (.fl ⟨(some 14), .v (.bin .add (.t 13) (.c (.str [32]))), none⟩ (.nx ⟨(some 17), .call 38 [(.t 16)], none⟩ (.fl ⟨(some 18), .v (.bin .add (.t 14) (.t 17)), none⟩ (.fl ⟨(some 19), .v (.bin .add (.t 18) (.c (.str [32]))), none⟩ (.fl ⟨(some 4), .v (.mov (.t 19)), none⟩ .done))))))))))))
    (.seq
     (.seq
      (.reg [⟨(some 20), .v (.faddr 2 (.t 1)), none⟩, ⟨(some 21), .v (.load false 1 (.t 20)), none⟩, ⟨(some 22), .v (.len (.t 21)), none⟩, ⟨(some 23), .v (.mov (.c (.int .i64 0))), none⟩])
      (.block 0
       (.loop
        (.seq
         (.reg [⟨(some 24), .v (.bin .lss (.t 23) (.t 22)), none⟩])
         (.seq
          (.cond (.t 24)
           .skip
           (.exit 0))
          (.seq
           (.block 1
            (.seq
             (.reg [⟨(some 25), .v (.iaddr 1 (.t 21) (.t 23)), none⟩, ⟨(some 26), .v (.load false 1 (.t 25)), none⟩, ⟨(some 6), .v (.mov (.t 26)), none⟩])
             (.reg [⟨(some 27), .v (.mov (.t 4)), none⟩, ⟨(some 28), .v (.mov (.t 6)), none⟩, ⟨(some 29), .call 38 [(.t 28)], none⟩, ⟨(some 30), .v (.bin .add (.t 27) (.t 29)), none⟩, ⟨(some 4), .v (.mov (.t 30)), none⟩])))
           (.reg [⟨(some 31), .v (.bin .add (.t 23) (.c (.int .i64 1))), none⟩, ⟨(some 23), .v (.mov (.t 31)), none⟩])))))))
     (.seq
      (.reg [⟨(some 32), .v (.mov (.t 4)), none⟩, ⟨(some 33), .call 39 [(.t 32)], none⟩, ⟨(some 34), .v (.ext (.t 33) 0), none⟩, ⟨(some 35), .v (.ext (.t 33) 1), none⟩, ⟨(some 2), .v (.mov (.t 34)), none⟩, ⟨(some 3), .v (.mov (.t 35)), none⟩])
      .ret)))))⟩
theorem e16 : rFunc Tryd.prog Tryd.f16 = some r16 := by kernel_rfl
def r79 : RFunc := ⟨19, [.t 4],
 (.seq
  (.reg [⟨(some 4), .v (.mov (.c (.int .i64 0))), none⟩])
  (.seq
   (.seq
    (.reg [⟨(some 6), .v (.mov (.t 0)), none⟩, ⟨(some 7), .v (.len (.t 6)), none⟩, ⟨(some 8), .v (.mov (.c (.int .i64 0))), none⟩])
    (.block 0
     (.loop
      (.seq
       (.reg [⟨(some 9), .v (.bin .lss (.t 8) (.t 7)), none⟩])
       (.seq
        (.cond (.t 9)
         .skip
         (.exit 0))
        (.seq
         (.block 1
          (.seq
           (.reg [⟨(some 10), .v (.mov (.t 8)), none⟩, ⟨(some 5), .v (.mov (.t 10)), none⟩])
           (.seq
            (.reg [⟨(some 11), .v (.mov (.t 1)), none⟩, ⟨(some 12), .v (.mov (.t 0)), none⟩, ⟨(some 13), .v (.mov (.t 5)), none⟩, ⟨(some 14), .v (.iaddr 1 (.t 12) (.t 13)), none⟩, ⟨(some 15), .v (.load false 1 (.t 14)), none⟩, ⟨(some 16), .callv (.t 11) [(.t 15)], none⟩])
            (.cond (.t 16)
             (.seq
              (.reg [⟨(some 17), .v (.mov (.t 5)), none⟩, ⟨(some 4), .v (.mov (.t 17)), none⟩])
              .ret)
             .skip))))
         (.reg [⟨(some 18), .v (.bin .add (.t 8) (.c (.int .i64 1))), none⟩, ⟨(some 8), .v (.mov (.t 18)), none⟩])))))))
   (.seq
    (.reg [⟨(some 4), .v (.mov (.c (.int .i64 (-1)))), none⟩])
    .ret)))⟩
theorem e79 : rFunc Tryd.prog Tryd.f79 = some r79 := by kernel_rfl
def r57 : RFunc := ⟨9, [.t 4],
 (.seq
  (.reg [⟨(some 4), .v (.mov (.c (.bool false))), none⟩])
  (.seq
   (.reg [⟨(some 5), .v (.mov (.t 0)), none⟩, ⟨(some 6), .v (.mov (.t 1)), none⟩, ⟨(some 7), .call 79 [(.t 5), (.t 6)], none⟩, ⟨(some 8), .v (.bin .geq (.t 7) (.c (.int .i64 0))), none⟩, ⟨(some 4), .v (.mov (.t 8)), none⟩])
   .ret))⟩
theorem e57 : rFunc Tryd.prog Tryd.f57 = some r57 := by kernel_rfl
def r59 : RFunc := ⟨15, [.t 6],
 (.seq
  (.reg [⟨(some 6), .v (.mov (.c (.bool false))), none⟩])
  (.seq
   (.reg [⟨(some 7), .v (.mov (.t 0)), none⟩, ⟨(some 8), .v (.mov (.t 1)), none⟩, ⟨(some 9), .v (.bin .geq (.t 7) (.t 8)), none⟩, ⟨(some 10), .v (.mov (.t 9)), none⟩, ⟨(some 11), .v (.mov (.t 0)), (some (10, true))⟩, ⟨(some 12), .v (.mov (.t 2)), (some (10, true))⟩, ⟨(some 13), .v (.bin .leq (.t 11) (.t 12)), (some (10, true))⟩, ⟨(some 14), .v (.pick (.t 10) (.t 13) (.c (.bool false))), none⟩, ⟨(some 6), .v (.mov (.t 14)), none⟩])
   .ret))⟩
theorem e59 : rFunc Tryd.prog Tryd.f59 = some r59 := by kernel_rfl
def r60 : RFunc := ⟨5, [.t 2],
 (.seq
  (.reg [⟨(some 2), .v (.mov (.c (.bool false))), none⟩])
  (.seq
   (.reg [⟨(some 3), .v (.mov (.t 0)), none⟩, ⟨(some 4), .call 59 [(.t 3), (.c (.int .i64 0)), (.c (.int .i64 9999))], none⟩, ⟨(some 2), .v (.mov (.t 4)), none⟩])
   .ret))⟩
theorem e60 : rFunc Tryd.prog Tryd.f60 = some r60 := by kernel_rfl
def r61 : RFunc := ⟨5, [.t 2],
 (.seq
  (.reg [⟨(some 2), .v (.mov (.c (.bool false))), none⟩])
  (.seq
   (.reg [⟨(some 3), .v (.mov (.t 0)), none⟩, ⟨(some 4), .call 59 [(.t 3), (.c (.int .i64 1)), (.c (.int .i64 24))], none⟩, ⟨(some 2), .v (.mov (.t 4)), none⟩])
   .ret))⟩
theorem e61 : rFunc Tryd.prog Tryd.f61 = some r61 := by kernel_rfl
def r58 : RFunc := ⟨6, [.t 2],
 (.seq
  (.reg [⟨(some 2), .v (.mov (.c (.bool false))), none⟩])
  (.seq
   (.reg [⟨(some 3), .v (.mov (.t 0)), none⟩, ⟨(some 4), .call 59 [(.t 3), (.c (.int .i64 0)), (.c (.int .i64 3))], none⟩, ⟨(some 5), .v (.un .not (.t 4)), none⟩, ⟨(some 2), .v (.mov (.t 5)), none⟩])
   .ret))⟩
theorem e58 : rFunc Tryd.prog Tryd.f58 = some r58 := by kernel_rfl
def r42 : RFunc := ⟨28, [.t 2],
 (.seq
  (.reg [⟨(some 1), .m (.box (.t 0)), none⟩, ⟨(some 2), .v (.mov (.c (.bool false))), none⟩])
  (.seq
   (.reg [⟨(some 4), .v (.faddr 2 (.t 1)), none⟩, ⟨(some 5), .v (.load false 1 (.t 4)), none⟩, ⟨(some 6), .call 57 [(.t 5), (.c (.fn 58 []))], none⟩, ⟨(some 3), .v (.mov (.t 6)), none⟩])
   (.seq
    (.reg [⟨(some 7), .v (.mov (.t 3)), none⟩, ⟨(some 8), .v (.un .not (.t 7)), none⟩, ⟨(some 9), .v (.mov (.t 8)), none⟩, ⟨(some 10), .v (.faddr 0 (.t 1)), (some (9, true))⟩, ⟨(some 11), .v (.load false 1 (.t 10)), (some (9, true))⟩, ⟨(some 12), .call 60 [(.t 11)], (some (9, true))⟩, ⟨(some 13), .v (.pick (.t 9) (.t 12) (.c (.bool false))), none⟩, ⟨(some 14), .v (.mov (.t 13)), none⟩, ⟨(some 15), .v (.faddr 1 (.t 1)), (some (14, true))⟩, ⟨(some 16), .v (.load false 1 (.t 15)), (some (14, true))⟩, ⟨(some 17), .call 61 [(.t 16)], (some (14, true))⟩, ⟨(some 18), .v (.pick (.t 14) (.t 17) (.c (.bool false))), none⟩, ⟨(some 19), .v (.mov (.t 18)), none⟩, ⟨(some 20), .v (.faddr 2 (.t 1)), (some (19, true))⟩, ⟨(some 21), .v (.load false 1 (.t 20)), (some (19, true))⟩, ⟨(some 22), .v (.len (.t 21)), (some (19, true))⟩, ⟨(some 23), .v (.faddr 1 (.t 1)), (some (19, true))⟩, ⟨(some 24), .v (.load false 1 (.t 23)), (some (19, true))⟩, ⟨(some 25), .v (.bin .mul (.c (.int .i64 3)) (.t 24)), (some (19, true))⟩, ⟨(some 26), .v (.bin .eql (.t 22) (.t 25)), (some (19, true))⟩, ⟨(some 27), .v (.pick (.t 19) (.t 26) (.c (.bool false))), none⟩, ⟨(some 2), .v (.mov (.t 27)), none⟩])
    .ret)))⟩
theorem e42 : rFunc Tryd.prog Tryd.f42 = some r42 := by kernel_rfl
def r10 : RFunc := ⟨40, [.t 2, .t 3],
 (.seq
  (.reg [⟨(some 2), .v (.mov (.c (.str []))), none⟩, ⟨(some 3), .v (.mov (.c (.bool false))), none⟩])
  (.seq
   (.reg [⟨(some 4), .v (.mov (.c (.int .i64 0))), none⟩])
   (.seq
    (.seq
     (.reg [⟨(some 6), .v (.mov (.t 0)), none⟩, ⟨(some 7), .v (.lens (.t 6)), none⟩, ⟨(some 8), .v (.mov (.c (.int .i64 0))), none⟩])
     (.block 0
      (.loop
       (.seq
        (.reg [⟨(some 9), .v (.bin .lss (.t 8) (.t 7)), none⟩])
        (.seq
         (.cond (.t 9)
          .skip
          (.exit 0))
         (.seq
          (.block 1
           (.seq
            (.reg [⟨(some 10), .v (.mov (.t 8)), none⟩, ⟨(some 5), .v (.mov (.t 10)), none⟩])
            (.seq
             (.seq
              (.reg [⟨(some 11), .v (.mov (.t 0)), none⟩, ⟨(some 12), .v (.mov (.t 5)), none⟩, ⟨(some 13), .v (.sidx (.t 11) (.t 12)), none⟩, ⟨(some 14), .v (.bin .lss (.t 13) (.c (.int .u8 32))), none⟩, ⟨(some 15), .v (.mov (.t 14)), none⟩, ⟨(some 16), .v (.mov (.t 0)), (some (15, false))⟩, ⟨(some 17), .v (.mov (.t 5)), (some (15, false))⟩, ⟨(some 18), .v (.sidx (.t 16) (.t 17)), (some (15, false))⟩, ⟨(some 19), .v (.bin .gtr (.t 18) (.c (.int .u8 125))), (some (15, false))⟩, ⟨(some 20), .v (.pick (.t 15) (.c (.bool true)) (.t 19)), none⟩])
              (.cond (.t 20)
               (.seq
                (.reg [⟨(some 2), .v (.mov (.c (.str []))), none⟩, ⟨(some 3), .v (.mov (.c (.bool false))), none⟩])
                .ret)
               .skip))
             (.reg [⟨(some 21), .v (.mov (.t 4)), none⟩, ⟨(some 22), .v (.mov (.t 5)), none⟩, ⟨(some 23), .v (.bin .add (.t 22) (.c (.int .i64 1))), none⟩, ⟨(some 24), .v (.mov (.t 0)), none⟩, ⟨(some 25), .v (.mov (.t 5)), none⟩, ⟨(some 26), .v (.sidx (.t 24) (.t 25)), none⟩, ⟨(some 27), .v (.conv .i64 (.t 26)), none⟩, ⟨(some 28), .v (.bin .mul (.t 23) (.t 27)), none⟩, ⟨(some 29), .v (.bin .add (.t 21) (.t 28)), none⟩, ⟨(some 30), .v (.bin .rem (.t 29) (.c (.int .i64 65521))), none⟩, ⟨(some 4), .v (.mov (.t 30)), none⟩]))))
          (.reg [⟨(some 31), .v (.bin .add (.t 8) (.c (.int .i64 1))), none⟩, ⟨(some 8), .v (.mov (.t 31)), none⟩])))))))
    (.seq
     (.seq
      (.reg [⟨(some 32), .v (.mov (.t 0)), none⟩, ⟨(some 33), .v (.lens (.t 32)), none⟩, ⟨(some 34), .v (.bin .gtr (.t 33) (.c (.int .i64 6000))), none⟩])
      (.cond (.t 34)
       (.seq
        (.reg [⟨(some 2), .v (.mov (.c (.str []))), none⟩, ⟨(some 3), .v (.mov (.c (.bool false))), none⟩])
        .ret)
       .skip))
     (.seq
      (.reg [⟨(some 35), .v (.mov (.t 0)), none⟩, ⟨(some 36), .v (.bin .add (.t 35) (.c (.str [126]))), none⟩, ⟨(some 37), .v (.mov (.t 4)), none⟩, ⟨(some 38), .call 32 [(.t 37)], none⟩, ⟨(some 39), .v (.bin .add (.t 36) (.t 38)), none⟩, ⟨(some 2), .v (.mov (.t 39)), none⟩, ⟨(some 3), .v (.mov (.c (.bool true))), none⟩])
      .ret)))))⟩
theorem e10 : rFunc Tryd.prog Tryd.f10 = some r10 := by kernel_rfl
def r41 : RFunc := ⟨12, [.t 4, .t 5],
 (.seq
  (.reg [⟨(some 4), .v (.mov (.c (.str []))), none⟩, ⟨(some 5), .v (.mov (.c (.bool false))), none⟩])
  (.seq
   (.seq
    (.reg [⟨(some 6), .v (.mov (.t 1)), none⟩, ⟨(some 7), .v (.un .not (.t 6)), none⟩])
    (.cond (.t 7)
     (.seq
      (.reg [⟨(some 4), .v (.mov (.c (.str []))), none⟩, ⟨(some 5), .v (.mov (.c (.bool false))), none⟩])
      .ret)
     .skip))
   (.seq
    (.reg [⟨(some 8), .v (.mov (.t 0)), none⟩, ⟨(some 9), .call 10 [(.t 8)], none⟩, ⟨(some 10), .v (.ext (.t 9) 0), none⟩, ⟨(some 11), .v (.ext (.t 9) 1), none⟩, ⟨(some 4), .v (.mov (.t 10)), none⟩, ⟨(some 5), .v (.mov (.t 11)), none⟩])
    .ret)))⟩
theorem e41 : rFunc Tryd.prog Tryd.f41 = some r41 := by kernel_rfl
def r18 : RFunc := ⟨35, [.t 2, .t 3],
 (.seq
  (.reg [⟨(some 1), .m (.box (.t 0)), none⟩, ⟨(some 2), .v (.mov (.c (.str []))), none⟩, ⟨(some 3), .v (.mov (.c (.bool false))), none⟩])
  (.seq
   (.dreg (.fl ⟨(some 7), .v (.faddr 0 (.t 1)), none⟩ (.fl ⟨(some 8), .v (.load false 1 (.t 7)), none⟩ (.fl ⟨(some 12), .v (.faddr 1 (.t 1)), none⟩ (.fl ⟨(some 13), .v (.load false 1 (.t 12)), none⟩ (.nx ⟨(some 9), .call 32 [(.t 8)], none⟩ (.fl ⟨(some 10), .v (.bin .add (.c (.str [112, 101, 101, 108, 101, 100, 32])) (.t 9)), none⟩ (.fl ⟨(some 11), .v (.bin .add (.t 10) (.c (.str [32]))), none⟩ (.nx ⟨(some 14), .call 32 [(.t 13)], none⟩ (.fl ⟨(some 15), .v (.bin .add (.t 11) (.t 14)), none⟩ (.fl ⟨(some 16), .v (.bin .add (.t 15) (.c (.str [32]))), none⟩ (.fl ⟨(some 4), .v (.mov (.t 16)), none⟩ .done))))))))))))
   (.seq
    (.seq
     (.reg [⟨(some 17), .v (.faddr 2 (.t 1)), none⟩, ⟨(some 18), .v (.load false 1 (.t 17)), none⟩, ⟨(some 19), .v (.len (.t 18)), none⟩, ⟨(some 20), .v (.mov (.c (.int .i64 0))), none⟩])
     (.block 0
      (.loop
       (.seq
        (.reg [⟨(some 21), .v (.bin .lss (.t 20) (.t 19)), none⟩])
        (.seq
         (.cond (.t 21)
          .skip
          (.exit 0))
         (.seq
          (.block 1
           (.seq
            (.reg [⟨(some 22), .v (.iaddr 1 (.t 18) (.t 20)), none⟩, ⟨(some 23), .v (.load false 1 (.t 22)), none⟩, ⟨(some 6), .v (.mov (.t 23)), none⟩])
            (.reg [⟨(some 24), .v (.mov (.t 4)), none⟩, ⟨(some 25), .v (.mov (.t 6)), none⟩, ⟨(some 26), .call 32 [(.t 25)], none⟩, ⟨(some 27), .v (.bin .add (.t 24) (.t 26)), none⟩, ⟨(some 4), .v (.mov (.t 27)), none⟩])))
          (.reg [⟨(some 28), .v (.bin .add (.t 20) (.c (.int .i64 1))), none⟩, ⟨(some 20), .v (.mov (.t 28)), none⟩])))))))
    (.seq
     (.reg [⟨(some 29), .v (.mov (.t 4)), none⟩, ⟨(some 30), .v (.load true 3 (.t 1)), none⟩, ⟨(some 31), .call 42 [(.t 30)], none⟩, ⟨(some 32), .call 41 [(.t 29), (.t 31)], none⟩, ⟨(some 33), .v (.ext (.t 32) 0), none⟩, ⟨(some 34), .v (.ext (.t 32) 1), none⟩, ⟨(some 2), .v (.mov (.t 33)), none⟩, ⟨(some 3), .v (.mov (.t 34)), none⟩])
     .ret))))⟩
theorem e18 : rFunc Tryd.prog Tryd.f18 = some r18 := by kernel_rfl
def r43 : RFunc := ⟨26, [.t 4],
 (.seq
  (.reg [⟨(some 4), .v (.mov (.c (.bool false))), none⟩])
  (.seq
   (.seq
    (.reg [⟨(some 6), .v (.mov (.t 0)), none⟩, ⟨(some 7), .v (.len (.t 6)), none⟩, ⟨(some 8), .v (.mov (.t 1)), none⟩, ⟨(some 9), .v (.len (.t 8)), none⟩, ⟨(some 10), .v (.bin .neq (.t 7) (.t 9)), none⟩])
    (.cond (.t 10)
     (.seq
      (.reg [⟨(some 4), .v (.mov (.c (.bool false))), none⟩])
      .ret)
     .skip))
   (.seq
    (.seq
     (.reg [⟨(some 5), .v (.mov (.c (.int .i64 0))), none⟩])
     (.block 0
      (.loop
       (.seq
        (.seq
         (.reg [⟨(some 11), .v (.mov (.t 5)), none⟩, ⟨(some 12), .v (.mov (.t 0)), none⟩, ⟨(some 13), .v (.len (.t 12)), none⟩, ⟨(some 14), .v (.bin .lss (.t 11) (.t 13)), none⟩])
         (.cond (.t 14)
          .skip
          (.exit 0)))
        (.seq
         (.block 1
          (.seq
           (.dreg (.fl ⟨(some 17), .v (.mov (.t 0)), none⟩ (.fl ⟨(some 18), .v (.mov (.t 5)), none⟩ (.fl ⟨(some 19), .v (.iaddr 1 (.t 17) (.t 18)), none⟩ (.fl ⟨(some 20), .v (.load false 1 (.t 19)), none⟩ (.fl ⟨(some 21), .v (.mov (.t 1)), none⟩ (.fl ⟨(some 22), .v (.mov (.t 5)), none⟩ (.fl ⟨(some 23), .v (.iaddr 1 (.t 21) (.t 22)), none⟩ (.fl ⟨(some 24), .v (.load false 1 (.t 23)), none⟩ (.fl ⟨(some 25), .v (.bin .neq (.t 20) (.t 24)), none⟩ .done))))))))))
           (.cond (.t 25)
            (.seq
             (.reg [⟨(some 4), .v (.mov (.c (.bool false))), none⟩])
             .ret)
            .skip)))
         (.reg [⟨(some 15), .v (.mov (.t 5)), none⟩, ⟨(some 16), .v (.bin .add (.t 15) (.c (.int .i64 1))), none⟩, ⟨(some 5), .v (.mov (.t 16)), none⟩]))))))
    (.seq
     (.reg [⟨(some 4), .v (.mov (.c (.bool true))), none⟩])
     .ret))))⟩
theorem e43 : rFunc Tryd.prog Tryd.f43 = some r43 := by kernel_rfl
def r19 : RFunc := ⟨21, [.t 4],
 (.seq
  (.reg [⟨(some 2), .m (.box (.t 0)), none⟩, ⟨(some 3), .m (.box (.t 1)), none⟩, ⟨(some 4), .v (.mov (.c (.bool false))), none⟩])
  (.seq
   (.seq
    (.reg [⟨(some 5), .v (.faddr 0 (.t 2)), none⟩, ⟨(some 6), .v (.load false 1 (.t 5)), none⟩, ⟨(some 7), .v (.faddr 0 (.t 3)), none⟩, ⟨(some 8), .v (.load false 1 (.t 7)), none⟩, ⟨(some 9), .v (.bin .neq (.t 6) (.t 8)), none⟩])
    (.cond (.t 9)
     (.seq
      (.reg [⟨(some 4), .v (.mov (.c (.bool false))), none⟩])
      .ret)
     .skip))
   (.seq
    (.seq
     (.reg [⟨(some 10), .v (.faddr 1 (.t 2)), none⟩, ⟨(some 11), .v (.load false 1 (.t 10)), none⟩, ⟨(some 12), .v (.faddr 1 (.t 3)), none⟩, ⟨(some 13), .v (.load false 1 (.t 12)), none⟩, ⟨(some 14), .v (.bin .neq (.t 11) (.t 13)), none⟩])
     (.cond (.t 14)
      (.seq
       (.reg [⟨(some 4), .v (.mov (.c (.bool false))), none⟩])
       .ret)
      .skip))
    (.seq
     (.seq
      (.reg [⟨(some 15), .v (.faddr 2 (.t 2)), none⟩, ⟨(some 16), .v (.load false 1 (.t 15)), none⟩, ⟨(some 17), .v (.faddr 2 (.t 3)), none⟩, ⟨(some 18), .v (.load false 1 (.t 17)), none⟩, ⟨(some 19), .call 43 [(.t 16), (.t 18)], none⟩, ⟨(some 20), .v (.un .not (.t 19)), none⟩])
      (.cond (.t 20)
       (.seq
        (.reg [⟨(some 4), .v (.mov (.c (.bool false))), none⟩])
        .ret)
       .skip))
     (.seq
      (.reg [⟨(some 4), .v (.mov (.c (.bool true))), none⟩])
      .ret)))))⟩
theorem e19 : rFunc Tryd.prog Tryd.f19 = some r19 := by kernel_rfl
def r6 : RFunc := ⟨40, [.t 2],
 (.seq
  (.reg [⟨(some 1), .m (.box (.t 0)), none⟩, ⟨(some 2), .v (.mov (.c (.bool false))), none⟩])
  (.seq
   (.reg [⟨(some 3), .v (.mov (.c (.int .i64 1048576))), none⟩])
   (.seq
    (.reg [⟨(some 9), .v (.load true 3 (.t 1)), none⟩, ⟨(some 10), .v (.mov (.t 3)), none⟩, ⟨(some 11), .call 15 [(.t 9), (.t 10)], none⟩, ⟨(some 3), .v (.mov (.t 11)), none⟩])
    (.seq
     (.seq
      (.reg [⟨(some 12), .v (.mov (.t 3)), none⟩, ⟨(some 13), .v (.bin .lss (.t 12) (.c (.int .i64 0))), none⟩])
      (.cond (.t 13)
       (.seq
        (.reg [⟨(some 2), .v (.mov (.c (.bool true))), none⟩])
        .ret)
       .skip))
     (.seq
      (.reg [⟨(some 15), .v (.load true 3 (.t 1)), none⟩, ⟨(some 16), .call 17 [(.t 15)], none⟩, ⟨(some 17), .call 16 [(.t 16)], none⟩, ⟨(some 14), .v (.mov (.t 17)), none⟩, ⟨(some 18), .v (.ext (.t 14) 0), none⟩, ⟨(some 19), .v (.ext (.t 14) 1), none⟩, ⟨(some 4), .v (.mov (.t 18)), none⟩, ⟨(some 5), .v (.mov (.t 19)), none⟩])
      (.seq
       (.reg [⟨(some 20), .v (.load true 3 (.t 1)), none⟩, ⟨(some 21), .call 17 [(.t 20)], none⟩, ⟨(some 6), .m (.alloc [(.int .i64 0), (.int .i64 0), .nils]), none⟩, ⟨none, .m (.store 3 (.t 6) (.t 21)), none⟩])
       (.seq
        (.reg [⟨(some 23), .v (.load true 3 (.t 6)), none⟩, ⟨(some 24), .call 18 [(.t 23)], none⟩, ⟨(some 22), .v (.mov (.t 24)), none⟩, ⟨(some 25), .v (.ext (.t 22) 0), none⟩, ⟨(some 26), .v (.ext (.t 22) 1), none⟩, ⟨(some 7), .v (.mov (.t 25)), none⟩, ⟨(some 8), .v (.mov (.t 26)), none⟩])
        (.seq
         (.seq
          (.reg [⟨(some 27), .v (.mov (.t 7)), none⟩, ⟨(some 28), .v (.mov (.t 4)), none⟩, ⟨(some 29), .v (.bin .neq (.t 27) (.t 28)), none⟩, ⟨(some 30), .v (.mov (.t 29)), none⟩, ⟨(some 31), .v (.mov (.t 8)), (some (30, false))⟩, ⟨(some 32), .v (.mov (.t 5)), (some (30, false))⟩, ⟨(some 33), .v (.beq true (.t 31) (.t 32)), (some (30, false))⟩, ⟨(some 34), .v (.pick (.t 30) (.c (.bool true)) (.t 33)), none⟩])
          (.cond (.t 34)
           (.seq
            (.reg [⟨(some 2), .v (.mov (.c (.bool false))), none⟩])
            .ret)
           .skip))
         (.seq
          (.seq
           (.dreg (.fl ⟨(some 35), .v (.load true 3 (.t 6)), none⟩ (.fl ⟨(some 36), .v (.load true 3 (.t 1)), none⟩ (.nx ⟨(some 37), .call 17 [(.t 36)], none⟩ (.nx ⟨(some 38), .call 19 [(.t 35), (.t 37)], none⟩ (.fl ⟨(some 39), .v (.un .not (.t 38)), none⟩ .done))))))
           (.cond (.t 39)
            (.seq
             (.reg [⟨(some 2), .v (.mov (.c (.bool false))), none⟩])
             .ret)
            .skip))
          (.seq
           (.reg [⟨(some 2), .v (.mov (.c (.bool true))), none⟩])
           .ret))))))))))⟩
theorem e6 : rFunc Tryd.prog Tryd.f6 = some r6 := by kernel_rfl
end Go.Proofs.YtdioanhigobpcaaDoor.M
