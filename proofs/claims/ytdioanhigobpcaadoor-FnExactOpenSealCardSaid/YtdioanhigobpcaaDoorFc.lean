/-
  The resolved text of the functions, each tied to the program's own by the kernel.
-/
import Derived.Test.YtdioanhigobpcaaDoorProg
import Derived.Test.YtdioanhigobpcaaDoorM16
namespace Go.Proofs.YtdioanhigobpcaaDoor.M
open Go Go.RowKit
set_option maxRecDepth 100000

def r30 : RFunc := ⟨23, [.t 2],
 (.seq
  (.reg [⟨(some 2), .v (.mov (.c (.bool false))), none⟩])
  (.seq
   (.seq
    (.reg [⟨(some 3), .v (.mov (.c (.int .i64 0))), none⟩])
    (.block 0
     (.loop
      (.seq
       (.seq
        (.reg [⟨(some 4), .v (.mov (.t 3)), none⟩, ⟨(some 5), .v (.mov (.t 0)), none⟩, ⟨(some 6), .v (.lens (.t 5)), none⟩, ⟨(some 7), .v (.bin .lss (.t 4) (.t 6)), none⟩])
        (.cond (.t 7)
         .skip
         (.exit 0)))
       (.seq
        (.block 1
         (.seq
          (.reg [⟨(some 10), .v (.mov (.t 0)), none⟩, ⟨(some 11), .v (.mov (.t 3)), none⟩, ⟨(some 12), .v (.sidx (.t 10) (.t 11)), none⟩, ⟨(some 13), .v (.bin .lss (.t 12) (.c (.int .u8 32))), none⟩, ⟨(some 14), .v (.mov (.t 13)), none⟩, ⟨(some 15), .v (.mov (.t 0)), (some (14, false))⟩, ⟨(some 16), .v (.mov (.t 3)), (some (14, false))⟩, ⟨(some 17), .v (.sidx (.t 15) (.t 16)), (some (14, false))⟩, ⟨(some 18), .v (.bin .gtr (.t 17) (.c (.int .u8 125))), (some (14, false))⟩, ⟨(some 19), .v (.pick (.t 14) (.c (.bool true)) (.t 18)), none⟩])
          (.cond (.t 19)
           (.seq
            (.reg [⟨(some 2), .v (.mov (.c (.bool false))), none⟩])
            .ret)
           .skip)))
        (.reg [⟨(some 8), .v (.mov (.t 3)), none⟩, ⟨(some 9), .v (.bin .add (.t 8) (.c (.int .i64 1))), none⟩, ⟨(some 3), .v (.mov (.t 9)), none⟩]))))))
   (.seq
    (.reg [⟨(some 20), .v (.mov (.t 0)), none⟩, ⟨(some 21), .v (.lens (.t 20)), none⟩, ⟨(some 22), .v (.bin .leq (.t 21) (.c (.int .i64 6000))), none⟩, ⟨(some 2), .v (.mov (.t 22)), none⟩])
    .ret)))⟩
theorem e30 : rFunc Tryd.prog Tryd.f30 = some r30 := by kernel_rfl
def r38 : RFunc := ⟨20, [.t 2],
 (.seq
  (.reg [⟨(some 2), .v (.mov (.c (.str []))), none⟩])
  (.seq
   (.seq
    (.reg [⟨(some 3), .v (.mov (.t 0)), none⟩, ⟨(some 4), .v (.bin .lss (.t 3) (.c (.int .i64 10))), none⟩])
    (.cond (.t 4)
     (.seq
      (.reg [⟨(some 5), .v (.mov (.t 0)), none⟩, ⟨(some 6), .v (.bin .add (.c (.int .i64 48)) (.t 5)), none⟩, ⟨(some 7), .v (.conv .u8 (.t 6)), none⟩, ⟨(some 8), .m (.bsl 1 1 [(.int .u8 0)] [(0, 1, (.t 7))]), none⟩, ⟨(some 9), .v (.cbs (.t 8)), none⟩, ⟨(some 2), .v (.mov (.t 9)), none⟩])
      .ret)
     .skip))
   (.seq
    (.dreg (.fl ⟨(some 10), .v (.mov (.t 0)), none⟩ (.fl ⟨(some 11), .v (.bin .quo (.t 10) (.c (.int .i64 10))), none⟩ (.fl ⟨(some 13), .v (.mov (.t 0)), none⟩ (.fl ⟨(some 14), .v (.bin .rem (.t 13) (.c (.int .i64 10))), none⟩ (.fl ⟨(some 15), .v (.bin .add (.c (.int .i64 48)) (.t 14)), none⟩ (.fl ⟨(some 16), .v (.conv .u8 (.t 15)), none⟩ (.both (.nx ⟨(some 12), .call 38 [(.t 11)], none⟩ (.nx ⟨(some 17), .m (.bsl 1 1 [(.int .u8 0)] [(0, 1, (.t 16))]), none⟩ (.fl ⟨(some 18), .v (.cbs (.t 17)), none⟩ (.fl ⟨(some 19), .v (.bin .add (.t 12) (.t 18)), none⟩ (.fl ⟨(some 2), .v (.mov (.t 19)), none⟩ .done))))) (.nx ⟨(some 17), .m (.bsl 1 1 [(.int .u8 0)] [(0, 1, (.t 16))]), none⟩ (.fl ⟨(some 18), .v (.cbs (.t 17)), none⟩ (.nx ⟨(some 12), .call 38 [(.t 11)], none⟩ (.fl ⟨(some 19), .v (.bin .add (.t 12) (.t 18)), none⟩ (.fl ⟨(some 2), .v (.mov (.t 19)), none⟩ .done)))))))))))))
    .ret)))⟩
theorem e38 : rFunc Tryd.prog Tryd.f38 = some r38 := by kernel_rfl
def r31 : RFunc := ⟨26, [.t 2],
 (.seq
  (.reg [⟨(some 2), .v (.mov (.c (.str []))), none⟩])
  (.seq
   (.reg [⟨(some 3), .v (.mov (.c (.int .i64 0))), none⟩])
   (.seq
    (.seq
     (.reg [⟨(some 4), .v (.mov (.c (.int .i64 0))), none⟩])
     (.block 0
      (.loop
       (.seq
        (.seq
         (.reg [⟨(some 5), .v (.mov (.t 4)), none⟩, ⟨(some 6), .v (.mov (.t 0)), none⟩, ⟨(some 7), .v (.lens (.t 6)), none⟩, ⟨(some 8), .v (.bin .lss (.t 5) (.t 7)), none⟩])
         (.cond (.t 8)
          .skip
          (.exit 0)))
        (.seq
         (.block 1
          (.reg [⟨(some 11), .v (.mov (.t 3)), none⟩, ⟨(some 12), .v (.mov (.t 4)), none⟩, ⟨(some 13), .v (.bin .add (.t 12) (.c (.int .i64 1))), none⟩, ⟨(some 14), .v (.mov (.t 0)), none⟩, ⟨(some 15), .v (.mov (.t 4)), none⟩, ⟨(some 16), .v (.sidx (.t 14) (.t 15)), none⟩, ⟨(some 17), .v (.conv .i64 (.t 16)), none⟩, ⟨(some 18), .v (.bin .mul (.t 13) (.t 17)), none⟩, ⟨(some 19), .v (.bin .add (.t 11) (.t 18)), none⟩, ⟨(some 20), .v (.bin .rem (.t 19) (.c (.int .i64 65521))), none⟩, ⟨(some 3), .v (.mov (.t 20)), none⟩]))
         (.reg [⟨(some 9), .v (.mov (.t 4)), none⟩, ⟨(some 10), .v (.bin .add (.t 9) (.c (.int .i64 1))), none⟩, ⟨(some 4), .v (.mov (.t 10)), none⟩]))))))
    (.seq
     (.reg [⟨(some 21), .v (.mov (.t 0)), none⟩, ⟨(some 22), .v (.bin .add (.t 21) (.c (.str [126]))), none⟩, ⟨(some 23), .v (.mov (.t 3)), none⟩, ⟨(some 24), .call 38 [(.t 23)], none⟩, ⟨(some 25), .v (.bin .add (.t 22) (.t 24)), none⟩, ⟨(some 2), .v (.mov (.t 25)), none⟩])
     .ret))))⟩
theorem e31 : rFunc Tryd.prog Tryd.f31 = some r31 := by kernel_rfl
def r33 : RFunc := ⟨38, [.t 2, .t 3],
 (.seq
  (.reg [⟨(some 2), .v (.mov (.c (.str []))), none⟩, ⟨(some 3), .v (.mov (.c (.bool false))), none⟩])
  (.seq
   (.reg [⟨(some 5), .v (.mov (.t 0)), none⟩, ⟨(some 6), .v (.lens (.t 5)), none⟩, ⟨(some 7), .v (.bin .sub (.t 6) (.c (.int .i64 1))), none⟩, ⟨(some 4), .v (.mov (.t 7)), none⟩])
   (.seq
    (.block 0
     (.loop
      (.seq
       (.seq
        (.reg [⟨(some 8), .v (.mov (.t 4)), none⟩, ⟨(some 9), .v (.bin .geq (.t 8) (.c (.int .i64 0))), none⟩, ⟨(some 10), .v (.mov (.t 9)), none⟩, ⟨(some 11), .v (.mov (.t 0)), (some (10, true))⟩, ⟨(some 12), .v (.mov (.t 4)), (some (10, true))⟩, ⟨(some 13), .v (.sidx (.t 11) (.t 12)), (some (10, true))⟩, ⟨(some 14), .v (.bin .neq (.t 13) (.c (.int .u8 126))), (some (10, true))⟩, ⟨(some 15), .v (.pick (.t 10) (.t 14) (.c (.bool false))), none⟩])
        (.cond (.t 15)
         .skip
         (.exit 0)))
       (.block 1
        (.reg [⟨(some 16), .v (.mov (.t 4)), none⟩, ⟨(some 17), .v (.bin .sub (.t 16) (.c (.int .i64 1))), none⟩, ⟨(some 4), .v (.mov (.t 17)), none⟩])))))
    (.seq
     (.seq
      (.reg [⟨(some 18), .v (.mov (.t 4)), none⟩, ⟨(some 19), .v (.bin .lss (.t 18) (.c (.int .i64 0))), none⟩, ⟨(some 20), .v (.mov (.t 19)), none⟩, ⟨(some 21), .v (.mov (.t 0)), (some (20, false))⟩, ⟨(some 22), .v (.mov (.t 4)), (some (20, false))⟩, ⟨(some 23), .v (.sstr (.t 21) none (some (.t 22))), (some (20, false))⟩, ⟨(some 24), .call 30 [(.t 23)], (some (20, false))⟩, ⟨(some 25), .v (.un .not (.t 24)), (some (20, false))⟩, ⟨(some 26), .v (.pick (.t 20) (.c (.bool true)) (.t 25)), none⟩, ⟨(some 27), .v (.mov (.t 26)), none⟩, ⟨(some 28), .v (.mov (.t 0)), (some (27, false))⟩, ⟨(some 29), .v (.mov (.t 4)), (some (27, false))⟩, ⟨(some 30), .v (.sstr (.t 28) none (some (.t 29))), (some (27, false))⟩, ⟨(some 31), .call 31 [(.t 30)], (some (27, false))⟩, ⟨(some 32), .v (.mov (.t 0)), (some (27, false))⟩, ⟨(some 33), .v (.bin .neq (.t 31) (.t 32)), (some (27, false))⟩, ⟨(some 34), .v (.pick (.t 27) (.c (.bool true)) (.t 33)), none⟩])
      (.cond (.t 34)
       (.seq
        (.reg [⟨(some 2), .v (.mov (.c (.str []))), none⟩, ⟨(some 3), .v (.mov (.c (.bool false))), none⟩])
        .ret)
       .skip))
     (.seq
      (.reg [⟨(some 35), .v (.mov (.t 0)), none⟩, ⟨(some 36), .v (.mov (.t 4)), none⟩, ⟨(some 37), .v (.sstr (.t 35) none (some (.t 36))), none⟩, ⟨(some 2), .v (.mov (.t 37)), none⟩, ⟨(some 3), .v (.mov (.c (.bool true))), none⟩])
      .ret)))))⟩
theorem e33 : rFunc Tryd.prog Tryd.f33 = some r33 := by kernel_rfl
def r11 : RFunc := ⟨8, [.t 2, .t 3],
 (.seq
  (.reg [⟨(some 2), .v (.mov (.c (.str []))), none⟩, ⟨(some 3), .v (.mov (.c (.bool false))), none⟩])
  (.seq
   (.reg [⟨(some 4), .v (.mov (.t 0)), none⟩, ⟨(some 5), .call 33 [(.t 4)], none⟩, ⟨(some 6), .v (.ext (.t 5) 0), none⟩, ⟨(some 7), .v (.ext (.t 5) 1), none⟩, ⟨(some 2), .v (.mov (.t 6)), none⟩, ⟨(some 3), .v (.mov (.t 7)), none⟩])
   .ret))⟩
theorem e11 : rFunc Tryd.prog Tryd.f11 = some r11 := by kernel_rfl
def r10 : RFunc := ⟨40, [.t 2, .t 3],
 (.seq
  (.reg [⟨(some 2), .v (.mov (.c (.str []))), none⟩, ⟨(some 3), .v (.mov (.c (.bool false))), none⟩])
  (.seq
   (.reg [⟨(some 4), .v (.mov (.c (.int .i64 0))), none⟩])
   (.seq
    (.seq
     (.reg [⟨(some 6), .v (.mov (.t 0)), none⟩, ⟨(some 7), .v (.lens (.t 6)), none⟩, ⟨(some 8), .v (.mov (.c (.int .i64 0))), none⟩])
     (.block 0
      (.loop
       (.seq
        (.reg [⟨(some 9), .v (.bin .lss (.t 8) (.t 7)), none⟩])
        (.seq
         (.cond (.t 9)
          .skip
          (.exit 0))
         (.seq
          (.block 1
           (.seq
            (.reg [⟨(some 10), .v (.mov (.t 8)), none⟩, ⟨(some 5), .v (.mov (.t 10)), none⟩])
            (.seq
             (.seq
              (.reg [⟨(some 11), .v (.mov (.t 0)), none⟩, ⟨(some 12), .v (.mov (.t 5)), none⟩, ⟨(some 13), .v (.sidx (.t 11) (.t 12)), none⟩, ⟨(some 14), .v (.bin .lss (.t 13) (.c (.int .u8 32))), none⟩, ⟨(some 15), .v (.mov (.t 14)), none⟩, ⟨(some 16), .v (.mov (.t 0)), (some (15, false))⟩, ⟨(some 17), .v (.mov (.t 5)), (some (15, false))⟩, ⟨(some 18), .v (.sidx (.t 16) (.t 17)), (some (15, false))⟩, ⟨(some 19), .v (.bin .gtr (.t 18) (.c (.int .u8 125))), (some (15, false))⟩, ⟨(some 20), .v (.pick (.t 15) (.c (.bool true)) (.t 19)), none⟩])
              (.cond (.t 20)
               (.seq
                (.reg [⟨(some 2), .v (.mov (.c (.str []))), none⟩, ⟨(some 3), .v (.mov (.c (.bool false))), none⟩])
                .ret)
               .skip))
             (.reg [⟨(some 21), .v (.mov (.t 4)), none⟩, ⟨(some 22), .v (.mov (.t 5)), none⟩, ⟨(some 23), .v (.bin .add (.t 22) (.c (.int .i64 1))), none⟩, ⟨(some 24), .v (.mov (.t 0)), none⟩, ⟨(some 25), .v (.mov (.t 5)), none⟩, ⟨(some 26), .v (.sidx (.t 24) (.t 25)), none⟩, ⟨(some 27), .v (.conv .i64 (.t 26)), none⟩, ⟨(some 28), .v (.bin .mul (.t 23) (.t 27)), none⟩, ⟨(some 29), .v (.bin .add (.t 21) (.t 28)), none⟩, ⟨(some 30), .v (.bin .rem (.t 29) (.c (.int .i64 65521))), none⟩, ⟨(some 4), .v (.mov (.t 30)), none⟩]))))
          (.reg [⟨(some 31), .v (.bin .add (.t 8) (.c (.int .i64 1))), none⟩, ⟨(some 8), .v (.mov (.t 31)), none⟩])))))))
    (.seq
     (.seq
      (.reg [⟨(some 32), .v (.mov (.t 0)), none⟩, ⟨(some 33), .v (.lens (.t 32)), none⟩, ⟨(some 34), .v (.bin .gtr (.t 33) (.c (.int .i64 6000))), none⟩])
      (.cond (.t 34)
       (.seq
        (.reg [⟨(some 2), .v (.mov (.c (.str []))), none⟩, ⟨(some 3), .v (.mov (.c (.bool false))), none⟩])
        .ret)
       .skip))
     (.seq
      (.reg [⟨(some 35), .v (.mov (.t 0)), none⟩, ⟨(some 36), .v (.bin .add (.t 35) (.c (.str [126]))), none⟩, ⟨(some 37), .v (.mov (.t 4)), none⟩, ⟨(some 38), .call 32 [(.t 37)], none⟩, ⟨(some 39), .v (.bin .add (.t 36) (.t 38)), none⟩, ⟨(some 2), .v (.mov (.t 39)), none⟩, ⟨(some 3), .v (.mov (.c (.bool true))), none⟩])
      .ret)))))⟩
theorem e10 : rFunc Tryd.prog Tryd.f10 = some r10 := by kernel_rfl
def r12 : RFunc := ⟨32, [.t 2, .t 3],
 (.seq
  (.reg [⟨(some 2), .v (.mov (.c (.str []))), none⟩, ⟨(some 3), .v (.mov (.c (.bool false))), none⟩])
  (.seq
   (.reg [⟨(some 10), .v (.mov (.t 0)), none⟩, ⟨(some 11), .call 34 [(.t 10), (.c (.str [126]))], none⟩, ⟨(some 9), .v (.mov (.t 11)), none⟩, ⟨(some 12), .v (.ext (.t 9) 0), none⟩, ⟨(some 13), .v (.ext (.t 9) 1), none⟩, ⟨(some 14), .v (.ext (.t 9) 2), none⟩, ⟨(some 4), .v (.mov (.t 12)), none⟩, ⟨(some 5), .v (.mov (.t 13)), none⟩, ⟨(some 6), .v (.mov (.t 14)), none⟩])
   (.seq
    (.reg [⟨(some 16), .v (.mov (.t 4)), none⟩, ⟨(some 17), .call 10 [(.t 16)], none⟩, ⟨(some 15), .v (.mov (.t 17)), none⟩, ⟨(some 18), .v (.ext (.t 15) 0), none⟩, ⟨(some 19), .v (.ext (.t 15) 1), none⟩, ⟨(some 7), .v (.mov (.t 18)), none⟩, ⟨(some 8), .v (.mov (.t 19)), none⟩])
    (.seq
     (.seq
      (.reg [⟨(some 20), .v (.mov (.t 6)), none⟩, ⟨(some 21), .v (.un .not (.t 20)), none⟩, ⟨(some 22), .v (.mov (.t 21)), none⟩, ⟨(some 23), .v (.mov (.t 8)), (some (22, false))⟩, ⟨(some 24), .v (.un .not (.t 23)), (some (22, false))⟩, ⟨(some 25), .v (.pick (.t 22) (.c (.bool true)) (.t 24)), none⟩, ⟨(some 26), .v (.mov (.t 25)), none⟩, ⟨(some 27), .v (.mov (.t 7)), (some (26, false))⟩, ⟨(some 28), .v (.mov (.t 0)), (some (26, false))⟩, ⟨(some 29), .v (.bin .neq (.t 27) (.t 28)), (some (26, false))⟩, ⟨(some 30), .v (.pick (.t 26) (.c (.bool true)) (.t 29)), none⟩])
      (.cond (.t 30)
       (.seq
        (.reg [⟨(some 2), .v (.mov (.c (.str []))), none⟩, ⟨(some 3), .v (.mov (.c (.bool false))), none⟩])
        .ret)
       .skip))
     (.seq
      (.reg [⟨(some 31), .v (.mov (.t 4)), none⟩, ⟨(some 2), .v (.mov (.t 31)), none⟩, ⟨(some 3), .v (.mov (.c (.bool true))), none⟩])
      .ret)))))⟩
theorem e12 : rFunc Tryd.prog Tryd.f12 = some r12 := by kernel_rfl
def r4 : RFunc := ⟨28, [.t 2],
 (.seq
  (.reg [⟨(some 2), .v (.mov (.c (.bool false))), none⟩])
  (.seq
   (.seq
    (.reg [⟨(some 7), .v (.mov (.t 0)), none⟩, ⟨(some 8), .v (.lens (.t 7)), none⟩, ⟨(some 9), .v (.bin .gtr (.t 8) (.c (.int .i64 1048576))), none⟩])
    (.cond (.t 9)
     (.seq
      (.reg [⟨(some 2), .v (.mov (.c (.bool true))), none⟩])
      .ret)
     .skip))
   (.seq
    (.reg [⟨(some 11), .v (.mov (.t 0)), none⟩, ⟨(some 12), .call 11 [(.t 11)], none⟩, ⟨(some 10), .v (.mov (.t 12)), none⟩, ⟨(some 13), .v (.ext (.t 10) 0), none⟩, ⟨(some 14), .v (.ext (.t 10) 1), none⟩, ⟨(some 3), .v (.mov (.t 13)), none⟩, ⟨(some 4), .v (.mov (.t 14)), none⟩])
    (.seq
     (.reg [⟨(some 16), .v (.mov (.t 0)), none⟩, ⟨(some 17), .call 12 [(.t 16)], none⟩, ⟨(some 15), .v (.mov (.t 17)), none⟩, ⟨(some 18), .v (.ext (.t 15) 0), none⟩, ⟨(some 19), .v (.ext (.t 15) 1), none⟩, ⟨(some 5), .v (.mov (.t 18)), none⟩, ⟨(some 6), .v (.mov (.t 19)), none⟩])
     (.seq
      (.seq
       (.reg [⟨(some 20), .v (.mov (.t 5)), none⟩, ⟨(some 21), .v (.mov (.t 3)), none⟩, ⟨(some 22), .v (.bin .neq (.t 20) (.t 21)), none⟩, ⟨(some 23), .v (.mov (.t 22)), none⟩, ⟨(some 24), .v (.mov (.t 6)), (some (23, false))⟩, ⟨(some 25), .v (.mov (.t 4)), (some (23, false))⟩, ⟨(some 26), .v (.beq true (.t 24) (.t 25)), (some (23, false))⟩, ⟨(some 27), .v (.pick (.t 23) (.c (.bool true)) (.t 26)), none⟩])
       (.cond (.t 27)
        (.seq
         (.reg [⟨(some 2), .v (.mov (.c (.bool false))), none⟩])
         .ret)
        .skip))
      (.seq
       (.reg [⟨(some 2), .v (.mov (.c (.bool true))), none⟩])
       .ret))))))⟩
theorem e4 : rFunc Tryd.prog Tryd.f4 = some r4 := by kernel_rfl
end Go.Proofs.YtdioanhigobpcaaDoor.M
