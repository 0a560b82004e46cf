/-
  The resolved text of the functions, each tied to the program's own by the kernel.
-/
import Derived.Test.YtoappkfndnggnaaDoorProg
import Derived.Test.YtoappkfndnggnaaDoorFa
namespace Go.Proofs.YtoappkfndnggnaaDoor.M
open Go Go.RowKit
set_option maxRecDepth 100000

def r65 : RFunc := ⟨23, [.t 2],
 (.seq
  (.reg [⟨(some 2), .v (.mov (.c (.bool false))), none⟩])
  (.seq
   (.seq
    (.reg [⟨(some 3), .v (.mov (.c (.int .i64 0))), none⟩])
    (.block 0
     (.loop
      (.seq
       (.seq
        (.reg [⟨(some 4), .v (.mov (.t 3)), none⟩, ⟨(some 5), .v (.mov (.t 0)), none⟩, ⟨(some 6), .v (.lens (.t 5)), none⟩, ⟨(some 7), .v (.bin .lss (.t 4) (.t 6)), none⟩])
        (.cond (.t 7)
         .skip
         (.exit 0)))
       (.seq
        (.block 1
         (.seq
          (.reg [⟨(some 10), .v (.mov (.t 0)), none⟩, ⟨(some 11), .v (.mov (.t 3)), none⟩, ⟨(some 12), .v (.sidx (.t 10) (.t 11)), none⟩, ⟨(some 13), .v (.bin .lss (.t 12) (.c (.int .u8 32))), none⟩, ⟨(some 14), .v (.mov (.t 13)), none⟩, ⟨(some 15), .v (.mov (.t 0)), (some (14, false))⟩, ⟨(some 16), .v (.mov (.t 3)), (some (14, false))⟩, ⟨(some 17), .v (.sidx (.t 15) (.t 16)), (some (14, false))⟩, ⟨(some 18), .v (.bin .gtr (.t 17) (.c (.int .u8 125))), (some (14, false))⟩, ⟨(some 19), .v (.pick (.t 14) (.c (.bool true)) (.t 18)), none⟩])
          (.cond (.t 19)
           (.seq
            (.reg [⟨(some 2), .v (.mov (.c (.bool false))), none⟩])
            .ret)
           .skip)))
        (.reg [⟨(some 8), .v (.mov (.t 3)), none⟩, ⟨(some 9), .v (.bin .add (.t 8) (.c (.int .i64 1))), none⟩, ⟨(some 3), .v (.mov (.t 9)), none⟩]))))))
   (.seq
    (.reg [⟨(some 20), .v (.mov (.t 0)), none⟩, ⟨(some 21), .v (.lens (.t 20)), none⟩, ⟨(some 22), .v (.bin .leq (.t 21) (.c (.int .i64 6000))), none⟩, ⟨(some 2), .v (.mov (.t 22)), none⟩])
    .ret)))⟩
theorem e65 : rFunc Tryd.prog Tryd.f65 = some r65 := by kernel_rfl
def r57 : RFunc := ⟨20, [.t 2],
 (.seq
  (.reg [⟨(some 2), .v (.mov (.c (.str []))), none⟩])
  (.seq
   (.seq
    (.reg [⟨(some 3), .v (.mov (.t 0)), none⟩, ⟨(some 4), .v (.bin .lss (.t 3) (.c (.int .i64 10))), none⟩])
    (.cond (.t 4)
     (.seq
      (.reg [⟨(some 5), .v (.mov (.t 0)), none⟩, ⟨(some 6), .v (.bin .add (.c (.int .i64 48)) (.t 5)), none⟩, ⟨(some 7), .v (.conv .u8 (.t 6)), none⟩, ⟨(some 8), .m (.bsl 1 1 [(.int .u8 0)] [(0, 1, (.t 7))]), none⟩, ⟨(some 9), .v (.cbs (.t 8)), none⟩, ⟨(some 2), .v (.mov (.t 9)), none⟩])
      .ret)
     .skip))
   (.seq
    (.dreg (.fl ⟨(some 10), .v (.mov (.t 0)), none⟩ (.fl ⟨(some 11), .v (.bin .quo (.t 10) (.c (.int .i64 10))), none⟩ (.fl ⟨(some 13), .v (.mov (.t 0)), none⟩ (.fl ⟨(some 14), .v (.bin .rem (.t 13) (.c (.int .i64 10))), none⟩ (.fl ⟨(some 15), .v (.bin .add (.c (.int .i64 48)) (.t 14)), none⟩ (.fl ⟨(some 16), .v (.conv .u8 (.t 15)), none⟩ (.both (.nx ⟨(some 12), .call 57 [(.t 11)], none⟩ (.nx ⟨(some 17), .m (.bsl 1 1 [(.int .u8 0)] [(0, 1, (.t 16))]), none⟩ (.fl ⟨(some 18), .v (.cbs (.t 17)), none⟩ (.fl ⟨(some 19), .v (.bin .add (.t 12) (.t 18)), none⟩ (.fl ⟨(some 2), .v (.mov (.t 19)), none⟩ .done))))) (.nx ⟨(some 17), .m (.bsl 1 1 [(.int .u8 0)] [(0, 1, (.t 16))]), none⟩ (.fl ⟨(some 18), .v (.cbs (.t 17)), none⟩ (.nx ⟨(some 12), .call 57 [(.t 11)], none⟩ (.fl ⟨(some 19), .v (.bin .add (.t 12) (.t 18)), none⟩ (.fl ⟨(some 2), .v (.mov (.t 19)), none⟩ .done)))))))))))))
    .ret)))⟩
theorem e57 : rFunc Tryd.prog Tryd.f57 = some r57 := by kernel_rfl
def r66 : RFunc := ⟨26, [.t 2],
 (.seq
  (.reg [⟨(some 2), .v (.mov (.c (.str []))), none⟩])
  (.seq
   (.reg [⟨(some 3), .v (.mov (.c (.int .i64 0))), none⟩])
   (.seq
    (.seq
     (.reg [⟨(some 4), .v (.mov (.c (.int .i64 0))), none⟩])
     (.block 0
      (.loop
       (.seq
        (.seq
         (.reg [⟨(some 5), .v (.mov (.t 4)), none⟩, ⟨(some 6), .v (.mov (.t 0)), none⟩, ⟨(some 7), .v (.lens (.t 6)), none⟩, ⟨(some 8), .v (.bin .lss (.t 5) (.t 7)), none⟩])
         (.cond (.t 8)
          .skip
          (.exit 0)))
        (.seq
         (.block 1
          (.reg [⟨(some 11), .v (.mov (.t 3)), none⟩, ⟨(some 12), .v (.mov (.t 4)), none⟩, ⟨(some 13), .v (.bin .add (.t 12) (.c (.int .i64 1))), none⟩, ⟨(some 14), .v (.mov (.t 0)), none⟩, ⟨(some 15), .v (.mov (.t 4)), none⟩, ⟨(some 16), .v (.sidx (.t 14) (.t 15)), none⟩, ⟨(some 17), .v (.conv .i64 (.t 16)), none⟩, ⟨(some 18), .v (.bin .mul (.t 13) (.t 17)), none⟩, ⟨(some 19), .v (.bin .add (.t 11) (.t 18)), none⟩, ⟨(some 20), .v (.bin .rem (.t 19) (.c (.int .i64 65521))), none⟩, ⟨(some 3), .v (.mov (.t 20)), none⟩]))
         (.reg [⟨(some 9), .v (.mov (.t 4)), none⟩, ⟨(some 10), .v (.bin .add (.t 9) (.c (.int .i64 1))), none⟩, ⟨(some 4), .v (.mov (.t 10)), none⟩]))))))
    (.seq
     (.reg [⟨(some 21), .v (.mov (.t 0)), none⟩, ⟨(some 22), .v (.bin .add (.t 21) (.c (.str [126]))), none⟩, ⟨(some 23), .v (.mov (.t 3)), none⟩, ⟨(some 24), .call 57 [(.t 23)], none⟩, ⟨(some 25), .v (.bin .add (.t 22) (.t 24)), none⟩, ⟨(some 2), .v (.mov (.t 25)), none⟩])
     .ret))))⟩
theorem e66 : rFunc Tryd.prog Tryd.f66 = some r66 := by kernel_rfl
def r33 : RFunc := ⟨38, [.t 2, .t 3],
 (.seq
  (.reg [⟨(some 2), .v (.mov (.c (.str []))), none⟩, ⟨(some 3), .v (.mov (.c (.bool false))), none⟩])
  (.seq
   (.reg [⟨(some 5), .v (.mov (.t 0)), none⟩, ⟨(some 6), .v (.lens (.t 5)), none⟩, ⟨(some 7), .v (.bin .sub (.t 6) (.c (.int .i64 1))), none⟩, ⟨(some 4), .v (.mov (.t 7)), none⟩])
   (.seq
    (.block 0
     (.loop
      (.seq
       (.seq
        (.reg [⟨(some 8), .v (.mov (.t 4)), none⟩, ⟨(some 9), .v (.bin .geq (.t 8) (.c (.int .i64 0))), none⟩, ⟨(some 10), .v (.mov (.t 9)), none⟩, ⟨(some 11), .v (.mov (.t 0)), (some (10, true))⟩, ⟨(some 12), .v (.mov (.t 4)), (some (10, true))⟩, ⟨(some 13), .v (.sidx (.t 11) (.t 12)), (some (10, true))⟩, ⟨(some 14), .v (.bin .neq (.t 13) (.c (.int .u8 126))), (some (10, true))⟩, ⟨(some 15), .v (.pick (.t 10) (.t 14) (.c (.bool false))), none⟩])
        (.cond (.t 15)
         .skip
         (.exit 0)))
       (.block 1
        (.reg [⟨(some 16), .v (.mov (.t 4)), none⟩, ⟨(some 17), .v (.bin .sub (.t 16) (.c (.int .i64 1))), none⟩, ⟨(some 4), .v (.mov (.t 17)), none⟩])))))
    (.seq
     (.seq
      (.reg [⟨(some 18), .v (.mov (.t 4)), none⟩, ⟨(some 19), .v (.bin .lss (.t 18) (.c (.int .i64 0))), none⟩, ⟨(some 20), .v (.mov (.t 19)), none⟩, ⟨(some 21), .v (.mov (.t 0)), (some (20, false))⟩, ⟨(some 22), .v (.mov (.t 4)), (some (20, false))⟩, ⟨(some 23), .v (.sstr (.t 21) none (some (.t 22))), (some (20, false))⟩, ⟨(some 24), .call 65 [(.t 23)], (some (20, false))⟩, ⟨(some 25), .v (.un .not (.t 24)), (some (20, false))⟩, ⟨(some 26), .v (.pick (.t 20) (.c (.bool true)) (.t 25)), none⟩, ⟨(some 27), .v (.mov (.t 26)), none⟩, ⟨(some 28), .v (.mov (.t 0)), (some (27, false))⟩, ⟨(some 29), .v (.mov (.t 4)), (some (27, false))⟩, ⟨(some 30), .v (.sstr (.t 28) none (some (.t 29))), (some (27, false))⟩, ⟨(some 31), .call 66 [(.t 30)], (some (27, false))⟩, ⟨(some 32), .v (.mov (.t 0)), (some (27, false))⟩, ⟨(some 33), .v (.bin .neq (.t 31) (.t 32)), (some (27, false))⟩, ⟨(some 34), .v (.pick (.t 27) (.c (.bool true)) (.t 33)), none⟩])
      (.cond (.t 34)
       (.seq
        (.reg [⟨(some 2), .v (.mov (.c (.str []))), none⟩, ⟨(some 3), .v (.mov (.c (.bool false))), none⟩])
        .ret)
       .skip))
     (.seq
      (.reg [⟨(some 35), .v (.mov (.t 0)), none⟩, ⟨(some 36), .v (.mov (.t 4)), none⟩, ⟨(some 37), .v (.sstr (.t 35) none (some (.t 36))), none⟩, ⟨(some 2), .v (.mov (.t 37)), none⟩, ⟨(some 3), .v (.mov (.c (.bool true))), none⟩])
      .ret)))))⟩
theorem e33 : rFunc Tryd.prog Tryd.f33 = some r33 := by kernel_rfl
def r34 : RFunc := ⟨18, [.t 4],
 (.seq
  (.reg [⟨(some 4), .v (.mov (.c (.bool false))), none⟩])
  (.seq
   (.reg [⟨(some 5), .v (.mov (.t 0)), none⟩, ⟨(some 6), .v (.lens (.t 5)), none⟩, ⟨(some 7), .v (.mov (.t 1)), none⟩, ⟨(some 8), .v (.lens (.t 7)), none⟩, ⟨(some 9), .v (.bin .geq (.t 6) (.t 8)), none⟩, ⟨(some 10), .v (.mov (.t 9)), none⟩, ⟨(some 11), .v (.mov (.t 0)), (some (10, true))⟩, ⟨(some 12), .v (.mov (.t 1)), (some (10, true))⟩, ⟨(some 13), .v (.lens (.t 12)), (some (10, true))⟩, ⟨(some 14), .v (.sstr (.t 11) none (some (.t 13))), (some (10, true))⟩, ⟨(some 15), .v (.mov (.t 1)), (some (10, true))⟩, ⟨(some 16), .v (.bin .eql (.t 14) (.t 15)), (some (10, true))⟩, ⟨(some 17), .v (.pick (.t 10) (.t 16) (.c (.bool false))), none⟩, ⟨(some 4), .v (.mov (.t 17)), none⟩])
   .ret))⟩
theorem e34 : rFunc Tryd.prog Tryd.f34 = some r34 := by kernel_rfl
def r67 : RFunc := ⟨15, [.t 6],
 (.seq
  (.reg [⟨(some 6), .v (.mov (.c (.bool false))), none⟩])
  (.seq
   (.reg [⟨(some 7), .v (.mov (.t 0)), none⟩, ⟨(some 8), .v (.mov (.t 1)), none⟩, ⟨(some 9), .v (.bin .geq (.t 7) (.t 8)), none⟩, ⟨(some 10), .v (.mov (.t 9)), none⟩, ⟨(some 11), .v (.mov (.t 0)), (some (10, true))⟩, ⟨(some 12), .v (.mov (.t 2)), (some (10, true))⟩, ⟨(some 13), .v (.bin .leq (.t 11) (.t 12)), (some (10, true))⟩, ⟨(some 14), .v (.pick (.t 10) (.t 13) (.c (.bool false))), none⟩, ⟨(some 6), .v (.mov (.t 14)), none⟩])
   .ret))⟩
theorem e67 : rFunc Tryd.prog Tryd.f67 = some r67 := by kernel_rfl
def r35 : RFunc := ⟨40, [.cell true 2 2, .t 3],
 (.seq
  (.reg [⟨(some 2), .m (.alloc [(.int .i64 0), .nils]), none⟩, ⟨(some 3), .v (.mov (.c (.bool false))), none⟩])
  (.seq
   (.seq
    (.reg [⟨(some 6), .v (.mov (.t 0)), none⟩, ⟨(some 7), .v (.bin .eql (.t 6) (.c (.str [45]))), none⟩])
    (.cond (.t 7)
     (.seq
      (.reg [⟨(some 8), .v (.bld [(.int .i64 0), .nils] []), none⟩, ⟨none, .m (.store 2 (.t 2) (.t 8)), none⟩, ⟨(some 3), .v (.mov (.c (.bool true))), none⟩])
      .ret)
     .skip))
   (.seq
    (.reg [⟨(some 4), .v (.mov (.c .nils)), none⟩])
    (.seq
     (.seq
      (.reg [⟨(some 5), .v (.mov (.c (.int .i64 0))), none⟩])
      (.block 0
       (.loop
        (.seq
         (.seq
          (.reg [⟨(some 9), .v (.mov (.t 5)), none⟩, ⟨(some 10), .v (.mov (.t 0)), none⟩, ⟨(some 11), .v (.lens (.t 10)), none⟩, ⟨(some 12), .v (.bin .lss (.t 9) (.t 11)), none⟩])
          (.cond (.t 12)
           .skip
           (.exit 0)))
         (.seq
          (.block 1
           (.seq
            (.seq
             (.reg [⟨(some 15), .v (.mov (.t 0)), none⟩, ⟨(some 16), .v (.mov (.t 5)), none⟩, ⟨(some 17), .v (.sidx (.t 15) (.t 16)), none⟩, ⟨(some 18), .v (.bin .neq (.t 17) (.c (.int .u8 48))), none⟩, ⟨(some 19), .v (.mov (.t 18)), none⟩, ⟨(some 20), .v (.mov (.t 0)), (some (19, true))⟩, ⟨(some 21), .v (.mov (.t 5)), (some (19, true))⟩, ⟨(some 22), .v (.sidx (.t 20) (.t 21)), (some (19, true))⟩, ⟨(some 23), .v (.bin .neq (.t 22) (.c (.int .u8 49))), (some (19, true))⟩, ⟨(some 24), .v (.pick (.t 19) (.t 23) (.c (.bool false))), none⟩])
             (.cond (.t 24)
              (.seq
               (.reg [⟨(some 25), .v (.bld [(.int .i64 0), .nils] []), none⟩, ⟨none, .m (.store 2 (.t 2) (.t 25)), none⟩, ⟨(some 3), .v (.mov (.c (.bool false))), none⟩])
               .ret)
              .skip))
            (.reg [⟨(some 26), .v (.mov (.t 4)), none⟩, ⟨(some 27), .v (.mov (.t 0)), none⟩, ⟨(some 28), .v (.mov (.t 5)), none⟩, ⟨(some 29), .v (.sidx (.t 27) (.t 28)), none⟩, ⟨(some 30), .v (.bin .eql (.t 29) (.c (.int .u8 49))), none⟩, ⟨(some 31), .m (.bsl 1 1 [(.bool false)] [(0, 1, (.t 30))]), none⟩, ⟨(some 32), .m (.app false 1 1 (.t 26) (.t 31)), none⟩, ⟨(some 4), .v (.mov (.t 32)), none⟩])))
          (.reg [⟨(some 13), .v (.mov (.t 5)), none⟩, ⟨(some 14), .v (.bin .add (.t 13) (.c (.int .i64 1))), none⟩, ⟨(some 5), .v (.mov (.t 14)), none⟩]))))))
     (.seq
      (.seq
       (.reg [⟨(some 33), .v (.mov (.t 4)), none⟩, ⟨(some 34), .v (.len (.t 33)), none⟩, ⟨(some 35), .call 67 [(.t 34), (.c (.int .i64 1)), (.c (.int .i64 4096))], none⟩, ⟨(some 36), .v (.un .not (.t 35)), none⟩])
       (.cond (.t 36)
        (.seq
         (.reg [⟨(some 37), .v (.bld [(.int .i64 0), .nils] []), none⟩, ⟨none, .m (.store 2 (.t 2) (.t 37)), none⟩, ⟨(some 3), .v (.mov (.c (.bool false))), none⟩])
         .ret)
        .skip))
      (.seq
       (.reg [⟨(some 38), .v (.mov (.t 4)), none⟩, ⟨(some 39), .call 68 [(.t 38)], none⟩, ⟨none, .m (.store 2 (.t 2) (.t 39)), none⟩, ⟨(some 3), .v (.mov (.c (.bool true))), none⟩])
       .ret))))))⟩
theorem e35 : rFunc Tryd.prog Tryd.f35 = some r35 := by kernel_rfl
def r8 : RFunc := ⟨24, [.cell true 2 2, .t 3],
 (.seq
  (.reg [⟨(some 2), .m (.alloc [(.int .i64 0), .nils]), none⟩, ⟨(some 3), .v (.mov (.c (.bool false))), none⟩])
  (.seq
   (.reg [⟨(some 7), .v (.mov (.t 0)), none⟩, ⟨(some 8), .call 33 [(.t 7)], none⟩, ⟨(some 6), .v (.mov (.t 8)), none⟩, ⟨(some 9), .v (.ext (.t 6) 0), none⟩, ⟨(some 10), .v (.ext (.t 6) 1), none⟩, ⟨(some 4), .v (.mov (.t 9)), none⟩, ⟨(some 5), .v (.mov (.t 10)), none⟩])
   (.seq
    (.seq
     (.reg [⟨(some 11), .v (.mov (.t 5)), none⟩, ⟨(some 12), .v (.un .not (.t 11)), none⟩, ⟨(some 13), .v (.mov (.t 12)), none⟩, ⟨(some 14), .v (.mov (.t 4)), (some (13, false))⟩, ⟨(some 15), .call 34 [(.t 14), (.c (.str [98, 105, 116, 115, 32]))], (some (13, false))⟩, ⟨(some 16), .v (.un .not (.t 15)), (some (13, false))⟩, ⟨(some 17), .v (.pick (.t 13) (.c (.bool true)) (.t 16)), none⟩])
     (.cond (.t 17)
      (.seq
       (.reg [⟨(some 18), .v (.bld [(.int .i64 0), .nils] []), none⟩, ⟨none, .m (.store 2 (.t 2) (.t 18)), none⟩, ⟨(some 3), .v (.mov (.c (.bool false))), none⟩])
       .ret)
      .skip))
    (.seq
     (.reg [⟨(some 19), .v (.mov (.t 4)), none⟩, ⟨(some 20), .v (.sstr (.t 19) (some (.c (.int .i64 5))) none), none⟩, ⟨(some 21), .call 35 [(.t 20)], none⟩, ⟨(some 22), .v (.ext (.t 21) 0), none⟩, ⟨(some 23), .v (.ext (.t 21) 1), none⟩, ⟨none, .m (.store 2 (.t 2) (.t 22)), none⟩, ⟨(some 3), .v (.mov (.t 23)), none⟩])
     .ret))))⟩
theorem e8 : rFunc Tryd.prog Tryd.f8 = some r8 := by kernel_rfl
def r49 : RFunc := ⟨40, [.t 2, .t 3],
 (.seq
  (.reg [⟨(some 2), .v (.mov (.c (.str []))), none⟩, ⟨(some 3), .v (.mov (.c (.bool false))), none⟩])
  (.seq
   (.reg [⟨(some 4), .v (.mov (.c (.int .i64 0))), none⟩])
   (.seq
    (.seq
     (.reg [⟨(some 6), .v (.mov (.t 0)), none⟩, ⟨(some 7), .v (.lens (.t 6)), none⟩, ⟨(some 8), .v (.mov (.c (.int .i64 0))), none⟩])
     (.block 0
      (.loop
       (.seq
        (.reg [⟨(some 9), .v (.bin .lss (.t 8) (.t 7)), none⟩])
        (.seq
         (.cond (.t 9)
          .skip
          (.exit 0))
         (.seq
          (.block 1
           (.seq
            (.reg [⟨(some 10), .v (.mov (.t 8)), none⟩, ⟨(some 5), .v (.mov (.t 10)), none⟩])
            (.seq
             (.seq
              (.reg [⟨(some 11), .v (.mov (.t 0)), none⟩, ⟨(some 12), .v (.mov (.t 5)), none⟩, ⟨(some 13), .v (.sidx (.t 11) (.t 12)), none⟩, ⟨(some 14), .v (.bin .lss (.t 13) (.c (.int .u8 32))), none⟩, ⟨(some 15), .v (.mov (.t 14)), none⟩, ⟨(some 16), .v (.mov (.t 0)), (some (15, false))⟩, ⟨(some 17), .v (.mov (.t 5)), (some (15, false))⟩, ⟨(some 18), .v (.sidx (.t 16) (.t 17)), (some (15, false))⟩, ⟨(some 19), .v (.bin .gtr (.t 18) (.c (.int .u8 125))), (some (15, false))⟩, ⟨(some 20), .v (.pick (.t 15) (.c (.bool true)) (.t 19)), none⟩])
              (.cond (.t 20)
               (.seq
                (.reg [⟨(some 2), .v (.mov (.c (.str []))), none⟩, ⟨(some 3), .v (.mov (.c (.bool false))), none⟩])
                .ret)
               .skip))
             (.reg [⟨(some 21), .v (.mov (.t 4)), none⟩, ⟨(some 22), .v (.mov (.t 5)), none⟩, ⟨(some 23), .v (.bin .add (.t 22) (.c (.int .i64 1))), none⟩, ⟨(some 24), .v (.mov (.t 0)), none⟩, ⟨(some 25), .v (.mov (.t 5)), none⟩, ⟨(some 26), .v (.sidx (.t 24) (.t 25)), none⟩, ⟨(some 27), .v (.conv .i64 (.t 26)), none⟩, ⟨(some 28), .v (.bin .mul (.t 23) (.t 27)), none⟩, ⟨(some 29), .v (.bin .add (.t 21) (.t 28)), none⟩, ⟨(some 30), .v (.bin .rem (.t 29) (.c (.int .i64 65521))), none⟩, ⟨(some 4), .v (.mov (.t 30)), none⟩]))))
          (.reg [⟨(some 31), .v (.bin .add (.t 8) (.c (.int .i64 1))), none⟩, ⟨(some 8), .v (.mov (.t 31)), none⟩])))))))
    (.seq
     (.seq
      (.reg [⟨(some 32), .v (.mov (.t 0)), none⟩, ⟨(some 33), .v (.lens (.t 32)), none⟩, ⟨(some 34), .v (.bin .gtr (.t 33) (.c (.int .i64 6000))), none⟩])
      (.cond (.t 34)
       (.seq
        (.reg [⟨(some 2), .v (.mov (.c (.str []))), none⟩, ⟨(some 3), .v (.mov (.c (.bool false))), none⟩])
        .ret)
       .skip))
     (.seq
      (.reg [⟨(some 35), .v (.mov (.t 0)), none⟩, ⟨(some 36), .v (.bin .add (.t 35) (.c (.str [126]))), none⟩, ⟨(some 37), .v (.mov (.t 4)), none⟩, ⟨(some 38), .call 61 [(.t 37)], none⟩, ⟨(some 39), .v (.bin .add (.t 36) (.t 38)), none⟩, ⟨(some 2), .v (.mov (.t 39)), none⟩, ⟨(some 3), .v (.mov (.c (.bool true))), none⟩])
      .ret)))))⟩
theorem e49 : rFunc Tryd.prog Tryd.f49 = some r49 := by kernel_rfl
def r18 : RFunc := ⟨32, [.t 2, .t 3],
 (.seq
  (.reg [⟨(some 2), .v (.mov (.c (.str []))), none⟩, ⟨(some 3), .v (.mov (.c (.bool false))), none⟩])
  (.seq
   (.reg [⟨(some 10), .v (.mov (.t 0)), none⟩, ⟨(some 11), .call 48 [(.t 10), (.c (.str [126]))], none⟩, ⟨(some 9), .v (.mov (.t 11)), none⟩, ⟨(some 12), .v (.ext (.t 9) 0), none⟩, ⟨(some 13), .v (.ext (.t 9) 1), none⟩, ⟨(some 14), .v (.ext (.t 9) 2), none⟩, ⟨(some 4), .v (.mov (.t 12)), none⟩, ⟨(some 5), .v (.mov (.t 13)), none⟩, ⟨(some 6), .v (.mov (.t 14)), none⟩])
   (.seq
    (.reg [⟨(some 16), .v (.mov (.t 4)), none⟩, ⟨(some 17), .call 49 [(.t 16)], none⟩, ⟨(some 15), .v (.mov (.t 17)), none⟩, ⟨(some 18), .v (.ext (.t 15) 0), none⟩, ⟨(some 19), .v (.ext (.t 15) 1), none⟩, ⟨(some 7), .v (.mov (.t 18)), none⟩, ⟨(some 8), .v (.mov (.t 19)), none⟩])
    (.seq
     (.seq
      (.reg [⟨(some 20), .v (.mov (.t 6)), none⟩, ⟨(some 21), .v (.un .not (.t 20)), none⟩, ⟨(some 22), .v (.mov (.t 21)), none⟩, ⟨(some 23), .v (.mov (.t 8)), (some (22, false))⟩, ⟨(some 24), .v (.un .not (.t 23)), (some (22, false))⟩, ⟨(some 25), .v (.pick (.t 22) (.c (.bool true)) (.t 24)), none⟩, ⟨(some 26), .v (.mov (.t 25)), none⟩, ⟨(some 27), .v (.mov (.t 7)), (some (26, false))⟩, ⟨(some 28), .v (.mov (.t 0)), (some (26, false))⟩, ⟨(some 29), .v (.bin .neq (.t 27) (.t 28)), (some (26, false))⟩, ⟨(some 30), .v (.pick (.t 26) (.c (.bool true)) (.t 29)), none⟩])
      (.cond (.t 30)
       (.seq
        (.reg [⟨(some 2), .v (.mov (.c (.str []))), none⟩, ⟨(some 3), .v (.mov (.c (.bool false))), none⟩])
        .ret)
       .skip))
     (.seq
      (.reg [⟨(some 31), .v (.mov (.t 4)), none⟩, ⟨(some 2), .v (.mov (.t 31)), none⟩, ⟨(some 3), .v (.mov (.c (.bool true))), none⟩])
      .ret)))))⟩
theorem e18 : rFunc Tryd.prog Tryd.f18 = some r18 := by kernel_rfl
def r36 : RFunc := ⟨27, [.t 4, .t 5],
 (.seq
  (.reg [⟨(some 4), .v (.mov (.c .nils)), none⟩, ⟨(some 5), .v (.mov (.c (.bool false))), none⟩])
  (.seq
   (.reg [⟨(some 10), .v (.mov (.t 0)), none⟩, ⟨(some 11), .call 18 [(.t 10)], none⟩, ⟨(some 9), .v (.mov (.t 11)), none⟩, ⟨(some 12), .v (.ext (.t 9) 0), none⟩, ⟨(some 13), .v (.ext (.t 9) 1), none⟩, ⟨(some 6), .v (.mov (.t 12)), none⟩, ⟨(some 7), .v (.mov (.t 13)), none⟩])
   (.seq
    (.reg [⟨(some 14), .v (.mov (.t 6)), none⟩, ⟨(some 15), .call 69 [(.t 14), (.c (.str [32]))], none⟩, ⟨(some 8), .v (.mov (.t 15)), none⟩])
    (.seq
     (.seq
      (.reg [⟨(some 16), .v (.mov (.t 7)), none⟩, ⟨(some 17), .v (.un .not (.t 16)), none⟩, ⟨(some 18), .v (.mov (.t 17)), none⟩, ⟨(some 19), .v (.mov (.t 8)), (some (18, false))⟩, ⟨(some 20), .v (.iaddr 1 (.t 19) (.c (.int .i64 0))), (some (18, false))⟩, ⟨(some 21), .v (.load false 1 (.t 20)), (some (18, false))⟩, ⟨(some 22), .v (.mov (.t 1)), (some (18, false))⟩, ⟨(some 23), .v (.bin .neq (.t 21) (.t 22)), (some (18, false))⟩, ⟨(some 24), .v (.pick (.t 18) (.c (.bool true)) (.t 23)), none⟩])
      (.cond (.t 24)
       (.seq
        (.reg [⟨(some 4), .v (.mov (.c .nils)), none⟩, ⟨(some 5), .v (.mov (.c (.bool false))), none⟩])
        .ret)
       .skip))
     (.seq
      (.reg [⟨(some 25), .v (.mov (.t 8)), none⟩, ⟨(some 26), .v (.slc 1 (.t 25) (some (.c (.int .i64 1))) none), none⟩, ⟨(some 4), .v (.mov (.t 26)), none⟩, ⟨(some 5), .v (.mov (.c (.bool true))), none⟩])
      .ret)))))⟩
theorem e36 : rFunc Tryd.prog Tryd.f36 = some r36 := by kernel_rfl
def r73 : RFunc := ⟨8, [.t 3],
 (.seq
  (.reg [⟨(some 3), .v (.mov (.c (.bool false))), none⟩])
  (.seq
   (.reg [⟨(some 4), .v (.load false 1 (.t 1)), none⟩, ⟨(some 5), .v (.mov (.t 0)), none⟩, ⟨(some 6), .v (.sidx (.t 4) (.t 5)), none⟩, ⟨(some 7), .v (.bin .eql (.t 6) (.c (.int .u8 49))), none⟩, ⟨(some 3), .v (.mov (.t 7)), none⟩])
   .ret))⟩
theorem e73 : rFunc Tryd.prog Tryd.f73 = some r73 := by kernel_rfl
def r37 : RFunc := ⟨21, [.cell true 2 2, .t 3],
 (.seq
  (.reg [⟨(some 1), .m (.box (.t 0)), none⟩, ⟨(some 2), .m (.alloc [(.int .i64 0), .nils]), none⟩, ⟨(some 3), .v (.mov (.c (.bool false))), none⟩])
  (.seq
   (.seq
    (.reg [⟨(some 4), .v (.load false 1 (.t 1)), none⟩, ⟨(some 5), .v (.bin .eql (.t 4) (.c (.str [45]))), none⟩])
    (.cond (.t 5)
     (.seq
      (.reg [⟨(some 6), .v (.bld [(.int .i64 0), .nils] []), none⟩, ⟨none, .m (.store 2 (.t 2) (.t 6)), none⟩, ⟨(some 3), .v (.mov (.c (.bool true))), none⟩])
      .ret)
     .skip))
   (.seq
    (.seq
     (.reg [⟨(some 7), .v (.load false 1 (.t 1)), none⟩, ⟨(some 8), .v (.lens (.t 7)), none⟩, ⟨(some 9), .call 70 [(.t 8), (.c (.int .i64 1)), (.c (.int .i64 4096))], none⟩, ⟨(some 10), .v (.un .not (.t 9)), none⟩, ⟨(some 11), .v (.mov (.t 10)), none⟩, ⟨(some 12), .v (.load false 1 (.t 1)), (some (11, false))⟩, ⟨(some 13), .call 71 [(.t 12), (.c (.str [48, 49]))], (some (11, false))⟩, ⟨(some 14), .v (.bin .neq (.t 13) (.c (.str []))), (some (11, false))⟩, ⟨(some 15), .v (.pick (.t 11) (.c (.bool true)) (.t 14)), none⟩])
     (.cond (.t 15)
      (.seq
       (.reg [⟨(some 16), .v (.bld [(.int .i64 0), .nils] []), none⟩, ⟨none, .m (.store 2 (.t 2) (.t 16)), none⟩, ⟨(some 3), .v (.mov (.c (.bool false))), none⟩])
       .ret)
      .skip))
    (.seq
     (.reg [⟨(some 17), .v (.load false 1 (.t 1)), none⟩, ⟨(some 18), .v (.lens (.t 17)), none⟩, ⟨(some 19), .v (.mkfn 73 [(.t 1)]), none⟩, ⟨(some 20), .call 72 [(.t 18), (.t 19)], none⟩, ⟨none, .m (.store 2 (.t 2) (.t 20)), none⟩, ⟨(some 3), .v (.mov (.c (.bool true))), none⟩])
     .ret))))⟩
theorem e37 : rFunc Tryd.prog Tryd.f37 = some r37 := by kernel_rfl
def r9 : RFunc := ⟨25, [.cell true 2 2, .t 3],
 (.seq
  (.reg [⟨(some 2), .m (.alloc [(.int .i64 0), .nils]), none⟩, ⟨(some 3), .v (.mov (.c (.bool false))), none⟩])
  (.seq
   (.reg [⟨(some 7), .v (.mov (.t 0)), none⟩, ⟨(some 8), .call 36 [(.t 7), (.c (.str [98, 105, 116, 115]))], none⟩, ⟨(some 6), .v (.mov (.t 8)), none⟩, ⟨(some 9), .v (.ext (.t 6) 0), none⟩, ⟨(some 10), .v (.ext (.t 6) 1), none⟩, ⟨(some 4), .v (.mov (.t 9)), none⟩, ⟨(some 5), .v (.mov (.t 10)), none⟩])
   (.seq
    (.seq
     (.reg [⟨(some 11), .v (.mov (.t 5)), none⟩, ⟨(some 12), .v (.un .not (.t 11)), none⟩, ⟨(some 13), .v (.mov (.t 12)), none⟩, ⟨(some 14), .v (.mov (.t 4)), (some (13, false))⟩, ⟨(some 15), .v (.len (.t 14)), (some (13, false))⟩, ⟨(some 16), .v (.bin .neq (.t 15) (.c (.int .i64 1))), (some (13, false))⟩, ⟨(some 17), .v (.pick (.t 13) (.c (.bool true)) (.t 16)), none⟩])
     (.cond (.t 17)
      (.seq
       (.reg [⟨(some 18), .v (.bld [(.int .i64 0), .nils] []), none⟩, ⟨none, .m (.store 2 (.t 2) (.t 18)), none⟩, ⟨(some 3), .v (.mov (.c (.bool false))), none⟩])
       .ret)
      .skip))
    (.seq
     (.reg [⟨(some 19), .v (.mov (.t 4)), none⟩, ⟨(some 20), .v (.iaddr 1 (.t 19) (.c (.int .i64 0))), none⟩, ⟨(some 21), .v (.load false 1 (.t 20)), none⟩, ⟨(some 22), .call 37 [(.t 21)], none⟩, ⟨(some 23), .v (.ext (.t 22) 0), none⟩, ⟨(some 24), .v (.ext (.t 22) 1), none⟩, ⟨none, .m (.store 2 (.t 2) (.t 23)), none⟩, ⟨(some 3), .v (.mov (.t 24)), none⟩])
     .ret))))⟩
theorem e9 : rFunc Tryd.prog Tryd.f9 = some r9 := by kernel_rfl
def r3 : RFunc := ⟨66, [.t 2],
 (.seq
  (.reg [⟨(some 2), .v (.mov (.c (.bool false))), none⟩])
  (.seq
   (.seq
    (.reg [⟨(some 11), .v (.mov (.t 0)), none⟩, ⟨(some 12), .v (.lens (.t 11)), none⟩, ⟨(some 13), .v (.bin .gtr (.t 12) (.c (.int .i64 1048576))), none⟩])
    (.cond (.t 13)
     (.seq
      (.reg [⟨(some 2), .v (.mov (.c (.bool true))), none⟩])
      .ret)
     .skip))
   (.seq
    (.reg [⟨(some 15), .v (.mov (.t 0)), none⟩, ⟨(some 16), .call 8 [(.t 15)], none⟩, ⟨(some 14), .v (.mov (.t 16)), none⟩, ⟨(some 17), .v (.ext (.t 14) 0), none⟩, ⟨(some 18), .v (.ext (.t 14) 1), none⟩, ⟨(some 3), .m (.alloc [(.int .i64 0), .nils]), none⟩, ⟨none, .m (.store 2 (.t 3) (.t 17)), none⟩, ⟨(some 4), .v (.mov (.t 18)), none⟩])
    (.seq
     (.reg [⟨(some 20), .v (.mov (.t 0)), none⟩, ⟨(some 21), .call 9 [(.t 20)], none⟩, ⟨(some 19), .v (.mov (.t 21)), none⟩, ⟨(some 22), .v (.ext (.t 19) 0), none⟩, ⟨(some 23), .v (.ext (.t 19) 1), none⟩, ⟨(some 5), .m (.alloc [(.int .i64 0), .nils]), none⟩, ⟨none, .m (.store 2 (.t 5) (.t 22)), none⟩, ⟨(some 6), .v (.mov (.t 23)), none⟩])
     (.seq
      (.seq
       (.reg [⟨(some 24), .v (.load true 2 (.t 5)), none⟩, ⟨(some 25), .v (.load true 2 (.t 3)), none⟩, ⟨(some 26), .call 10 [(.t 24), (.t 25)], none⟩, ⟨(some 27), .v (.un .not (.t 26)), none⟩, ⟨(some 28), .v (.mov (.t 27)), none⟩, ⟨(some 29), .v (.mov (.t 6)), (some (28, false))⟩, ⟨(some 30), .v (.mov (.t 4)), (some (28, false))⟩, ⟨(some 31), .v (.beq true (.t 29) (.t 30)), (some (28, false))⟩, ⟨(some 32), .v (.pick (.t 28) (.c (.bool true)) (.t 31)), none⟩])
       (.cond (.t 32)
        (.seq
         (.reg [⟨(some 2), .v (.mov (.c (.bool false))), none⟩])
         .ret)
        .skip))
      (.seq
       (.reg [⟨(some 7), .v (.mov (.c (.int .i64 1))), none⟩])
       (.seq
        (.reg [⟨(some 33), .v (.load true 2 (.t 5)), none⟩, ⟨(some 34), .v (.mov (.t 7)), none⟩, ⟨(some 35), .call 11 [(.t 33), (.t 34)], none⟩, ⟨(some 7), .v (.mov (.t 35)), none⟩])
        (.seq
         (.reg [⟨(some 8), .v (.mov (.c (.int .i64 1))), none⟩])
         (.seq
          (.reg [⟨(some 36), .v (.load true 2 (.t 5)), none⟩, ⟨(some 37), .v (.mov (.t 8)), none⟩, ⟨(some 38), .call 12 [(.t 36), (.t 37)], none⟩, ⟨(some 8), .v (.mov (.t 38)), none⟩])
          (.seq
           (.seq
            (.reg [⟨(some 39), .v (.mov (.t 8)), none⟩, ⟨(some 40), .v (.bin .lss (.t 39) (.c (.int .i64 0))), none⟩])
            (.cond (.t 40)
             (.seq
              (.reg [⟨(some 2), .v (.mov (.c (.bool false))), none⟩])
              .ret)
             .skip))
           (.seq
            (.seq
             (.reg [⟨(some 41), .v (.mov (.t 8)), none⟩, ⟨(some 42), .v (.mov (.t 7)), none⟩, ⟨(some 43), .v (.bin .neq (.t 41) (.t 42)), none⟩])
             (.cond (.t 43)
              (.seq
               (.reg [⟨(some 2), .v (.mov (.c (.bool false))), none⟩])
               .ret)
              .skip))
            (.seq
             (.reg [⟨(some 45), .v (.mov (.t 0)), none⟩, ⟨(some 46), .call 9 [(.t 45)], none⟩, ⟨(some 44), .v (.mov (.t 46)), none⟩, ⟨(some 47), .v (.ext (.t 44) 0), none⟩, ⟨(some 48), .v (.ext (.t 44) 1), none⟩, ⟨(some 9), .m (.alloc [(.int .i64 0), .nils]), none⟩, ⟨none, .m (.store 2 (.t 9) (.t 47)), none⟩, ⟨(some 10), .v (.mov (.t 48)), none⟩])
             (.seq
              (.seq
               (.reg [⟨(some 49), .v (.load true 2 (.t 9)), none⟩, ⟨(some 50), .v (.load true 2 (.t 3)), none⟩, ⟨(some 51), .call 10 [(.t 49), (.t 50)], none⟩, ⟨(some 52), .v (.un .not (.t 51)), none⟩, ⟨(some 53), .v (.mov (.t 52)), none⟩, ⟨(some 54), .v (.mov (.t 10)), (some (53, false))⟩, ⟨(some 55), .v (.mov (.t 4)), (some (53, false))⟩, ⟨(some 56), .v (.beq true (.t 54) (.t 55)), (some (53, false))⟩, ⟨(some 57), .v (.pick (.t 53) (.c (.bool true)) (.t 56)), none⟩])
               (.cond (.t 57)
                (.seq
                 (.reg [⟨(some 2), .v (.mov (.c (.bool false))), none⟩])
                 .ret)
                .skip))
              (.seq
               (.reg [⟨(some 8), .v (.mov (.c (.int .i64 1))), none⟩])
               (.seq
                (.reg [⟨(some 58), .v (.load true 2 (.t 5)), none⟩, ⟨(some 59), .v (.mov (.t 8)), none⟩, ⟨(some 60), .call 12 [(.t 58), (.t 59)], none⟩, ⟨(some 8), .v (.mov (.t 60)), none⟩])
                (.seq
                 (.seq
                  (.reg [⟨(some 61), .v (.mov (.t 8)), none⟩, ⟨(some 62), .v (.bin .lss (.t 61) (.c (.int .i64 0))), none⟩])
                  (.cond (.t 62)
                   (.seq
                    (.reg [⟨(some 2), .v (.mov (.c (.bool false))), none⟩])
                    .ret)
                   .skip))
                 (.seq
                  (.seq
                   (.reg [⟨(some 63), .v (.mov (.t 8)), none⟩, ⟨(some 64), .v (.mov (.t 7)), none⟩, ⟨(some 65), .v (.bin .neq (.t 63) (.t 64)), none⟩])
                   (.cond (.t 65)
                    (.seq
                     (.reg [⟨(some 2), .v (.mov (.c (.bool false))), none⟩])
                     .ret)
                    .skip))
                  (.seq
                   (.reg [⟨(some 2), .v (.mov (.c (.bool true))), none⟩])
                   .ret))))))))))))))))))⟩
theorem e3 : rFunc Tryd.prog Tryd.f3 = some r3 := by kernel_rfl
end Go.Proofs.YtoappkfndnggnaaDoor.M
