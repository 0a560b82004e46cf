/-
  The resolved text of the functions, each tied to the program's own by the kernel.
-/
import Derived.Test.YtbkcenkfecndjaaGreatDoorProg
import Derived.Test.YtbkcenkfecndjaaGreatDoorFkv
import Derived.Test.YtbkcenkfecndjaaGreatDoorShelf
namespace Go.Proofs.YtbkcenkfecndjaaGreatDoor.M
open Go Go.RowKit
set_option maxRecDepth 100000

def r64 : RFunc := ⟨15, [.t 6],
 (.seq
  (.reg [⟨(some 6), .v (.mov (.c (.bool false))), none⟩])
  (.seq
   (.reg [⟨(some 7), .v (.mov (.t 0)), none⟩, ⟨(some 8), .v (.mov (.t 1)), none⟩, ⟨(some 9), .v (.bin .geq (.t 7) (.t 8)), none⟩, ⟨(some 10), .v (.mov (.t 9)), none⟩, ⟨(some 11), .v (.mov (.t 0)), (some (10, true))⟩, ⟨(some 12), .v (.mov (.t 2)), (some (10, true))⟩, ⟨(some 13), .v (.bin .leq (.t 11) (.t 12)), (some (10, true))⟩, ⟨(some 14), .v (.pick (.t 10) (.t 13) (.c (.bool false))), none⟩, ⟨(some 6), .v (.mov (.t 14)), none⟩])
   .ret))⟩
theorem e64 : rFunc Tryz.prog Tryz.f64 = some r64 := by kernel_rfl
def r87 : RFunc := ⟨5, [.t 2],
 (.seq
  (.reg [⟨(some 2), .v (.mov (.c (.bool false))), none⟩])
  (.seq
   (.reg [⟨(some 3), .v (.mov (.t 0)), none⟩, ⟨(some 4), .call 64 [(.t 3), (.c (.int .i64 1)), (.c (.int .i64 100000))], none⟩, ⟨(some 2), .v (.mov (.t 4)), none⟩])
   .ret))⟩
theorem e87 : rFunc Tryz.prog Tryz.f87 = some r87 := by kernel_rfl
def r44 : RFunc := ⟨25, [.t 4, .t 5],
 (.seq
  (.reg [⟨(some 4), .v (.mov (.c (.int .i64 0))), none⟩, ⟨(some 5), .v (.mov (.c (.bool false))), none⟩])
  (.seq
   (.seq
    (.reg [⟨(some 7), .v (.mov (.t 0)), none⟩, ⟨(some 8), .call 64 [(.t 7), (.c (.int .i64 0)), (.c (.int .i64 60))], none⟩, ⟨(some 9), .v (.un .not (.t 8)), none⟩, ⟨(some 10), .v (.mov (.t 9)), none⟩, ⟨(some 11), .v (.mov (.t 1)), (some (10, false))⟩, ⟨(some 12), .call 87 [(.t 11)], (some (10, false))⟩, ⟨(some 13), .v (.un .not (.t 12)), (some (10, false))⟩, ⟨(some 14), .v (.pick (.t 10) (.c (.bool true)) (.t 13)), none⟩])
    (.cond (.t 14)
     (.seq
      (.reg [⟨(some 4), .v (.mov (.c (.int .i64 0))), none⟩, ⟨(some 5), .v (.mov (.c (.bool false))), none⟩])
      .ret)
     .skip))
   (.seq
    (.reg [⟨(some 6), .v (.mov (.c (.int .i64 0))), none⟩])
    (.seq
     (.block 0
      (.loop
       (.seq
        (.seq
         (.reg [⟨(some 15), .v (.mov (.t 0)), none⟩, ⟨(some 16), .v (.mx [(.t 15), (.c (.int .i64 1))]), none⟩, ⟨(some 17), .v (.mov (.t 6)), none⟩, ⟨(some 18), .v (.bin .add (.t 17) (.c (.int .i64 1))), none⟩, ⟨(some 19), .v (.bin .shl (.t 16) (.t 18)), none⟩, ⟨(some 20), .v (.mov (.t 1)), none⟩, ⟨(some 21), .v (.bin .leq (.t 19) (.t 20)), none⟩])
         (.cond (.t 21)
          .skip
          (.exit 0)))
        (.block 1
         (.reg [⟨(some 22), .v (.mov (.t 6)), none⟩, ⟨(some 23), .v (.bin .add (.t 22) (.c (.int .i64 1))), none⟩, ⟨(some 6), .v (.mov (.t 23)), none⟩])))))
     (.seq
      (.reg [⟨(some 24), .v (.mov (.t 6)), none⟩, ⟨(some 4), .v (.mov (.t 24)), none⟩, ⟨(some 5), .v (.mov (.c (.bool true))), none⟩])
      .ret)))))⟩
theorem e44 : rFunc Tryz.prog Tryz.f44 = some r44 := by kernel_rfl
def r59 : RFunc := ⟨25, [.t 6],
 (.seq
  (.reg [⟨(some 3), .m (.box (.t 0)), none⟩, ⟨(some 6), .v (.mov (.c (.int .i64 0))), none⟩])
  (.seq
   (.reg [⟨(some 7), .v (.mov (.c (.int .i64 0))), none⟩])
   (.seq
    (.seq
     (.reg [⟨(some 9), .v (.mov (.t 2)), none⟩, ⟨(some 10), .v (.bin .sub (.t 9) (.c (.int .i64 1))), none⟩, ⟨(some 8), .v (.mov (.t 10)), none⟩])
     (.block 0
      (.loop
       (.seq
        (.seq
         (.reg [⟨(some 11), .v (.mov (.t 8)), none⟩, ⟨(some 12), .v (.bin .geq (.t 11) (.c (.int .i64 0))), none⟩])
         (.cond (.t 12)
          .skip
          (.exit 0)))
        (.seq
         (.block 1
          (.seq
           (.reg [⟨(some 15), .v (.mov (.t 7)), none⟩, ⟨(some 16), .v (.bin .mul (.t 15) (.c (.int .i64 2))), none⟩, ⟨(some 7), .v (.mov (.t 16)), none⟩])
           (.seq
            (.reg [⟨(some 17), .v (.load true 2 (.t 3)), none⟩, ⟨(some 18), .v (.mov (.t 1)), none⟩, ⟨(some 19), .v (.mov (.t 8)), none⟩, ⟨(some 20), .v (.bin .add (.t 18) (.t 19)), none⟩, ⟨(some 21), .call 58 [(.t 17), (.t 20)], none⟩])
            (.cond (.t 21)
             (.reg [⟨(some 22), .v (.mov (.t 7)), none⟩, ⟨(some 23), .v (.bin .add (.t 22) (.c (.int .i64 1))), none⟩, ⟨(some 7), .v (.mov (.t 23)), none⟩])
             .skip))))
         (.reg [⟨(some 13), .v (.mov (.t 8)), none⟩, ⟨(some 14), .v (.bin .sub (.t 13) (.c (.int .i64 1))), none⟩, ⟨(some 8), .v (.mov (.t 14)), none⟩]))))))
    (.seq
     (.reg [⟨(some 24), .v (.mov (.t 7)), none⟩, ⟨(some 6), .v (.mov (.t 24)), none⟩])
     .ret))))⟩
theorem e59 : rFunc Tryz.prog Tryz.f59 = some r59 := by kernel_rfl
def r46 : RFunc := ⟨18, [.t 4],
 (.seq
  (.reg [⟨(some 4), .v (.mov (.c (.bool false))), none⟩])
  (.seq
   (.reg [⟨(some 5), .v (.mov (.t 0)), none⟩, ⟨(some 6), .v (.nchk (.t 5)), none⟩, ⟨(some 7), .v (.faddr 1 (.t 6)), none⟩, ⟨(some 8), .v (.load false 1 (.t 7)), none⟩, ⟨(some 9), .v (.mov (.t 1)), none⟩, ⟨(some 10), .v (.bin .quo (.t 9) (.c (.int .i64 16))), none⟩, ⟨(some 11), .v (.iaddr 1 (.t 8) (.t 10)), none⟩, ⟨(some 12), .v (.load false 1 (.t 11)), none⟩, ⟨(some 13), .v (.mov (.t 1)), none⟩, ⟨(some 14), .v (.bin .rem (.t 13) (.c (.int .i64 16))), none⟩, ⟨(some 15), .v (.bin .shr (.t 12) (.t 14)), none⟩, ⟨(some 16), .v (.bin .and (.t 15) (.c (.int .i64 1))), none⟩, ⟨(some 17), .v (.bin .eql (.t 16) (.c (.int .i64 1))), none⟩, ⟨(some 4), .v (.mov (.t 17)), none⟩])
   .ret))⟩
theorem e46 : rFunc Tryz.prog Tryz.f46 = some r46 := by kernel_rfl
def r47 : RFunc := ⟨24, [.t 6],
 (.seq
  (.reg [⟨(some 6), .v (.mov (.c (.int .i64 0))), none⟩])
  (.seq
   (.reg [⟨(some 7), .v (.mov (.c (.int .i64 0))), none⟩])
   (.seq
    (.seq
     (.reg [⟨(some 9), .v (.mov (.t 2)), none⟩, ⟨(some 10), .v (.mov (.c (.int .i64 0))), none⟩])
     (.block 0
      (.loop
       (.seq
        (.reg [⟨(some 11), .v (.bin .lss (.t 10) (.t 9)), none⟩])
        (.seq
         (.cond (.t 11)
          .skip
          (.exit 0))
         (.seq
          (.block 1
           (.seq
            (.reg [⟨(some 12), .v (.mov (.t 10)), none⟩, ⟨(some 8), .v (.mov (.t 12)), none⟩])
            (.seq
             (.reg [⟨(some 13), .v (.mov (.t 0)), none⟩, ⟨(some 14), .v (.mov (.t 1)), none⟩, ⟨(some 15), .v (.mov (.t 8)), none⟩, ⟨(some 16), .v (.bin .add (.t 14) (.t 15)), none⟩, ⟨(some 17), .call 46 [(.t 13), (.t 16)], none⟩])
             (.cond (.t 17)
              (.reg [⟨(some 18), .v (.mov (.t 7)), none⟩, ⟨(some 19), .v (.mov (.t 8)), none⟩, ⟨(some 20), .v (.bin .shl (.c (.int .i64 1)) (.t 19)), none⟩, ⟨(some 21), .v (.bin .or (.t 18) (.t 20)), none⟩, ⟨(some 7), .v (.mov (.t 21)), none⟩])
              .skip))))
          (.reg [⟨(some 22), .v (.bin .add (.t 10) (.c (.int .i64 1))), none⟩, ⟨(some 10), .v (.mov (.t 22)), none⟩])))))))
    (.seq
     (.reg [⟨(some 23), .v (.mov (.t 7)), none⟩, ⟨(some 6), .v (.mov (.t 23)), none⟩])
     .ret))))⟩
theorem e47 : rFunc Tryz.prog Tryz.f47 = some r47 := by kernel_rfl
def r48 : RFunc := ⟨40, [.t 4],
 (.seq
  (.reg [⟨(some 4), .v (.mov (.c (.bool false))), none⟩])
  (.seq
   (.seq
    (.reg [⟨(some 7), .v (.mov (.t 0)), none⟩, ⟨(some 8), .v (.len (.t 7)), none⟩, ⟨(some 9), .v (.mov (.c (.int .i64 0))), none⟩])
    (.block 0
     (.loop
      (.seq
       (.reg [⟨(some 10), .v (.bin .lss (.t 9) (.t 8)), none⟩])
       (.seq
        (.cond (.t 10)
         .skip
         (.exit 0))
        (.seq
         (.block 1
          (.seq
           (.reg [⟨(some 11), .v (.mov (.t 9)), none⟩, ⟨(some 12), .v (.iaddr 1 (.t 7) (.t 9)), none⟩, ⟨(some 13), .v (.load false 1 (.t 12)), none⟩, ⟨(some 5), .v (.mov (.t 11)), none⟩, ⟨(some 6), .v (.mov (.t 13)), none⟩])
           (.seq
            (.reg [⟨(some 14), .v (.mov (.t 6)), none⟩, ⟨(some 15), .v (.mov (.t 1)), none⟩, ⟨(some 16), .v (.bin .sub (.t 15) (.c (.int .i64 1))), none⟩, ⟨(some 17), .call 64 [(.t 14), (.c (.int .i64 0)), (.t 16)], none⟩, ⟨(some 18), .v (.un .not (.t 17)), none⟩, ⟨(some 19), .v (.mov (.t 18)), none⟩, ⟨(some 20), .v (.mov (.t 5)), (some (19, false))⟩, ⟨(some 21), .v (.bin .gtr (.t 20) (.c (.int .i64 0))), (some (19, false))⟩, ⟨(some 22), .v (.mov (.t 21)), (some (19, false))⟩, ⟨(some 23), .v (.mov (.t 0)), (some (22, true))⟩, ⟨(some 24), .v (.mov (.t 5)), (some (22, true))⟩, ⟨(some 25), .v (.bin .sub (.t 24) (.c (.int .i64 1))), (some (22, true))⟩, ⟨(some 26), .v (.iaddr 1 (.t 23) (.t 25)), (some (22, true))⟩, ⟨(some 27), .v (.load false 1 (.t 26)), (some (22, true))⟩, ⟨(some 28), .v (.mov (.t 6)), (some (22, true))⟩, ⟨(some 29), .v (.bin .gtr (.t 27) (.t 28)), (some (22, true))⟩, ⟨(some 30), .v (.pick (.t 22) (.t 29) (.c (.bool false))), (some (19, false))⟩, ⟨(some 31), .v (.pick (.t 19) (.c (.bool true)) (.t 30)), none⟩])
            (.cond (.t 31)
             (.seq
              (.reg [⟨(some 4), .v (.mov (.c (.bool false))), none⟩])
              .ret)
             .skip))))
         (.reg [⟨(some 32), .v (.bin .add (.t 9) (.c (.int .i64 1))), none⟩, ⟨(some 9), .v (.mov (.t 32)), none⟩])))))))
   (.seq
    (.reg [⟨(some 33), .v (.mov (.t 1)), none⟩, ⟨(some 34), .call 87 [(.t 33)], none⟩, ⟨(some 35), .v (.mov (.t 34)), none⟩, ⟨(some 36), .v (.mov (.t 0)), (some (35, true))⟩, ⟨(some 37), .v (.len (.t 36)), (some (35, true))⟩, ⟨(some 38), .v (.bin .leq (.t 37) (.c (.int .i64 60))), (some (35, true))⟩, ⟨(some 39), .v (.pick (.t 35) (.t 38) (.c (.bool false))), none⟩, ⟨(some 4), .v (.mov (.t 39)), none⟩])
    .ret)))⟩
theorem e48 : rFunc Tryz.prog Tryz.f48 = some r48 := by kernel_rfl
def r22 : RFunc := ⟨46, [.t 2],
 (.seq
  (.reg [⟨(some 1), .m (.box (.t 0)), none⟩, ⟨(some 2), .v (.mov (.c .nils)), none⟩])
  (.seq
   (.reg [⟨(some 3), .v (.mov (.c .nils)), none⟩])
   (.seq
    (.seq
     (.reg [⟨(some 4), .v (.mov (.c (.int .i64 0))), none⟩])
     (.block 0
      (.loop
       (.seq
        (.seq
         (.reg [⟨(some 6), .v (.mov (.t 4)), none⟩, ⟨(some 7), .v (.faddr 5 (.t 1)), none⟩, ⟨(some 8), .v (.faddr 0 (.t 7)), none⟩, ⟨(some 9), .v (.load false 1 (.t 8)), none⟩, ⟨(some 10), .v (.bin .lss (.t 6) (.t 9)), none⟩, ⟨(some 11), .v (.mov (.t 10)), none⟩, ⟨(some 12), .v (.mov (.t 3)), (some (11, true))⟩, ⟨(some 13), .v (.len (.t 12)), (some (11, true))⟩, ⟨(some 14), .v (.faddr 0 (.t 1)), (some (11, true))⟩, ⟨(some 15), .v (.load false 1 (.t 14)), (some (11, true))⟩, ⟨(some 16), .v (.bin .lss (.t 13) (.t 15)), (some (11, true))⟩, ⟨(some 17), .v (.pick (.t 11) (.t 16) (.c (.bool false))), none⟩])
         (.cond (.t 17)
          .skip
          (.exit 0)))
        (.seq
         (.block 1
          (.seq
           (.reg [⟨(some 20), .v (.faddr 5 (.t 1)), none⟩, ⟨(some 21), .v (.load true 2 (.t 20)), none⟩, ⟨(some 22), .v (.mov (.t 4)), none⟩, ⟨(some 23), .call 58 [(.t 21), (.t 22)], none⟩])
           (.cond (.t 23)
            (.seq
             (.reg [⟨(some 24), .v (.mov (.t 3)), none⟩, ⟨(some 25), .v (.len (.t 24)), none⟩, ⟨(some 5), .v (.mov (.t 25)), none⟩])
             (.dreg (.fl ⟨(some 26), .v (.mov (.t 3)), none⟩ (.fl ⟨(some 27), .v (.mov (.t 4)), none⟩ (.fl ⟨(some 28), .v (.mov (.t 5)), none⟩ (.fl ⟨(some 29), .v (.bin .sub (.t 27) (.t 28)), none⟩ (.fl ⟨(some 30), .v (.faddr 2 (.t 1)), none⟩ (.fl ⟨(some 31), .v (.load false 1 (.t 30)), none⟩ (.fl ⟨(some 32), .v (.bin .shl (.t 29) (.t 31)), none⟩ (.fl ⟨(some 33), .v (.faddr 3 (.t 1)), none⟩ (.fl ⟨(some 34), .v (.load true 2 (.t 33)), none⟩ (.fl ⟨(some 35), .v (.mov (.t 5)), none⟩ (.fl ⟨(some 36), .v (.faddr 2 (.t 1)), none⟩ (.fl ⟨(some 37), .v (.load false 1 (.t 36)), none⟩ (.fl ⟨(some 38), .v (.bin .mul (.t 35) (.t 37)), none⟩ (.fl ⟨(some 39), .v (.faddr 2 (.t 1)), none⟩ (.fl ⟨(some 40), .v (.load false 1 (.t 39)), none⟩ (.nx ⟨(some 41), .call 59 [(.t 34), (.t 38), (.t 40)], none⟩ (.fl ⟨(some 42), .v (.bin .add (.t 32) (.t 41)), none⟩ (.nx ⟨(some 43), .m (.bsl 1 1 [(.int .i64 0)] [(0, 1, (.t 42))]), none⟩ (.nx ⟨(some 44), .m (.app false 1 8 (.t 26) (.t 43)), none⟩ (.fl ⟨(some 3), .v (.mov (.t 44)), none⟩ .done))))))))))))))))))))))
            .skip)))
         (.reg [⟨(some 18), .v (.mov (.t 4)), none⟩, ⟨(some 19), .v (.bin .add (.t 18) (.c (.int .i64 1))), none⟩, ⟨(some 4), .v (.mov (.t 19)), none⟩]))))))
    (.seq
     (.reg [⟨(some 45), .v (.mov (.t 3)), none⟩, ⟨(some 2), .v (.mov (.t 45)), none⟩])
     .ret))))⟩
theorem e22 : rFunc Tryz.prog Tryz.f22 = some r22 := by kernel_rfl
def r90 : RFunc := ⟨33, [],
 (.seq
  (.dreg (.fl ⟨(some 6), .v (.mov (.t 0)), none⟩ (.fl ⟨(some 7), .v (.nchk (.t 6)), none⟩ (.fl ⟨(some 8), .v (.faddr 1 (.t 7)), none⟩ (.fl ⟨(some 10), .v (.mov (.t 1)), none⟩ (.fl ⟨(some 11), .v (.bin .quo (.t 10) (.c (.int .i64 16))), none⟩ (.fl ⟨(some 14), .v (.mov (.t 1)), none⟩ (.fl ⟨(some 15), .v (.bin .rem (.t 14) (.c (.int .i64 16))), none⟩ (.fl ⟨(some 16), .v (.bin .shl (.c (.int .i64 1)) (.t 15)), none⟩ (.nx ⟨(some 9), .v (.load false 1 (.t 8)), none⟩ (.fl ⟨(some 12), .v (.iaddr 1 (.t 9) (.t 11)), none⟩ (.nx ⟨(some 13), .v (.load false 1 (.t 12)), none⟩ (.fl ⟨(some 17), .v (.bin .andNot (.t 13) (.t 16)), none⟩ (.fl ⟨(some 18), .v (.iaddr 1 (.t 9) (.t 11)), none⟩ (.nx ⟨none, .m (.store 1 (.t 18) (.t 17)), none⟩ .done)))))))))))))))
  (.seq
   (.reg [⟨(some 19), .v (.mov (.t 2)), none⟩])
   (.cond (.t 19)
    (.dreg (.fl ⟨(some 20), .v (.mov (.t 0)), none⟩ (.fl ⟨(some 21), .v (.nchk (.t 20)), none⟩ (.fl ⟨(some 22), .v (.faddr 1 (.t 21)), none⟩ (.fl ⟨(some 24), .v (.mov (.t 1)), none⟩ (.fl ⟨(some 25), .v (.bin .quo (.t 24) (.c (.int .i64 16))), none⟩ (.fl ⟨(some 28), .v (.mov (.t 1)), none⟩ (.fl ⟨(some 29), .v (.bin .rem (.t 28) (.c (.int .i64 16))), none⟩ (.fl ⟨(some 30), .v (.bin .shl (.c (.int .i64 1)) (.t 29)), none⟩ (.nx ⟨(some 23), .v (.load false 1 (.t 22)), none⟩ (.fl ⟨(some 26), .v (.iaddr 1 (.t 23) (.t 25)), none⟩ (.nx ⟨(some 27), .v (.load false 1 (.t 26)), none⟩ (.fl ⟨(some 31), .v (.bin .or (.t 27) (.t 30)), none⟩ (.fl ⟨(some 32), .v (.iaddr 1 (.t 23) (.t 25)), none⟩ (.nx ⟨none, .m (.store 1 (.t 32) (.t 31)), none⟩ .done)))))))))))))))
    .skip)))⟩
theorem e90 : rFunc Tryz.prog Tryz.f90 = some r90 := by kernel_rfl
def r107 : RFunc := ⟨24, [],
 (.seq
  (.reg [⟨(some 9), .v (.mov (.t 2)), none⟩, ⟨(some 10), .v (.mov (.c (.int .i64 0))), none⟩])
  (.block 0
   (.loop
    (.seq
     (.reg [⟨(some 11), .v (.bin .lss (.t 10) (.t 9)), none⟩])
     (.seq
      (.cond (.t 11)
       .skip
       (.exit 0))
      (.seq
       (.block 1
        (.seq
         (.reg [⟨(some 12), .v (.mov (.t 10)), none⟩, ⟨(some 8), .v (.mov (.t 12)), none⟩])
         (.reg [⟨(some 13), .v (.mov (.t 0)), none⟩, ⟨(some 14), .v (.mov (.t 1)), none⟩, ⟨(some 15), .v (.mov (.t 8)), none⟩, ⟨(some 16), .v (.bin .add (.t 14) (.t 15)), none⟩, ⟨(some 17), .v (.mov (.t 3)), none⟩, ⟨(some 18), .v (.mov (.t 8)), none⟩, ⟨(some 19), .v (.bin .shr (.t 17) (.t 18)), none⟩, ⟨(some 20), .v (.bin .and (.t 19) (.c (.int .i64 1))), none⟩, ⟨(some 21), .v (.bin .eql (.t 20) (.c (.int .i64 1))), none⟩, ⟨(some 22), .call 90 [(.t 13), (.t 16), (.t 21)], none⟩])))
       (.reg [⟨(some 23), .v (.bin .add (.t 10) (.c (.int .i64 1))), none⟩, ⟨(some 10), .v (.mov (.t 23)), none⟩])))))))⟩
theorem e107 : rFunc Tryz.prog Tryz.f107 = some r107 := by kernel_rfl
def r88 : RFunc := ⟨7, [.t 2],
 (.seq
  (.reg [⟨(some 2), .v (.mov (.c (.int .i64 0))), none⟩])
  (.seq
   (.reg [⟨(some 3), .v (.mov (.t 0)), none⟩, ⟨(some 4), .v (.bin .add (.t 3) (.c (.int .i64 16))), none⟩, ⟨(some 5), .v (.bin .sub (.t 4) (.c (.int .i64 1))), none⟩, ⟨(some 6), .v (.bin .quo (.t 5) (.c (.int .i64 16))), none⟩, ⟨(some 2), .v (.mov (.t 6)), none⟩])
   .ret))⟩
theorem e88 : rFunc Tryz.prog Tryz.f88 = some r88 := by kernel_rfl
def r89 : RFunc := ⟨8, [.cell true 2 2],
 (.seq
  (.reg [⟨(some 2), .m (.alloc [(.int .i64 0), .nils]), none⟩])
  (.seq
   (.reg [⟨(some 3), .v (.mov (.t 0)), none⟩, ⟨(some 4), .v (.mov (.t 0)), none⟩, ⟨(some 5), .call 88 [(.t 4)], none⟩, ⟨(some 6), .m (.mks 1 8 [(.int .i64 0)] (.t 5) (.t 5)), none⟩, ⟨(some 7), .v (.bld [(.int .i64 0), .nils] [(0, 1, (.t 3)), (1, 1, (.t 6))]), none⟩, ⟨none, .m (.store 2 (.t 2) (.t 7)), none⟩])
   .ret))⟩
theorem e89 : rFunc Tryz.prog Tryz.f89 = some r89 := by kernel_rfl
def r91 : RFunc := ⟨28, [.cell true 2 4],
 (.seq
  (.reg [⟨(some 4), .m (.alloc [(.int .i64 0), .nils]), none⟩])
  (.seq
   (.reg [⟨(some 8), .v (.mov (.t 0)), none⟩, ⟨(some 9), .v (.len (.t 8)), none⟩, ⟨(some 10), .v (.mov (.t 1)), none⟩, ⟨(some 11), .v (.bin .mul (.t 9) (.t 10)), none⟩, ⟨(some 12), .call 89 [(.t 11)], none⟩, ⟨(some 5), .m (.alloc [(.int .i64 0), .nils]), none⟩, ⟨none, .m (.store 2 (.t 5) (.t 12)), none⟩])
   (.seq
    (.seq
     (.reg [⟨(some 13), .v (.mov (.t 0)), none⟩, ⟨(some 14), .v (.len (.t 13)), none⟩, ⟨(some 15), .v (.mov (.c (.int .i64 0))), none⟩])
     (.block 0
      (.loop
       (.seq
        (.reg [⟨(some 16), .v (.bin .lss (.t 15) (.t 14)), none⟩])
        (.seq
         (.cond (.t 16)
          .skip
          (.exit 0))
         (.seq
          (.block 1
           (.seq
            (.reg [⟨(some 17), .v (.mov (.t 15)), none⟩, ⟨(some 18), .v (.iaddr 1 (.t 13) (.t 15)), none⟩, ⟨(some 19), .v (.load false 1 (.t 18)), none⟩, ⟨(some 6), .v (.mov (.t 17)), none⟩, ⟨(some 7), .v (.mov (.t 19)), none⟩])
            (.reg [⟨(some 20), .v (.mov (.t 6)), none⟩, ⟨(some 21), .v (.mov (.t 1)), none⟩, ⟨(some 22), .v (.bin .mul (.t 20) (.t 21)), none⟩, ⟨(some 23), .v (.mov (.t 1)), none⟩, ⟨(some 24), .v (.mov (.t 7)), none⟩, ⟨(some 25), .call 107 [(.t 5), (.t 22), (.t 23), (.t 24)], none⟩])))
          (.reg [⟨(some 26), .v (.bin .add (.t 15) (.c (.int .i64 1))), none⟩, ⟨(some 15), .v (.mov (.t 26)), none⟩])))))))
    (.seq
     (.reg [⟨(some 27), .v (.load true 2 (.t 5)), none⟩, ⟨none, .m (.store 2 (.t 4) (.t 27)), none⟩])
     .ret))))⟩
theorem e91 : rFunc Tryz.prog Tryz.f91 = some r91 := by kernel_rfl
def r49 : RFunc := ⟨59, [.cell true 7 4],
 (.seq
  (.reg [⟨(some 4), .m (.alloc [(.int .i64 0), (.int .i64 0), (.int .i64 0), (.int .i64 0), .nils, (.int .i64 0), .nils]), none⟩])
  (.seq
   (.reg [⟨(some 12), .v (.mov (.t 0)), none⟩, ⟨(some 13), .v (.len (.t 12)), none⟩, ⟨(some 14), .v (.mov (.t 1)), none⟩, ⟨(some 15), .call 44 [(.t 13), (.t 14)], none⟩, ⟨(some 11), .v (.mov (.t 15)), none⟩, ⟨(some 16), .v (.ext (.t 11) 0), none⟩, ⟨(some 17), .v (.ext (.t 11) 1), none⟩, ⟨(some 5), .v (.mov (.t 16)), none⟩, ⟨(some 6), .v (.mov (.t 17)), none⟩])
   (.seq
    (.reg [⟨(some 18), .m (.bsl 1 0 [(.int .i64 0)] []), none⟩, ⟨(some 19), .v (.mov (.t 0)), none⟩, ⟨(some 20), .v (.len (.t 19)), none⟩, ⟨(some 21), .v (.mov (.t 1)), none⟩, ⟨(some 22), .v (.bin .sub (.t 21) (.c (.int .i64 1))), none⟩, ⟨(some 23), .v (.mov (.t 5)), none⟩, ⟨(some 24), .v (.bin .shr (.t 22) (.t 23)), none⟩, ⟨(some 25), .v (.bin .add (.t 20) (.t 24)), none⟩, ⟨(some 26), .v (.bin .add (.t 25) (.c (.int .i64 1))), none⟩, ⟨(some 27), .call 89 [(.t 26)], none⟩, ⟨(some 8), .m (.alloc [(.int .i64 0), .nils]), none⟩, ⟨(some 7), .v (.mov (.t 18)), none⟩, ⟨none, .m (.store 2 (.t 8) (.t 27)), none⟩])
    (.seq
     (.seq
      (.reg [⟨(some 28), .v (.mov (.t 0)), none⟩, ⟨(some 29), .v (.len (.t 28)), none⟩, ⟨(some 30), .v (.mov (.c (.int .i64 0))), none⟩])
      (.block 0
       (.loop
        (.seq
         (.reg [⟨(some 31), .v (.bin .lss (.t 30) (.t 29)), none⟩])
         (.seq
          (.cond (.t 31)
           .skip
           (.exit 0))
          (.seq
           (.block 1
            (.seq
             (.reg [⟨(some 32), .v (.mov (.t 30)), none⟩, ⟨(some 33), .v (.iaddr 1 (.t 28) (.t 30)), none⟩, ⟨(some 34), .v (.load false 1 (.t 33)), none⟩, ⟨(some 9), .v (.mov (.t 32)), none⟩, ⟨(some 10), .v (.mov (.t 34)), none⟩])
             (.seq
              (.reg [⟨(some 35), .v (.mov (.t 7)), none⟩, ⟨(some 36), .v (.mov (.t 10)), none⟩, ⟨(some 37), .v (.mov (.t 5)), none⟩, ⟨(some 38), .v (.bin .shl (.c (.int .i64 1)) (.t 37)), none⟩, ⟨(some 39), .v (.bin .sub (.t 38) (.c (.int .i64 1))), none⟩, ⟨(some 40), .v (.bin .and (.t 36) (.t 39)), none⟩, ⟨(some 41), .m (.bsl 1 1 [(.int .i64 0)] [(0, 1, (.t 40))]), none⟩, ⟨(some 42), .m (.app false 1 8 (.t 35) (.t 41)), none⟩, ⟨(some 7), .v (.mov (.t 42)), none⟩])
              (.reg [⟨(some 43), .v (.mov (.t 10)), none⟩, ⟨(some 44), .v (.mov (.t 5)), none⟩, ⟨(some 45), .v (.bin .shr (.t 43) (.t 44)), none⟩, ⟨(some 46), .v (.mov (.t 9)), none⟩, ⟨(some 47), .v (.bin .add (.t 45) (.t 46)), none⟩, ⟨(some 48), .call 90 [(.t 8), (.t 47), (.c (.bool true))], none⟩]))))
           (.reg [⟨(some 49), .v (.bin .add (.t 30) (.c (.int .i64 1))), none⟩, ⟨(some 30), .v (.mov (.t 49)), none⟩])))))))
     (.seq
      (.dreg (.fl ⟨(some 50), .v (.mov (.t 0)), none⟩ (.fl ⟨(some 51), .v (.len (.t 50)), none⟩ (.fl ⟨(some 52), .v (.mov (.t 1)), none⟩ (.fl ⟨(some 53), .v (.mov (.t 5)), none⟩ (.fl ⟨(some 54), .v (.mov (.t 7)), none⟩ (.fl ⟨(some 55), .v (.mov (.t 5)), none⟩ (.both (.nx ⟨(some 56), .call 91 [(.t 54), (.t 55)], none⟩ (.nx ⟨(some 57), .v (.load true 2 (.t 8)), none⟩ (.fl ⟨(some 58), .v (.bld [(.int .i64 0), (.int .i64 0), (.int .i64 0), (.int .i64 0), .nils, (.int .i64 0), .nils] [(0, 1, (.t 51)), (1, 1, (.t 52)), (2, 1, (.t 53)), (3, 2, (.t 56)), (5, 2, (.t 57))]), none⟩ (.nx ⟨none, .m (.store 7 (.t 4) (.t 58)), none⟩ .done)))) (.nx ⟨(some 57), .v (.load true 2 (.t 8)), none⟩ (.nx ⟨(some 56), .call 91 [(.t 54), (.t 55)], none⟩ (.fl ⟨(some 58), .v (.bld [(.int .i64 0), (.int .i64 0), (.int .i64 0), (.int .i64 0), .nils, (.int .i64 0), .nils] [(0, 1, (.t 51)), (1, 1, (.t 52)), (2, 1, (.t 53)), (3, 2, (.t 56)), (5, 2, (.t 57))]), none⟩ (.nx ⟨none, .m (.store 7 (.t 4) (.t 58)), none⟩ .done))))))))))))
      .ret)))))⟩
theorem e49 : rFunc Tryz.prog Tryz.f49 = some r49 := by kernel_rfl
def r94 : RFunc := ⟨26, [.t 4],
 (.seq
  (.reg [⟨(some 4), .v (.mov (.c (.bool false))), none⟩])
  (.seq
   (.seq
    (.reg [⟨(some 6), .v (.mov (.t 0)), none⟩, ⟨(some 7), .v (.len (.t 6)), none⟩, ⟨(some 8), .v (.mov (.t 1)), none⟩, ⟨(some 9), .v (.len (.t 8)), none⟩, ⟨(some 10), .v (.bin .neq (.t 7) (.t 9)), none⟩])
    (.cond (.t 10)
     (.seq
      (.reg [⟨(some 4), .v (.mov (.c (.bool false))), none⟩])
      .ret)
     .skip))
   (.seq
    (.seq
     (.reg [⟨(some 11), .v (.mov (.t 0)), none⟩, ⟨(some 12), .v (.len (.t 11)), none⟩, ⟨(some 13), .v (.mov (.c (.int .i64 0))), none⟩])
     (.block 0
      (.loop
       (.seq
        (.reg [⟨(some 14), .v (.bin .lss (.t 13) (.t 12)), none⟩])
        (.seq
         (.cond (.t 14)
          .skip
          (.exit 0))
         (.seq
          (.block 1
           (.seq
            (.reg [⟨(some 15), .v (.mov (.t 13)), none⟩, ⟨(some 5), .v (.mov (.t 15)), none⟩])
            (.seq
             (.dreg (.fl ⟨(some 16), .v (.mov (.t 0)), none⟩ (.fl ⟨(some 17), .v (.mov (.t 5)), none⟩ (.fl ⟨(some 18), .v (.iaddr 1 (.t 16) (.t 17)), none⟩ (.fl ⟨(some 19), .v (.load false 1 (.t 18)), none⟩ (.fl ⟨(some 20), .v (.mov (.t 1)), none⟩ (.fl ⟨(some 21), .v (.mov (.t 5)), none⟩ (.fl ⟨(some 22), .v (.iaddr 1 (.t 20) (.t 21)), none⟩ (.fl ⟨(some 23), .v (.load false 1 (.t 22)), none⟩ (.fl ⟨(some 24), .v (.bin .neq (.t 19) (.t 23)), none⟩ .done))))))))))
             (.cond (.t 24)
              (.seq
               (.reg [⟨(some 4), .v (.mov (.c (.bool false))), none⟩])
               .ret)
              .skip))))
          (.reg [⟨(some 25), .v (.bin .add (.t 13) (.c (.int .i64 1))), none⟩, ⟨(some 13), .v (.mov (.t 25)), none⟩])))))))
    (.seq
     (.reg [⟨(some 4), .v (.mov (.c (.bool true))), none⟩])
     .ret))))⟩
theorem e94 : rFunc Tryz.prog Tryz.f94 = some r94 := by kernel_rfl
def r57 : RFunc := ⟨17, [.t 4],
 (.seq
  (.reg [⟨(some 2), .m (.box (.t 0)), none⟩, ⟨(some 3), .m (.box (.t 1)), none⟩, ⟨(some 4), .v (.mov (.c (.bool false))), none⟩])
  (.seq
   (.reg [⟨(some 5), .v (.faddr 0 (.t 2)), none⟩, ⟨(some 6), .v (.load false 1 (.t 5)), none⟩, ⟨(some 7), .v (.faddr 0 (.t 3)), none⟩, ⟨(some 8), .v (.load false 1 (.t 7)), none⟩, ⟨(some 9), .v (.bin .eql (.t 6) (.t 8)), none⟩, ⟨(some 10), .v (.mov (.t 9)), none⟩, ⟨(some 11), .v (.faddr 1 (.t 2)), (some (10, true))⟩, ⟨(some 12), .v (.load false 1 (.t 11)), (some (10, true))⟩, ⟨(some 13), .v (.faddr 1 (.t 3)), (some (10, true))⟩, ⟨(some 14), .v (.load false 1 (.t 13)), (some (10, true))⟩, ⟨(some 15), .call 94 [(.t 12), (.t 14)], (some (10, true))⟩, ⟨(some 16), .v (.pick (.t 10) (.t 15) (.c (.bool false))), none⟩, ⟨(some 4), .v (.mov (.t 16)), none⟩])
   .ret))⟩
theorem e57 : rFunc Tryz.prog Tryz.f57 = some r57 := by kernel_rfl
def r45 : RFunc := ⟨48, [.t 2],
 (.seq
  (.reg [⟨(some 1), .m (.box (.t 0)), none⟩, ⟨(some 2), .v (.mov (.c (.bool false))), none⟩])
  (.seq
   (.seq
    (.dreg (.fl ⟨(some 6), .v (.faddr 0 (.t 1)), none⟩ (.fl ⟨(some 7), .v (.load false 1 (.t 6)), none⟩ (.nx ⟨(some 8), .call 64 [(.t 7), (.c (.int .i64 0)), (.c (.int .i64 4096))], none⟩ (.fl ⟨(some 9), .v (.un .not (.t 8)), none⟩ (.fl ⟨(some 10), .v (.mov (.t 9)), none⟩ (.fl ⟨(some 11), .v (.faddr 1 (.t 1)), (some (10, false))⟩ (.fl ⟨(some 12), .v (.load false 1 (.t 11)), (some (10, false))⟩ (.fl ⟨(some 13), .v (.len (.t 12)), (some (10, false))⟩ (.fl ⟨(some 14), .v (.faddr 0 (.t 1)), (some (10, false))⟩ (.fl ⟨(some 15), .v (.load false 1 (.t 14)), (some (10, false))⟩ (.nx ⟨(some 16), .call 88 [(.t 15)], (some (10, false))⟩ (.fl ⟨(some 17), .v (.bin .neq (.t 13) (.t 16)), (some (10, false))⟩ (.fl ⟨(some 18), .v (.pick (.t 10) (.c (.bool true)) (.t 17)), none⟩ .done))))))))))))))
    (.cond (.t 18)
     (.seq
      (.reg [⟨(some 2), .v (.mov (.c (.bool false))), none⟩])
      .ret)
     .skip))
   (.seq
    (.seq
     (.reg [⟨(some 19), .v (.faddr 1 (.t 1)), none⟩, ⟨(some 20), .v (.load false 1 (.t 19)), none⟩, ⟨(some 21), .v (.len (.t 20)), none⟩, ⟨(some 22), .v (.mov (.c (.int .i64 0))), none⟩])
     (.block 0
      (.loop
       (.seq
        (.reg [⟨(some 23), .v (.bin .lss (.t 22) (.t 21)), none⟩])
        (.seq
         (.cond (.t 23)
          .skip
          (.exit 0))
         (.seq
          (.block 1
           (.seq
            (.reg [⟨(some 24), .v (.iaddr 1 (.t 20) (.t 22)), none⟩, ⟨(some 25), .v (.load false 1 (.t 24)), none⟩, ⟨(some 4), .v (.mov (.t 25)), none⟩])
            (.seq
             (.reg [⟨(some 26), .v (.mov (.t 4)), none⟩, ⟨(some 27), .call 64 [(.t 26), (.c (.int .i64 0)), (.c (.int .i64 65535))], none⟩, ⟨(some 28), .v (.un .not (.t 27)), none⟩])
             (.cond (.t 28)
              (.seq
               (.reg [⟨(some 2), .v (.mov (.c (.bool false))), none⟩])
               .ret)
              .skip))))
          (.reg [⟨(some 29), .v (.bin .add (.t 22) (.c (.int .i64 1))), none⟩, ⟨(some 22), .v (.mov (.t 29)), none⟩])))))))
    (.seq
     (.reg [⟨(some 30), .v (.faddr 0 (.t 1)), none⟩, ⟨(some 31), .v (.load false 1 (.t 30)), none⟩, ⟨(some 32), .v (.bin .rem (.t 31) (.c (.int .i64 16))), none⟩, ⟨(some 5), .v (.mov (.t 32)), none⟩])
     (.seq
      (.reg [⟨(some 33), .v (.mov (.t 5)), none⟩, ⟨(some 34), .v (.bin .eql (.t 33) (.c (.int .i64 0))), none⟩, ⟨(some 35), .v (.mov (.t 34)), none⟩, ⟨(some 36), .v (.faddr 1 (.t 1)), (some (35, false))⟩, ⟨(some 37), .v (.load false 1 (.t 36)), (some (35, false))⟩, ⟨(some 38), .v (.faddr 1 (.t 1)), (some (35, false))⟩, ⟨(some 39), .v (.load false 1 (.t 38)), (some (35, false))⟩, ⟨(some 40), .v (.len (.t 39)), (some (35, false))⟩, ⟨(some 41), .v (.bin .sub (.t 40) (.c (.int .i64 1))), (some (35, false))⟩, ⟨(some 42), .v (.iaddr 1 (.t 37) (.t 41)), (some (35, false))⟩, ⟨(some 43), .v (.load false 1 (.t 42)), (some (35, false))⟩, ⟨(some 44), .v (.mov (.t 5)), (some (35, false))⟩, ⟨(some 45), .v (.bin .shr (.t 43) (.t 44)), (some (35, false))⟩, ⟨(some 46), .v (.bin .eql (.t 45) (.c (.int .i64 0))), (some (35, false))⟩, ⟨(some 47), .v (.pick (.t 35) (.c (.bool true)) (.t 46)), none⟩, ⟨(some 2), .v (.mov (.t 47)), none⟩])
      .ret)))))⟩
theorem e45 : rFunc Tryz.prog Tryz.f45 = some r45 := by kernel_rfl
def r92 : RFunc := ⟨26, [.t 4],
 (.seq
  (.reg [⟨(some 4), .v (.mov (.c (.bool false))), none⟩])
  (.seq
   (.seq
    (.reg [⟨(some 6), .v (.mov (.t 0)), none⟩, ⟨(some 7), .v (.len (.t 6)), none⟩, ⟨(some 8), .v (.mov (.t 1)), none⟩, ⟨(some 9), .v (.len (.t 8)), none⟩, ⟨(some 10), .v (.bin .neq (.t 7) (.t 9)), none⟩])
    (.cond (.t 10)
     (.seq
      (.reg [⟨(some 4), .v (.mov (.c (.bool false))), none⟩])
      .ret)
     .skip))
   (.seq
    (.seq
     (.reg [⟨(some 11), .v (.mov (.t 0)), none⟩, ⟨(some 12), .v (.len (.t 11)), none⟩, ⟨(some 13), .v (.mov (.c (.int .i64 0))), none⟩])
     (.block 0
      (.loop
       (.seq
        (.reg [⟨(some 14), .v (.bin .lss (.t 13) (.t 12)), none⟩])
        (.seq
         (.cond (.t 14)
          .skip
          (.exit 0))
         (.seq
          (.block 1
           (.seq
            (.reg [⟨(some 15), .v (.mov (.t 13)), none⟩, ⟨(some 5), .v (.mov (.t 15)), none⟩])
            (.seq
             (.dreg (.fl ⟨(some 16), .v (.mov (.t 0)), none⟩ (.fl ⟨(some 17), .v (.mov (.t 5)), none⟩ (.fl ⟨(some 18), .v (.iaddr 1 (.t 16) (.t 17)), none⟩ (.fl ⟨(some 19), .v (.load false 1 (.t 18)), none⟩ (.fl ⟨(some 20), .v (.mov (.t 1)), none⟩ (.fl ⟨(some 21), .v (.mov (.t 5)), none⟩ (.fl ⟨(some 22), .v (.iaddr 1 (.t 20) (.t 21)), none⟩ (.fl ⟨(some 23), .v (.load false 1 (.t 22)), none⟩ (.fl ⟨(some 24), .v (.bin .neq (.t 19) (.t 23)), none⟩ .done))))))))))
             (.cond (.t 24)
              (.seq
               (.reg [⟨(some 4), .v (.mov (.c (.bool false))), none⟩])
               .ret)
              .skip))))
          (.reg [⟨(some 25), .v (.bin .add (.t 13) (.c (.int .i64 1))), none⟩, ⟨(some 13), .v (.mov (.t 25)), none⟩])))))))
    (.seq
     (.reg [⟨(some 4), .v (.mov (.c (.bool true))), none⟩])
     .ret))))⟩
theorem e92 : rFunc Tryz.prog Tryz.f92 = some r92 := by kernel_rfl
def r50 : RFunc := ⟨17, [.t 4],
 (.seq
  (.reg [⟨(some 2), .m (.box (.t 0)), none⟩, ⟨(some 3), .m (.box (.t 1)), none⟩, ⟨(some 4), .v (.mov (.c (.bool false))), none⟩])
  (.seq
   (.reg [⟨(some 5), .v (.faddr 0 (.t 2)), none⟩, ⟨(some 6), .v (.load false 1 (.t 5)), none⟩, ⟨(some 7), .v (.faddr 0 (.t 3)), none⟩, ⟨(some 8), .v (.load false 1 (.t 7)), none⟩, ⟨(some 9), .v (.bin .eql (.t 6) (.t 8)), none⟩, ⟨(some 10), .v (.mov (.t 9)), none⟩, ⟨(some 11), .v (.faddr 1 (.t 2)), (some (10, true))⟩, ⟨(some 12), .v (.load false 1 (.t 11)), (some (10, true))⟩, ⟨(some 13), .v (.faddr 1 (.t 3)), (some (10, true))⟩, ⟨(some 14), .v (.load false 1 (.t 13)), (some (10, true))⟩, ⟨(some 15), .call 92 [(.t 12), (.t 14)], (some (10, true))⟩, ⟨(some 16), .v (.pick (.t 10) (.t 15) (.c (.bool false))), none⟩, ⟨(some 4), .v (.mov (.t 16)), none⟩])
   .ret))⟩
theorem e50 : rFunc Tryz.prog Tryz.f50 = some r50 := by kernel_rfl
def r17 : RFunc := ⟨143, [.t 2, .t 3],
 (.seq
  (.reg [⟨(some 2), .v (.mov (.c .nils)), none⟩, ⟨(some 3), .v (.mov (.c (.bool false))), none⟩])
  (.seq
   (.dreg (.fl ⟨(some 11), .v (.mov (.t 0)), none⟩ (.fl ⟨(some 12), .v (.nchk (.t 11)), none⟩ (.fl ⟨(some 13), .v (.faddr 0 (.t 12)), none⟩ (.fl ⟨(some 14), .v (.load false 1 (.t 13)), none⟩ (.fl ⟨(some 15), .v (.mov (.t 0)), none⟩ (.fl ⟨(some 16), .v (.nchk (.t 15)), none⟩ (.fl ⟨(some 17), .v (.faddr 1 (.t 16)), none⟩ (.fl ⟨(some 18), .v (.load false 1 (.t 17)), none⟩ (.nx ⟨(some 19), .call 44 [(.t 14), (.t 18)], none⟩ (.fl ⟨(some 10), .v (.mov (.t 19)), none⟩ (.fl ⟨(some 20), .v (.ext (.t 10) 0), none⟩ (.fl ⟨(some 21), .v (.ext (.t 10) 1), none⟩ (.fl ⟨(some 4), .v (.mov (.t 20)), none⟩ (.fl ⟨(some 5), .v (.mov (.t 21)), none⟩ .done)))))))))))))))
   (.seq
    (.seq
     (.dreg (.fl ⟨(some 22), .v (.mov (.t 5)), none⟩ (.fl ⟨(some 23), .v (.un .not (.t 22)), none⟩ (.fl ⟨(some 24), .v (.mov (.t 23)), none⟩ (.fl ⟨(some 25), .v (.mov (.t 4)), (some (24, false))⟩ (.fl ⟨(some 26), .v (.mov (.t 0)), (some (24, false))⟩ (.fl ⟨(some 27), .v (.nchk (.t 26)), (some (24, false))⟩ (.fl ⟨(some 28), .v (.faddr 2 (.t 27)), (some (24, false))⟩ (.fl ⟨(some 29), .v (.load false 1 (.t 28)), (some (24, false))⟩ (.fl ⟨(some 30), .v (.bin .neq (.t 25) (.t 29)), (some (24, false))⟩ (.fl ⟨(some 31), .v (.pick (.t 24) (.c (.bool true)) (.t 30)), none⟩ (.fl ⟨(some 32), .v (.mov (.t 31)), none⟩ (.fl ⟨(some 33), .v (.mov (.t 0)), (some (32, false))⟩ (.fl ⟨(some 34), .v (.nchk (.t 33)), (some (32, false))⟩ (.fl ⟨(some 35), .v (.faddr 3 (.t 34)), (some (32, false))⟩ (.fl ⟨(some 36), .v (.load true 2 (.t 35)), (some (32, false))⟩ (.nx ⟨(some 37), .call 45 [(.t 36)], (some (32, false))⟩ (.fl ⟨(some 38), .v (.un .not (.t 37)), (some (32, false))⟩ (.fl ⟨(some 39), .v (.pick (.t 32) (.c (.bool true)) (.t 38)), none⟩ (.fl ⟨(some 40), .v (.mov (.t 39)), none⟩ (.fl ⟨(some 41), .v (.mov (.t 0)), (some (40, false))⟩ (.fl ⟨(some 42), .v (.nchk (.t 41)), (some (40, false))⟩ (.fl ⟨(some 43), .v (.faddr 5 (.t 42)), (some (40, false))⟩ (.fl ⟨(some 44), .v (.load true 2 (.t 43)), (some (40, false))⟩ (.nx ⟨(some 45), .call 45 [(.t 44)], (some (40, false))⟩ (.fl ⟨(some 46), .v (.un .not (.t 45)), (some (40, false))⟩ (.fl ⟨(some 47), .v (.pick (.t 40) (.c (.bool true)) (.t 46)), none⟩ (.fl ⟨(some 48), .v (.mov (.t 47)), none⟩ (.fl ⟨(some 49), .v (.mov (.t 0)), (some (48, false))⟩ (.fl ⟨(some 50), .v (.nchk (.t 49)), (some (48, false))⟩ (.fl ⟨(some 51), .v (.faddr 3 (.t 50)), (some (48, false))⟩ (.fl ⟨(some 52), .v (.faddr 0 (.t 51)), (some (48, false))⟩ (.fl ⟨(some 53), .v (.load false 1 (.t 52)), (some (48, false))⟩ (.fl ⟨(some 54), .v (.mov (.t 4)), (some (48, false))⟩ (.fl ⟨(some 55), .v (.mov (.t 0)), (some (48, false))⟩ (.fl ⟨(some 56), .v (.nchk (.t 55)), (some (48, false))⟩ (.fl ⟨(some 57), .v (.faddr 0 (.t 56)), (some (48, false))⟩ (.fl ⟨(some 58), .v (.load false 1 (.t 57)), (some (48, false))⟩ (.fl ⟨(some 59), .v (.bin .mul (.t 54) (.t 58)), (some (48, false))⟩ (.fl ⟨(some 60), .v (.bin .neq (.t 53) (.t 59)), (some (48, false))⟩ (.fl ⟨(some 61), .v (.pick (.t 48) (.c (.bool true)) (.t 60)), none⟩ .done)))))))))))))))))))))))))))))))))))))))))
     (.cond (.t 61)
      (.seq
       (.reg [⟨(some 2), .v (.mov (.c .nils)), none⟩, ⟨(some 3), .v (.mov (.c (.bool false))), none⟩])
       .ret)
      .skip))
    (.seq
     (.reg [⟨(some 62), .m (.bsl 1 0 [(.int .i64 0)] []), none⟩, ⟨(some 6), .v (.mov (.t 62)), none⟩])
     (.seq
      (.seq
       (.reg [⟨(some 63), .v (.mov (.t 0)), none⟩, ⟨(some 64), .v (.nchk (.t 63)), none⟩, ⟨(some 65), .v (.faddr 5 (.t 64)), none⟩, ⟨(some 66), .v (.faddr 0 (.t 65)), none⟩, ⟨(some 67), .v (.load false 1 (.t 66)), none⟩, ⟨(some 68), .v (.mov (.c (.int .i64 0))), none⟩])
       (.block 0
        (.loop
         (.seq
          (.reg [⟨(some 69), .v (.bin .lss (.t 68) (.t 67)), none⟩])
          (.seq
           (.cond (.t 69)
            .skip
            (.exit 0))
           (.seq
            (.block 1
             (.seq
              (.reg [⟨(some 70), .v (.mov (.t 68)), none⟩, ⟨(some 7), .v (.mov (.t 70)), none⟩])
              (.seq
               (.reg [⟨(some 71), .v (.mov (.t 6)), none⟩, ⟨(some 72), .v (.len (.t 71)), none⟩, ⟨(some 8), .v (.mov (.t 72)), none⟩])
               (.seq
                (.reg [⟨(some 73), .v (.mov (.t 0)), none⟩, ⟨(some 74), .v (.nchk (.t 73)), none⟩, ⟨(some 75), .v (.faddr 5 (.t 74)), none⟩, ⟨(some 76), .v (.mov (.t 7)), none⟩, ⟨(some 77), .call 46 [(.t 75), (.t 76)], none⟩, ⟨(some 78), .v (.mov (.t 77)), none⟩, ⟨(some 79), .v (.mov (.t 8)), (some (78, true))⟩, ⟨(some 80), .v (.mov (.t 0)), (some (78, true))⟩, ⟨(some 81), .v (.nchk (.t 80)), (some (78, true))⟩, ⟨(some 82), .v (.faddr 0 (.t 81)), (some (78, true))⟩, ⟨(some 83), .v (.load false 1 (.t 82)), (some (78, true))⟩, ⟨(some 84), .v (.bin .lss (.t 79) (.t 83)), (some (78, true))⟩, ⟨(some 85), .v (.pick (.t 78) (.t 84) (.c (.bool false))), none⟩])
                (.cond (.t 85)
                 (.dreg (.fl ⟨(some 86), .v (.mov (.t 6)), none⟩ (.fl ⟨(some 87), .v (.mov (.t 7)), none⟩ (.fl ⟨(some 88), .v (.mov (.t 8)), none⟩ (.fl ⟨(some 89), .v (.bin .sub (.t 87) (.t 88)), none⟩ (.fl ⟨(some 90), .v (.mov (.t 4)), none⟩ (.fl ⟨(some 91), .v (.bin .shl (.t 89) (.t 90)), none⟩ (.fl ⟨(some 92), .v (.mov (.t 0)), none⟩ (.fl ⟨(some 93), .v (.nchk (.t 92)), none⟩ (.fl ⟨(some 94), .v (.faddr 3 (.t 93)), none⟩ (.fl ⟨(some 95), .v (.mov (.t 8)), none⟩ (.fl ⟨(some 96), .v (.mov (.t 4)), none⟩ (.fl ⟨(some 97), .v (.bin .mul (.t 95) (.t 96)), none⟩ (.fl ⟨(some 98), .v (.mov (.t 4)), none⟩ (.nx ⟨(some 99), .call 47 [(.t 94), (.t 97), (.t 98)], none⟩ (.fl ⟨(some 100), .v (.bin .or (.t 91) (.t 99)), none⟩ (.nx ⟨(some 101), .m (.bsl 1 1 [(.int .i64 0)] [(0, 1, (.t 100))]), none⟩ (.nx ⟨(some 102), .m (.app false 1 8 (.t 86) (.t 101)), none⟩ (.fl ⟨(some 6), .v (.mov (.t 102)), none⟩ .done)))))))))))))))))))
                 .skip)))))
            (.reg [⟨(some 103), .v (.bin .add (.t 68) (.c (.int .i64 1))), none⟩, ⟨(some 68), .v (.mov (.t 103)), none⟩])))))))
      (.seq
       (.seq
        (.reg [⟨(some 104), .v (.mov (.t 6)), none⟩, ⟨(some 105), .v (.len (.t 104)), none⟩, ⟨(some 106), .v (.mov (.t 0)), none⟩, ⟨(some 107), .v (.nchk (.t 106)), none⟩, ⟨(some 108), .v (.faddr 0 (.t 107)), none⟩, ⟨(some 109), .v (.load false 1 (.t 108)), none⟩, ⟨(some 110), .v (.bin .neq (.t 105) (.t 109)), none⟩, ⟨(some 111), .v (.mov (.t 110)), none⟩, ⟨(some 112), .v (.mov (.t 6)), (some (111, false))⟩, ⟨(some 113), .v (.mov (.t 0)), (some (111, false))⟩, ⟨(some 114), .v (.nchk (.t 113)), (some (111, false))⟩, ⟨(some 115), .v (.faddr 1 (.t 114)), (some (111, false))⟩, ⟨(some 116), .v (.load false 1 (.t 115)), (some (111, false))⟩, ⟨(some 117), .call 48 [(.t 112), (.t 116)], (some (111, false))⟩, ⟨(some 118), .v (.un .not (.t 117)), (some (111, false))⟩, ⟨(some 119), .v (.pick (.t 111) (.c (.bool true)) (.t 118)), none⟩])
        (.cond (.t 119)
         (.seq
          (.reg [⟨(some 2), .v (.mov (.c .nils)), none⟩, ⟨(some 3), .v (.mov (.c (.bool false))), none⟩])
          .ret)
         .skip))
       (.seq
        (.reg [⟨(some 120), .v (.mov (.t 6)), none⟩, ⟨(some 121), .v (.mov (.t 0)), none⟩, ⟨(some 122), .v (.nchk (.t 121)), none⟩, ⟨(some 123), .v (.faddr 1 (.t 122)), none⟩, ⟨(some 124), .v (.load false 1 (.t 123)), none⟩, ⟨(some 125), .call 49 [(.t 120), (.t 124)], none⟩, ⟨(some 9), .m (.alloc [(.int .i64 0), (.int .i64 0), (.int .i64 0), (.int .i64 0), .nils, (.int .i64 0), .nils]), none⟩, ⟨none, .m (.store 7 (.t 9) (.t 125)), none⟩])
        (.seq
         (.dreg (.fl ⟨(some 126), .v (.mov (.t 6)), none⟩ (.fl ⟨(some 127), .v (.faddr 3 (.t 9)), none⟩ (.fl ⟨(some 128), .v (.load true 2 (.t 127)), none⟩ (.fl ⟨(some 129), .v (.mov (.t 0)), none⟩ (.fl ⟨(some 130), .v (.nchk (.t 129)), none⟩ (.fl ⟨(some 131), .v (.faddr 3 (.t 130)), none⟩ (.fl ⟨(some 132), .v (.load true 2 (.t 131)), none⟩ (.nx ⟨(some 133), .call 50 [(.t 128), (.t 132)], none⟩ (.fl ⟨(some 134), .v (.mov (.t 133)), none⟩ (.fl ⟨(some 135), .v (.faddr 5 (.t 9)), (some (134, true))⟩ (.fl ⟨(some 136), .v (.load true 2 (.t 135)), (some (134, true))⟩ (.fl ⟨(some 137), .v (.mov (.t 0)), (some (134, true))⟩ (.fl ⟨(some 138), .v (.nchk (.t 137)), (some (134, true))⟩ (.fl ⟨(some 139), .v (.faddr 5 (.t 138)), (some (134, true))⟩ (.fl ⟨(some 140), .v (.load true 2 (.t 139)), (some (134, true))⟩ (.nx ⟨(some 141), .call 50 [(.t 136), (.t 140)], (some (134, true))⟩ (.fl ⟨(some 142), .v (.pick (.t 134) (.t 141) (.c (.bool false))), none⟩ (.fl ⟨(some 2), .v (.mov (.t 126)), none⟩ (.fl ⟨(some 3), .v (.mov (.t 142)), none⟩ .done))))))))))))))))))))
         .ret))))))))⟩
theorem e17 : rFunc Tryz.prog Tryz.f17 = some r17 := by kernel_rfl
def r52 : RFunc := ⟨40, [.t 2, .t 3],
 (.seq
  (.reg [⟨(some 2), .v (.mov (.c (.str []))), none⟩, ⟨(some 3), .v (.mov (.c (.bool false))), none⟩])
  (.seq
   (.reg [⟨(some 4), .v (.mov (.c (.int .i64 0))), none⟩])
   (.seq
    (.seq
     (.reg [⟨(some 6), .v (.mov (.t 0)), none⟩, ⟨(some 7), .v (.lens (.t 6)), none⟩, ⟨(some 8), .v (.mov (.c (.int .i64 0))), none⟩])
     (.block 0
      (.loop
       (.seq
        (.reg [⟨(some 9), .v (.bin .lss (.t 8) (.t 7)), none⟩])
        (.seq
         (.cond (.t 9)
          .skip
          (.exit 0))
         (.seq
          (.block 1
           (.seq
            (.reg [⟨(some 10), .v (.mov (.t 8)), none⟩, ⟨(some 5), .v (.mov (.t 10)), none⟩])
            (.seq
             (.seq
              (.reg [⟨(some 11), .v (.mov (.t 0)), none⟩, ⟨(some 12), .v (.mov (.t 5)), none⟩, ⟨(some 13), .v (.sidx (.t 11) (.t 12)), none⟩, ⟨(some 14), .v (.bin .lss (.t 13) (.c (.int .u8 32))), none⟩, ⟨(some 15), .v (.mov (.t 14)), none⟩, ⟨(some 16), .v (.mov (.t 0)), (some (15, false))⟩, ⟨(some 17), .v (.mov (.t 5)), (some (15, false))⟩, ⟨(some 18), .v (.sidx (.t 16) (.t 17)), (some (15, false))⟩, ⟨(some 19), .v (.bin .gtr (.t 18) (.c (.int .u8 125))), (some (15, false))⟩, ⟨(some 20), .v (.pick (.t 15) (.c (.bool true)) (.t 19)), none⟩])
              (.cond (.t 20)
               (.seq
                (.reg [⟨(some 2), .v (.mov (.c (.str []))), none⟩, ⟨(some 3), .v (.mov (.c (.bool false))), none⟩])
                .ret)
               .skip))
             (.reg [⟨(some 21), .v (.mov (.t 4)), none⟩, ⟨(some 22), .v (.mov (.t 5)), none⟩, ⟨(some 23), .v (.bin .add (.t 22) (.c (.int .i64 1))), none⟩, ⟨(some 24), .v (.mov (.t 0)), none⟩, ⟨(some 25), .v (.mov (.t 5)), none⟩, ⟨(some 26), .v (.sidx (.t 24) (.t 25)), none⟩, ⟨(some 27), .v (.conv .i64 (.t 26)), none⟩, ⟨(some 28), .v (.bin .mul (.t 23) (.t 27)), none⟩, ⟨(some 29), .v (.bin .add (.t 21) (.t 28)), none⟩, ⟨(some 30), .v (.bin .rem (.t 29) (.c (.int .i64 65521))), none⟩, ⟨(some 4), .v (.mov (.t 30)), none⟩]))))
          (.reg [⟨(some 31), .v (.bin .add (.t 8) (.c (.int .i64 1))), none⟩, ⟨(some 8), .v (.mov (.t 31)), none⟩])))))))
    (.seq
     (.seq
      (.reg [⟨(some 32), .v (.mov (.t 0)), none⟩, ⟨(some 33), .v (.lens (.t 32)), none⟩, ⟨(some 34), .v (.bin .gtr (.t 33) (.c (.int .i64 6000))), none⟩])
      (.cond (.t 34)
       (.seq
        (.reg [⟨(some 2), .v (.mov (.c (.str []))), none⟩, ⟨(some 3), .v (.mov (.c (.bool false))), none⟩])
        .ret)
       .skip))
     (.seq
      (.reg [⟨(some 35), .v (.mov (.t 0)), none⟩, ⟨(some 36), .v (.bin .add (.t 35) (.c (.str [126]))), none⟩, ⟨(some 37), .v (.mov (.t 4)), none⟩, ⟨(some 38), .call 18 [(.t 37)], none⟩, ⟨(some 39), .v (.bin .add (.t 36) (.t 38)), none⟩, ⟨(some 2), .v (.mov (.t 39)), none⟩, ⟨(some 3), .v (.mov (.c (.bool true))), none⟩])
      .ret)))))⟩
theorem e52 : rFunc Tryz.prog Tryz.f52 = some r52 := by kernel_rfl
def r19 : RFunc := ⟨12, [.t 4, .t 5],
 (.seq
  (.reg [⟨(some 4), .v (.mov (.c (.str []))), none⟩, ⟨(some 5), .v (.mov (.c (.bool false))), none⟩])
  (.seq
   (.seq
    (.reg [⟨(some 6), .v (.mov (.t 1)), none⟩, ⟨(some 7), .v (.un .not (.t 6)), none⟩])
    (.cond (.t 7)
     (.seq
      (.reg [⟨(some 4), .v (.mov (.c (.str []))), none⟩, ⟨(some 5), .v (.mov (.c (.bool false))), none⟩])
      .ret)
     .skip))
   (.seq
    (.reg [⟨(some 8), .v (.mov (.t 0)), none⟩, ⟨(some 9), .call 52 [(.t 8)], none⟩, ⟨(some 10), .v (.ext (.t 9) 0), none⟩, ⟨(some 11), .v (.ext (.t 9) 1), none⟩, ⟨(some 4), .v (.mov (.t 10)), none⟩, ⟨(some 5), .v (.mov (.t 11)), none⟩])
    .ret)))⟩
theorem e19 : rFunc Tryz.prog Tryz.f19 = some r19 := by kernel_rfl
def r7 : RFunc := ⟨34, [.t 2, .t 3],
 (.seq
  (.reg [⟨(some 1), .m (.box (.t 0)), none⟩, ⟨(some 2), .v (.mov (.c (.str []))), none⟩, ⟨(some 3), .v (.mov (.c (.bool false))), none⟩])
  (.seq
   (.reg [⟨(some 10), .call 17 [(.t 1)], none⟩, ⟨(some 9), .v (.mov (.t 10)), none⟩, ⟨(some 11), .v (.ext (.t 9) 0), none⟩, ⟨(some 12), .v (.ext (.t 9) 1), none⟩, ⟨(some 4), .v (.mov (.t 11)), none⟩, ⟨(some 5), .v (.mov (.t 12)), none⟩])
   (.seq
    (.reg [⟨(some 13), .v (.faddr 1 (.t 1)), none⟩, ⟨(some 14), .v (.load false 1 (.t 13)), none⟩, ⟨(some 15), .call 18 [(.t 14)], none⟩, ⟨(some 16), .v (.bin .add (.c (.str [115, 112, 97, 114, 115, 101, 32])) (.t 15)), none⟩, ⟨(some 6), .v (.mov (.t 16)), none⟩])
    (.seq
     (.seq
      (.reg [⟨(some 17), .v (.mov (.t 4)), none⟩, ⟨(some 18), .v (.len (.t 17)), none⟩, ⟨(some 19), .v (.mov (.c (.int .i64 0))), none⟩])
      (.block 0
       (.loop
        (.seq
         (.reg [⟨(some 20), .v (.bin .lss (.t 19) (.t 18)), none⟩])
         (.seq
          (.cond (.t 20)
           .skip
           (.exit 0))
          (.seq
           (.block 1
            (.seq
             (.reg [⟨(some 21), .v (.iaddr 1 (.t 17) (.t 19)), none⟩, ⟨(some 22), .v (.load false 1 (.t 21)), none⟩, ⟨(some 8), .v (.mov (.t 22)), none⟩])
             (.reg [⟨(some 23), .v (.mov (.t 6)), none⟩, ⟨(some 24), .v (.mov (.t 8)), none⟩, ⟨(some 25), .call 18 [(.t 24)], none⟩, ⟨(some 26), .v (.bin .add (.c (.str [32])) (.t 25)), none⟩, ⟨(some 27), .v (.bin .add (.t 23) (.t 26)), none⟩, ⟨(some 6), .v (.mov (.t 27)), none⟩])))
           (.reg [⟨(some 28), .v (.bin .add (.t 19) (.c (.int .i64 1))), none⟩, ⟨(some 19), .v (.mov (.t 28)), none⟩])))))))
     (.seq
      (.reg [⟨(some 29), .v (.mov (.t 6)), none⟩, ⟨(some 30), .v (.mov (.t 5)), none⟩, ⟨(some 31), .call 19 [(.t 29), (.t 30)], none⟩, ⟨(some 32), .v (.ext (.t 31) 0), none⟩, ⟨(some 33), .v (.ext (.t 31) 1), none⟩, ⟨(some 2), .v (.mov (.t 32)), none⟩, ⟨(some 3), .v (.mov (.t 33)), none⟩])
      .ret)))))⟩
theorem e7 : rFunc Tryz.prog Tryz.f7 = some r7 := by kernel_rfl
def r56 : RFunc := ⟨42, [.t 2],
 (.seq
  (.reg [⟨(some 1), .m (.box (.t 0)), none⟩, ⟨(some 2), .v (.mov (.c (.bool false))), none⟩])
  (.seq
   (.seq
    (.reg [⟨(some 3), .v (.faddr 0 (.t 1)), none⟩, ⟨(some 4), .v (.load false 1 (.t 3)), none⟩, ⟨(some 5), .call 53 [(.t 4), (.c (.int .i64 0)), (.c (.int .i64 4096))], none⟩, ⟨(some 6), .v (.un .not (.t 5)), none⟩, ⟨(some 7), .v (.mov (.t 6)), none⟩, ⟨(some 8), .v (.faddr 1 (.t 1)), (some (7, false))⟩, ⟨(some 9), .v (.load false 1 (.t 8)), (some (7, false))⟩, ⟨(some 10), .v (.len (.t 9)), (some (7, false))⟩, ⟨(some 11), .v (.faddr 0 (.t 1)), (some (7, false))⟩, ⟨(some 12), .v (.load false 1 (.t 11)), (some (7, false))⟩, ⟨(some 13), .v (.bin .add (.t 12) (.c (.int .i64 15))), (some (7, false))⟩, ⟨(some 14), .v (.bin .quo (.t 13) (.c (.int .i64 16))), (some (7, false))⟩, ⟨(some 15), .v (.bin .neq (.t 10) (.t 14)), (some (7, false))⟩, ⟨(some 16), .v (.pick (.t 7) (.c (.bool true)) (.t 15)), none⟩, ⟨(some 17), .v (.mov (.t 16)), none⟩, ⟨(some 18), .v (.faddr 1 (.t 1)), (some (17, false))⟩, ⟨(some 19), .v (.load false 1 (.t 18)), (some (17, false))⟩, ⟨(some 20), .call 67 [(.t 19), (.c (.int .i64 0)), (.c (.int .i64 65535))], (some (17, false))⟩, ⟨(some 21), .v (.un .not (.t 20)), (some (17, false))⟩, ⟨(some 22), .v (.pick (.t 17) (.c (.bool true)) (.t 21)), none⟩])
    (.cond (.t 22)
     (.seq
      (.reg [⟨(some 2), .v (.mov (.c (.bool false))), none⟩])
      .ret)
     .skip))
   (.seq
    (.dreg (.fl ⟨(some 23), .v (.faddr 0 (.t 1)), none⟩ (.fl ⟨(some 24), .v (.load false 1 (.t 23)), none⟩ (.fl ⟨(some 25), .v (.bin .rem (.t 24) (.c (.int .i64 16))), none⟩ (.fl ⟨(some 26), .v (.bin .eql (.t 25) (.c (.int .i64 0))), none⟩ (.fl ⟨(some 27), .v (.mov (.t 26)), none⟩ (.fl ⟨(some 28), .v (.faddr 1 (.t 1)), (some (27, false))⟩ (.fl ⟨(some 29), .v (.load false 1 (.t 28)), (some (27, false))⟩ (.fl ⟨(some 30), .v (.faddr 1 (.t 1)), (some (27, false))⟩ (.fl ⟨(some 31), .v (.load false 1 (.t 30)), (some (27, false))⟩ (.fl ⟨(some 32), .v (.len (.t 31)), (some (27, false))⟩ (.fl ⟨(some 33), .v (.bin .sub (.t 32) (.c (.int .i64 1))), (some (27, false))⟩ (.fl ⟨(some 34), .v (.iaddr 1 (.t 29) (.t 33)), (some (27, false))⟩ (.fl ⟨(some 35), .v (.load false 1 (.t 34)), (some (27, false))⟩ (.fl ⟨(some 36), .v (.faddr 0 (.t 1)), (some (27, false))⟩ (.fl ⟨(some 37), .v (.load false 1 (.t 36)), (some (27, false))⟩ (.fl ⟨(some 38), .v (.bin .rem (.t 37) (.c (.int .i64 16))), (some (27, false))⟩ (.fl ⟨(some 39), .v (.bin .shr (.t 35) (.t 38)), (some (27, false))⟩ (.fl ⟨(some 40), .v (.bin .eql (.t 39) (.c (.int .i64 0))), (some (27, false))⟩ (.fl ⟨(some 41), .v (.pick (.t 27) (.c (.bool true)) (.t 40)), none⟩ (.fl ⟨(some 2), .v (.mov (.t 41)), none⟩ .done)))))))))))))))))))))
    .ret)))⟩
theorem e56 : rFunc Tryz.prog Tryz.f56 = some r56 := by kernel_rfl
def r20 : RFunc := ⟨92, [.t 2],
 (.seq
  (.reg [⟨(some 1), .m (.box (.t 0)), none⟩, ⟨(some 2), .v (.mov (.c (.bool false))), none⟩])
  (.seq
   (.seq
    (.dreg (.fl ⟨(some 5), .v (.faddr 0 (.t 1)), none⟩ (.fl ⟨(some 6), .v (.load false 1 (.t 5)), none⟩ (.nx ⟨(some 7), .call 53 [(.t 6), (.c (.int .i64 0)), (.c (.int .i64 60))], none⟩ (.fl ⟨(some 8), .v (.un .not (.t 7)), none⟩ (.fl ⟨(some 9), .v (.mov (.t 8)), none⟩ (.fl ⟨(some 10), .v (.faddr 1 (.t 1)), (some (9, false))⟩ (.fl ⟨(some 11), .v (.load false 1 (.t 10)), (some (9, false))⟩ (.nx ⟨(some 12), .call 54 [(.t 11)], (some (9, false))⟩ (.fl ⟨(some 13), .v (.un .not (.t 12)), (some (9, false))⟩ (.fl ⟨(some 14), .v (.pick (.t 9) (.c (.bool true)) (.t 13)), none⟩ (.fl ⟨(some 15), .v (.mov (.t 14)), none⟩ (.fl ⟨(some 16), .v (.faddr 2 (.t 1)), (some (15, false))⟩ (.fl ⟨(some 17), .v (.load false 1 (.t 16)), (some (15, false))⟩ (.fl ⟨(some 18), .v (.faddr 0 (.t 1)), (some (15, false))⟩ (.fl ⟨(some 19), .v (.load false 1 (.t 18)), (some (15, false))⟩ (.fl ⟨(some 20), .v (.faddr 1 (.t 1)), (some (15, false))⟩ (.fl ⟨(some 21), .v (.load false 1 (.t 20)), (some (15, false))⟩ (.nx ⟨(some 22), .call 55 [(.t 19), (.t 21)], (some (15, false))⟩ (.fl ⟨(some 23), .v (.bin .neq (.t 17) (.t 22)), (some (15, false))⟩ (.fl ⟨(some 24), .v (.pick (.t 15) (.c (.bool true)) (.t 23)), none⟩ .done)))))))))))))))))))))
    (.cond (.t 24)
     (.seq
      (.reg [⟨(some 2), .v (.mov (.c (.bool false))), none⟩])
      .ret)
     .skip))
   (.seq
    (.seq
     (.dreg (.fl ⟨(some 25), .v (.faddr 3 (.t 1)), none⟩ (.fl ⟨(some 26), .v (.load true 2 (.t 25)), none⟩ (.nx ⟨(some 27), .call 56 [(.t 26)], none⟩ (.fl ⟨(some 28), .v (.un .not (.t 27)), none⟩ (.fl ⟨(some 29), .v (.mov (.t 28)), none⟩ (.fl ⟨(some 30), .v (.faddr 5 (.t 1)), (some (29, false))⟩ (.fl ⟨(some 31), .v (.load true 2 (.t 30)), (some (29, false))⟩ (.nx ⟨(some 32), .call 56 [(.t 31)], (some (29, false))⟩ (.fl ⟨(some 33), .v (.un .not (.t 32)), (some (29, false))⟩ (.fl ⟨(some 34), .v (.pick (.t 29) (.c (.bool true)) (.t 33)), none⟩ (.fl ⟨(some 35), .v (.mov (.t 34)), none⟩ (.fl ⟨(some 36), .v (.faddr 3 (.t 1)), (some (35, false))⟩ (.fl ⟨(some 37), .v (.faddr 0 (.t 36)), (some (35, false))⟩ (.fl ⟨(some 38), .v (.load false 1 (.t 37)), (some (35, false))⟩ (.fl ⟨(some 39), .v (.faddr 0 (.t 1)), (some (35, false))⟩ (.fl ⟨(some 40), .v (.load false 1 (.t 39)), (some (35, false))⟩ (.fl ⟨(some 41), .v (.faddr 2 (.t 1)), (some (35, false))⟩ (.fl ⟨(some 42), .v (.load false 1 (.t 41)), (some (35, false))⟩ (.fl ⟨(some 43), .v (.bin .mul (.t 40) (.t 42)), (some (35, false))⟩ (.fl ⟨(some 44), .v (.bin .neq (.t 38) (.t 43)), (some (35, false))⟩ (.fl ⟨(some 45), .v (.pick (.t 35) (.c (.bool true)) (.t 44)), none⟩ (.fl ⟨(some 46), .v (.mov (.t 45)), none⟩ (.fl ⟨(some 47), .v (.faddr 5 (.t 1)), (some (46, false))⟩ (.fl ⟨(some 48), .v (.faddr 0 (.t 47)), (some (46, false))⟩ (.fl ⟨(some 49), .v (.load false 1 (.t 48)), (some (46, false))⟩ (.fl ⟨(some 50), .v (.faddr 0 (.t 1)), (some (46, false))⟩ (.fl ⟨(some 51), .v (.load false 1 (.t 50)), (some (46, false))⟩ (.fl ⟨(some 52), .v (.faddr 1 (.t 1)), (some (46, false))⟩ (.fl ⟨(some 53), .v (.load false 1 (.t 52)), (some (46, false))⟩ (.fl ⟨(some 54), .v (.bin .sub (.t 53) (.c (.int .i64 1))), (some (46, false))⟩ (.fl ⟨(some 55), .v (.faddr 2 (.t 1)), (some (46, false))⟩ (.fl ⟨(some 56), .v (.load false 1 (.t 55)), (some (46, false))⟩ (.fl ⟨(some 57), .v (.bin .shr (.t 54) (.t 56)), (some (46, false))⟩ (.fl ⟨(some 58), .v (.bin .add (.t 51) (.t 57)), (some (46, false))⟩ (.fl ⟨(some 59), .v (.bin .add (.t 58) (.c (.int .i64 1))), (some (46, false))⟩ (.fl ⟨(some 60), .v (.bin .neq (.t 49) (.t 59)), (some (46, false))⟩ (.fl ⟨(some 61), .v (.pick (.t 46) (.c (.bool true)) (.t 60)), none⟩ .done))))))))))))))))))))))))))))))))))))))
     (.cond (.t 61)
      (.seq
       (.reg [⟨(some 2), .v (.mov (.c (.bool false))), none⟩])
       .ret)
      .skip))
    (.seq
     (.reg [⟨(some 62), .v (.load true 7 (.t 1)), none⟩, ⟨(some 63), .call 22 [(.t 62)], none⟩, ⟨(some 3), .v (.mov (.t 63)), none⟩])
     (.seq
      (.seq
       (.reg [⟨(some 64), .v (.mov (.t 3)), none⟩, ⟨(some 65), .v (.len (.t 64)), none⟩, ⟨(some 66), .v (.faddr 0 (.t 1)), none⟩, ⟨(some 67), .v (.load false 1 (.t 66)), none⟩, ⟨(some 68), .v (.bin .neq (.t 65) (.t 67)), none⟩, ⟨(some 69), .v (.mov (.t 68)), none⟩, ⟨(some 70), .v (.mov (.t 3)), (some (69, false))⟩, ⟨(some 71), .v (.faddr 1 (.t 1)), (some (69, false))⟩, ⟨(some 72), .v (.load false 1 (.t 71)), (some (69, false))⟩, ⟨(some 73), .call 33 [(.t 70), (.t 72)], (some (69, false))⟩, ⟨(some 74), .v (.un .not (.t 73)), (some (69, false))⟩, ⟨(some 75), .v (.pick (.t 69) (.c (.bool true)) (.t 74)), none⟩])
       (.cond (.t 75)
        (.seq
         (.reg [⟨(some 2), .v (.mov (.c (.bool false))), none⟩])
         .ret)
        .skip))
      (.seq
       (.reg [⟨(some 76), .v (.mov (.t 3)), none⟩, ⟨(some 77), .v (.faddr 1 (.t 1)), none⟩, ⟨(some 78), .v (.load false 1 (.t 77)), none⟩, ⟨(some 79), .call 34 [(.t 76), (.t 78)], none⟩, ⟨(some 4), .m (.alloc [(.int .i64 0), (.int .i64 0), (.int .i64 0), (.int .i64 0), .nils, (.int .i64 0), .nils]), none⟩, ⟨none, .m (.store 7 (.t 4) (.t 79)), none⟩])
       (.seq
        (.reg [⟨(some 80), .v (.faddr 3 (.t 1)), none⟩, ⟨(some 81), .v (.load true 2 (.t 80)), none⟩, ⟨(some 82), .v (.faddr 3 (.t 4)), none⟩, ⟨(some 83), .v (.load true 2 (.t 82)), none⟩, ⟨(some 84), .call 57 [(.t 81), (.t 83)], none⟩, ⟨(some 85), .v (.mov (.t 84)), none⟩, ⟨(some 86), .v (.faddr 5 (.t 1)), (some (85, true))⟩, ⟨(some 87), .v (.load true 2 (.t 86)), (some (85, true))⟩, ⟨(some 88), .v (.faddr 5 (.t 4)), (some (85, true))⟩, ⟨(some 89), .v (.load true 2 (.t 88)), (some (85, true))⟩, ⟨(some 90), .call 57 [(.t 87), (.t 89)], (some (85, true))⟩, ⟨(some 91), .v (.pick (.t 85) (.t 90) (.c (.bool false))), none⟩, ⟨(some 2), .v (.mov (.t 91)), none⟩])
        .ret)))))))⟩
theorem e20 : rFunc Tryz.prog Tryz.f20 = some r20 := by kernel_rfl
def r21 : RFunc := ⟨20, [.t 2],
 (.seq
  (.reg [⟨(some 2), .v (.mov (.c (.str []))), none⟩])
  (.seq
   (.seq
    (.reg [⟨(some 3), .v (.mov (.t 0)), none⟩, ⟨(some 4), .v (.bin .lss (.t 3) (.c (.int .i64 10))), none⟩])
    (.cond (.t 4)
     (.seq
      (.reg [⟨(some 5), .v (.mov (.t 0)), none⟩, ⟨(some 6), .v (.bin .add (.c (.int .i64 48)) (.t 5)), none⟩, ⟨(some 7), .v (.conv .u8 (.t 6)), none⟩, ⟨(some 8), .m (.bsl 1 1 [(.int .u8 0)] [(0, 1, (.t 7))]), none⟩, ⟨(some 9), .v (.cbs (.t 8)), none⟩, ⟨(some 2), .v (.mov (.t 9)), none⟩])
      .ret)
     .skip))
   (.seq
    (.dreg (.fl ⟨(some 10), .v (.mov (.t 0)), none⟩ (.fl ⟨(some 11), .v (.bin .quo (.t 10) (.c (.int .i64 10))), none⟩ (.fl ⟨(some 13), .v (.mov (.t 0)), none⟩ (.fl ⟨(some 14), .v (.bin .rem (.t 13) (.c (.int .i64 10))), none⟩ (.fl ⟨(some 15), .v (.bin .add (.c (.int .i64 48)) (.t 14)), none⟩ (.fl ⟨(some 16), .v (.conv .u8 (.t 15)), none⟩ (.both (.nx ⟨(some 12), .call 21 [(.t 11)], none⟩ (.nx ⟨(some 17), .m (.bsl 1 1 [(.int .u8 0)] [(0, 1, (.t 16))]), none⟩ (.fl ⟨(some 18), .v (.cbs (.t 17)), none⟩ (.fl ⟨(some 19), .v (.bin .add (.t 12) (.t 18)), none⟩ (.fl ⟨(some 2), .v (.mov (.t 19)), none⟩ .done))))) (.nx ⟨(some 17), .m (.bsl 1 1 [(.int .u8 0)] [(0, 1, (.t 16))]), none⟩ (.fl ⟨(some 18), .v (.cbs (.t 17)), none⟩ (.nx ⟨(some 12), .call 21 [(.t 11)], none⟩ (.fl ⟨(some 19), .v (.bin .add (.t 12) (.t 18)), none⟩ (.fl ⟨(some 2), .v (.mov (.t 19)), none⟩ .done)))))))))))))
    .ret)))⟩
theorem e21 : rFunc Tryz.prog Tryz.f21 = some r21 := by kernel_rfl
def r60 : RFunc := ⟨23, [.t 2],
 (.seq
  (.reg [⟨(some 2), .v (.mov (.c (.bool false))), none⟩])
  (.seq
   (.seq
    (.reg [⟨(some 3), .v (.mov (.c (.int .i64 0))), none⟩])
    (.block 0
     (.loop
      (.seq
       (.seq
        (.reg [⟨(some 4), .v (.mov (.t 3)), none⟩, ⟨(some 5), .v (.mov (.t 0)), none⟩, ⟨(some 6), .v (.lens (.t 5)), none⟩, ⟨(some 7), .v (.bin .lss (.t 4) (.t 6)), none⟩])
        (.cond (.t 7)
         .skip
         (.exit 0)))
       (.seq
        (.block 1
         (.seq
          (.reg [⟨(some 10), .v (.mov (.t 0)), none⟩, ⟨(some 11), .v (.mov (.t 3)), none⟩, ⟨(some 12), .v (.sidx (.t 10) (.t 11)), none⟩, ⟨(some 13), .v (.bin .lss (.t 12) (.c (.int .u8 32))), none⟩, ⟨(some 14), .v (.mov (.t 13)), none⟩, ⟨(some 15), .v (.mov (.t 0)), (some (14, false))⟩, ⟨(some 16), .v (.mov (.t 3)), (some (14, false))⟩, ⟨(some 17), .v (.sidx (.t 15) (.t 16)), (some (14, false))⟩, ⟨(some 18), .v (.bin .gtr (.t 17) (.c (.int .u8 125))), (some (14, false))⟩, ⟨(some 19), .v (.pick (.t 14) (.c (.bool true)) (.t 18)), none⟩])
          (.cond (.t 19)
           (.seq
            (.reg [⟨(some 2), .v (.mov (.c (.bool false))), none⟩])
            .ret)
           .skip)))
        (.reg [⟨(some 8), .v (.mov (.t 3)), none⟩, ⟨(some 9), .v (.bin .add (.t 8) (.c (.int .i64 1))), none⟩, ⟨(some 3), .v (.mov (.t 9)), none⟩]))))))
   (.seq
    (.reg [⟨(some 20), .v (.mov (.t 0)), none⟩, ⟨(some 21), .v (.lens (.t 20)), none⟩, ⟨(some 22), .v (.bin .leq (.t 21) (.c (.int .i64 6000))), none⟩, ⟨(some 2), .v (.mov (.t 22)), none⟩])
    .ret)))⟩
theorem e60 : rFunc Tryz.prog Tryz.f60 = some r60 := by kernel_rfl
def r61 : RFunc := ⟨26, [.t 2],
 (.seq
  (.reg [⟨(some 2), .v (.mov (.c (.str []))), none⟩])
  (.seq
   (.reg [⟨(some 3), .v (.mov (.c (.int .i64 0))), none⟩])
   (.seq
    (.seq
     (.reg [⟨(some 4), .v (.mov (.c (.int .i64 0))), none⟩])
     (.block 0
      (.loop
       (.seq
        (.seq
         (.reg [⟨(some 5), .v (.mov (.t 4)), none⟩, ⟨(some 6), .v (.mov (.t 0)), none⟩, ⟨(some 7), .v (.lens (.t 6)), none⟩, ⟨(some 8), .v (.bin .lss (.t 5) (.t 7)), none⟩])
         (.cond (.t 8)
          .skip
          (.exit 0)))
        (.seq
         (.block 1
          (.reg [⟨(some 11), .v (.mov (.t 3)), none⟩, ⟨(some 12), .v (.mov (.t 4)), none⟩, ⟨(some 13), .v (.bin .add (.t 12) (.c (.int .i64 1))), none⟩, ⟨(some 14), .v (.mov (.t 0)), none⟩, ⟨(some 15), .v (.mov (.t 4)), none⟩, ⟨(some 16), .v (.sidx (.t 14) (.t 15)), none⟩, ⟨(some 17), .v (.conv .i64 (.t 16)), none⟩, ⟨(some 18), .v (.bin .mul (.t 13) (.t 17)), none⟩, ⟨(some 19), .v (.bin .add (.t 11) (.t 18)), none⟩, ⟨(some 20), .v (.bin .rem (.t 19) (.c (.int .i64 65521))), none⟩, ⟨(some 3), .v (.mov (.t 20)), none⟩]))
         (.reg [⟨(some 9), .v (.mov (.t 4)), none⟩, ⟨(some 10), .v (.bin .add (.t 9) (.c (.int .i64 1))), none⟩, ⟨(some 4), .v (.mov (.t 10)), none⟩]))))))
    (.seq
     (.reg [⟨(some 21), .v (.mov (.t 0)), none⟩, ⟨(some 22), .v (.bin .add (.t 21) (.c (.str [126]))), none⟩, ⟨(some 23), .v (.mov (.t 3)), none⟩, ⟨(some 24), .call 21 [(.t 23)], none⟩, ⟨(some 25), .v (.bin .add (.t 22) (.t 24)), none⟩, ⟨(some 2), .v (.mov (.t 25)), none⟩])
     .ret))))⟩
theorem e61 : rFunc Tryz.prog Tryz.f61 = some r61 := by kernel_rfl
def r23 : RFunc := ⟨9, [.t 2, .t 3],
 (.seq
  (.reg [⟨(some 2), .v (.mov (.c (.str []))), none⟩, ⟨(some 3), .v (.mov (.c (.bool false))), none⟩])
  (.seq
   (.seq
    (.reg [⟨(some 4), .v (.mov (.t 0)), none⟩, ⟨(some 5), .call 60 [(.t 4)], none⟩, ⟨(some 6), .v (.un .not (.t 5)), none⟩])
    (.cond (.t 6)
     (.seq
      (.reg [⟨(some 2), .v (.mov (.c (.str []))), none⟩, ⟨(some 3), .v (.mov (.c (.bool false))), none⟩])
      .ret)
     .skip))
   (.seq
    (.reg [⟨(some 7), .v (.mov (.t 0)), none⟩, ⟨(some 8), .call 61 [(.t 7)], none⟩, ⟨(some 2), .v (.mov (.t 8)), none⟩, ⟨(some 3), .v (.mov (.c (.bool true))), none⟩])
    .ret)))⟩
theorem e23 : rFunc Tryz.prog Tryz.f23 = some r23 := by kernel_rfl
def r8 : RFunc := ⟨31, [.t 2, .t 3],
 (.seq
  (.reg [⟨(some 1), .m (.box (.t 0)), none⟩, ⟨(some 2), .v (.mov (.c (.str []))), none⟩, ⟨(some 3), .v (.mov (.c (.bool false))), none⟩])
  (.seq
   (.seq
    (.reg [⟨(some 7), .v (.load true 7 (.t 1)), none⟩, ⟨(some 8), .call 20 [(.t 7)], none⟩, ⟨(some 9), .v (.un .not (.t 8)), none⟩])
    (.cond (.t 9)
     (.seq
      (.reg [⟨(some 2), .v (.mov (.c (.str []))), none⟩, ⟨(some 3), .v (.mov (.c (.bool false))), none⟩])
      .ret)
     .skip))
   (.seq
    (.reg [⟨(some 10), .v (.faddr 1 (.t 1)), none⟩, ⟨(some 11), .v (.load false 1 (.t 10)), none⟩, ⟨(some 12), .call 21 [(.t 11)], none⟩, ⟨(some 13), .v (.bin .add (.c (.str [115, 112, 97, 114, 115, 101, 32])) (.t 12)), none⟩, ⟨(some 4), .v (.mov (.t 13)), none⟩])
    (.seq
     (.seq
      (.reg [⟨(some 14), .v (.load true 7 (.t 1)), none⟩, ⟨(some 15), .call 22 [(.t 14)], none⟩, ⟨(some 16), .v (.len (.t 15)), none⟩, ⟨(some 17), .v (.mov (.c (.int .i64 0))), none⟩])
      (.block 0
       (.loop
        (.seq
         (.reg [⟨(some 18), .v (.bin .lss (.t 17) (.t 16)), none⟩])
         (.seq
          (.cond (.t 18)
           .skip
           (.exit 0))
          (.seq
           (.block 1
            (.seq
             (.reg [⟨(some 19), .v (.iaddr 1 (.t 15) (.t 17)), none⟩, ⟨(some 20), .v (.load false 1 (.t 19)), none⟩, ⟨(some 6), .v (.mov (.t 20)), none⟩])
             (.reg [⟨(some 21), .v (.mov (.t 4)), none⟩, ⟨(some 22), .v (.mov (.t 6)), none⟩, ⟨(some 23), .call 21 [(.t 22)], none⟩, ⟨(some 24), .v (.bin .add (.c (.str [32])) (.t 23)), none⟩, ⟨(some 25), .v (.bin .add (.t 21) (.t 24)), none⟩, ⟨(some 4), .v (.mov (.t 25)), none⟩])))
           (.reg [⟨(some 26), .v (.bin .add (.t 17) (.c (.int .i64 1))), none⟩, ⟨(some 17), .v (.mov (.t 26)), none⟩])))))))
     (.seq
      (.reg [⟨(some 27), .v (.mov (.t 4)), none⟩, ⟨(some 28), .call 23 [(.t 27)], none⟩, ⟨(some 29), .v (.ext (.t 28) 0), none⟩, ⟨(some 30), .v (.ext (.t 28) 1), none⟩, ⟨(some 2), .v (.mov (.t 29)), none⟩, ⟨(some 3), .v (.mov (.t 30)), none⟩])
      .ret)))))⟩
theorem e8 : rFunc Tryz.prog Tryz.f8 = some r8 := by kernel_rfl
end Go.Proofs.YtbkcenkfecndjaaGreatDoor.M
