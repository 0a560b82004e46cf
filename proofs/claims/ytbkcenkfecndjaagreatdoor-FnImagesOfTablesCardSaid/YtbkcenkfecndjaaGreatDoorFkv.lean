/-
  The resolved text of the functions, each tied to the program's own by the kernel.
-/
import Derived.Test.YtbkcenkfecndjaaGreatDoorProg
import Derived.Test.YtbkcenkfecndjaaGreatDoorFku
import Derived.Test.YtbkcenkfecndjaaGreatDoorShelf
namespace Go.Proofs.YtbkcenkfecndjaaGreatDoor.M
open Go Go.RowKit
set_option maxRecDepth 100000

def r54 : RFunc := ⟨5, [.t 2],
 (.seq
  (.reg [⟨(some 2), .v (.mov (.c (.bool false))), none⟩])
  (.seq
   (.reg [⟨(some 3), .v (.mov (.t 0)), none⟩, ⟨(some 4), .call 53 [(.t 3), (.c (.int .i64 1)), (.c (.int .i64 100000))], none⟩, ⟨(some 2), .v (.mov (.t 4)), none⟩])
   .ret))⟩
theorem e54 : rFunc Tryz.prog Tryz.f54 = some r54 := by kernel_rfl
def r33 : RFunc := ⟨40, [.t 4],
 (.seq
  (.reg [⟨(some 4), .v (.mov (.c (.bool false))), none⟩])
  (.seq
   (.seq
    (.reg [⟨(some 7), .v (.mov (.t 0)), none⟩, ⟨(some 8), .v (.len (.t 7)), none⟩, ⟨(some 9), .v (.mov (.c (.int .i64 0))), none⟩])
    (.block 0
     (.loop
      (.seq
       (.reg [⟨(some 10), .v (.bin .lss (.t 9) (.t 8)), none⟩])
       (.seq
        (.cond (.t 10)
         .skip
         (.exit 0))
        (.seq
         (.block 1
          (.seq
           (.reg [⟨(some 11), .v (.mov (.t 9)), none⟩, ⟨(some 12), .v (.iaddr 1 (.t 7) (.t 9)), none⟩, ⟨(some 13), .v (.load false 1 (.t 12)), none⟩, ⟨(some 5), .v (.mov (.t 11)), none⟩, ⟨(some 6), .v (.mov (.t 13)), none⟩])
           (.seq
            (.reg [⟨(some 14), .v (.mov (.t 6)), none⟩, ⟨(some 15), .v (.mov (.t 1)), none⟩, ⟨(some 16), .v (.bin .sub (.t 15) (.c (.int .i64 1))), none⟩, ⟨(some 17), .call 53 [(.t 14), (.c (.int .i64 0)), (.t 16)], none⟩, ⟨(some 18), .v (.un .not (.t 17)), none⟩, ⟨(some 19), .v (.mov (.t 18)), none⟩, ⟨(some 20), .v (.mov (.t 5)), (some (19, false))⟩, ⟨(some 21), .v (.bin .gtr (.t 20) (.c (.int .i64 0))), (some (19, false))⟩, ⟨(some 22), .v (.mov (.t 21)), (some (19, false))⟩, ⟨(some 23), .v (.mov (.t 0)), (some (22, true))⟩, ⟨(some 24), .v (.mov (.t 5)), (some (22, true))⟩, ⟨(some 25), .v (.bin .sub (.t 24) (.c (.int .i64 1))), (some (22, true))⟩, ⟨(some 26), .v (.iaddr 1 (.t 23) (.t 25)), (some (22, true))⟩, ⟨(some 27), .v (.load false 1 (.t 26)), (some (22, true))⟩, ⟨(some 28), .v (.mov (.t 6)), (some (22, true))⟩, ⟨(some 29), .v (.bin .gtr (.t 27) (.t 28)), (some (22, true))⟩, ⟨(some 30), .v (.pick (.t 22) (.t 29) (.c (.bool false))), (some (19, false))⟩, ⟨(some 31), .v (.pick (.t 19) (.c (.bool true)) (.t 30)), none⟩])
            (.cond (.t 31)
             (.seq
              (.reg [⟨(some 4), .v (.mov (.c (.bool false))), none⟩])
              .ret)
             .skip))))
         (.reg [⟨(some 32), .v (.bin .add (.t 9) (.c (.int .i64 1))), none⟩, ⟨(some 9), .v (.mov (.t 32)), none⟩])))))))
   (.seq
    (.reg [⟨(some 33), .v (.mov (.t 0)), none⟩, ⟨(some 34), .v (.len (.t 33)), none⟩, ⟨(some 35), .v (.bin .leq (.t 34) (.c (.int .i64 60))), none⟩, ⟨(some 36), .v (.mov (.t 35)), none⟩, ⟨(some 37), .v (.mov (.t 1)), (some (36, true))⟩, ⟨(some 38), .call 54 [(.t 37)], (some (36, true))⟩, ⟨(some 39), .v (.pick (.t 36) (.t 38) (.c (.bool false))), none⟩, ⟨(some 4), .v (.mov (.t 39)), none⟩])
    .ret)))⟩
theorem e33 : rFunc Tryz.prog Tryz.f33 = some r33 := by kernel_rfl
def r55 : RFunc := ⟨16, [.t 4],
 (.seq
  (.reg [⟨(some 4), .v (.mov (.c (.int .i64 0))), none⟩])
  (.seq
   (.reg [⟨(some 5), .v (.mov (.c (.int .i64 0))), none⟩])
   (.seq
    (.block 0
     (.loop
      (.seq
       (.seq
        (.reg [⟨(some 6), .v (.mov (.t 0)), none⟩, ⟨(some 7), .call 72 [(.t 6), (.c (.int .i64 1))], none⟩, ⟨(some 8), .v (.mov (.t 5)), none⟩, ⟨(some 9), .v (.bin .add (.t 8) (.c (.int .i64 1))), none⟩, ⟨(some 10), .v (.bin .shl (.t 7) (.t 9)), none⟩, ⟨(some 11), .v (.mov (.t 1)), none⟩, ⟨(some 12), .v (.bin .leq (.t 10) (.t 11)), none⟩])
        (.cond (.t 12)
         .skip
         (.exit 0)))
       (.block 1
        (.reg [⟨(some 13), .v (.mov (.t 5)), none⟩, ⟨(some 14), .v (.bin .add (.t 13) (.c (.int .i64 1))), none⟩, ⟨(some 5), .v (.mov (.t 14)), none⟩])))))
    (.seq
     (.reg [⟨(some 15), .v (.mov (.t 5)), none⟩, ⟨(some 4), .v (.mov (.t 15)), none⟩])
     .ret))))⟩
theorem e55 : rFunc Tryz.prog Tryz.f55 = some r55 := by kernel_rfl
def r74 : RFunc := ⟨24, [],
 (.seq
  (.reg [⟨(some 8), .v (.mov (.c (.int .i64 0))), none⟩])
  (.block 0
   (.loop
    (.seq
     (.seq
      (.reg [⟨(some 9), .v (.mov (.t 8)), none⟩, ⟨(some 10), .v (.mov (.t 2)), none⟩, ⟨(some 11), .v (.bin .lss (.t 9) (.t 10)), none⟩])
      (.cond (.t 11)
       .skip
       (.exit 0)))
     (.seq
      (.block 1
       (.reg [⟨(some 14), .v (.mov (.t 0)), none⟩, ⟨(some 15), .v (.mov (.t 1)), none⟩, ⟨(some 16), .v (.mov (.t 8)), none⟩, ⟨(some 17), .v (.bin .add (.t 15) (.t 16)), none⟩, ⟨(some 18), .v (.mov (.t 3)), none⟩, ⟨(some 19), .v (.mov (.t 8)), none⟩, ⟨(some 20), .v (.bin .shr (.t 18) (.t 19)), none⟩, ⟨(some 21), .v (.bin .and (.t 20) (.c (.int .i64 1))), none⟩, ⟨(some 22), .v (.bin .eql (.t 21) (.c (.int .i64 1))), none⟩, ⟨(some 23), .v (.iaddr 1 (.t 14) (.t 17)), none⟩, ⟨none, .m (.store 1 (.t 23) (.t 22)), none⟩]))
      (.reg [⟨(some 12), .v (.mov (.t 8)), none⟩, ⟨(some 13), .v (.bin .add (.t 12) (.c (.int .i64 1))), none⟩, ⟨(some 8), .v (.mov (.t 13)), none⟩]))))))⟩
theorem e74 : rFunc Tryz.prog Tryz.f74 = some r74 := by kernel_rfl
def r76 : RFunc := ⟨9, [.cell true 2 2],
 (.seq
  (.reg [⟨(some 2), .m (.alloc [(.int .i64 0), .nils]), none⟩])
  (.seq
   (.reg [⟨(some 3), .v (.mov (.t 0)), none⟩, ⟨(some 4), .v (.mov (.t 0)), none⟩, ⟨(some 5), .v (.bin .add (.t 4) (.c (.int .i64 15))), none⟩, ⟨(some 6), .v (.bin .quo (.t 5) (.c (.int .i64 16))), none⟩, ⟨(some 7), .m (.mks 1 8 [(.int .i64 0)] (.t 6) (.t 6)), none⟩, ⟨(some 8), .v (.bld [(.int .i64 0), .nils] [(0, 1, (.t 3)), (1, 1, (.t 7))]), none⟩, ⟨none, .m (.store 2 (.t 2) (.t 8)), none⟩])
   .ret))⟩
theorem e76 : rFunc Tryz.prog Tryz.f76 = some r76 := by kernel_rfl
def r77 : RFunc := ⟨15, [],
 (.seq
  (.reg [⟨(some 2), .m (.box (.t 0)), none⟩])
  (.dreg (.fl ⟨(some 4), .v (.faddr 1 (.t 2)), none⟩ (.fl ⟨(some 6), .v (.mov (.t 1)), none⟩ (.fl ⟨(some 7), .v (.bin .quo (.t 6) (.c (.int .i64 16))), none⟩ (.fl ⟨(some 10), .v (.mov (.t 1)), none⟩ (.fl ⟨(some 11), .v (.bin .rem (.t 10) (.c (.int .i64 16))), none⟩ (.fl ⟨(some 12), .v (.bin .shl (.c (.int .i64 1)) (.t 11)), none⟩ (.nx ⟨(some 5), .v (.load false 1 (.t 4)), none⟩ (.fl ⟨(some 8), .v (.iaddr 1 (.t 5) (.t 7)), none⟩ (.nx ⟨(some 9), .v (.load false 1 (.t 8)), none⟩ (.fl ⟨(some 13), .v (.bin .or (.t 9) (.t 12)), none⟩ (.fl ⟨(some 14), .v (.iaddr 1 (.t 5) (.t 7)), none⟩ (.nx ⟨none, .m (.store 1 (.t 14) (.t 13)), none⟩ .done))))))))))))))⟩
theorem e77 : rFunc Tryz.prog Tryz.f77 = some r77 := by kernel_rfl
def r37 : RFunc := ⟨22, [.cell true 2 2],
 (.seq
  (.reg [⟨(some 2), .m (.alloc [(.int .i64 0), .nils]), none⟩])
  (.seq
   (.reg [⟨(some 6), .v (.mov (.t 0)), none⟩, ⟨(some 7), .v (.len (.t 6)), none⟩, ⟨(some 8), .call 76 [(.t 7)], none⟩, ⟨(some 3), .m (.alloc [(.int .i64 0), .nils]), none⟩, ⟨none, .m (.store 2 (.t 3) (.t 8)), none⟩])
   (.seq
    (.seq
     (.reg [⟨(some 9), .v (.mov (.t 0)), none⟩, ⟨(some 10), .v (.len (.t 9)), none⟩, ⟨(some 11), .v (.mov (.c (.int .i64 0))), none⟩])
     (.block 0
      (.loop
       (.seq
        (.reg [⟨(some 12), .v (.bin .lss (.t 11) (.t 10)), none⟩])
        (.seq
         (.cond (.t 12)
          .skip
          (.exit 0))
         (.seq
          (.block 1
           (.seq
            (.reg [⟨(some 13), .v (.mov (.t 11)), none⟩, ⟨(some 14), .v (.iaddr 1 (.t 9) (.t 11)), none⟩, ⟨(some 15), .v (.load false 1 (.t 14)), none⟩, ⟨(some 4), .v (.mov (.t 13)), none⟩, ⟨(some 5), .v (.mov (.t 15)), none⟩])
            (.seq
             (.reg [⟨(some 16), .v (.mov (.t 5)), none⟩])
             (.cond (.t 16)
              (.reg [⟨(some 17), .v (.load true 2 (.t 3)), none⟩, ⟨(some 18), .v (.mov (.t 4)), none⟩, ⟨(some 19), .call 77 [(.t 17), (.t 18)], none⟩])
              .skip))))
          (.reg [⟨(some 20), .v (.bin .add (.t 11) (.c (.int .i64 1))), none⟩, ⟨(some 11), .v (.mov (.t 20)), none⟩])))))))
    (.seq
     (.reg [⟨(some 21), .v (.load true 2 (.t 3)), none⟩, ⟨none, .m (.store 2 (.t 2) (.t 21)), none⟩])
     .ret))))⟩
theorem e37 : rFunc Tryz.prog Tryz.f37 = some r37 := by kernel_rfl
def r34 : RFunc := ⟨62, [.cell true 7 4],
 (.seq
  (.reg [⟨(some 4), .m (.alloc [(.int .i64 0), (.int .i64 0), (.int .i64 0), (.int .i64 0), .nils, (.int .i64 0), .nils]), none⟩])
  (.seq
   (.reg [⟨(some 10), .v (.mov (.t 0)), none⟩, ⟨(some 11), .v (.len (.t 10)), none⟩, ⟨(some 12), .v (.mov (.t 1)), none⟩, ⟨(some 13), .call 55 [(.t 11), (.t 12)], none⟩, ⟨(some 5), .v (.mov (.t 13)), none⟩])
   (.seq
    (.reg [⟨(some 14), .v (.mov (.t 0)), none⟩, ⟨(some 15), .v (.len (.t 14)), none⟩, ⟨(some 16), .v (.mov (.t 5)), none⟩, ⟨(some 17), .v (.bin .mul (.t 15) (.t 16)), none⟩, ⟨(some 18), .m (.mks 1 1 [(.bool false)] (.t 17) (.t 17)), none⟩, ⟨(some 6), .v (.mov (.t 18)), none⟩])
    (.seq
     (.reg [⟨(some 19), .v (.mov (.t 0)), none⟩, ⟨(some 20), .v (.len (.t 19)), none⟩, ⟨(some 21), .v (.mov (.t 1)), none⟩, ⟨(some 22), .v (.bin .sub (.t 21) (.c (.int .i64 1))), none⟩, ⟨(some 23), .v (.mov (.t 5)), none⟩, ⟨(some 24), .v (.bin .shr (.t 22) (.t 23)), none⟩, ⟨(some 25), .v (.bin .add (.t 20) (.t 24)), none⟩, ⟨(some 26), .v (.bin .add (.t 25) (.c (.int .i64 1))), none⟩, ⟨(some 27), .m (.mks 1 1 [(.bool false)] (.t 26) (.t 26)), none⟩, ⟨(some 7), .v (.mov (.t 27)), none⟩])
     (.seq
      (.seq
       (.reg [⟨(some 28), .v (.mov (.t 0)), none⟩, ⟨(some 29), .v (.len (.t 28)), none⟩, ⟨(some 30), .v (.mov (.c (.int .i64 0))), none⟩])
       (.block 0
        (.loop
         (.seq
          (.reg [⟨(some 31), .v (.bin .lss (.t 30) (.t 29)), none⟩])
          (.seq
           (.cond (.t 31)
            .skip
            (.exit 0))
           (.seq
            (.block 1
             (.seq
              (.reg [⟨(some 32), .v (.mov (.t 30)), none⟩, ⟨(some 33), .v (.iaddr 1 (.t 28) (.t 30)), none⟩, ⟨(some 34), .v (.load false 1 (.t 33)), none⟩, ⟨(some 8), .v (.mov (.t 32)), none⟩, ⟨(some 9), .v (.mov (.t 34)), none⟩])
              (.seq
               (.reg [⟨(some 35), .v (.mov (.t 6)), none⟩, ⟨(some 36), .v (.mov (.t 8)), none⟩, ⟨(some 37), .v (.mov (.t 5)), none⟩, ⟨(some 38), .v (.bin .mul (.t 36) (.t 37)), none⟩, ⟨(some 39), .v (.mov (.t 5)), none⟩, ⟨(some 40), .v (.mov (.t 9)), none⟩, ⟨(some 41), .v (.mov (.t 5)), none⟩, ⟨(some 42), .v (.bin .shl (.c (.int .i64 1)) (.t 41)), none⟩, ⟨(some 43), .v (.bin .rem (.t 40) (.t 42)), none⟩, ⟨(some 44), .call 74 [(.t 35), (.t 38), (.t 39), (.t 43)], none⟩])
               (.reg [⟨(some 45), .v (.mov (.t 7)), none⟩, ⟨(some 46), .v (.mov (.t 9)), none⟩, ⟨(some 47), .v (.mov (.t 5)), none⟩, ⟨(some 48), .v (.bin .shr (.t 46) (.t 47)), none⟩, ⟨(some 49), .v (.mov (.t 8)), none⟩, ⟨(some 50), .v (.bin .add (.t 48) (.t 49)), none⟩, ⟨(some 51), .v (.iaddr 1 (.t 45) (.t 50)), none⟩, ⟨none, .m (.store 1 (.t 51) (.c (.bool true))), none⟩]))))
            (.reg [⟨(some 52), .v (.bin .add (.t 30) (.c (.int .i64 1))), none⟩, ⟨(some 30), .v (.mov (.t 52)), none⟩])))))))
      (.seq
       (.reg [⟨(some 53), .v (.mov (.t 0)), none⟩, ⟨(some 54), .v (.len (.t 53)), none⟩, ⟨(some 55), .v (.mov (.t 1)), none⟩, ⟨(some 56), .v (.mov (.t 5)), none⟩, ⟨(some 57), .v (.mov (.t 6)), none⟩, ⟨(some 58), .call 37 [(.t 57)], none⟩, ⟨(some 59), .v (.mov (.t 7)), none⟩, ⟨(some 60), .call 37 [(.t 59)], none⟩, ⟨(some 61), .v (.bld [(.int .i64 0), (.int .i64 0), (.int .i64 0), (.int .i64 0), .nils, (.int .i64 0), .nils] [(0, 1, (.t 54)), (1, 1, (.t 55)), (2, 1, (.t 56)), (3, 2, (.t 58)), (5, 2, (.t 60))]), none⟩, ⟨none, .m (.store 7 (.t 4) (.t 61)), none⟩])
       .ret))))))⟩
theorem e34 : rFunc Tryz.prog Tryz.f34 = some r34 := by kernel_rfl
def r58 : RFunc := ⟨16, [.t 4],
 (.seq
  (.reg [⟨(some 2), .m (.box (.t 0)), none⟩, ⟨(some 4), .v (.mov (.c (.bool false))), none⟩])
  (.seq
   (.reg [⟨(some 5), .v (.faddr 1 (.t 2)), none⟩, ⟨(some 6), .v (.load false 1 (.t 5)), none⟩, ⟨(some 7), .v (.mov (.t 1)), none⟩, ⟨(some 8), .v (.bin .quo (.t 7) (.c (.int .i64 16))), none⟩, ⟨(some 9), .v (.iaddr 1 (.t 6) (.t 8)), none⟩, ⟨(some 10), .v (.load false 1 (.t 9)), none⟩, ⟨(some 11), .v (.mov (.t 1)), none⟩, ⟨(some 12), .v (.bin .rem (.t 11) (.c (.int .i64 16))), none⟩, ⟨(some 13), .v (.bin .shr (.t 10) (.t 12)), none⟩, ⟨(some 14), .v (.bin .and (.t 13) (.c (.int .i64 1))), none⟩, ⟨(some 15), .v (.bin .eql (.t 14) (.c (.int .i64 1))), none⟩, ⟨(some 4), .v (.mov (.t 15)), none⟩])
   .ret))⟩
theorem e58 : rFunc Tryz.prog Tryz.f58 = some r58 := by kernel_rfl
def r36 : RFunc := ⟨18, [.t 2],
 (.seq
  (.reg [⟨(some 1), .m (.box (.t 0)), none⟩, ⟨(some 2), .v (.mov (.c .nils)), none⟩])
  (.seq
   (.reg [⟨(some 3), .v (.mov (.c .nils)), none⟩])
   (.seq
    (.seq
     (.reg [⟨(some 4), .v (.mov (.c (.int .i64 0))), none⟩])
     (.block 0
      (.loop
       (.seq
        (.seq
         (.reg [⟨(some 5), .v (.mov (.t 4)), none⟩, ⟨(some 6), .v (.faddr 0 (.t 1)), none⟩, ⟨(some 7), .v (.load false 1 (.t 6)), none⟩, ⟨(some 8), .v (.bin .lss (.t 5) (.t 7)), none⟩])
         (.cond (.t 8)
          .skip
          (.exit 0)))
        (.seq
         (.block 1
          (.reg [⟨(some 11), .v (.mov (.t 3)), none⟩, ⟨(some 12), .v (.load true 2 (.t 1)), none⟩, ⟨(some 13), .v (.mov (.t 4)), none⟩, ⟨(some 14), .call 58 [(.t 12), (.t 13)], none⟩, ⟨(some 15), .m (.bsl 1 1 [(.bool false)] [(0, 1, (.t 14))]), none⟩, ⟨(some 16), .m (.app false 1 1 (.t 11) (.t 15)), none⟩, ⟨(some 3), .v (.mov (.t 16)), none⟩]))
         (.reg [⟨(some 9), .v (.mov (.t 4)), none⟩, ⟨(some 10), .v (.bin .add (.t 9) (.c (.int .i64 1))), none⟩, ⟨(some 4), .v (.mov (.t 10)), none⟩]))))))
    (.seq
     (.reg [⟨(some 17), .v (.mov (.t 3)), none⟩, ⟨(some 2), .v (.mov (.t 17)), none⟩])
     .ret))))⟩
theorem e36 : rFunc Tryz.prog Tryz.f36 = some r36 := by kernel_rfl
def r78 : RFunc := ⟨22, [.cell true 2 4],
 (.seq
  (.reg [⟨(some 4), .m (.alloc [(.int .i64 0), .nils]), none⟩])
  (.seq
   (.reg [⟨(some 5), .v (.mov (.c .nils)), none⟩])
   (.seq
    (.seq
     (.reg [⟨(some 7), .v (.mov (.t 0)), none⟩, ⟨(some 8), .v (.mov (.t 1)), none⟩, ⟨(some 9), .v (.bin .add (.t 8) (.c (.int .i64 1))), none⟩, ⟨(some 10), .call 35 [(.t 7), (.t 9)], none⟩, ⟨(some 6), .v (.mov (.t 10)), none⟩])
     (.block 0
      (.loop
       (.seq
        (.seq
         (.reg [⟨(some 11), .v (.mov (.t 6)), none⟩, ⟨(some 12), .v (.bin .gtr (.t 11) (.c (.int .i64 0))), none⟩])
         (.cond (.t 12)
          .skip
          (.exit 0)))
        (.seq
         (.block 1
          (.reg [⟨(some 15), .v (.mov (.t 5)), none⟩, ⟨(some 16), .v (.mov (.t 0)), none⟩, ⟨(some 17), .call 41 [(.t 16), (.c (.int .i64 2))], none⟩, ⟨(some 18), .m (.bsl 1 1 [(.bool false)] [(0, 1, (.t 17))]), none⟩, ⟨(some 19), .m (.app false 1 1 (.t 15) (.t 18)), none⟩, ⟨(some 5), .v (.mov (.t 19)), none⟩]))
         (.reg [⟨(some 13), .v (.mov (.t 6)), none⟩, ⟨(some 14), .v (.bin .sub (.t 13) (.c (.int .i64 1))), none⟩, ⟨(some 6), .v (.mov (.t 14)), none⟩]))))))
    (.seq
     (.reg [⟨(some 20), .v (.mov (.t 5)), none⟩, ⟨(some 21), .call 37 [(.t 20)], none⟩, ⟨none, .m (.store 2 (.t 4) (.t 21)), none⟩])
     .ret))))⟩
theorem e78 : rFunc Tryz.prog Tryz.f78 = some r78 := by kernel_rfl
def r38 : RFunc := ⟨56, [.cell true 2 2],
 (.seq
  (.reg [⟨(some 2), .m (.alloc [(.int .i64 0), .nils]), none⟩])
  (.seq
   (.reg [⟨(some 4), .v (.mov (.t 0)), none⟩, ⟨(some 5), .call 78 [(.t 4), (.c (.int .i64 40))], none⟩, ⟨(some 3), .m (.alloc [(.int .i64 0), .nils]), none⟩, ⟨none, .m (.store 2 (.t 3) (.t 5)), none⟩])
   (.seq
    (.seq
     (.reg [⟨(some 6), .v (.mov (.t 0)), none⟩, ⟨(some 7), .call 35 [(.t 6), (.c (.int .i64 16))], none⟩])
     (.block 0
      (.seq
       (.reg [⟨(some 9), .v (.bin .eql (.t 7) (.c (.int .i64 0))), none⟩, ⟨(some 8), .v (.mov (.t 9)), none⟩])
       (.cond (.t 8)
        (.dreg (.fl ⟨(some 10), .v (.faddr 1 (.t 3)), none⟩ (.fl ⟨(some 12), .v (.mov (.t 0)), none⟩ (.both (.nx ⟨(some 11), .v (.load false 1 (.t 10)), none⟩ (.nx ⟨(some 13), .call 35 [(.t 12), (.c (.int .i64 2))], none⟩ (.nx ⟨(some 14), .m (.bsl 1 1 [(.int .i64 0)] [(0, 1, (.t 13))]), none⟩ (.nx ⟨(some 15), .m (.app false 1 8 (.t 11) (.t 14)), none⟩ (.fl ⟨(some 16), .v (.faddr 1 (.t 3)), none⟩ (.nx ⟨none, .m (.store 1 (.t 16) (.t 15)), none⟩ .done)))))) (.nx ⟨(some 13), .call 35 [(.t 12), (.c (.int .i64 2))], none⟩ (.both (.nx ⟨(some 11), .v (.load false 1 (.t 10)), none⟩ (.nx ⟨(some 14), .m (.bsl 1 1 [(.int .i64 0)] [(0, 1, (.t 13))]), none⟩ (.nx ⟨(some 15), .m (.app false 1 8 (.t 11) (.t 14)), none⟩ (.fl ⟨(some 16), .v (.faddr 1 (.t 3)), none⟩ (.nx ⟨none, .m (.store 1 (.t 16) (.t 15)), none⟩ .done))))) (.nx ⟨(some 14), .m (.bsl 1 1 [(.int .i64 0)] [(0, 1, (.t 13))]), none⟩ (.nx ⟨(some 11), .v (.load false 1 (.t 10)), none⟩ (.nx ⟨(some 15), .m (.app false 1 8 (.t 11) (.t 14)), none⟩ (.fl ⟨(some 16), .v (.faddr 1 (.t 3)), none⟩ (.nx ⟨none, .m (.store 1 (.t 16) (.t 15)), none⟩ .done)))))))))))
        (.seq
         (.reg [⟨(some 18), .v (.bin .eql (.t 7) (.c (.int .i64 1))), none⟩, ⟨(some 17), .v (.mov (.t 18)), none⟩])
         (.cond (.t 17)
          (.dreg (.fl ⟨(some 19), .v (.faddr 0 (.t 3)), none⟩ (.fl ⟨(some 21), .v (.mov (.t 0)), none⟩ (.both (.nx ⟨(some 20), .v (.load false 1 (.t 19)), none⟩ (.nx ⟨(some 22), .call 35 [(.t 21), (.c (.int .i64 3))], none⟩ (.fl ⟨(some 23), .v (.bin .sub (.t 22) (.c (.int .i64 1))), none⟩ (.fl ⟨(some 24), .v (.bin .add (.t 20) (.t 23)), none⟩ (.fl ⟨(some 25), .v (.faddr 0 (.t 3)), none⟩ (.nx ⟨none, .m (.store 1 (.t 25) (.t 24)), none⟩ .done)))))) (.nx ⟨(some 22), .call 35 [(.t 21), (.c (.int .i64 3))], none⟩ (.fl ⟨(some 23), .v (.bin .sub (.t 22) (.c (.int .i64 1))), none⟩ (.nx ⟨(some 20), .v (.load false 1 (.t 19)), none⟩ (.fl ⟨(some 24), .v (.bin .add (.t 20) (.t 23)), none⟩ (.fl ⟨(some 25), .v (.faddr 0 (.t 3)), none⟩ (.nx ⟨none, .m (.store 1 (.t 25) (.t 24)), none⟩ .done))))))))))
          (.seq
           (.reg [⟨(some 27), .v (.bin .eql (.t 7) (.c (.int .i64 2))), none⟩, ⟨(some 26), .v (.mov (.t 27)), none⟩])
           (.cond (.t 26)
            (.seq
             (.reg [⟨(some 28), .v (.faddr 1 (.t 3)), none⟩, ⟨(some 29), .v (.load false 1 (.t 28)), none⟩, ⟨(some 30), .v (.len (.t 29)), none⟩, ⟨(some 31), .v (.bin .gtr (.t 30) (.c (.int .i64 0))), none⟩])
             (.cond (.t 31)
              (.dreg (.fl ⟨(some 32), .v (.faddr 1 (.t 3)), none⟩ (.fl ⟨(some 34), .v (.mov (.t 0)), none⟩ (.fl ⟨(some 35), .v (.faddr 1 (.t 3)), none⟩ (.fl ⟨(some 39), .v (.mov (.t 0)), none⟩ (.both (.nx ⟨(some 33), .v (.load false 1 (.t 32)), none⟩ (.both (.nx ⟨(some 36), .v (.load false 1 (.t 35)), none⟩ (.fl ⟨(some 37), .v (.len (.t 36)), none⟩ (.both (.nx ⟨(some 38), .call 35 [(.t 34), (.t 37)], none⟩ (.nx ⟨(some 40), .m (.bsl 1 4 [(.int .i64 0)] [(0, 1, (.c (.int .i64 (-1)))), (1, 1, (.c (.int .i64 65535))), (2, 1, (.c (.int .i64 65536))), (3, 1, (.c (.int .i64 40000)))]), none⟩ (.nx ⟨(some 41), .call 71 [(.t 39), (.t 40)], none⟩ (.fl ⟨(some 42), .v (.iaddr 1 (.t 33) (.t 38)), none⟩ (.nx ⟨none, .m (.store 1 (.t 42) (.t 41)), none⟩ .done))))) (.nx ⟨(some 40), .m (.bsl 1 4 [(.int .i64 0)] [(0, 1, (.c (.int .i64 (-1)))), (1, 1, (.c (.int .i64 65535))), (2, 1, (.c (.int .i64 65536))), (3, 1, (.c (.int .i64 40000)))]), none⟩ (.nx ⟨(some 38), .call 35 [(.t 34), (.t 37)], none⟩ (.nx ⟨(some 41), .call 71 [(.t 39), (.t 40)], none⟩ (.fl ⟨(some 42), .v (.iaddr 1 (.t 33) (.t 38)), none⟩ (.nx ⟨none, .m (.store 1 (.t 42) (.t 41)), none⟩ .done)))))))) (.nx ⟨(some 40), .m (.bsl 1 4 [(.int .i64 0)] [(0, 1, (.c (.int .i64 (-1)))), (1, 1, (.c (.int .i64 65535))), (2, 1, (.c (.int .i64 65536))), (3, 1, (.c (.int .i64 40000)))]), none⟩ (.nx ⟨(some 36), .v (.load false 1 (.t 35)), none⟩ (.fl ⟨(some 37), .v (.len (.t 36)), none⟩ (.nx ⟨(some 38), .call 35 [(.t 34), (.t 37)], none⟩ (.nx ⟨(some 41), .call 71 [(.t 39), (.t 40)], none⟩ (.fl ⟨(some 42), .v (.iaddr 1 (.t 33) (.t 38)), none⟩ (.nx ⟨none, .m (.store 1 (.t 42) (.t 41)), none⟩ .done))))))))) (.both (.nx ⟨(some 36), .v (.load false 1 (.t 35)), none⟩ (.fl ⟨(some 37), .v (.len (.t 36)), none⟩ (.both (.nx ⟨(some 33), .v (.load false 1 (.t 32)), none⟩ (.both (.nx ⟨(some 38), .call 35 [(.t 34), (.t 37)], none⟩ (.nx ⟨(some 40), .m (.bsl 1 4 [(.int .i64 0)] [(0, 1, (.c (.int .i64 (-1)))), (1, 1, (.c (.int .i64 65535))), (2, 1, (.c (.int .i64 65536))), (3, 1, (.c (.int .i64 40000)))]), none⟩ (.nx ⟨(some 41), .call 71 [(.t 39), (.t 40)], none⟩ (.fl ⟨(some 42), .v (.iaddr 1 (.t 33) (.t 38)), none⟩ (.nx ⟨none, .m (.store 1 (.t 42) (.t 41)), none⟩ .done))))) (.nx ⟨(some 40), .m (.bsl 1 4 [(.int .i64 0)] [(0, 1, (.c (.int .i64 (-1)))), (1, 1, (.c (.int .i64 65535))), (2, 1, (.c (.int .i64 65536))), (3, 1, (.c (.int .i64 40000)))]), none⟩ (.nx ⟨(some 38), .call 35 [(.t 34), (.t 37)], none⟩ (.nx ⟨(some 41), .call 71 [(.t 39), (.t 40)], none⟩ (.fl ⟨(some 42), .v (.iaddr 1 (.t 33) (.t 38)), none⟩ (.nx ⟨none, .m (.store 1 (.t 42) (.t 41)), none⟩ .done))))))) (.both (.nx ⟨(some 38), .call 35 [(.t 34), (.t 37)], none⟩ (.both (.nx ⟨(some 33), .v (.load false 1 (.t 32)), none⟩ (.nx ⟨(some 40), .m (.bsl 1 4 [(.int .i64 0)] [(0, 1, (.c (.int .i64 (-1)))), (1, 1, (.c (.int .i64 65535))), (2, 1, (.c (.int .i64 65536))), (3, 1, (.c (.int .i64 40000)))]), none⟩ (.nx ⟨(some 41), .call 71 [(.t 39), (.t 40)], none⟩ (.fl ⟨(some 42), .v (.iaddr 1 (.t 33) (.t 38)), none⟩ (.nx ⟨none, .m (.store 1 (.t 42) (.t 41)), none⟩ .done))))) (.nx ⟨(some 40), .m (.bsl 1 4 [(.int .i64 0)] [(0, 1, (.c (.int .i64 (-1)))), (1, 1, (.c (.int .i64 65535))), (2, 1, (.c (.int .i64 65536))), (3, 1, (.c (.int .i64 40000)))]), none⟩ (.both (.nx ⟨(some 33), .v (.load false 1 (.t 32)), none⟩ (.nx ⟨(some 41), .call 71 [(.t 39), (.t 40)], none⟩ (.fl ⟨(some 42), .v (.iaddr 1 (.t 33) (.t 38)), none⟩ (.nx ⟨none, .m (.store 1 (.t 42) (.t 41)), none⟩ .done)))) (.nx ⟨(some 41), .call 71 [(.t 39), (.t 40)], none⟩ (.nx ⟨(some 33), .v (.load false 1 (.t 32)), none⟩ (.fl ⟨(some 42), .v (.iaddr 1 (.t 33) (.t 38)), none⟩ (.nx ⟨none, .m (.store 1 (.t 42) (.t 41)), none⟩ .done)))))))) (.nx ⟨(some 40), .m (.bsl 1 4 [(.int .i64 0)] [(0, 1, (.c (.int .i64 (-1)))), (1, 1, (.c (.int .i64 65535))), (2, 1, (.c (.int .i64 65536))), (3, 1, (.c (.int .i64 40000)))]), none⟩ (.both (.nx ⟨(some 33), .v (.load false 1 (.t 32)), none⟩ (.nx ⟨(some 38), .call 35 [(.t 34), (.t 37)], none⟩ (.nx ⟨(some 41), .call 71 [(.t 39), (.t 40)], none⟩ (.fl ⟨(some 42), .v (.iaddr 1 (.t 33) (.t 38)), none⟩ (.nx ⟨none, .m (.store 1 (.t 42) (.t 41)), none⟩ .done))))) (.nx ⟨(some 38), .call 35 [(.t 34), (.t 37)], none⟩ (.both (.nx ⟨(some 33), .v (.load false 1 (.t 32)), none⟩ (.nx ⟨(some 41), .call 71 [(.t 39), (.t 40)], none⟩ (.fl ⟨(some 42), .v (.iaddr 1 (.t 33) (.t 38)), none⟩ (.nx ⟨none, .m (.store 1 (.t 42) (.t 41)), none⟩ .done)))) (.nx ⟨(some 41), .call 71 [(.t 39), (.t 40)], none⟩ (.nx ⟨(some 33), .v (.load false 1 (.t 32)), none⟩ (.fl ⟨(some 42), .v (.iaddr 1 (.t 33) (.t 38)), none⟩ (.nx ⟨none, .m (.store 1 (.t 42) (.t 41)), none⟩ .done)))))))))))) (.nx ⟨(some 40), .m (.bsl 1 4 [(.int .i64 0)] [(0, 1, (.c (.int .i64 (-1)))), (1, 1, (.c (.int .i64 65535))), (2, 1, (.c (.int .i64 65536))), (3, 1, (.c (.int .i64 40000)))]), none⟩ (.both (.nx ⟨(some 33), .v (.load false 1 (.t 32)), none⟩ (.nx ⟨(some 36), .v (.load false 1 (.t 35)), none⟩ (.fl ⟨(some 37), .v (.len (.t 36)), none⟩ (.nx ⟨(some 38), .call 35 [(.t 34), (.t 37)], none⟩ (.nx ⟨(some 41), .call 71 [(.t 39), (.t 40)], none⟩ (.fl ⟨(some 42), .v (.iaddr 1 (.t 33) (.t 38)), none⟩ (.nx ⟨none, .m (.store 1 (.t 42) (.t 41)), none⟩ .done))))))) (.nx ⟨(some 36), .v (.load false 1 (.t 35)), none⟩ (.fl ⟨(some 37), .v (.len (.t 36)), none⟩ (.both (.nx ⟨(some 33), .v (.load false 1 (.t 32)), none⟩ (.nx ⟨(some 38), .call 35 [(.t 34), (.t 37)], none⟩ (.nx ⟨(some 41), .call 71 [(.t 39), (.t 40)], none⟩ (.fl ⟨(some 42), .v (.iaddr 1 (.t 33) (.t 38)), none⟩ (.nx ⟨none, .m (.store 1 (.t 42) (.t 41)), none⟩ .done))))) (.nx ⟨(some 38), .call 35 [(.t 34), (.t 37)], none⟩ (.both (.nx ⟨(some 33), .v (.load false 1 (.t 32)), none⟩ (.nx ⟨(some 41), .call 71 [(.t 39), (.t 40)], none⟩ (.fl ⟨(some 42), .v (.iaddr 1 (.t 33) (.t 38)), none⟩ (.nx ⟨none, .m (.store 1 (.t 42) (.t 41)), none⟩ .done)))) (.nx ⟨(some 41), .call 71 [(.t 39), (.t 40)], none⟩ (.nx ⟨(some 33), .v (.load false 1 (.t 32)), none⟩ (.fl ⟨(some 42), .v (.iaddr 1 (.t 33) (.t 38)), none⟩ (.nx ⟨none, .m (.store 1 (.t 42) (.t 41)), none⟩ .done))))))))))))))))))
              .skip))
            (.seq
             (.reg [⟨(some 44), .v (.bin .eql (.t 7) (.c (.int .i64 3))), none⟩, ⟨(some 43), .v (.mov (.t 44)), none⟩])
             (.cond (.t 43)
              (.reg [⟨(some 45), .v (.mov (.t 0)), none⟩, ⟨(some 46), .call 35 [(.t 45), (.c (.int .i64 2))], none⟩, ⟨(some 47), .v (.bin .sub (.c (.int .i64 4096)) (.t 46)), none⟩, ⟨(some 48), .call 76 [(.t 47)], none⟩, ⟨none, .m (.store 2 (.t 3) (.t 48)), none⟩])
              (.seq
               (.reg [⟨(some 50), .v (.bin .eql (.t 7) (.c (.int .i64 4))), none⟩, ⟨(some 49), .v (.mov (.t 50)), none⟩])
               (.cond (.t 49)
                (.reg [⟨(some 51), .v (.mov (.t 0)), none⟩, ⟨(some 52), .call 35 [(.t 51), (.c (.int .i64 5))], none⟩, ⟨(some 53), .v (.bin .mul (.c (.int .i64 16)) (.t 52)), none⟩, ⟨(some 54), .call 76 [(.t 53)], none⟩, ⟨none, .m (.store 2 (.t 3) (.t 54)), none⟩])
                .skip))))))))))))
    (.seq
     (.reg [⟨(some 55), .v (.load true 2 (.t 3)), none⟩, ⟨none, .m (.store 2 (.t 2) (.t 55)), none⟩])
     .ret))))⟩
theorem e38 : rFunc Tryz.prog Tryz.f38 = some r38 := by kernel_rfl
def r15 : RFunc := ⟨75, [.cell true 7 2],
 (.seq
  (.reg [⟨(some 2), .m (.alloc [(.int .i64 0), (.int .i64 0), (.int .i64 0), (.int .i64 0), .nils, (.int .i64 0), .nils]), none⟩])
  (.seq
   (.reg [⟨(some 8), .v (.mov (.t 0)), none⟩, ⟨(some 9), .call 31 [(.t 8)], none⟩, ⟨(some 3), .v (.mov (.t 9)), none⟩])
   (.seq
    (.reg [⟨(some 10), .v (.mov (.t 0)), none⟩, ⟨(some 11), .v (.mov (.t 3)), none⟩, ⟨(some 12), .call 32 [(.t 10), (.t 11)], none⟩, ⟨(some 4), .v (.mov (.t 12)), none⟩])
    (.seq
     (.seq
      (.reg [⟨(some 13), .v (.mov (.t 4)), none⟩, ⟨(some 14), .v (.mov (.t 3)), none⟩, ⟨(some 15), .call 33 [(.t 13), (.t 14)], none⟩, ⟨(some 16), .v (.un .not (.t 15)), none⟩])
      (.cond (.t 16)
       (.seq
        (.reg [⟨(some 4), .v (.mov (.c .nils)), none⟩])
        (.reg [⟨(some 3), .v (.mov (.c (.int .i64 20))), none⟩]))
       .skip))
     (.seq
      (.reg [⟨(some 17), .v (.mov (.t 4)), none⟩, ⟨(some 18), .v (.mov (.t 3)), none⟩, ⟨(some 19), .call 34 [(.t 17), (.t 18)], none⟩, ⟨(some 5), .m (.alloc [(.int .i64 0), (.int .i64 0), (.int .i64 0), (.int .i64 0), .nils, (.int .i64 0), .nils]), none⟩, ⟨none, .m (.store 7 (.t 5) (.t 19)), none⟩])
      (.seq
       (.seq
        (.reg [⟨(some 20), .v (.mov (.t 0)), none⟩, ⟨(some 21), .call 35 [(.t 20), (.c (.int .i64 14))], none⟩])
        (.block 0
         (.seq
          (.reg [⟨(some 23), .v (.bin .eql (.t 21) (.c (.int .i64 0))), none⟩, ⟨(some 22), .v (.mov (.t 23)), none⟩])
          (.cond (.t 22)
           (.dreg (.fl ⟨(some 24), .v (.faddr 2 (.t 5)), none⟩ (.fl ⟨(some 26), .v (.mov (.t 0)), none⟩ (.both (.nx ⟨(some 25), .v (.load false 1 (.t 24)), none⟩ (.nx ⟨(some 27), .call 35 [(.t 26), (.c (.int .i64 3))], none⟩ (.fl ⟨(some 28), .v (.bin .sub (.t 27) (.c (.int .i64 1))), none⟩ (.fl ⟨(some 29), .v (.bin .add (.t 25) (.t 28)), none⟩ (.fl ⟨(some 30), .v (.faddr 2 (.t 5)), none⟩ (.nx ⟨none, .m (.store 1 (.t 30) (.t 29)), none⟩ .done)))))) (.nx ⟨(some 27), .call 35 [(.t 26), (.c (.int .i64 3))], none⟩ (.fl ⟨(some 28), .v (.bin .sub (.t 27) (.c (.int .i64 1))), none⟩ (.nx ⟨(some 25), .v (.load false 1 (.t 24)), none⟩ (.fl ⟨(some 29), .v (.bin .add (.t 25) (.t 28)), none⟩ (.fl ⟨(some 30), .v (.faddr 2 (.t 5)), none⟩ (.nx ⟨none, .m (.store 1 (.t 30) (.t 29)), none⟩ .done))))))))))
           (.seq
            (.reg [⟨(some 32), .v (.bin .eql (.t 21) (.c (.int .i64 1))), none⟩, ⟨(some 31), .v (.mov (.t 32)), none⟩])
            (.cond (.t 31)
             (.dreg (.fl ⟨(some 33), .v (.faddr 0 (.t 5)), none⟩ (.fl ⟨(some 35), .v (.mov (.t 0)), none⟩ (.both (.nx ⟨(some 34), .v (.load false 1 (.t 33)), none⟩ (.nx ⟨(some 36), .call 35 [(.t 35), (.c (.int .i64 3))], none⟩ (.fl ⟨(some 37), .v (.bin .sub (.t 36) (.c (.int .i64 1))), none⟩ (.fl ⟨(some 38), .v (.bin .add (.t 34) (.t 37)), none⟩ (.fl ⟨(some 39), .v (.faddr 0 (.t 5)), none⟩ (.nx ⟨none, .m (.store 1 (.t 39) (.t 38)), none⟩ .done)))))) (.nx ⟨(some 36), .call 35 [(.t 35), (.c (.int .i64 3))], none⟩ (.fl ⟨(some 37), .v (.bin .sub (.t 36) (.c (.int .i64 1))), none⟩ (.nx ⟨(some 34), .v (.load false 1 (.t 33)), none⟩ (.fl ⟨(some 38), .v (.bin .add (.t 34) (.t 37)), none⟩ (.fl ⟨(some 39), .v (.faddr 0 (.t 5)), none⟩ (.nx ⟨none, .m (.store 1 (.t 39) (.t 38)), none⟩ .done))))))))))
             (.seq
              (.reg [⟨(some 41), .v (.bin .eql (.t 21) (.c (.int .i64 2))), none⟩, ⟨(some 40), .v (.mov (.t 41)), none⟩])
              (.cond (.t 40)
               (.dreg (.fl ⟨(some 42), .v (.faddr 1 (.t 5)), none⟩ (.fl ⟨(some 44), .v (.mov (.t 0)), none⟩ (.both (.nx ⟨(some 43), .v (.load false 1 (.t 42)), none⟩ (.nx ⟨(some 45), .call 35 [(.t 44), (.c (.int .i64 3))], none⟩ (.fl ⟨(some 46), .v (.bin .sub (.t 45) (.c (.int .i64 1))), none⟩ (.fl ⟨(some 47), .v (.bin .add (.t 43) (.t 46)), none⟩ (.fl ⟨(some 48), .v (.faddr 1 (.t 5)), none⟩ (.nx ⟨none, .m (.store 1 (.t 48) (.t 47)), none⟩ .done)))))) (.nx ⟨(some 45), .call 35 [(.t 44), (.c (.int .i64 3))], none⟩ (.fl ⟨(some 46), .v (.bin .sub (.t 45) (.c (.int .i64 1))), none⟩ (.nx ⟨(some 43), .v (.load false 1 (.t 42)), none⟩ (.fl ⟨(some 47), .v (.bin .add (.t 43) (.t 46)), none⟩ (.fl ⟨(some 48), .v (.faddr 1 (.t 5)), none⟩ (.nx ⟨none, .m (.store 1 (.t 48) (.t 47)), none⟩ .done))))))))))
               (.seq
                (.reg [⟨(some 50), .v (.bin .eql (.t 21) (.c (.int .i64 3))), none⟩, ⟨(some 49), .v (.mov (.t 50)), none⟩])
                (.cond (.t 49)
                 (.seq
                  (.reg [⟨(some 51), .v (.faddr 5 (.t 5)), none⟩, ⟨(some 52), .v (.load true 2 (.t 51)), none⟩, ⟨(some 53), .call 36 [(.t 52)], none⟩, ⟨(some 6), .v (.mov (.t 53)), none⟩])
                  (.seq
                   (.reg [⟨(some 54), .v (.mov (.t 0)), none⟩, ⟨(some 55), .v (.mov (.t 6)), none⟩, ⟨(some 56), .v (.len (.t 55)), none⟩, ⟨(some 57), .call 35 [(.t 54), (.t 56)], none⟩, ⟨(some 7), .v (.mov (.t 57)), none⟩])
                   (.seq
                    (.reg [⟨(some 58), .v (.mov (.t 6)), none⟩, ⟨(some 59), .v (.mov (.t 7)), none⟩, ⟨(some 60), .v (.mov (.t 6)), none⟩, ⟨(some 61), .v (.mov (.t 7)), none⟩, ⟨(some 62), .v (.iaddr 1 (.t 60) (.t 61)), none⟩, ⟨(some 63), .v (.load false 1 (.t 62)), none⟩, ⟨(some 64), .v (.un .not (.t 63)), none⟩, ⟨(some 65), .v (.iaddr 1 (.t 58) (.t 59)), none⟩, ⟨none, .m (.store 1 (.t 65) (.t 64)), none⟩])
                    (.reg [⟨(some 66), .v (.mov (.t 6)), none⟩, ⟨(some 67), .call 37 [(.t 66)], none⟩, ⟨(some 68), .v (.faddr 5 (.t 5)), none⟩, ⟨none, .m (.store 2 (.t 68) (.t 67)), none⟩]))))
                 (.seq
                  (.reg [⟨(some 70), .v (.bin .eql (.t 21) (.c (.int .i64 4))), none⟩, ⟨(some 69), .v (.mov (.t 70)), none⟩])
                  (.cond (.t 69)
                   (.reg [⟨(some 71), .v (.mov (.t 0)), none⟩, ⟨(some 72), .call 38 [(.t 71)], none⟩, ⟨(some 73), .v (.faddr 3 (.t 5)), none⟩, ⟨none, .m (.store 2 (.t 73) (.t 72)), none⟩])
                   .skip))))))))))))
       (.seq
        (.reg [⟨(some 74), .v (.load true 7 (.t 5)), none⟩, ⟨none, .m (.store 7 (.t 2) (.t 74)), none⟩])
        .ret)))))))⟩
theorem e15 : rFunc Tryz.prog Tryz.f15 = some r15 := by kernel_rfl
def r5 : RFunc := ⟨9, [.cell true 7 2],
 (.seq
  (.reg [⟨(some 2), .m (.alloc [(.int .i64 0), (.int .i64 0), (.int .i64 0), (.int .i64 0), .nils, (.int .i64 0), .nils]), none⟩])
  (.seq
   (.reg [⟨(some 4), .v (.mov (.t 0)), none⟩, ⟨(some 5), .v (.bld [.nils, (.int .i64 0), (.int .u64 0)] [(0, 1, (.t 4))]), none⟩, ⟨(some 6), .m (.box (.t 5)), none⟩, ⟨(some 3), .v (.mov (.t 6)), none⟩])
   (.seq
    (.reg [⟨(some 7), .v (.mov (.t 3)), none⟩, ⟨(some 8), .call 15 [(.t 7)], none⟩, ⟨none, .m (.store 7 (.t 2) (.t 8)), none⟩])
    .ret)))⟩
theorem e5 : rFunc Tryz.prog Tryz.f5 = some r5 := by kernel_rfl
end Go.Proofs.YtbkcenkfecndjaaGreatDoor.M
