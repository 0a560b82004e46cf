/-
  The resolved text of the functions, each tied to the program's own by the kernel.
-/
import Derived.Test.YtoappkfndnggnaaDoorProg
import Derived.Test.YtoappkfndnggnaaDoorFb
namespace Go.Proofs.YtoappkfndnggnaaDoor.M
open Go Go.RowKit
set_option maxRecDepth 100000

def r14 : RFunc := ⟨9, [.cell true 2 2],
 (.seq
  (.reg [⟨(some 2), .m (.alloc [(.int .i64 0), .nils]), none⟩])
  (.seq
   (.reg [⟨(some 4), .v (.mov (.t 0)), none⟩, ⟨(some 5), .v (.bld [.nils, (.int .i64 0), (.int .u64 0)] [(0, 1, (.t 4))]), none⟩, ⟨(some 6), .m (.box (.t 5)), none⟩, ⟨(some 3), .v (.mov (.t 6)), none⟩])
   (.seq
    (.reg [⟨(some 7), .v (.mov (.t 3)), none⟩, ⟨(some 8), .call 41 [(.t 7)], none⟩, ⟨none, .m (.store 2 (.t 2) (.t 8)), none⟩])
    .ret)))⟩
theorem e14 : rFunc Tryd.prog Tryd.f14 = some r14 := by kernel_rfl
def r43 : RFunc := ⟨12, [.t 4, .t 5],
 (.seq
  (.reg [⟨(some 4), .v (.mov (.c (.str []))), none⟩, ⟨(some 5), .v (.mov (.c (.bool false))), none⟩])
  (.seq
   (.seq
    (.reg [⟨(some 6), .v (.mov (.t 1)), none⟩, ⟨(some 7), .v (.un .not (.t 6)), none⟩])
    (.cond (.t 7)
     (.seq
      (.reg [⟨(some 4), .v (.mov (.c (.str []))), none⟩, ⟨(some 5), .v (.mov (.c (.bool false))), none⟩])
      .ret)
     .skip))
   (.seq
    (.reg [⟨(some 8), .v (.mov (.t 0)), none⟩, ⟨(some 9), .call 49 [(.t 8)], none⟩, ⟨(some 10), .v (.ext (.t 9) 0), none⟩, ⟨(some 11), .v (.ext (.t 9) 1), none⟩, ⟨(some 4), .v (.mov (.t 10)), none⟩, ⟨(some 5), .v (.mov (.t 11)), none⟩])
    .ret)))⟩
theorem e43 : rFunc Tryd.prog Tryd.f43 = some r43 := by kernel_rfl
def r15 : RFunc := ⟨17, [.t 2, .t 3],
 (.seq
  (.reg [⟨(some 1), .m (.box (.t 0)), none⟩, ⟨(some 2), .v (.mov (.c (.str []))), none⟩, ⟨(some 3), .v (.mov (.c (.bool false))), none⟩])
  (.seq
   (.reg [⟨(some 7), .v (.load true 2 (.t 1)), none⟩, ⟨(some 8), .call 42 [(.t 7)], none⟩, ⟨(some 6), .v (.mov (.t 8)), none⟩, ⟨(some 9), .v (.ext (.t 6) 0), none⟩, ⟨(some 10), .v (.ext (.t 6) 1), none⟩, ⟨(some 4), .v (.mov (.t 9)), none⟩, ⟨(some 5), .v (.mov (.t 10)), none⟩])
   (.seq
    (.reg [⟨(some 11), .v (.mov (.t 4)), none⟩, ⟨(some 12), .v (.bin .add (.c (.str [98, 105, 116, 115, 32])) (.t 11)), none⟩, ⟨(some 13), .v (.mov (.t 5)), none⟩, ⟨(some 14), .call 43 [(.t 12), (.t 13)], none⟩, ⟨(some 15), .v (.ext (.t 14) 0), none⟩, ⟨(some 16), .v (.ext (.t 14) 1), none⟩, ⟨(some 2), .v (.mov (.t 15)), none⟩, ⟨(some 3), .v (.mov (.t 16)), none⟩])
    .ret)))⟩
theorem e15 : rFunc Tryd.prog Tryd.f15 = some r15 := by kernel_rfl
def r80 : RFunc := ⟨21, [.t 6],
 (.seq
  (.reg [⟨(some 6), .v (.mov (.c (.bool false))), none⟩])
  (.seq
   (.seq
    (.reg [⟨(some 9), .v (.mov (.t 0)), none⟩, ⟨(some 10), .v (.len (.t 9)), none⟩, ⟨(some 11), .v (.mov (.c (.int .i64 0))), none⟩])
    (.block 0
     (.loop
      (.seq
       (.reg [⟨(some 12), .v (.bin .lss (.t 11) (.t 10)), none⟩])
       (.seq
        (.cond (.t 12)
         .skip
         (.exit 0))
        (.seq
         (.block 1
          (.seq
           (.reg [⟨(some 13), .v (.iaddr 1 (.t 9) (.t 11)), none⟩, ⟨(some 14), .v (.load false 1 (.t 13)), none⟩, ⟨(some 8), .v (.mov (.t 14)), none⟩])
           (.seq
            (.reg [⟨(some 15), .v (.mov (.t 8)), none⟩, ⟨(some 16), .v (.mov (.t 1)), none⟩, ⟨(some 17), .v (.mov (.t 2)), none⟩, ⟨(some 18), .call 67 [(.t 15), (.t 16), (.t 17)], none⟩, ⟨(some 19), .v (.un .not (.t 18)), none⟩])
            (.cond (.t 19)
             (.seq
              (.reg [⟨(some 6), .v (.mov (.c (.bool false))), none⟩])
              .ret)
             .skip))))
         (.reg [⟨(some 20), .v (.bin .add (.t 11) (.c (.int .i64 1))), none⟩, ⟨(some 11), .v (.mov (.t 20)), none⟩])))))))
   (.seq
    (.reg [⟨(some 6), .v (.mov (.c (.bool true))), none⟩])
    .ret)))⟩
theorem e80 : rFunc Tryd.prog Tryd.f80 = some r80 := by kernel_rfl
def r44 : RFunc := ⟨42, [.t 2],
 (.seq
  (.reg [⟨(some 1), .m (.box (.t 0)), none⟩, ⟨(some 2), .v (.mov (.c (.bool false))), none⟩])
  (.seq
   (.seq
    (.reg [⟨(some 3), .v (.faddr 0 (.t 1)), none⟩, ⟨(some 4), .v (.load false 1 (.t 3)), none⟩, ⟨(some 5), .call 67 [(.t 4), (.c (.int .i64 0)), (.c (.int .i64 4096))], none⟩, ⟨(some 6), .v (.un .not (.t 5)), none⟩, ⟨(some 7), .v (.mov (.t 6)), none⟩, ⟨(some 8), .v (.faddr 1 (.t 1)), (some (7, false))⟩, ⟨(some 9), .v (.load false 1 (.t 8)), (some (7, false))⟩, ⟨(some 10), .v (.len (.t 9)), (some (7, false))⟩, ⟨(some 11), .v (.faddr 0 (.t 1)), (some (7, false))⟩, ⟨(some 12), .v (.load false 1 (.t 11)), (some (7, false))⟩, ⟨(some 13), .v (.bin .add (.t 12) (.c (.int .i64 15))), (some (7, false))⟩, ⟨(some 14), .v (.bin .quo (.t 13) (.c (.int .i64 16))), (some (7, false))⟩, ⟨(some 15), .v (.bin .neq (.t 10) (.t 14)), (some (7, false))⟩, ⟨(some 16), .v (.pick (.t 7) (.c (.bool true)) (.t 15)), none⟩, ⟨(some 17), .v (.mov (.t 16)), none⟩, ⟨(some 18), .v (.faddr 1 (.t 1)), (some (17, false))⟩, ⟨(some 19), .v (.load false 1 (.t 18)), (some (17, false))⟩, ⟨(some 20), .call 80 [(.t 19), (.c (.int .i64 0)), (.c (.int .i64 65535))], (some (17, false))⟩, ⟨(some 21), .v (.un .not (.t 20)), (some (17, false))⟩, ⟨(some 22), .v (.pick (.t 17) (.c (.bool true)) (.t 21)), none⟩])
    (.cond (.t 22)
     (.seq
      (.reg [⟨(some 2), .v (.mov (.c (.bool false))), none⟩])
      .ret)
     .skip))
   (.seq
    (.dreg (.fl ⟨(some 23), .v (.faddr 0 (.t 1)), none⟩ (.fl ⟨(some 24), .v (.load false 1 (.t 23)), none⟩ (.fl ⟨(some 25), .v (.bin .rem (.t 24) (.c (.int .i64 16))), none⟩ (.fl ⟨(some 26), .v (.bin .eql (.t 25) (.c (.int .i64 0))), none⟩ (.fl ⟨(some 27), .v (.mov (.t 26)), none⟩ (.fl ⟨(some 28), .v (.faddr 1 (.t 1)), (some (27, false))⟩ (.fl ⟨(some 29), .v (.load false 1 (.t 28)), (some (27, false))⟩ (.fl ⟨(some 30), .v (.faddr 1 (.t 1)), (some (27, false))⟩ (.fl ⟨(some 31), .v (.load false 1 (.t 30)), (some (27, false))⟩ (.fl ⟨(some 32), .v (.len (.t 31)), (some (27, false))⟩ (.fl ⟨(some 33), .v (.bin .sub (.t 32) (.c (.int .i64 1))), (some (27, false))⟩ (.fl ⟨(some 34), .v (.iaddr 1 (.t 29) (.t 33)), (some (27, false))⟩ (.fl ⟨(some 35), .v (.load false 1 (.t 34)), (some (27, false))⟩ (.fl ⟨(some 36), .v (.faddr 0 (.t 1)), (some (27, false))⟩ (.fl ⟨(some 37), .v (.load false 1 (.t 36)), (some (27, false))⟩ (.fl ⟨(some 38), .v (.bin .rem (.t 37) (.c (.int .i64 16))), (some (27, false))⟩ (.fl ⟨(some 39), .v (.bin .shr (.t 35) (.t 38)), (some (27, false))⟩ (.fl ⟨(some 40), .v (.bin .eql (.t 39) (.c (.int .i64 0))), (some (27, false))⟩ (.fl ⟨(some 41), .v (.pick (.t 27) (.c (.bool true)) (.t 40)), none⟩ (.fl ⟨(some 2), .v (.mov (.t 41)), none⟩ .done)))))))))))))))))))))
    .ret)))⟩
theorem e44 : rFunc Tryd.prog Tryd.f44 = some r44 := by kernel_rfl
def r45 : RFunc := ⟨9, [.t 2, .t 3],
 (.seq
  (.reg [⟨(some 2), .v (.mov (.c (.str []))), none⟩, ⟨(some 3), .v (.mov (.c (.bool false))), none⟩])
  (.seq
   (.seq
    (.reg [⟨(some 4), .v (.mov (.t 0)), none⟩, ⟨(some 5), .call 65 [(.t 4)], none⟩, ⟨(some 6), .v (.un .not (.t 5)), none⟩])
    (.cond (.t 6)
     (.seq
      (.reg [⟨(some 2), .v (.mov (.c (.str []))), none⟩, ⟨(some 3), .v (.mov (.c (.bool false))), none⟩])
      .ret)
     .skip))
   (.seq
    (.reg [⟨(some 7), .v (.mov (.t 0)), none⟩, ⟨(some 8), .call 66 [(.t 7)], none⟩, ⟨(some 2), .v (.mov (.t 8)), none⟩, ⟨(some 3), .v (.mov (.c (.bool true))), none⟩])
    .ret)))⟩
theorem e45 : rFunc Tryd.prog Tryd.f45 = some r45 := by kernel_rfl
def r16 : RFunc := ⟨13, [.t 2, .t 3],
 (.seq
  (.reg [⟨(some 1), .m (.box (.t 0)), none⟩, ⟨(some 2), .v (.mov (.c (.str []))), none⟩, ⟨(some 3), .v (.mov (.c (.bool false))), none⟩])
  (.seq
   (.seq
    (.reg [⟨(some 4), .v (.load true 2 (.t 1)), none⟩, ⟨(some 5), .call 44 [(.t 4)], none⟩, ⟨(some 6), .v (.un .not (.t 5)), none⟩])
    (.cond (.t 6)
     (.seq
      (.reg [⟨(some 2), .v (.mov (.c (.str []))), none⟩, ⟨(some 3), .v (.mov (.c (.bool false))), none⟩])
      .ret)
     .skip))
   (.seq
    (.reg [⟨(some 7), .v (.load true 2 (.t 1)), none⟩, ⟨(some 8), .call 46 [(.t 7)], none⟩, ⟨(some 9), .v (.bin .add (.c (.str [98, 105, 116, 115, 32])) (.t 8)), none⟩, ⟨(some 10), .call 45 [(.t 9)], none⟩, ⟨(some 11), .v (.ext (.t 10) 0), none⟩, ⟨(some 12), .v (.ext (.t 10) 1), none⟩, ⟨(some 2), .v (.mov (.t 11)), none⟩, ⟨(some 3), .v (.mov (.t 12)), none⟩])
    .ret)))⟩
theorem e16 : rFunc Tryd.prog Tryd.f16 = some r16 := by kernel_rfl
def r4 : RFunc := ⟨110, [.t 4],
 (.seq
  (.reg [⟨(some 4), .v (.mov (.c (.bool false))), none⟩])
  (.seq
   (.seq
    (.reg [⟨(some 18), .v (.mov (.t 0)), none⟩, ⟨(some 19), .v (.mov (.t 1)), none⟩, ⟨(some 20), .call 13 [(.t 18), (.t 19)], none⟩])
    (.cond (.t 20)
     (.seq
      (.reg [⟨(some 4), .v (.mov (.c (.bool true))), none⟩])
      .ret)
     .skip))
   (.seq
    (.reg [⟨(some 21), .v (.mov (.t 0)), none⟩, ⟨(some 22), .call 14 [(.t 21)], none⟩, ⟨(some 5), .m (.alloc [(.int .i64 0), .nils]), none⟩, ⟨none, .m (.store 2 (.t 5) (.t 22)), none⟩])
    (.seq
     (.reg [⟨(some 24), .v (.load true 2 (.t 5)), none⟩, ⟨(some 25), .call 15 [(.t 24)], none⟩, ⟨(some 23), .v (.mov (.t 25)), none⟩, ⟨(some 26), .v (.ext (.t 23) 0), none⟩, ⟨(some 27), .v (.ext (.t 23) 1), none⟩, ⟨(some 6), .v (.mov (.t 26)), none⟩, ⟨(some 7), .v (.mov (.t 27)), none⟩])
     (.seq
      (.reg [⟨(some 29), .v (.load true 2 (.t 5)), none⟩, ⟨(some 30), .call 16 [(.t 29)], none⟩, ⟨(some 28), .v (.mov (.t 30)), none⟩, ⟨(some 31), .v (.ext (.t 28) 0), none⟩, ⟨(some 32), .v (.ext (.t 28) 1), none⟩, ⟨(some 8), .v (.mov (.t 31)), none⟩, ⟨(some 9), .v (.mov (.t 32)), none⟩])
      (.seq
       (.seq
        (.reg [⟨(some 33), .v (.mov (.t 7)), none⟩, ⟨(some 34), .v (.mov (.t 9)), none⟩, ⟨(some 35), .v (.beq true (.t 33) (.t 34)), none⟩, ⟨(some 36), .v (.mov (.t 35)), none⟩, ⟨(some 37), .v (.mov (.t 6)), (some (36, false))⟩, ⟨(some 38), .v (.mov (.t 8)), (some (36, false))⟩, ⟨(some 39), .v (.bin .neq (.t 37) (.t 38)), (some (36, false))⟩, ⟨(some 40), .v (.pick (.t 36) (.c (.bool true)) (.t 39)), none⟩])
        (.cond (.t 40)
         (.seq
          (.reg [⟨(some 4), .v (.mov (.c (.bool false))), none⟩])
          .ret)
         .skip))
       (.seq
        (.seq
         (.reg [⟨(some 41), .v (.mov (.t 9)), none⟩, ⟨(some 42), .v (.un .not (.t 41)), none⟩])
         (.cond (.t 42)
          (.seq
           (.reg [⟨(some 4), .v (.mov (.c (.bool true))), none⟩])
           .ret)
          .skip))
        (.seq
         (.reg [⟨(some 44), .v (.mov (.t 6)), none⟩, ⟨(some 45), .call 9 [(.t 44)], none⟩, ⟨(some 43), .v (.mov (.t 45)), none⟩, ⟨(some 46), .v (.ext (.t 43) 0), none⟩, ⟨(some 47), .v (.ext (.t 43) 1), none⟩, ⟨(some 10), .m (.alloc [(.int .i64 0), .nils]), none⟩, ⟨none, .m (.store 2 (.t 10) (.t 46)), none⟩, ⟨(some 11), .v (.mov (.t 47)), none⟩])
         (.seq
          (.seq
           (.reg [⟨(some 48), .v (.mov (.t 11)), none⟩, ⟨(some 49), .v (.un .not (.t 48)), none⟩, ⟨(some 50), .v (.mov (.t 49)), none⟩, ⟨(some 51), .v (.load true 2 (.t 10)), (some (50, false))⟩, ⟨(some 52), .v (.load true 2 (.t 5)), (some (50, false))⟩, ⟨(some 53), .call 17 [(.t 51), (.t 52)], (some (50, false))⟩, ⟨(some 54), .v (.un .not (.t 53)), (some (50, false))⟩, ⟨(some 55), .v (.pick (.t 50) (.c (.bool true)) (.t 54)), none⟩])
           (.cond (.t 55)
            (.seq
             (.reg [⟨(some 4), .v (.mov (.c (.bool false))), none⟩])
             .ret)
            .skip))
          (.seq
           (.reg [⟨(some 56), .v (.mov (.t 1)), none⟩, ⟨(some 57), .v (.len (.t 56)), none⟩, ⟨(some 58), .v (.mov (.t 6)), none⟩, ⟨(some 59), .v (.lens (.t 58)), none⟩, ⟨(some 60), .v (.bin .rem (.t 57) (.t 59)), none⟩, ⟨(some 12), .v (.mov (.t 60)), none⟩])
           (.seq
            (.reg [⟨(some 13), .v (.mov (.c (.int .u8 33))), none⟩])
            (.seq
             (.seq
              (.reg [⟨(some 61), .v (.mov (.t 1)), none⟩, ⟨(some 62), .v (.len (.t 61)), none⟩, ⟨(some 63), .v (.bin .gtr (.t 62) (.c (.int .i64 0))), none⟩])
              (.cond (.t 63)
               (.reg [⟨(some 64), .v (.mov (.t 1)), none⟩, ⟨(some 65), .v (.iaddr 1 (.t 64) (.c (.int .i64 0))), none⟩, ⟨(some 66), .v (.load false 1 (.t 65)), none⟩, ⟨(some 13), .v (.mov (.t 66)), none⟩])
               .skip))
             (.seq
              (.seq
               (.reg [⟨(some 67), .v (.mov (.t 13)), none⟩, ⟨(some 68), .v (.mov (.t 6)), none⟩, ⟨(some 69), .v (.mov (.t 12)), none⟩, ⟨(some 70), .v (.sidx (.t 68) (.t 69)), none⟩, ⟨(some 71), .v (.bin .eql (.t 67) (.t 70)), none⟩])
               (.cond (.t 71)
                (.seq
                 (.reg [⟨(some 4), .v (.mov (.c (.bool true))), none⟩])
                 .ret)
                .skip))
              (.seq
               (.dreg (.fl ⟨(some 73), .v (.mov (.t 6)), none⟩ (.fl ⟨(some 74), .v (.mov (.t 12)), none⟩ (.fl ⟨(some 75), .v (.sstr (.t 73) none (some (.t 74))), none⟩ (.fl ⟨(some 76), .v (.mov (.t 13)), none⟩ (.fl ⟨(some 80), .v (.mov (.t 6)), none⟩ (.fl ⟨(some 81), .v (.mov (.t 12)), none⟩ (.fl ⟨(some 82), .v (.bin .add (.t 81) (.c (.int .i64 1))), none⟩ (.fl ⟨(some 83), .v (.sstr (.t 80) (some (.t 82)) none), none⟩ (.both (.nx ⟨(some 77), .m (.bsl 1 1 [(.int .u8 0)] [(0, 1, (.t 76))]), none⟩ (.fl ⟨(some 78), .v (.cbs (.t 77)), none⟩ (.fl ⟨(some 79), .v (.bin .add (.t 75) (.t 78)), none⟩ (.fl ⟨(some 84), .v (.bin .add (.t 79) (.t 83)), none⟩ (.both (.nx ⟨(some 85), .call 9 [(.t 84)], none⟩ (.fl ⟨(some 72), .v (.mov (.t 85)), none⟩ (.fl ⟨(some 86), .v (.ext (.t 72) 0), none⟩ (.fl ⟨(some 87), .v (.ext (.t 72) 1), none⟩ (.nx ⟨(some 14), .m (.alloc [(.int .i64 0), .nils]), none⟩ (.nx ⟨none, .m (.store 2 (.t 14) (.t 86)), none⟩ (.fl ⟨(some 15), .v (.mov (.t 87)), none⟩ .done))))))) (.nx ⟨(some 14), .m (.alloc [(.int .i64 0), .nils]), none⟩ (.nx ⟨(some 85), .call 9 [(.t 84)], none⟩ (.fl ⟨(some 72), .v (.mov (.t 85)), none⟩ (.fl ⟨(some 86), .v (.ext (.t 72) 0), none⟩ (.fl ⟨(some 87), .v (.ext (.t 72) 1), none⟩ (.nx ⟨none, .m (.store 2 (.t 14) (.t 86)), none⟩ (.fl ⟨(some 15), .v (.mov (.t 87)), none⟩ .done)))))))))))) (.nx ⟨(some 14), .m (.alloc [(.int .i64 0), .nils]), none⟩ (.nx ⟨(some 77), .m (.bsl 1 1 [(.int .u8 0)] [(0, 1, (.t 76))]), none⟩ (.fl ⟨(some 78), .v (.cbs (.t 77)), none⟩ (.fl ⟨(some 79), .v (.bin .add (.t 75) (.t 78)), none⟩ (.fl ⟨(some 84), .v (.bin .add (.t 79) (.t 83)), none⟩ (.nx ⟨(some 85), .call 9 [(.t 84)], none⟩ (.fl ⟨(some 72), .v (.mov (.t 85)), none⟩ (.fl ⟨(some 86), .v (.ext (.t 72) 0), none⟩ (.fl ⟨(some 87), .v (.ext (.t 72) 1), none⟩ (.nx ⟨none, .m (.store 2 (.t 14) (.t 86)), none⟩ (.fl ⟨(some 15), .v (.mov (.t 87)), none⟩ .done)))))))))))))))))))))
               (.seq
                (.dreg (.fl ⟨(some 89), .v (.mov (.t 6)), none⟩ (.fl ⟨(some 90), .v (.mov (.t 12)), none⟩ (.fl ⟨(some 91), .v (.sstr (.t 89) none (some (.t 90))), none⟩ (.fl ⟨(some 92), .v (.mov (.t 13)), none⟩ (.fl ⟨(some 96), .v (.mov (.t 6)), none⟩ (.fl ⟨(some 97), .v (.mov (.t 12)), none⟩ (.fl ⟨(some 98), .v (.bin .add (.t 97) (.c (.int .i64 1))), none⟩ (.fl ⟨(some 99), .v (.sstr (.t 96) (some (.t 98)) none), none⟩ (.nx ⟨(some 93), .m (.bsl 1 1 [(.int .u8 0)] [(0, 1, (.t 92))]), none⟩ (.fl ⟨(some 94), .v (.cbs (.t 93)), none⟩ (.fl ⟨(some 95), .v (.bin .add (.t 91) (.t 94)), none⟩ (.fl ⟨(some 100), .v (.bin .add (.t 95) (.t 99)), none⟩ (.nx ⟨(some 101), .call 18 [(.t 100)], none⟩ (.fl ⟨(some 88), .v (.mov (.t 101)), none⟩ (.fl ⟨(some 102), .v (.ext (.t 88) 0), none⟩ (.fl ⟨(some 103), .v (.ext (.t 88) 1), none⟩ (.fl ⟨(some 16), .v (.mov (.t 102)), none⟩ (.fl ⟨(some 17), .v (.mov (.t 103)), none⟩ .done)))))))))))))))))))
                (.seq
                 (.reg [⟨(some 104), .v (.mov (.t 15)), none⟩, ⟨(some 105), .v (.un .not (.t 104)), none⟩, ⟨(some 106), .v (.mov (.t 105)), none⟩, ⟨(some 107), .v (.mov (.t 17)), (some (106, true))⟩, ⟨(some 108), .v (.un .not (.t 107)), (some (106, true))⟩, ⟨(some 109), .v (.pick (.t 106) (.t 108) (.c (.bool false))), none⟩, ⟨(some 4), .v (.mov (.t 109)), none⟩])
                 .ret))))))))))))))))⟩
theorem e4 : rFunc Tryd.prog Tryd.f4 = some r4 := by kernel_rfl
end Go.Proofs.YtoappkfndnggnaaDoor.M
