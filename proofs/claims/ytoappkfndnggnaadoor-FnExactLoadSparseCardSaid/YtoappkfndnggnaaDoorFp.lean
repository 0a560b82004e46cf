/-
  The resolved text of the functions, each tied to the program's own by the kernel.
-/
import Derived.Test.YtoappkfndnggnaaDoorProg
import Derived.Test.YtoappkfndnggnaaDoorFb
namespace Go.Proofs.YtoappkfndnggnaaDoor.M
open Go Go.RowKit
set_option maxRecDepth 100000

def r50 : RFunc := ⟨34, [.t 4],
 (.seq
  (.reg [⟨(some 4), .v (.mov (.c .nils)), none⟩])
  (.seq
   (.reg [⟨(some 5), .v (.mov (.c .nils)), none⟩])
   (.seq
    (.reg [⟨(some 6), .v (.mov (.c (.int .i64 0))), none⟩])
    (.seq
     (.seq
      (.reg [⟨(some 7), .v (.mov (.c (.int .i64 0))), none⟩])
      (.block 0
       (.loop
        (.seq
         (.seq
          (.reg [⟨(some 8), .v (.mov (.t 7)), none⟩, ⟨(some 9), .v (.mov (.t 0)), none⟩, ⟨(some 10), .v (.lens (.t 9)), none⟩, ⟨(some 11), .v (.bin .lss (.t 8) (.t 10)), none⟩])
          (.cond (.t 11)
           .skip
           (.exit 0)))
         (.seq
          (.block 1
           (.seq
            (.reg [⟨(some 14), .v (.mov (.t 0)), none⟩, ⟨(some 15), .v (.mov (.t 7)), none⟩, ⟨(some 16), .v (.sidx (.t 14) (.t 15)), none⟩, ⟨(some 17), .v (.mov (.t 1)), none⟩, ⟨(some 18), .v (.bin .eql (.t 16) (.t 17)), none⟩])
            (.cond (.t 18)
             (.seq
              (.reg [⟨(some 19), .v (.mov (.t 5)), none⟩, ⟨(some 20), .v (.mov (.t 0)), none⟩, ⟨(some 21), .v (.mov (.t 6)), none⟩, ⟨(some 22), .v (.mov (.t 7)), none⟩, ⟨(some 23), .v (.sstr (.t 20) (some (.t 21)) (some (.t 22))), none⟩, ⟨(some 24), .m (.bsl 1 1 [(.str [])] [(0, 1, (.t 23))]), none⟩, ⟨(some 25), .m (.app false 1 16 (.t 19) (.t 24)), none⟩, ⟨(some 5), .v (.mov (.t 25)), none⟩])
              (.reg [⟨(some 26), .v (.mov (.t 7)), none⟩, ⟨(some 27), .v (.bin .add (.t 26) (.c (.int .i64 1))), none⟩, ⟨(some 6), .v (.mov (.t 27)), none⟩]))
             .skip)))
          (.reg [⟨(some 12), .v (.mov (.t 7)), none⟩, ⟨(some 13), .v (.bin .add (.t 12) (.c (.int .i64 1))), none⟩, ⟨(some 7), .v (.mov (.t 13)), none⟩]))))))
     (.seq
      (.reg [⟨(some 28), .v (.mov (.t 5)), none⟩, ⟨(some 29), .v (.mov (.t 0)), none⟩, ⟨(some 30), .v (.mov (.t 6)), none⟩, ⟨(some 31), .v (.sstr (.t 29) (some (.t 30)) none), none⟩, ⟨(some 32), .m (.bsl 1 1 [(.str [])] [(0, 1, (.t 31))]), none⟩, ⟨(some 33), .m (.app false 1 16 (.t 28) (.t 32)), none⟩, ⟨(some 4), .v (.mov (.t 33)), none⟩])
      .ret)))))⟩
theorem e50 : rFunc Tryd.prog Tryd.f50 = some r50 := by kernel_rfl
def r51 : RFunc := ⟨44, [.t 2],
 (.seq
  (.reg [⟨(some 2), .v (.mov (.c (.int .i64 0))), none⟩])
  (.seq
   (.seq
    (.reg [⟨(some 5), .v (.mov (.t 0)), none⟩, ⟨(some 6), .v (.lens (.t 5)), none⟩, ⟨(some 7), .call 67 [(.t 6), (.c (.int .i64 1)), (.c (.int .i64 6))], none⟩, ⟨(some 8), .v (.un .not (.t 7)), none⟩, ⟨(some 9), .v (.mov (.t 8)), none⟩, ⟨(some 10), .v (.mov (.t 0)), (some (9, false))⟩, ⟨(some 11), .v (.sidx (.t 10) (.c (.int .i64 0))), (some (9, false))⟩, ⟨(some 12), .v (.bin .eql (.t 11) (.c (.int .u8 48))), (some (9, false))⟩, ⟨(some 13), .v (.mov (.t 12)), (some (9, false))⟩, ⟨(some 14), .v (.mov (.t 0)), (some (13, true))⟩, ⟨(some 15), .v (.lens (.t 14)), (some (13, true))⟩, ⟨(some 16), .v (.bin .gtr (.t 15) (.c (.int .i64 1))), (some (13, true))⟩, ⟨(some 17), .v (.pick (.t 13) (.t 16) (.c (.bool false))), (some (9, false))⟩, ⟨(some 18), .v (.pick (.t 9) (.c (.bool true)) (.t 17)), none⟩])
    (.cond (.t 18)
     (.seq
      (.reg [⟨(some 2), .v (.mov (.c (.int .i64 (-1)))), none⟩])
      .ret)
     .skip))
   (.seq
    (.reg [⟨(some 3), .v (.mov (.c (.int .i64 0))), none⟩])
    (.seq
     (.seq
      (.reg [⟨(some 4), .v (.mov (.c (.int .i64 0))), none⟩])
      (.block 0
       (.loop
        (.seq
         (.seq
          (.reg [⟨(some 19), .v (.mov (.t 4)), none⟩, ⟨(some 20), .v (.mov (.t 0)), none⟩, ⟨(some 21), .v (.lens (.t 20)), none⟩, ⟨(some 22), .v (.bin .lss (.t 19) (.t 21)), none⟩])
          (.cond (.t 22)
           .skip
           (.exit 0)))
         (.seq
          (.block 1
           (.seq
            (.seq
             (.reg [⟨(some 25), .v (.mov (.t 0)), none⟩, ⟨(some 26), .v (.mov (.t 4)), none⟩, ⟨(some 27), .v (.sidx (.t 25) (.t 26)), none⟩, ⟨(some 28), .v (.bin .lss (.t 27) (.c (.int .u8 48))), none⟩, ⟨(some 29), .v (.mov (.t 28)), none⟩, ⟨(some 30), .v (.mov (.t 0)), (some (29, false))⟩, ⟨(some 31), .v (.mov (.t 4)), (some (29, false))⟩, ⟨(some 32), .v (.sidx (.t 30) (.t 31)), (some (29, false))⟩, ⟨(some 33), .v (.bin .gtr (.t 32) (.c (.int .u8 57))), (some (29, false))⟩, ⟨(some 34), .v (.pick (.t 29) (.c (.bool true)) (.t 33)), none⟩])
             (.cond (.t 34)
              (.seq
               (.reg [⟨(some 2), .v (.mov (.c (.int .i64 (-1)))), none⟩])
               .ret)
              .skip))
            (.reg [⟨(some 35), .v (.mov (.t 3)), none⟩, ⟨(some 36), .v (.bin .mul (.c (.int .i64 10)) (.t 35)), none⟩, ⟨(some 37), .v (.mov (.t 0)), none⟩, ⟨(some 38), .v (.mov (.t 4)), none⟩, ⟨(some 39), .v (.sidx (.t 37) (.t 38)), none⟩, ⟨(some 40), .v (.bin .sub (.t 39) (.c (.int .u8 48))), none⟩, ⟨(some 41), .v (.conv .i64 (.t 40)), none⟩, ⟨(some 42), .v (.bin .add (.t 36) (.t 41)), none⟩, ⟨(some 3), .v (.mov (.t 42)), none⟩])))
          (.reg [⟨(some 23), .v (.mov (.t 4)), none⟩, ⟨(some 24), .v (.bin .add (.t 23) (.c (.int .i64 1))), none⟩, ⟨(some 4), .v (.mov (.t 24)), none⟩]))))))
     (.seq
      (.reg [⟨(some 43), .v (.mov (.t 3)), none⟩, ⟨(some 2), .v (.mov (.t 43)), none⟩])
      .ret)))))⟩
theorem e51 : rFunc Tryd.prog Tryd.f51 = some r51 := by kernel_rfl
def r80 : RFunc := ⟨21, [.t 6],
 (.seq
  (.reg [⟨(some 6), .v (.mov (.c (.bool false))), none⟩])
  (.seq
   (.seq
    (.reg [⟨(some 9), .v (.mov (.t 0)), none⟩, ⟨(some 10), .v (.len (.t 9)), none⟩, ⟨(some 11), .v (.mov (.c (.int .i64 0))), none⟩])
    (.block 0
     (.loop
      (.seq
       (.reg [⟨(some 12), .v (.bin .lss (.t 11) (.t 10)), none⟩])
       (.seq
        (.cond (.t 12)
         .skip
         (.exit 0))
        (.seq
         (.block 1
          (.seq
           (.reg [⟨(some 13), .v (.iaddr 1 (.t 9) (.t 11)), none⟩, ⟨(some 14), .v (.load false 1 (.t 13)), none⟩, ⟨(some 8), .v (.mov (.t 14)), none⟩])
           (.seq
            (.reg [⟨(some 15), .v (.mov (.t 8)), none⟩, ⟨(some 16), .v (.mov (.t 1)), none⟩, ⟨(some 17), .v (.mov (.t 2)), none⟩, ⟨(some 18), .call 67 [(.t 15), (.t 16), (.t 17)], none⟩, ⟨(some 19), .v (.un .not (.t 18)), none⟩])
            (.cond (.t 19)
             (.seq
              (.reg [⟨(some 6), .v (.mov (.c (.bool false))), none⟩])
              .ret)
             .skip))))
         (.reg [⟨(some 20), .v (.bin .add (.t 11) (.c (.int .i64 1))), none⟩, ⟨(some 11), .v (.mov (.t 20)), none⟩])))))))
   (.seq
    (.reg [⟨(some 6), .v (.mov (.c (.bool true))), none⟩])
    .ret)))⟩
theorem e80 : rFunc Tryd.prog Tryd.f80 = some r80 := by kernel_rfl
def r52 : RFunc := ⟨25, [.t 2],
 (.seq
  (.reg [⟨(some 1), .m (.box (.t 0)), none⟩, ⟨(some 2), .v (.mov (.c (.bool false))), none⟩])
  (.seq
   (.reg [⟨(some 3), .v (.faddr 0 (.t 1)), none⟩, ⟨(some 4), .v (.load false 1 (.t 3)), none⟩, ⟨(some 5), .call 67 [(.t 4), (.c (.int .i64 0)), (.c (.int .i64 9999))], none⟩, ⟨(some 6), .v (.mov (.t 5)), none⟩, ⟨(some 7), .v (.faddr 1 (.t 1)), (some (6, true))⟩, ⟨(some 8), .v (.load false 1 (.t 7)), (some (6, true))⟩, ⟨(some 9), .call 67 [(.t 8), (.c (.int .i64 1)), (.c (.int .i64 24))], (some (6, true))⟩, ⟨(some 10), .v (.pick (.t 6) (.t 9) (.c (.bool false))), none⟩, ⟨(some 11), .v (.mov (.t 10)), none⟩, ⟨(some 12), .v (.faddr 2 (.t 1)), (some (11, true))⟩, ⟨(some 13), .v (.load false 1 (.t 12)), (some (11, true))⟩, ⟨(some 14), .v (.len (.t 13)), (some (11, true))⟩, ⟨(some 15), .v (.faddr 1 (.t 1)), (some (11, true))⟩, ⟨(some 16), .v (.load false 1 (.t 15)), (some (11, true))⟩, ⟨(some 17), .v (.bin .mul (.c (.int .i64 3)) (.t 16)), (some (11, true))⟩, ⟨(some 18), .v (.bin .eql (.t 14) (.t 17)), (some (11, true))⟩, ⟨(some 19), .v (.pick (.t 11) (.t 18) (.c (.bool false))), none⟩, ⟨(some 20), .v (.mov (.t 19)), none⟩, ⟨(some 21), .v (.faddr 2 (.t 1)), (some (20, true))⟩, ⟨(some 22), .v (.load false 1 (.t 21)), (some (20, true))⟩, ⟨(some 23), .call 80 [(.t 22), (.c (.int .i64 0)), (.c (.int .i64 3))], (some (20, true))⟩, ⟨(some 24), .v (.pick (.t 20) (.t 23) (.c (.bool false))), none⟩, ⟨(some 2), .v (.mov (.t 24)), none⟩])
   .ret))⟩
theorem e52 : rFunc Tryd.prog Tryd.f52 = some r52 := by kernel_rfl
def r19 : RFunc := ⟨64, [.cell true 3 2, .t 3],
 (.seq
  (.reg [⟨(some 2), .m (.alloc [(.int .i64 0), (.int .i64 0), .nils]), none⟩, ⟨(some 3), .v (.mov (.c (.bool false))), none⟩])
  (.seq
   (.reg [⟨(some 10), .v (.mov (.t 0)), none⟩, ⟨(some 11), .call 33 [(.t 10)], none⟩, ⟨(some 9), .v (.mov (.t 11)), none⟩, ⟨(some 12), .v (.ext (.t 9) 0), none⟩, ⟨(some 13), .v (.ext (.t 9) 1), none⟩, ⟨(some 4), .v (.mov (.t 12)), none⟩, ⟨(some 5), .v (.mov (.t 13)), none⟩])
   (.seq
    (.reg [⟨(some 14), .v (.mov (.t 4)), none⟩, ⟨(some 15), .call 50 [(.t 14), (.c (.int .u8 32))], none⟩, ⟨(some 6), .v (.mov (.t 15)), none⟩])
    (.seq
     (.seq
      (.reg [⟨(some 16), .v (.mov (.t 5)), none⟩, ⟨(some 17), .v (.un .not (.t 16)), none⟩, ⟨(some 18), .v (.mov (.t 17)), none⟩, ⟨(some 19), .v (.mov (.t 6)), (some (18, false))⟩, ⟨(some 20), .v (.len (.t 19)), (some (18, false))⟩, ⟨(some 21), .v (.bin .neq (.t 20) (.c (.int .i64 4))), (some (18, false))⟩, ⟨(some 22), .v (.pick (.t 18) (.c (.bool true)) (.t 21)), none⟩, ⟨(some 23), .v (.mov (.t 22)), none⟩, ⟨(some 24), .v (.mov (.t 6)), (some (23, false))⟩, ⟨(some 25), .v (.iaddr 1 (.t 24) (.c (.int .i64 0))), (some (23, false))⟩, ⟨(some 26), .v (.load false 1 (.t 25)), (some (23, false))⟩, ⟨(some 27), .v (.bin .neq (.t 26) (.c (.str [112, 101, 101, 108, 101, 100]))), (some (23, false))⟩, ⟨(some 28), .v (.pick (.t 23) (.c (.bool true)) (.t 27)), none⟩])
      (.cond (.t 28)
       (.seq
        (.reg [⟨(some 29), .v (.bld [(.int .i64 0), (.int .i64 0), .nils] []), none⟩, ⟨none, .m (.store 3 (.t 2) (.t 29)), none⟩, ⟨(some 3), .v (.mov (.c (.bool false))), none⟩])
        .ret)
       .skip))
     (.seq
      (.dreg (.fl ⟨(some 30), .v (.mov (.t 6)), none⟩ (.fl ⟨(some 31), .v (.iaddr 1 (.t 30) (.c (.int .i64 1))), none⟩ (.fl ⟨(some 32), .v (.load false 1 (.t 31)), none⟩ (.fl ⟨(some 34), .v (.mov (.t 6)), none⟩ (.fl ⟨(some 35), .v (.iaddr 1 (.t 34) (.c (.int .i64 2))), none⟩ (.fl ⟨(some 36), .v (.load false 1 (.t 35)), none⟩ (.both (.nx ⟨(some 33), .call 51 [(.t 32)], none⟩ (.both (.nx ⟨(some 37), .call 51 [(.t 36)], none⟩ (.fl ⟨(some 38), .v (.bld [(.int .i64 0), (.int .i64 0), .nils] [(0, 1, (.t 33)), (1, 1, (.t 37))]), none⟩ (.nx ⟨(some 7), .m (.alloc [(.int .i64 0), (.int .i64 0), .nils]), none⟩ (.nx ⟨none, .m (.store 3 (.t 7) (.t 38)), none⟩ .done)))) (.nx ⟨(some 7), .m (.alloc [(.int .i64 0), (.int .i64 0), .nils]), none⟩ (.nx ⟨(some 37), .call 51 [(.t 36)], none⟩ (.fl ⟨(some 38), .v (.bld [(.int .i64 0), (.int .i64 0), .nils] [(0, 1, (.t 33)), (1, 1, (.t 37))]), none⟩ (.nx ⟨none, .m (.store 3 (.t 7) (.t 38)), none⟩ .done)))))) (.nx ⟨(some 7), .m (.alloc [(.int .i64 0), (.int .i64 0), .nils]), none⟩ (.nx ⟨(some 33), .call 51 [(.t 32)], none⟩ (.nx ⟨(some 37), .call 51 [(.t 36)], none⟩ (.fl ⟨(some 38), .v (.bld [(.int .i64 0), (.int .i64 0), .nils] [(0, 1, (.t 33)), (1, 1, (.t 37))]), none⟩ (.nx ⟨none, .m (.store 3 (.t 7) (.t 38)), none⟩ .done)))))))))))))
      (.seq
       (.seq
        (.reg [⟨(some 8), .v (.mov (.c (.int .i64 0))), none⟩])
        (.block 0
         (.loop
          (.seq
           (.seq
            (.reg [⟨(some 39), .v (.mov (.t 8)), none⟩, ⟨(some 40), .v (.mov (.t 6)), none⟩, ⟨(some 41), .v (.iaddr 1 (.t 40) (.c (.int .i64 3))), none⟩, ⟨(some 42), .v (.load false 1 (.t 41)), none⟩, ⟨(some 43), .v (.lens (.t 42)), none⟩, ⟨(some 44), .v (.bin .lss (.t 39) (.t 43)), none⟩])
            (.cond (.t 44)
             .skip
             (.exit 0)))
           (.seq
            (.block 1
             (.dreg (.fl ⟨(some 47), .v (.faddr 2 (.t 7)), none⟩ (.fl ⟨(some 49), .v (.mov (.t 6)), none⟩ (.fl ⟨(some 50), .v (.iaddr 1 (.t 49) (.c (.int .i64 3))), none⟩ (.fl ⟨(some 52), .v (.mov (.t 8)), none⟩ (.both (.nx ⟨(some 48), .v (.load false 1 (.t 47)), none⟩ (.nx ⟨(some 51), .v (.load false 1 (.t 50)), none⟩ (.fl ⟨(some 53), .v (.sidx (.t 51) (.t 52)), none⟩ (.fl ⟨(some 54), .v (.conv .i64 (.t 53)), none⟩ (.fl ⟨(some 55), .v (.bin .sub (.t 54) (.c (.int .i64 48))), none⟩ (.nx ⟨(some 56), .m (.bsl 1 1 [(.int .i64 0)] [(0, 1, (.t 55))]), none⟩ (.nx ⟨(some 57), .m (.app false 1 8 (.t 48) (.t 56)), none⟩ (.fl ⟨(some 58), .v (.faddr 2 (.t 7)), none⟩ (.nx ⟨none, .m (.store 1 (.t 58) (.t 57)), none⟩ .done))))))))) (.nx ⟨(some 51), .v (.load false 1 (.t 50)), none⟩ (.fl ⟨(some 53), .v (.sidx (.t 51) (.t 52)), none⟩ (.fl ⟨(some 54), .v (.conv .i64 (.t 53)), none⟩ (.fl ⟨(some 55), .v (.bin .sub (.t 54) (.c (.int .i64 48))), none⟩ (.both (.nx ⟨(some 48), .v (.load false 1 (.t 47)), none⟩ (.nx ⟨(some 56), .m (.bsl 1 1 [(.int .i64 0)] [(0, 1, (.t 55))]), none⟩ (.nx ⟨(some 57), .m (.app false 1 8 (.t 48) (.t 56)), none⟩ (.fl ⟨(some 58), .v (.faddr 2 (.t 7)), none⟩ (.nx ⟨none, .m (.store 1 (.t 58) (.t 57)), none⟩ .done))))) (.nx ⟨(some 56), .m (.bsl 1 1 [(.int .i64 0)] [(0, 1, (.t 55))]), none⟩ (.nx ⟨(some 48), .v (.load false 1 (.t 47)), none⟩ (.nx ⟨(some 57), .m (.app false 1 8 (.t 48) (.t 56)), none⟩ (.fl ⟨(some 58), .v (.faddr 2 (.t 7)), none⟩ (.nx ⟨none, .m (.store 1 (.t 58) (.t 57)), none⟩ .done)))))))))))))))))
            (.reg [⟨(some 45), .v (.mov (.t 8)), none⟩, ⟨(some 46), .v (.bin .add (.t 45) (.c (.int .i64 1))), none⟩, ⟨(some 8), .v (.mov (.t 46)), none⟩]))))))
       (.seq
        (.seq
         (.reg [⟨(some 59), .v (.load true 3 (.t 7)), none⟩, ⟨(some 60), .call 52 [(.t 59)], none⟩, ⟨(some 61), .v (.un .not (.t 60)), none⟩])
         (.cond (.t 61)
          (.seq
           (.reg [⟨(some 62), .v (.bld [(.int .i64 0), (.int .i64 0), .nils] []), none⟩, ⟨none, .m (.store 3 (.t 2) (.t 62)), none⟩, ⟨(some 3), .v (.mov (.c (.bool false))), none⟩])
           .ret)
          .skip))
        (.seq
         (.reg [⟨(some 63), .v (.load true 3 (.t 7)), none⟩, ⟨none, .m (.store 3 (.t 2) (.t 63)), none⟩, ⟨(some 3), .v (.mov (.c (.bool true))), none⟩])
         .ret))))))))⟩
theorem e19 : rFunc Tryd.prog Tryd.f19 = some r19 := by kernel_rfl
def r53 : RFunc := ⟨24, [.t 2, .t 3],
 (.seq
  (.reg [⟨(some 2), .v (.mov (.c (.int .i64 0))), none⟩, ⟨(some 3), .v (.mov (.c (.bool false))), none⟩])
  (.seq
   (.reg [⟨(some 7), .v (.mov (.t 0)), none⟩, ⟨(some 8), .call 83 [(.t 7)], none⟩, ⟨(some 6), .v (.mov (.t 8)), none⟩, ⟨(some 9), .v (.ext (.t 6) 0), none⟩, ⟨(some 10), .v (.ext (.t 6) 1), none⟩, ⟨(some 4), .v (.mov (.t 9)), none⟩, ⟨(some 5), .v (.mov (.t 10)), none⟩])
   (.seq
    (.reg [⟨(some 11), .v (.mov (.t 4)), none⟩, ⟨(some 12), .v (.mov (.t 5)), none⟩, ⟨(some 13), .v (.ieq false (.t 12) (.c .nili)), none⟩, ⟨(some 14), .v (.mov (.t 13)), none⟩, ⟨(some 15), .v (.mov (.t 4)), (some (14, true))⟩, ⟨(some 16), .v (.bin .geq (.t 15) (.c (.int .i64 0))), (some (14, true))⟩, ⟨(some 17), .v (.pick (.t 14) (.t 16) (.c (.bool false))), none⟩, ⟨(some 18), .v (.mov (.t 17)), none⟩, ⟨(some 19), .v (.mov (.t 4)), (some (18, true))⟩, ⟨(some 20), .call 61 [(.t 19)], (some (18, true))⟩, ⟨(some 21), .v (.mov (.t 0)), (some (18, true))⟩, ⟨(some 22), .v (.bin .eql (.t 20) (.t 21)), (some (18, true))⟩, ⟨(some 23), .v (.pick (.t 18) (.t 22) (.c (.bool false))), none⟩, ⟨(some 2), .v (.mov (.t 11)), none⟩, ⟨(some 3), .v (.mov (.t 23)), none⟩])
    .ret)))⟩
theorem e53 : rFunc Tryd.prog Tryd.f53 = some r53 := by kernel_rfl
def r118 : RFunc := ⟨19, [.t 4],
 (.seq
  (.reg [⟨(some 4), .v (.mov (.c (.int .i64 0))), none⟩])
  (.seq
   (.seq
    (.reg [⟨(some 6), .v (.mov (.t 0)), none⟩, ⟨(some 7), .v (.len (.t 6)), none⟩, ⟨(some 8), .v (.mov (.c (.int .i64 0))), none⟩])
    (.block 0
     (.loop
      (.seq
       (.reg [⟨(some 9), .v (.bin .lss (.t 8) (.t 7)), none⟩])
       (.seq
        (.cond (.t 9)
         .skip
         (.exit 0))
        (.seq
         (.block 1
          (.seq
           (.reg [⟨(some 10), .v (.mov (.t 8)), none⟩, ⟨(some 5), .v (.mov (.t 10)), none⟩])
           (.seq
            (.reg [⟨(some 11), .v (.mov (.t 1)), none⟩, ⟨(some 12), .v (.mov (.t 0)), none⟩, ⟨(some 13), .v (.mov (.t 5)), none⟩, ⟨(some 14), .v (.iaddr 1 (.t 12) (.t 13)), none⟩, ⟨(some 15), .v (.load false 1 (.t 14)), none⟩, ⟨(some 16), .callv (.t 11) [(.t 15)], none⟩])
            (.cond (.t 16)
             (.seq
              (.reg [⟨(some 17), .v (.mov (.t 5)), none⟩, ⟨(some 4), .v (.mov (.t 17)), none⟩])
              .ret)
             .skip))))
         (.reg [⟨(some 18), .v (.bin .add (.t 8) (.c (.int .i64 1))), none⟩, ⟨(some 8), .v (.mov (.t 18)), none⟩])))))))
   (.seq
    (.reg [⟨(some 4), .v (.mov (.c (.int .i64 (-1)))), none⟩])
    .ret)))⟩
theorem e118 : rFunc Tryd.prog Tryd.f118 = some r118 := by kernel_rfl
def r84 : RFunc := ⟨9, [.t 4],
 (.seq
  (.reg [⟨(some 4), .v (.mov (.c (.bool false))), none⟩])
  (.seq
   (.reg [⟨(some 5), .v (.mov (.t 0)), none⟩, ⟨(some 6), .v (.mov (.t 1)), none⟩, ⟨(some 7), .call 118 [(.t 5), (.t 6)], none⟩, ⟨(some 8), .v (.bin .geq (.t 7) (.c (.int .i64 0))), none⟩, ⟨(some 4), .v (.mov (.t 8)), none⟩])
   .ret))⟩
theorem e84 : rFunc Tryd.prog Tryd.f84 = some r84 := by kernel_rfl
def r86 : RFunc := ⟨5, [.t 2],
 (.seq
  (.reg [⟨(some 2), .v (.mov (.c (.bool false))), none⟩])
  (.seq
   (.reg [⟨(some 3), .v (.mov (.t 0)), none⟩, ⟨(some 4), .call 70 [(.t 3), (.c (.int .i64 0)), (.c (.int .i64 9999))], none⟩, ⟨(some 2), .v (.mov (.t 4)), none⟩])
   .ret))⟩
theorem e86 : rFunc Tryd.prog Tryd.f86 = some r86 := by kernel_rfl
def r87 : RFunc := ⟨5, [.t 2],
 (.seq
  (.reg [⟨(some 2), .v (.mov (.c (.bool false))), none⟩])
  (.seq
   (.reg [⟨(some 3), .v (.mov (.t 0)), none⟩, ⟨(some 4), .call 70 [(.t 3), (.c (.int .i64 1)), (.c (.int .i64 24))], none⟩, ⟨(some 2), .v (.mov (.t 4)), none⟩])
   .ret))⟩
theorem e87 : rFunc Tryd.prog Tryd.f87 = some r87 := by kernel_rfl
def r85 : RFunc := ⟨6, [.t 2],
 (.seq
  (.reg [⟨(some 2), .v (.mov (.c (.bool false))), none⟩])
  (.seq
   (.reg [⟨(some 3), .v (.mov (.t 0)), none⟩, ⟨(some 4), .call 70 [(.t 3), (.c (.int .i64 0)), (.c (.int .i64 3))], none⟩, ⟨(some 5), .v (.un .not (.t 4)), none⟩, ⟨(some 2), .v (.mov (.t 5)), none⟩])
   .ret))⟩
theorem e85 : rFunc Tryd.prog Tryd.f85 = some r85 := by kernel_rfl
def r54 : RFunc := ⟨28, [.t 2],
 (.seq
  (.reg [⟨(some 1), .m (.box (.t 0)), none⟩, ⟨(some 2), .v (.mov (.c (.bool false))), none⟩])
  (.seq
   (.reg [⟨(some 4), .v (.faddr 2 (.t 1)), none⟩, ⟨(some 5), .v (.load false 1 (.t 4)), none⟩, ⟨(some 6), .call 84 [(.t 5), (.c (.fn 85 []))], none⟩, ⟨(some 3), .v (.mov (.t 6)), none⟩])
   (.seq
    (.reg [⟨(some 7), .v (.mov (.t 3)), none⟩, ⟨(some 8), .v (.un .not (.t 7)), none⟩, ⟨(some 9), .v (.mov (.t 8)), none⟩, ⟨(some 10), .v (.faddr 0 (.t 1)), (some (9, true))⟩, ⟨(some 11), .v (.load false 1 (.t 10)), (some (9, true))⟩, ⟨(some 12), .call 86 [(.t 11)], (some (9, true))⟩, ⟨(some 13), .v (.pick (.t 9) (.t 12) (.c (.bool false))), none⟩, ⟨(some 14), .v (.mov (.t 13)), none⟩, ⟨(some 15), .v (.faddr 1 (.t 1)), (some (14, true))⟩, ⟨(some 16), .v (.load false 1 (.t 15)), (some (14, true))⟩, ⟨(some 17), .call 87 [(.t 16)], (some (14, true))⟩, ⟨(some 18), .v (.pick (.t 14) (.t 17) (.c (.bool false))), none⟩, ⟨(some 19), .v (.mov (.t 18)), none⟩, ⟨(some 20), .v (.faddr 2 (.t 1)), (some (19, true))⟩, ⟨(some 21), .v (.load false 1 (.t 20)), (some (19, true))⟩, ⟨(some 22), .v (.len (.t 21)), (some (19, true))⟩, ⟨(some 23), .v (.faddr 1 (.t 1)), (some (19, true))⟩, ⟨(some 24), .v (.load false 1 (.t 23)), (some (19, true))⟩, ⟨(some 25), .v (.bin .mul (.c (.int .i64 3)) (.t 24)), (some (19, true))⟩, ⟨(some 26), .v (.bin .eql (.t 22) (.t 25)), (some (19, true))⟩, ⟨(some 27), .v (.pick (.t 19) (.t 26) (.c (.bool false))), none⟩, ⟨(some 2), .v (.mov (.t 27)), none⟩])
    .ret)))⟩
theorem e54 : rFunc Tryd.prog Tryd.f54 = some r54 := by kernel_rfl
def r20 : RFunc := ⟨75, [.cell true 3 2, .t 3],
 (.seq
  (.reg [⟨(some 2), .m (.alloc [(.int .i64 0), (.int .i64 0), .nils]), none⟩, ⟨(some 3), .v (.mov (.c (.bool false))), none⟩])
  (.seq
   (.reg [⟨(some 13), .v (.mov (.t 0)), none⟩, ⟨(some 14), .call 36 [(.t 13), (.c (.str [112, 101, 101, 108, 101, 100]))], none⟩, ⟨(some 12), .v (.mov (.t 14)), none⟩, ⟨(some 15), .v (.ext (.t 12) 0), none⟩, ⟨(some 16), .v (.ext (.t 12) 1), none⟩, ⟨(some 4), .v (.mov (.t 15)), none⟩, ⟨(some 5), .v (.mov (.t 16)), none⟩])
   (.seq
    (.seq
     (.reg [⟨(some 17), .v (.mov (.t 5)), none⟩, ⟨(some 18), .v (.un .not (.t 17)), none⟩, ⟨(some 19), .v (.mov (.t 18)), none⟩, ⟨(some 20), .v (.mov (.t 4)), (some (19, false))⟩, ⟨(some 21), .v (.len (.t 20)), (some (19, false))⟩, ⟨(some 22), .v (.bin .neq (.t 21) (.c (.int .i64 3))), (some (19, false))⟩, ⟨(some 23), .v (.pick (.t 19) (.c (.bool true)) (.t 22)), none⟩])
     (.cond (.t 23)
      (.seq
       (.reg [⟨(some 24), .v (.bld [(.int .i64 0), (.int .i64 0), .nils] []), none⟩, ⟨none, .m (.store 3 (.t 2) (.t 24)), none⟩, ⟨(some 3), .v (.mov (.c (.bool false))), none⟩])
       .ret)
      .skip))
    (.seq
     (.reg [⟨(some 26), .v (.mov (.t 4)), none⟩, ⟨(some 27), .v (.iaddr 1 (.t 26) (.c (.int .i64 0))), none⟩, ⟨(some 28), .v (.load false 1 (.t 27)), none⟩, ⟨(some 29), .call 53 [(.t 28)], none⟩, ⟨(some 25), .v (.mov (.t 29)), none⟩, ⟨(some 30), .v (.ext (.t 25) 0), none⟩, ⟨(some 31), .v (.ext (.t 25) 1), none⟩, ⟨(some 6), .v (.mov (.t 30)), none⟩, ⟨(some 7), .v (.mov (.t 31)), none⟩])
     (.seq
      (.reg [⟨(some 33), .v (.mov (.t 4)), none⟩, ⟨(some 34), .v (.iaddr 1 (.t 33) (.c (.int .i64 1))), none⟩, ⟨(some 35), .v (.load false 1 (.t 34)), none⟩, ⟨(some 36), .call 53 [(.t 35)], none⟩, ⟨(some 32), .v (.mov (.t 36)), none⟩, ⟨(some 37), .v (.ext (.t 32) 0), none⟩, ⟨(some 38), .v (.ext (.t 32) 1), none⟩, ⟨(some 8), .v (.mov (.t 37)), none⟩, ⟨(some 9), .v (.mov (.t 38)), none⟩])
      (.seq
       (.reg [⟨(some 39), .v (.mov (.t 6)), none⟩, ⟨(some 40), .v (.mov (.t 8)), none⟩, ⟨(some 41), .v (.bld [(.int .i64 0), (.int .i64 0), .nils] [(0, 1, (.t 39)), (1, 1, (.t 40))]), none⟩, ⟨(some 10), .m (.alloc [(.int .i64 0), (.int .i64 0), .nils]), none⟩, ⟨none, .m (.store 3 (.t 10) (.t 41)), none⟩])
       (.seq
        (.seq
         (.reg [⟨(some 42), .v (.mov (.t 4)), none⟩, ⟨(some 43), .v (.iaddr 1 (.t 42) (.c (.int .i64 2))), none⟩, ⟨(some 44), .v (.load false 1 (.t 43)), none⟩, ⟨(some 45), .v (.lens (.t 44)), none⟩, ⟨(some 46), .v (.mov (.c (.int .i64 0))), none⟩])
         (.block 0
          (.loop
           (.seq
            (.reg [⟨(some 47), .v (.bin .lss (.t 46) (.t 45)), none⟩])
            (.seq
             (.cond (.t 47)
              .skip
              (.exit 0))
             (.seq
              (.block 1
               (.seq
                (.reg [⟨(some 48), .v (.mov (.t 46)), none⟩, ⟨(some 11), .v (.mov (.t 48)), none⟩])
                (.dreg (.fl ⟨(some 49), .v (.faddr 2 (.t 10)), none⟩ (.fl ⟨(some 51), .v (.mov (.t 4)), none⟩ (.fl ⟨(some 52), .v (.iaddr 1 (.t 51) (.c (.int .i64 2))), none⟩ (.fl ⟨(some 54), .v (.mov (.t 11)), none⟩ (.both (.nx ⟨(some 50), .v (.load false 1 (.t 49)), none⟩ (.nx ⟨(some 53), .v (.load false 1 (.t 52)), none⟩ (.fl ⟨(some 55), .v (.sidx (.t 53) (.t 54)), none⟩ (.fl ⟨(some 56), .v (.conv .i64 (.t 55)), none⟩ (.fl ⟨(some 57), .v (.bin .sub (.t 56) (.c (.int .i64 48))), none⟩ (.nx ⟨(some 58), .m (.bsl 1 1 [(.int .i64 0)] [(0, 1, (.t 57))]), none⟩ (.nx ⟨(some 59), .m (.app false 1 8 (.t 50) (.t 58)), none⟩ (.fl ⟨(some 60), .v (.faddr 2 (.t 10)), none⟩ (.nx ⟨none, .m (.store 1 (.t 60) (.t 59)), none⟩ .done))))))))) (.nx ⟨(some 53), .v (.load false 1 (.t 52)), none⟩ (.fl ⟨(some 55), .v (.sidx (.t 53) (.t 54)), none⟩ (.fl ⟨(some 56), .v (.conv .i64 (.t 55)), none⟩ (.fl ⟨(some 57), .v (.bin .sub (.t 56) (.c (.int .i64 48))), none⟩ (.both (.nx ⟨(some 50), .v (.load false 1 (.t 49)), none⟩ (.nx ⟨(some 58), .m (.bsl 1 1 [(.int .i64 0)] [(0, 1, (.t 57))]), none⟩ (.nx ⟨(some 59), .m (.app false 1 8 (.t 50) (.t 58)), none⟩ (.fl ⟨(some 60), .v (.faddr 2 (.t 10)), none⟩ (.nx ⟨none, .m (.store 1 (.t 60) (.t 59)), none⟩ .done))))) (.nx ⟨(some 58), .m (.bsl 1 1 [(.int .i64 0)] [(0, 1, (.t 57))]), none⟩ (.nx ⟨(some 50), .v (.load false 1 (.t 49)), none⟩ (.nx ⟨(some 59), .m (.app false 1 8 (.t 50) (.t 58)), none⟩ (.fl ⟨(some 60), .v (.faddr 2 (.t 10)), none⟩ (.nx ⟨none, .m (.store 1 (.t 60) (.t 59)), none⟩ .done))))))))))))))))))
              (.reg [⟨(some 61), .v (.bin .add (.t 46) (.c (.int .i64 1))), none⟩, ⟨(some 46), .v (.mov (.t 61)), none⟩])))))))
        (.seq
         (.seq
          (.reg [⟨(some 62), .v (.mov (.t 7)), none⟩, ⟨(some 63), .v (.un .not (.t 62)), none⟩, ⟨(some 64), .v (.mov (.t 63)), none⟩, ⟨(some 65), .v (.mov (.t 9)), (some (64, false))⟩, ⟨(some 66), .v (.un .not (.t 65)), (some (64, false))⟩, ⟨(some 67), .v (.pick (.t 64) (.c (.bool true)) (.t 66)), none⟩, ⟨(some 68), .v (.mov (.t 67)), none⟩, ⟨(some 69), .v (.load true 3 (.t 10)), (some (68, false))⟩, ⟨(some 70), .call 54 [(.t 69)], (some (68, false))⟩, ⟨(some 71), .v (.un .not (.t 70)), (some (68, false))⟩, ⟨(some 72), .v (.pick (.t 68) (.c (.bool true)) (.t 71)), none⟩])
          (.cond (.t 72)
           (.seq
            (.reg [⟨(some 73), .v (.bld [(.int .i64 0), (.int .i64 0), .nils] []), none⟩, ⟨none, .m (.store 3 (.t 2) (.t 73)), none⟩, ⟨(some 3), .v (.mov (.c (.bool false))), none⟩])
            .ret)
           .skip))
         (.seq
          (.reg [⟨(some 74), .v (.load true 3 (.t 10)), none⟩, ⟨none, .m (.store 3 (.t 2) (.t 74)), none⟩, ⟨(some 3), .v (.mov (.c (.bool true))), none⟩])
          .ret)))))))))⟩
theorem e20 : rFunc Tryd.prog Tryd.f20 = some r20 := by kernel_rfl
def r21 : RFunc := ⟨21, [.t 4],
 (.seq
  (.reg [⟨(some 2), .m (.box (.t 0)), none⟩, ⟨(some 3), .m (.box (.t 1)), none⟩, ⟨(some 4), .v (.mov (.c (.bool false))), none⟩])
  (.seq
   (.seq
    (.reg [⟨(some 5), .v (.faddr 0 (.t 2)), none⟩, ⟨(some 6), .v (.load false 1 (.t 5)), none⟩, ⟨(some 7), .v (.faddr 0 (.t 3)), none⟩, ⟨(some 8), .v (.load false 1 (.t 7)), none⟩, ⟨(some 9), .v (.bin .neq (.t 6) (.t 8)), none⟩])
    (.cond (.t 9)
     (.seq
      (.reg [⟨(some 4), .v (.mov (.c (.bool false))), none⟩])
      .ret)
     .skip))
   (.seq
    (.seq
     (.reg [⟨(some 10), .v (.faddr 1 (.t 2)), none⟩, ⟨(some 11), .v (.load false 1 (.t 10)), none⟩, ⟨(some 12), .v (.faddr 1 (.t 3)), none⟩, ⟨(some 13), .v (.load false 1 (.t 12)), none⟩, ⟨(some 14), .v (.bin .neq (.t 11) (.t 13)), none⟩])
     (.cond (.t 14)
      (.seq
       (.reg [⟨(some 4), .v (.mov (.c (.bool false))), none⟩])
       .ret)
      .skip))
    (.seq
     (.seq
      (.reg [⟨(some 15), .v (.faddr 2 (.t 2)), none⟩, ⟨(some 16), .v (.load false 1 (.t 15)), none⟩, ⟨(some 17), .v (.faddr 2 (.t 3)), none⟩, ⟨(some 18), .v (.load false 1 (.t 17)), none⟩, ⟨(some 19), .call 38 [(.t 16), (.t 18)], none⟩, ⟨(some 20), .v (.un .not (.t 19)), none⟩])
      (.cond (.t 20)
       (.seq
        (.reg [⟨(some 4), .v (.mov (.c (.bool false))), none⟩])
        .ret)
       .skip))
     (.seq
      (.reg [⟨(some 4), .v (.mov (.c (.bool true))), none⟩])
      .ret)))))⟩
theorem e21 : rFunc Tryd.prog Tryd.f21 = some r21 := by kernel_rfl
def r22 : RFunc := ⟨10, [.t 4],
 (.seq
  (.reg [⟨(some 2), .m (.box (.t 0)), none⟩, ⟨(some 4), .v (.mov (.c (.int .i64 0))), none⟩])
  (.seq
   (.reg [⟨(some 5), .v (.faddr 2 (.t 2)), none⟩, ⟨(some 6), .v (.load false 1 (.t 5)), none⟩, ⟨(some 7), .v (.mov (.t 1)), none⟩, ⟨(some 8), .call 39 [(.t 6), (.t 7)], none⟩, ⟨(some 1), .v (.mov (.t 8)), none⟩])
   (.seq
    (.reg [⟨(some 9), .v (.mov (.t 1)), none⟩, ⟨(some 4), .v (.mov (.t 9)), none⟩])
    .ret)))⟩
theorem e22 : rFunc Tryd.prog Tryd.f22 = some r22 := by kernel_rfl
def r23 : RFunc := ⟨12, [.t 4],
 (.seq
  (.reg [⟨(some 2), .m (.box (.t 0)), none⟩, ⟨(some 4), .v (.mov (.c (.int .i64 0))), none⟩])
  (.seq
   (.reg [⟨(some 5), .v (.faddr 2 (.t 2)), none⟩, ⟨(some 6), .v (.load false 1 (.t 5)), none⟩, ⟨(some 7), .v (.mov (.t 1)), none⟩, ⟨(some 8), .call 40 [(.t 6), (.t 7)], none⟩, ⟨(some 1), .v (.mov (.t 8)), none⟩])
   (.seq
    (.seq
     (.reg [⟨(some 9), .v (.mov (.t 1)), none⟩, ⟨(some 10), .v (.bin .lss (.t 9) (.c (.int .i64 0))), none⟩])
     (.cond (.t 10)
      (.seq
       (.reg [⟨(some 4), .v (.mov (.c (.int .i64 (-1)))), none⟩])
       .ret)
      .skip))
    (.seq
     (.reg [⟨(some 11), .v (.mov (.t 1)), none⟩, ⟨(some 4), .v (.mov (.t 11)), none⟩])
     .ret))))⟩
theorem e23 : rFunc Tryd.prog Tryd.f23 = some r23 := by kernel_rfl
def r5 : RFunc := ⟨66, [.t 2],
 (.seq
  (.reg [⟨(some 2), .v (.mov (.c (.bool false))), none⟩])
  (.seq
   (.seq
    (.reg [⟨(some 11), .v (.mov (.t 0)), none⟩, ⟨(some 12), .v (.lens (.t 11)), none⟩, ⟨(some 13), .v (.bin .gtr (.t 12) (.c (.int .i64 1048576))), none⟩])
    (.cond (.t 13)
     (.seq
      (.reg [⟨(some 2), .v (.mov (.c (.bool true))), none⟩])
      .ret)
     .skip))
   (.seq
    (.reg [⟨(some 15), .v (.mov (.t 0)), none⟩, ⟨(some 16), .call 19 [(.t 15)], none⟩, ⟨(some 14), .v (.mov (.t 16)), none⟩, ⟨(some 17), .v (.ext (.t 14) 0), none⟩, ⟨(some 18), .v (.ext (.t 14) 1), none⟩, ⟨(some 3), .m (.alloc [(.int .i64 0), (.int .i64 0), .nils]), none⟩, ⟨none, .m (.store 3 (.t 3) (.t 17)), none⟩, ⟨(some 4), .v (.mov (.t 18)), none⟩])
    (.seq
     (.reg [⟨(some 20), .v (.mov (.t 0)), none⟩, ⟨(some 21), .call 20 [(.t 20)], none⟩, ⟨(some 19), .v (.mov (.t 21)), none⟩, ⟨(some 22), .v (.ext (.t 19) 0), none⟩, ⟨(some 23), .v (.ext (.t 19) 1), none⟩, ⟨(some 5), .m (.alloc [(.int .i64 0), (.int .i64 0), .nils]), none⟩, ⟨none, .m (.store 3 (.t 5) (.t 22)), none⟩, ⟨(some 6), .v (.mov (.t 23)), none⟩])
     (.seq
      (.seq
       (.reg [⟨(some 24), .v (.load true 3 (.t 5)), none⟩, ⟨(some 25), .v (.load true 3 (.t 3)), none⟩, ⟨(some 26), .call 21 [(.t 24), (.t 25)], none⟩, ⟨(some 27), .v (.un .not (.t 26)), none⟩, ⟨(some 28), .v (.mov (.t 27)), none⟩, ⟨(some 29), .v (.mov (.t 6)), (some (28, false))⟩, ⟨(some 30), .v (.mov (.t 4)), (some (28, false))⟩, ⟨(some 31), .v (.beq true (.t 29) (.t 30)), (some (28, false))⟩, ⟨(some 32), .v (.pick (.t 28) (.c (.bool true)) (.t 31)), none⟩])
       (.cond (.t 32)
        (.seq
         (.reg [⟨(some 2), .v (.mov (.c (.bool false))), none⟩])
         .ret)
        .skip))
      (.seq
       (.reg [⟨(some 7), .v (.mov (.c (.int .i64 1))), none⟩])
       (.seq
        (.reg [⟨(some 33), .v (.load true 3 (.t 5)), none⟩, ⟨(some 34), .v (.mov (.t 7)), none⟩, ⟨(some 35), .call 22 [(.t 33), (.t 34)], none⟩, ⟨(some 7), .v (.mov (.t 35)), none⟩])
        (.seq
         (.reg [⟨(some 8), .v (.mov (.c (.int .i64 1))), none⟩])
         (.seq
          (.reg [⟨(some 36), .v (.load true 3 (.t 5)), none⟩, ⟨(some 37), .v (.mov (.t 8)), none⟩, ⟨(some 38), .call 23 [(.t 36), (.t 37)], none⟩, ⟨(some 8), .v (.mov (.t 38)), none⟩])
          (.seq
           (.seq
            (.reg [⟨(some 39), .v (.mov (.t 8)), none⟩, ⟨(some 40), .v (.bin .lss (.t 39) (.c (.int .i64 0))), none⟩])
            (.cond (.t 40)
             (.seq
              (.reg [⟨(some 2), .v (.mov (.c (.bool false))), none⟩])
              .ret)
             .skip))
           (.seq
            (.seq
             (.reg [⟨(some 41), .v (.mov (.t 8)), none⟩, ⟨(some 42), .v (.mov (.t 7)), none⟩, ⟨(some 43), .v (.bin .neq (.t 41) (.t 42)), none⟩])
             (.cond (.t 43)
              (.seq
               (.reg [⟨(some 2), .v (.mov (.c (.bool false))), none⟩])
               .ret)
              .skip))
            (.seq
             (.reg [⟨(some 45), .v (.mov (.t 0)), none⟩, ⟨(some 46), .call 20 [(.t 45)], none⟩, ⟨(some 44), .v (.mov (.t 46)), none⟩, ⟨(some 47), .v (.ext (.t 44) 0), none⟩, ⟨(some 48), .v (.ext (.t 44) 1), none⟩, ⟨(some 9), .m (.alloc [(.int .i64 0), (.int .i64 0), .nils]), none⟩, ⟨none, .m (.store 3 (.t 9) (.t 47)), none⟩, ⟨(some 10), .v (.mov (.t 48)), none⟩])
             (.seq
              (.seq
               (.reg [⟨(some 49), .v (.load true 3 (.t 9)), none⟩, ⟨(some 50), .v (.load true 3 (.t 3)), none⟩, ⟨(some 51), .call 21 [(.t 49), (.t 50)], none⟩, ⟨(some 52), .v (.un .not (.t 51)), none⟩, ⟨(some 53), .v (.mov (.t 52)), none⟩, ⟨(some 54), .v (.mov (.t 10)), (some (53, false))⟩, ⟨(some 55), .v (.mov (.t 4)), (some (53, false))⟩, ⟨(some 56), .v (.beq true (.t 54) (.t 55)), (some (53, false))⟩, ⟨(some 57), .v (.pick (.t 53) (.c (.bool true)) (.t 56)), none⟩])
               (.cond (.t 57)
                (.seq
                 (.reg [⟨(some 2), .v (.mov (.c (.bool false))), none⟩])
                 .ret)
                .skip))
              (.seq
               (.reg [⟨(some 8), .v (.mov (.c (.int .i64 1))), none⟩])
               (.seq
                (.reg [⟨(some 58), .v (.load true 3 (.t 5)), none⟩, ⟨(some 59), .v (.mov (.t 8)), none⟩, ⟨(some 60), .call 23 [(.t 58), (.t 59)], none⟩, ⟨(some 8), .v (.mov (.t 60)), none⟩])
                (.seq
                 (.seq
                  (.reg [⟨(some 61), .v (.mov (.t 8)), none⟩, ⟨(some 62), .v (.bin .lss (.t 61) (.c (.int .i64 0))), none⟩])
                  (.cond (.t 62)
                   (.seq
                    (.reg [⟨(some 2), .v (.mov (.c (.bool false))), none⟩])
                    .ret)
                   .skip))
                 (.seq
                  (.seq
                   (.reg [⟨(some 63), .v (.mov (.t 8)), none⟩, ⟨(some 64), .v (.mov (.t 7)), none⟩, ⟨(some 65), .v (.bin .neq (.t 63) (.t 64)), none⟩])
                   (.cond (.t 65)
                    (.seq
                     (.reg [⟨(some 2), .v (.mov (.c (.bool false))), none⟩])
                     .ret)
                    .skip))
                  (.seq
                   (.reg [⟨(some 2), .v (.mov (.c (.bool true))), none⟩])
                   .ret))))))))))))))))))⟩
theorem e5 : rFunc Tryd.prog Tryd.f5 = some r5 := by kernel_rfl
end Go.Proofs.YtoappkfndnggnaaDoor.M
