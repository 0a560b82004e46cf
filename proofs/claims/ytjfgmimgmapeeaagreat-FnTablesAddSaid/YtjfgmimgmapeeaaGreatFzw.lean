/-
  The resolved text of the functions, each tied to the program's own by the kernel.
-/
import Derived.Test.YtjfgmimgmapeeaaGreatProg
import Derived.Test.YtjfgmimgmapeeaaGreatFzu
namespace Go.Proofs.YtjfgmimgmapeeaaGreat.M
open Go Go.RowKit
set_option maxRecDepth 100000

def r26 : RFunc := ⟨17, [.t 4, .t 5],
 (.seq
  (.reg [⟨(some 2), .m (.box (.t 0)), none⟩, ⟨(some 4), .v (.mov (.c (.int .i64 0))), none⟩, ⟨(some 5), .v (.mov (.c (.bool false))), none⟩])
  (.seq
   (.seq
    (.reg [⟨(some 6), .v (.load true 4 (.t 2)), none⟩, ⟨(some 7), .call 55 [(.t 6)], none⟩, ⟨(some 8), .v (.un .not (.t 7)), none⟩, ⟨(some 9), .v (.mov (.t 8)), none⟩, ⟨(some 10), .v (.mov (.t 1)), (some (9, false))⟩, ⟨(some 11), .call 75 [(.t 10)], (some (9, false))⟩, ⟨(some 12), .v (.un .not (.t 11)), (some (9, false))⟩, ⟨(some 13), .v (.pick (.t 9) (.c (.bool true)) (.t 12)), none⟩])
    (.cond (.t 13)
     (.seq
      (.reg [⟨(some 4), .v (.mov (.c (.int .i64 0))), none⟩, ⟨(some 5), .v (.mov (.c (.bool false))), none⟩])
      .ret)
     .skip))
   (.seq
    (.reg [⟨(some 14), .v (.load true 4 (.t 2)), none⟩, ⟨(some 15), .v (.mov (.t 1)), none⟩, ⟨(some 16), .call 59 [(.t 14), (.t 15)], none⟩, ⟨(some 4), .v (.mov (.t 16)), none⟩, ⟨(some 5), .v (.mov (.c (.bool true))), none⟩])
    .ret)))⟩
theorem e26 : rFunc Tryz.prog Tryz.f26 = some r26 := by kernel_rfl
def r25 : RFunc := ⟨16, [.t 4, .t 5],
 (.seq
  (.reg [⟨(some 2), .m (.box (.t 0)), none⟩, ⟨(some 4), .v (.mov (.c (.int .i64 0))), none⟩, ⟨(some 5), .v (.mov (.c (.bool false))), none⟩])
  (.seq
   (.seq
    (.reg [⟨(some 6), .v (.load true 4 (.t 2)), none⟩, ⟨(some 7), .call 34 [(.t 6)], none⟩, ⟨(some 8), .v (.un .not (.t 7)), none⟩, ⟨(some 9), .v (.mov (.t 8)), none⟩, ⟨(some 10), .v (.mov (.t 1)), (some (9, false))⟩, ⟨(some 11), .call 74 [(.t 10)], (some (9, false))⟩, ⟨(some 12), .v (.un .not (.t 11)), (some (9, false))⟩, ⟨(some 13), .v (.pick (.t 9) (.c (.bool true)) (.t 12)), none⟩])
    (.cond (.t 13)
     (.seq
      (.reg [⟨(some 4), .v (.mov (.c (.int .i64 0))), none⟩, ⟨(some 5), .v (.mov (.c (.bool false))), none⟩])
      .ret)
     .skip))
   (.seq
    (.reg [⟨(some 14), .v (.mov (.t 1)), none⟩, ⟨(some 15), .call 64 [(.t 2), (.t 14)], none⟩, ⟨(some 4), .v (.mov (.t 15)), none⟩, ⟨(some 5), .v (.mov (.c (.bool true))), none⟩])
    .ret)))⟩
theorem e25 : rFunc Tryz.prog Tryz.f25 = some r25 := by kernel_rfl
def r38 : RFunc := ⟨26, [.t 4],
 (.seq
  (.reg [⟨(some 4), .v (.mov (.c (.bool false))), none⟩])
  (.seq
   (.seq
    (.reg [⟨(some 6), .v (.mov (.t 0)), none⟩, ⟨(some 7), .v (.len (.t 6)), none⟩, ⟨(some 8), .v (.mov (.t 1)), none⟩, ⟨(some 9), .v (.len (.t 8)), none⟩, ⟨(some 10), .v (.bin .neq (.t 7) (.t 9)), none⟩])
    (.cond (.t 10)
     (.seq
      (.reg [⟨(some 4), .v (.mov (.c (.bool false))), none⟩])
      .ret)
     .skip))
   (.seq
    (.seq
     (.reg [⟨(some 11), .v (.mov (.t 0)), none⟩, ⟨(some 12), .v (.len (.t 11)), none⟩, ⟨(some 13), .v (.mov (.c (.int .i64 0))), none⟩])
     (.block 0
      (.loop
       (.seq
        (.reg [⟨(some 14), .v (.bin .lss (.t 13) (.t 12)), none⟩])
        (.seq
         (.cond (.t 14)
          .skip
          (.exit 0))
         (.seq
          (.block 1
           (.seq
            (.reg [⟨(some 15), .v (.mov (.t 13)), none⟩, ⟨(some 5), .v (.mov (.t 15)), none⟩])
            (.seq
             (.dreg (.fl ⟨(some 16), .v (.mov (.t 0)), none⟩ (.fl ⟨(some 17), .v (.mov (.t 5)), none⟩ (.fl ⟨(some 18), .v (.iaddr 1 (.t 16) (.t 17)), none⟩ (.fl ⟨(some 19), .v (.load false 1 (.t 18)), none⟩ (.fl ⟨(some 20), .v (.mov (.t 1)), none⟩ (.fl ⟨(some 21), .v (.mov (.t 5)), none⟩ (.fl ⟨(some 22), .v (.iaddr 1 (.t 20) (.t 21)), none⟩ (.fl ⟨(some 23), .v (.load false 1 (.t 22)), none⟩ (.fl ⟨(some 24), .v (.bin .neq (.t 19) (.t 23)), none⟩ .done))))))))))
             (.cond (.t 24)
              (.seq
               (.reg [⟨(some 4), .v (.mov (.c (.bool false))), none⟩])
               .ret)
              .skip))))
          (.reg [⟨(some 25), .v (.bin .add (.t 13) (.c (.int .i64 1))), none⟩, ⟨(some 13), .v (.mov (.t 25)), none⟩])))))))
    (.seq
     (.reg [⟨(some 4), .v (.mov (.c (.bool true))), none⟩])
     .ret))))⟩
theorem e38 : rFunc Tryz.prog Tryz.f38 = some r38 := by kernel_rfl
def r23 : RFunc := ⟨31, [.t 4],
 (.seq
  (.reg [⟨(some 2), .m (.box (.t 0)), none⟩, ⟨(some 3), .m (.box (.t 1)), none⟩, ⟨(some 4), .v (.mov (.c (.bool false))), none⟩])
  (.seq
   (.reg [⟨(some 5), .v (.faddr 0 (.t 2)), none⟩, ⟨(some 6), .v (.load false 1 (.t 5)), none⟩, ⟨(some 7), .v (.faddr 0 (.t 3)), none⟩, ⟨(some 8), .v (.load false 1 (.t 7)), none⟩, ⟨(some 9), .v (.bin .eql (.t 6) (.t 8)), none⟩, ⟨(some 10), .v (.mov (.t 9)), none⟩, ⟨(some 11), .v (.faddr 1 (.t 2)), (some (10, true))⟩, ⟨(some 12), .v (.load false 1 (.t 11)), (some (10, true))⟩, ⟨(some 13), .v (.faddr 1 (.t 3)), (some (10, true))⟩, ⟨(some 14), .v (.load false 1 (.t 13)), (some (10, true))⟩, ⟨(some 15), .v (.bin .eql (.t 12) (.t 14)), (some (10, true))⟩, ⟨(some 16), .v (.pick (.t 10) (.t 15) (.c (.bool false))), none⟩, ⟨(some 17), .v (.mov (.t 16)), none⟩, ⟨(some 18), .v (.faddr 2 (.t 2)), (some (17, true))⟩, ⟨(some 19), .v (.load false 1 (.t 18)), (some (17, true))⟩, ⟨(some 20), .v (.faddr 2 (.t 3)), (some (17, true))⟩, ⟨(some 21), .v (.load false 1 (.t 20)), (some (17, true))⟩, ⟨(some 22), .v (.bin .eql (.t 19) (.t 21)), (some (17, true))⟩, ⟨(some 23), .v (.pick (.t 17) (.t 22) (.c (.bool false))), none⟩, ⟨(some 24), .v (.mov (.t 23)), none⟩, ⟨(some 25), .v (.faddr 3 (.t 2)), (some (24, true))⟩, ⟨(some 26), .v (.load false 1 (.t 25)), (some (24, true))⟩, ⟨(some 27), .v (.faddr 3 (.t 3)), (some (24, true))⟩, ⟨(some 28), .v (.load false 1 (.t 27)), (some (24, true))⟩, ⟨(some 29), .call 38 [(.t 26), (.t 28)], (some (24, true))⟩, ⟨(some 30), .v (.pick (.t 24) (.t 29) (.c (.bool false))), none⟩, ⟨(some 4), .v (.mov (.t 30)), none⟩])
   .ret))⟩
theorem e23 : rFunc Tryz.prog Tryz.f23 = some r23 := by kernel_rfl
def r22 : RFunc := ⟨68, [.cell true 4 4, .t 5],
 (.seq
  (.reg [⟨(some 2), .m (.box (.t 0)), none⟩, ⟨(some 3), .m (.box (.t 1)), none⟩, ⟨(some 4), .m (.alloc [(.int .i64 0), (.int .i64 0), (.int .i64 0), .nils]), none⟩, ⟨(some 5), .v (.mov (.c (.bool false))), none⟩])
  (.seq
   (.seq
    (.reg [⟨(some 9), .v (.load true 4 (.t 2)), none⟩, ⟨(some 10), .call 55 [(.t 9)], none⟩, ⟨(some 11), .v (.un .not (.t 10)), none⟩, ⟨(some 12), .v (.mov (.t 11)), none⟩, ⟨(some 13), .v (.load true 4 (.t 3)), (some (12, false))⟩, ⟨(some 14), .call 55 [(.t 13)], (some (12, false))⟩, ⟨(some 15), .v (.un .not (.t 14)), (some (12, false))⟩, ⟨(some 16), .v (.pick (.t 12) (.c (.bool true)) (.t 15)), none⟩, ⟨(some 17), .v (.mov (.t 16)), none⟩, ⟨(some 18), .v (.faddr 0 (.t 2)), (some (17, false))⟩, ⟨(some 19), .v (.load false 1 (.t 18)), (some (17, false))⟩, ⟨(some 20), .v (.faddr 0 (.t 3)), (some (17, false))⟩, ⟨(some 21), .v (.load false 1 (.t 20)), (some (17, false))⟩, ⟨(some 22), .v (.bin .neq (.t 19) (.t 21)), (some (17, false))⟩, ⟨(some 23), .v (.pick (.t 17) (.c (.bool true)) (.t 22)), none⟩, ⟨(some 24), .v (.mov (.t 23)), none⟩, ⟨(some 25), .v (.faddr 1 (.t 2)), (some (24, false))⟩, ⟨(some 26), .v (.load false 1 (.t 25)), (some (24, false))⟩, ⟨(some 27), .v (.faddr 1 (.t 3)), (some (24, false))⟩, ⟨(some 28), .v (.load false 1 (.t 27)), (some (24, false))⟩, ⟨(some 29), .v (.bin .neq (.t 26) (.t 28)), (some (24, false))⟩, ⟨(some 30), .v (.pick (.t 24) (.c (.bool true)) (.t 29)), none⟩, ⟨(some 31), .v (.mov (.t 30)), none⟩, ⟨(some 32), .v (.faddr 2 (.t 2)), (some (31, false))⟩, ⟨(some 33), .v (.load false 1 (.t 32)), (some (31, false))⟩, ⟨(some 34), .v (.faddr 2 (.t 3)), (some (31, false))⟩, ⟨(some 35), .v (.load false 1 (.t 34)), (some (31, false))⟩, ⟨(some 36), .v (.bin .neq (.t 33) (.t 35)), (some (31, false))⟩, ⟨(some 37), .v (.pick (.t 31) (.c (.bool true)) (.t 36)), none⟩])
    (.cond (.t 37)
     (.seq
      (.reg [⟨(some 38), .v (.bld [(.int .i64 0), (.int .i64 0), (.int .i64 0), .nils] []), none⟩, ⟨none, .m (.store 4 (.t 4) (.t 38)), none⟩, ⟨(some 5), .v (.mov (.c (.bool false))), none⟩])
      .ret)
     .skip))
   (.seq
    (.reg [⟨(some 39), .v (.faddr 0 (.t 2)), none⟩, ⟨(some 40), .v (.load false 1 (.t 39)), none⟩, ⟨(some 41), .v (.faddr 1 (.t 2)), none⟩, ⟨(some 42), .v (.load false 1 (.t 41)), none⟩, ⟨(some 43), .v (.faddr 2 (.t 2)), none⟩, ⟨(some 44), .v (.load false 1 (.t 43)), none⟩, ⟨(some 45), .v (.bld [(.int .i64 0), (.int .i64 0), (.int .i64 0), .nils] [(0, 1, (.t 40)), (1, 1, (.t 42)), (2, 1, (.t 44))]), none⟩, ⟨(some 6), .m (.alloc [(.int .i64 0), (.int .i64 0), (.int .i64 0), .nils]), none⟩, ⟨none, .m (.store 4 (.t 6) (.t 45)), none⟩])
    (.seq
     (.seq
      (.reg [⟨(some 46), .v (.faddr 3 (.t 2)), none⟩, ⟨(some 47), .v (.load false 1 (.t 46)), none⟩, ⟨(some 48), .v (.len (.t 47)), none⟩, ⟨(some 49), .v (.mov (.c (.int .i64 0))), none⟩])
      (.block 0
       (.loop
        (.seq
         (.reg [⟨(some 50), .v (.bin .lss (.t 49) (.t 48)), none⟩])
         (.seq
          (.cond (.t 50)
           .skip
           (.exit 0))
          (.seq
           (.block 1
            (.seq
             (.reg [⟨(some 51), .v (.mov (.t 49)), none⟩, ⟨(some 52), .v (.iaddr 1 (.t 47) (.t 49)), none⟩, ⟨(some 53), .v (.load false 1 (.t 52)), none⟩, ⟨(some 7), .v (.mov (.t 51)), none⟩, ⟨(some 8), .v (.mov (.t 53)), none⟩])
             (.dreg (.fl ⟨(some 54), .v (.faddr 3 (.t 6)), none⟩ (.fl ⟨(some 56), .v (.mov (.t 8)), none⟩ (.fl ⟨(some 57), .v (.faddr 3 (.t 3)), none⟩ (.fl ⟨(some 59), .v (.mov (.t 7)), none⟩ (.both (.nx ⟨(some 55), .v (.load false 1 (.t 54)), none⟩ (.nx ⟨(some 58), .v (.load false 1 (.t 57)), none⟩ (.fl ⟨(some 60), .v (.iaddr 1 (.t 58) (.t 59)), none⟩ (.nx ⟨(some 61), .v (.load false 1 (.t 60)), none⟩ (.fl ⟨(some 62), .v (.bin .xor (.t 56) (.t 61)), none⟩ (.nx ⟨(some 63), .m (.bsl 1 1 [(.int .i64 0)] [(0, 1, (.t 62))]), none⟩ (.nx ⟨(some 64), .m (.app false 1 8 (.t 55) (.t 63)), none⟩ (.fl ⟨(some 65), .v (.faddr 3 (.t 6)), none⟩ (.nx ⟨none, .m (.store 1 (.t 65) (.t 64)), none⟩ .done))))))))) (.nx ⟨(some 58), .v (.load false 1 (.t 57)), none⟩ (.fl ⟨(some 60), .v (.iaddr 1 (.t 58) (.t 59)), none⟩ (.both (.nx ⟨(some 55), .v (.load false 1 (.t 54)), none⟩ (.nx ⟨(some 61), .v (.load false 1 (.t 60)), none⟩ (.fl ⟨(some 62), .v (.bin .xor (.t 56) (.t 61)), none⟩ (.nx ⟨(some 63), .m (.bsl 1 1 [(.int .i64 0)] [(0, 1, (.t 62))]), none⟩ (.nx ⟨(some 64), .m (.app false 1 8 (.t 55) (.t 63)), none⟩ (.fl ⟨(some 65), .v (.faddr 3 (.t 6)), none⟩ (.nx ⟨none, .m (.store 1 (.t 65) (.t 64)), none⟩ .done))))))) (.nx ⟨(some 61), .v (.load false 1 (.t 60)), none⟩ (.fl ⟨(some 62), .v (.bin .xor (.t 56) (.t 61)), none⟩ (.both (.nx ⟨(some 55), .v (.load false 1 (.t 54)), none⟩ (.nx ⟨(some 63), .m (.bsl 1 1 [(.int .i64 0)] [(0, 1, (.t 62))]), none⟩ (.nx ⟨(some 64), .m (.app false 1 8 (.t 55) (.t 63)), none⟩ (.fl ⟨(some 65), .v (.faddr 3 (.t 6)), none⟩ (.nx ⟨none, .m (.store 1 (.t 65) (.t 64)), none⟩ .done))))) (.nx ⟨(some 63), .m (.bsl 1 1 [(.int .i64 0)] [(0, 1, (.t 62))]), none⟩ (.nx ⟨(some 55), .v (.load false 1 (.t 54)), none⟩ (.nx ⟨(some 64), .m (.app false 1 8 (.t 55) (.t 63)), none⟩ (.fl ⟨(some 65), .v (.faddr 3 (.t 6)), none⟩ (.nx ⟨none, .m (.store 1 (.t 65) (.t 64)), none⟩ .done)))))))))))))))))))
           (.reg [⟨(some 66), .v (.bin .add (.t 49) (.c (.int .i64 1))), none⟩, ⟨(some 49), .v (.mov (.t 66)), none⟩])))))))
     (.seq
      (.reg [⟨(some 67), .v (.load true 4 (.t 6)), none⟩, ⟨none, .m (.store 4 (.t 4) (.t 67)), none⟩, ⟨(some 5), .v (.mov (.c (.bool true))), none⟩])
      .ret)))))⟩
theorem e22 : rFunc Tryz.prog Tryz.f22 = some r22 := by kernel_rfl
def r21 : RFunc := ⟨67, [.cell true 4 4, .t 5],
 (.seq
  (.reg [⟨(some 2), .m (.box (.t 0)), none⟩, ⟨(some 3), .m (.box (.t 1)), none⟩, ⟨(some 4), .m (.alloc [(.int .i64 0), (.int .i64 0), (.int .i64 0), .nils]), none⟩, ⟨(some 5), .v (.mov (.c (.bool false))), none⟩])
  (.seq
   (.seq
    (.reg [⟨(some 9), .v (.load true 4 (.t 2)), none⟩, ⟨(some 10), .call 34 [(.t 9)], none⟩, ⟨(some 11), .v (.un .not (.t 10)), none⟩, ⟨(some 12), .v (.mov (.t 11)), none⟩, ⟨(some 13), .v (.load true 4 (.t 3)), (some (12, false))⟩, ⟨(some 14), .call 34 [(.t 13)], (some (12, false))⟩, ⟨(some 15), .v (.un .not (.t 14)), (some (12, false))⟩, ⟨(some 16), .v (.pick (.t 12) (.c (.bool true)) (.t 15)), none⟩, ⟨(some 17), .v (.mov (.t 16)), none⟩, ⟨(some 18), .v (.faddr 0 (.t 2)), (some (17, false))⟩, ⟨(some 19), .v (.load false 1 (.t 18)), (some (17, false))⟩, ⟨(some 20), .v (.faddr 0 (.t 3)), (some (17, false))⟩, ⟨(some 21), .v (.load false 1 (.t 20)), (some (17, false))⟩, ⟨(some 22), .v (.bin .neq (.t 19) (.t 21)), (some (17, false))⟩, ⟨(some 23), .v (.pick (.t 17) (.c (.bool true)) (.t 22)), none⟩, ⟨(some 24), .v (.mov (.t 23)), none⟩, ⟨(some 25), .v (.faddr 1 (.t 2)), (some (24, false))⟩, ⟨(some 26), .v (.load false 1 (.t 25)), (some (24, false))⟩, ⟨(some 27), .v (.faddr 1 (.t 3)), (some (24, false))⟩, ⟨(some 28), .v (.load false 1 (.t 27)), (some (24, false))⟩, ⟨(some 29), .v (.bin .neq (.t 26) (.t 28)), (some (24, false))⟩, ⟨(some 30), .v (.pick (.t 24) (.c (.bool true)) (.t 29)), none⟩, ⟨(some 31), .v (.mov (.t 30)), none⟩, ⟨(some 32), .v (.faddr 2 (.t 2)), (some (31, false))⟩, ⟨(some 33), .v (.load false 1 (.t 32)), (some (31, false))⟩, ⟨(some 34), .v (.faddr 2 (.t 3)), (some (31, false))⟩, ⟨(some 35), .v (.load false 1 (.t 34)), (some (31, false))⟩, ⟨(some 36), .v (.bin .neq (.t 33) (.t 35)), (some (31, false))⟩, ⟨(some 37), .v (.pick (.t 31) (.c (.bool true)) (.t 36)), none⟩])
    (.cond (.t 37)
     (.seq
      (.reg [⟨(some 38), .v (.bld [(.int .i64 0), (.int .i64 0), (.int .i64 0), .nils] []), none⟩, ⟨none, .m (.store 4 (.t 4) (.t 38)), none⟩, ⟨(some 5), .v (.mov (.c (.bool false))), none⟩])
      .ret)
     .skip))
   (.seq
    (.dreg (.fl ⟨(some 39), .v (.faddr 0 (.t 2)), none⟩ (.fl ⟨(some 40), .v (.load false 1 (.t 39)), none⟩ (.fl ⟨(some 41), .v (.faddr 1 (.t 2)), none⟩ (.fl ⟨(some 42), .v (.load false 1 (.t 41)), none⟩ (.fl ⟨(some 43), .v (.faddr 2 (.t 2)), none⟩ (.fl ⟨(some 44), .v (.load false 1 (.t 43)), none⟩ (.fl ⟨(some 45), .v (.faddr 3 (.t 2)), none⟩ (.fl ⟨(some 46), .v (.load false 1 (.t 45)), none⟩ (.both (.nx ⟨(some 47), .call 72 [(.t 46)], none⟩ (.fl ⟨(some 48), .v (.bld [(.int .i64 0), (.int .i64 0), (.int .i64 0), .nils] [(0, 1, (.t 40)), (1, 1, (.t 42)), (2, 1, (.t 44)), (3, 1, (.t 47))]), none⟩ (.nx ⟨(some 6), .m (.alloc [(.int .i64 0), (.int .i64 0), (.int .i64 0), .nils]), none⟩ (.nx ⟨none, .m (.store 4 (.t 6) (.t 48)), none⟩ .done)))) (.nx ⟨(some 6), .m (.alloc [(.int .i64 0), (.int .i64 0), (.int .i64 0), .nils]), none⟩ (.nx ⟨(some 47), .call 72 [(.t 46)], none⟩ (.fl ⟨(some 48), .v (.bld [(.int .i64 0), (.int .i64 0), (.int .i64 0), .nils] [(0, 1, (.t 40)), (1, 1, (.t 42)), (2, 1, (.t 44)), (3, 1, (.t 47))]), none⟩ (.nx ⟨none, .m (.store 4 (.t 6) (.t 48)), none⟩ .done))))))))))))))
    (.seq
     (.seq
      (.reg [⟨(some 49), .v (.faddr 3 (.t 3)), none⟩, ⟨(some 50), .v (.load false 1 (.t 49)), none⟩, ⟨(some 51), .v (.len (.t 50)), none⟩, ⟨(some 52), .v (.mov (.c (.int .i64 0))), none⟩])
      (.block 0
       (.loop
        (.seq
         (.reg [⟨(some 53), .v (.bin .lss (.t 52) (.t 51)), none⟩])
         (.seq
          (.cond (.t 53)
           .skip
           (.exit 0))
          (.seq
           (.block 1
            (.seq
             (.reg [⟨(some 54), .v (.mov (.t 52)), none⟩, ⟨(some 55), .v (.iaddr 1 (.t 50) (.t 52)), none⟩, ⟨(some 56), .v (.load false 1 (.t 55)), none⟩, ⟨(some 7), .v (.mov (.t 54)), none⟩, ⟨(some 8), .v (.mov (.t 56)), none⟩])
             (.reg [⟨(some 57), .v (.faddr 3 (.t 6)), none⟩, ⟨(some 58), .v (.load false 1 (.t 57)), none⟩, ⟨(some 59), .v (.mov (.t 7)), none⟩, ⟨(some 60), .v (.iaddr 1 (.t 58) (.t 59)), none⟩, ⟨(some 61), .v (.load false 1 (.t 60)), none⟩, ⟨(some 62), .v (.mov (.t 8)), none⟩, ⟨(some 63), .v (.bin .xor (.t 61) (.t 62)), none⟩, ⟨(some 64), .v (.iaddr 1 (.t 58) (.t 59)), none⟩, ⟨none, .m (.store 1 (.t 64) (.t 63)), none⟩])))
           (.reg [⟨(some 65), .v (.bin .add (.t 52) (.c (.int .i64 1))), none⟩, ⟨(some 52), .v (.mov (.t 65)), none⟩])))))))
     (.seq
      (.reg [⟨(some 66), .v (.load true 4 (.t 6)), none⟩, ⟨none, .m (.store 4 (.t 4) (.t 66)), none⟩, ⟨(some 5), .v (.mov (.c (.bool true))), none⟩])
      .ret)))))⟩
theorem e21 : rFunc Tryz.prog Tryz.f21 = some r21 := by kernel_rfl
end Go.Proofs.YtjfgmimgmapeeaaGreat.M
