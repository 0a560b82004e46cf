/-
  The resolved text of the functions, each tied to the program's own by the kernel.
-/
import Derived.Test.YtoappkfndnggnaaDoorProg
import Derived.Test.YtoappkfndnggnaaDoorFs
namespace Go.Proofs.YtoappkfndnggnaaDoor.M
open Go Go.RowKit
set_option maxRecDepth 100000

def r100 : RFunc := ⟨24, [],
 (.seq
  (.reg [⟨(some 8), .v (.mov (.c (.int .i64 0))), none⟩])
  (.block 0
   (.loop
    (.seq
     (.seq
      (.reg [⟨(some 9), .v (.mov (.t 8)), none⟩, ⟨(some 10), .v (.mov (.t 2)), none⟩, ⟨(some 11), .v (.bin .lss (.t 9) (.t 10)), none⟩])
      (.cond (.t 11)
       .skip
       (.exit 0)))
     (.seq
      (.block 1
       (.reg [⟨(some 14), .v (.mov (.t 0)), none⟩, ⟨(some 15), .v (.mov (.t 1)), none⟩, ⟨(some 16), .v (.mov (.t 8)), none⟩, ⟨(some 17), .v (.bin .add (.t 15) (.t 16)), none⟩, ⟨(some 18), .v (.mov (.t 3)), none⟩, ⟨(some 19), .v (.mov (.t 8)), none⟩, ⟨(some 20), .v (.bin .shr (.t 18) (.t 19)), none⟩, ⟨(some 21), .v (.bin .and (.t 20) (.c (.int .i64 1))), none⟩, ⟨(some 22), .v (.bin .eql (.t 21) (.c (.int .i64 1))), none⟩, ⟨(some 23), .v (.iaddr 1 (.t 14) (.t 17)), none⟩, ⟨none, .m (.store 1 (.t 23) (.t 22)), none⟩]))
      (.reg [⟨(some 12), .v (.mov (.t 8)), none⟩, ⟨(some 13), .v (.bin .add (.t 12) (.c (.int .i64 1))), none⟩, ⟨(some 8), .v (.mov (.t 13)), none⟩]))))))⟩
theorem e100 : rFunc Tryd.prog Tryd.f100 = some r100 := by kernel_rfl
def r63 : RFunc := ⟨62, [.cell true 7 4],
 (.seq
  (.reg [⟨(some 4), .m (.alloc [(.int .i64 0), (.int .i64 0), (.int .i64 0), (.int .i64 0), .nils, (.int .i64 0), .nils]), none⟩])
  (.seq
   (.reg [⟨(some 10), .v (.mov (.t 0)), none⟩, ⟨(some 11), .v (.len (.t 10)), none⟩, ⟨(some 12), .v (.mov (.t 1)), none⟩, ⟨(some 13), .call 90 [(.t 11), (.t 12)], none⟩, ⟨(some 5), .v (.mov (.t 13)), none⟩])
   (.seq
    (.reg [⟨(some 14), .v (.mov (.t 0)), none⟩, ⟨(some 15), .v (.len (.t 14)), none⟩, ⟨(some 16), .v (.mov (.t 5)), none⟩, ⟨(some 17), .v (.bin .mul (.t 15) (.t 16)), none⟩, ⟨(some 18), .m (.mks 1 1 [(.bool false)] (.t 17) (.t 17)), none⟩, ⟨(some 6), .v (.mov (.t 18)), none⟩])
    (.seq
     (.reg [⟨(some 19), .v (.mov (.t 0)), none⟩, ⟨(some 20), .v (.len (.t 19)), none⟩, ⟨(some 21), .v (.mov (.t 1)), none⟩, ⟨(some 22), .v (.bin .sub (.t 21) (.c (.int .i64 1))), none⟩, ⟨(some 23), .v (.mov (.t 5)), none⟩, ⟨(some 24), .v (.bin .shr (.t 22) (.t 23)), none⟩, ⟨(some 25), .v (.bin .add (.t 20) (.t 24)), none⟩, ⟨(some 26), .v (.bin .add (.t 25) (.c (.int .i64 1))), none⟩, ⟨(some 27), .m (.mks 1 1 [(.bool false)] (.t 26) (.t 26)), none⟩, ⟨(some 7), .v (.mov (.t 27)), none⟩])
     (.seq
      (.seq
       (.reg [⟨(some 28), .v (.mov (.t 0)), none⟩, ⟨(some 29), .v (.len (.t 28)), none⟩, ⟨(some 30), .v (.mov (.c (.int .i64 0))), none⟩])
       (.block 0
        (.loop
         (.seq
          (.reg [⟨(some 31), .v (.bin .lss (.t 30) (.t 29)), none⟩])
          (.seq
           (.cond (.t 31)
            .skip
            (.exit 0))
           (.seq
            (.block 1
             (.seq
              (.reg [⟨(some 32), .v (.mov (.t 30)), none⟩, ⟨(some 33), .v (.iaddr 1 (.t 28) (.t 30)), none⟩, ⟨(some 34), .v (.load false 1 (.t 33)), none⟩, ⟨(some 8), .v (.mov (.t 32)), none⟩, ⟨(some 9), .v (.mov (.t 34)), none⟩])
              (.seq
               (.reg [⟨(some 35), .v (.mov (.t 6)), none⟩, ⟨(some 36), .v (.mov (.t 8)), none⟩, ⟨(some 37), .v (.mov (.t 5)), none⟩, ⟨(some 38), .v (.bin .mul (.t 36) (.t 37)), none⟩, ⟨(some 39), .v (.mov (.t 5)), none⟩, ⟨(some 40), .v (.mov (.t 9)), none⟩, ⟨(some 41), .v (.mov (.t 5)), none⟩, ⟨(some 42), .v (.bin .shl (.c (.int .i64 1)) (.t 41)), none⟩, ⟨(some 43), .v (.bin .rem (.t 40) (.t 42)), none⟩, ⟨(some 44), .call 100 [(.t 35), (.t 38), (.t 39), (.t 43)], none⟩])
               (.reg [⟨(some 45), .v (.mov (.t 7)), none⟩, ⟨(some 46), .v (.mov (.t 9)), none⟩, ⟨(some 47), .v (.mov (.t 5)), none⟩, ⟨(some 48), .v (.bin .shr (.t 46) (.t 47)), none⟩, ⟨(some 49), .v (.mov (.t 8)), none⟩, ⟨(some 50), .v (.bin .add (.t 48) (.t 49)), none⟩, ⟨(some 51), .v (.iaddr 1 (.t 45) (.t 50)), none⟩, ⟨none, .m (.store 1 (.t 51) (.c (.bool true))), none⟩]))))
            (.reg [⟨(some 52), .v (.bin .add (.t 30) (.c (.int .i64 1))), none⟩, ⟨(some 30), .v (.mov (.t 52)), none⟩])))))))
      (.seq
       (.reg [⟨(some 53), .v (.mov (.t 0)), none⟩, ⟨(some 54), .v (.len (.t 53)), none⟩, ⟨(some 55), .v (.mov (.t 1)), none⟩, ⟨(some 56), .v (.mov (.t 5)), none⟩, ⟨(some 57), .v (.mov (.t 6)), none⟩, ⟨(some 58), .call 68 [(.t 57)], none⟩, ⟨(some 59), .v (.mov (.t 7)), none⟩, ⟨(some 60), .call 68 [(.t 59)], none⟩, ⟨(some 61), .v (.bld [(.int .i64 0), (.int .i64 0), (.int .i64 0), (.int .i64 0), .nils, (.int .i64 0), .nils] [(0, 1, (.t 54)), (1, 1, (.t 55)), (2, 1, (.t 56)), (3, 2, (.t 58)), (5, 2, (.t 60))]), none⟩, ⟨none, .m (.store 7 (.t 4) (.t 61)), none⟩])
       .ret))))))⟩
theorem e63 : rFunc Tryd.prog Tryd.f63 = some r63 := by kernel_rfl
def r44 : RFunc := ⟨42, [.t 2],
 (.seq
  (.reg [⟨(some 1), .m (.box (.t 0)), none⟩, ⟨(some 2), .v (.mov (.c (.bool false))), none⟩])
  (.seq
   (.seq
    (.reg [⟨(some 3), .v (.faddr 0 (.t 1)), none⟩, ⟨(some 4), .v (.load false 1 (.t 3)), none⟩, ⟨(some 5), .call 67 [(.t 4), (.c (.int .i64 0)), (.c (.int .i64 4096))], none⟩, ⟨(some 6), .v (.un .not (.t 5)), none⟩, ⟨(some 7), .v (.mov (.t 6)), none⟩, ⟨(some 8), .v (.faddr 1 (.t 1)), (some (7, false))⟩, ⟨(some 9), .v (.load false 1 (.t 8)), (some (7, false))⟩, ⟨(some 10), .v (.len (.t 9)), (some (7, false))⟩, ⟨(some 11), .v (.faddr 0 (.t 1)), (some (7, false))⟩, ⟨(some 12), .v (.load false 1 (.t 11)), (some (7, false))⟩, ⟨(some 13), .v (.bin .add (.t 12) (.c (.int .i64 15))), (some (7, false))⟩, ⟨(some 14), .v (.bin .quo (.t 13) (.c (.int .i64 16))), (some (7, false))⟩, ⟨(some 15), .v (.bin .neq (.t 10) (.t 14)), (some (7, false))⟩, ⟨(some 16), .v (.pick (.t 7) (.c (.bool true)) (.t 15)), none⟩, ⟨(some 17), .v (.mov (.t 16)), none⟩, ⟨(some 18), .v (.faddr 1 (.t 1)), (some (17, false))⟩, ⟨(some 19), .v (.load false 1 (.t 18)), (some (17, false))⟩, ⟨(some 20), .call 80 [(.t 19), (.c (.int .i64 0)), (.c (.int .i64 65535))], (some (17, false))⟩, ⟨(some 21), .v (.un .not (.t 20)), (some (17, false))⟩, ⟨(some 22), .v (.pick (.t 17) (.c (.bool true)) (.t 21)), none⟩])
    (.cond (.t 22)
     (.seq
      (.reg [⟨(some 2), .v (.mov (.c (.bool false))), none⟩])
      .ret)
     .skip))
   (.seq
    (.dreg (.fl ⟨(some 23), .v (.faddr 0 (.t 1)), none⟩ (.fl ⟨(some 24), .v (.load false 1 (.t 23)), none⟩ (.fl ⟨(some 25), .v (.bin .rem (.t 24) (.c (.int .i64 16))), none⟩ (.fl ⟨(some 26), .v (.bin .eql (.t 25) (.c (.int .i64 0))), none⟩ (.fl ⟨(some 27), .v (.mov (.t 26)), none⟩ (.fl ⟨(some 28), .v (.faddr 1 (.t 1)), (some (27, false))⟩ (.fl ⟨(some 29), .v (.load false 1 (.t 28)), (some (27, false))⟩ (.fl ⟨(some 30), .v (.faddr 1 (.t 1)), (some (27, false))⟩ (.fl ⟨(some 31), .v (.load false 1 (.t 30)), (some (27, false))⟩ (.fl ⟨(some 32), .v (.len (.t 31)), (some (27, false))⟩ (.fl ⟨(some 33), .v (.bin .sub (.t 32) (.c (.int .i64 1))), (some (27, false))⟩ (.fl ⟨(some 34), .v (.iaddr 1 (.t 29) (.t 33)), (some (27, false))⟩ (.fl ⟨(some 35), .v (.load false 1 (.t 34)), (some (27, false))⟩ (.fl ⟨(some 36), .v (.faddr 0 (.t 1)), (some (27, false))⟩ (.fl ⟨(some 37), .v (.load false 1 (.t 36)), (some (27, false))⟩ (.fl ⟨(some 38), .v (.bin .rem (.t 37) (.c (.int .i64 16))), (some (27, false))⟩ (.fl ⟨(some 39), .v (.bin .shr (.t 35) (.t 38)), (some (27, false))⟩ (.fl ⟨(some 40), .v (.bin .eql (.t 39) (.c (.int .i64 0))), (some (27, false))⟩ (.fl ⟨(some 41), .v (.pick (.t 27) (.c (.bool true)) (.t 40)), none⟩ (.fl ⟨(some 2), .v (.mov (.t 41)), none⟩ .done)))))))))))))))))))))
    .ret)))⟩
theorem e44 : rFunc Tryd.prog Tryd.f44 = some r44 := by kernel_rfl
def r56 : RFunc := ⟨92, [.t 2],
 (.seq
  (.reg [⟨(some 1), .m (.box (.t 0)), none⟩, ⟨(some 2), .v (.mov (.c (.bool false))), none⟩])
  (.seq
   (.seq
    (.dreg (.fl ⟨(some 5), .v (.faddr 0 (.t 1)), none⟩ (.fl ⟨(some 6), .v (.load false 1 (.t 5)), none⟩ (.nx ⟨(some 7), .call 67 [(.t 6), (.c (.int .i64 0)), (.c (.int .i64 60))], none⟩ (.fl ⟨(some 8), .v (.un .not (.t 7)), none⟩ (.fl ⟨(some 9), .v (.mov (.t 8)), none⟩ (.fl ⟨(some 10), .v (.faddr 1 (.t 1)), (some (9, false))⟩ (.fl ⟨(some 11), .v (.load false 1 (.t 10)), (some (9, false))⟩ (.nx ⟨(some 12), .call 89 [(.t 11)], (some (9, false))⟩ (.fl ⟨(some 13), .v (.un .not (.t 12)), (some (9, false))⟩ (.fl ⟨(some 14), .v (.pick (.t 9) (.c (.bool true)) (.t 13)), none⟩ (.fl ⟨(some 15), .v (.mov (.t 14)), none⟩ (.fl ⟨(some 16), .v (.faddr 2 (.t 1)), (some (15, false))⟩ (.fl ⟨(some 17), .v (.load false 1 (.t 16)), (some (15, false))⟩ (.fl ⟨(some 18), .v (.faddr 0 (.t 1)), (some (15, false))⟩ (.fl ⟨(some 19), .v (.load false 1 (.t 18)), (some (15, false))⟩ (.fl ⟨(some 20), .v (.faddr 1 (.t 1)), (some (15, false))⟩ (.fl ⟨(some 21), .v (.load false 1 (.t 20)), (some (15, false))⟩ (.nx ⟨(some 22), .call 90 [(.t 19), (.t 21)], (some (15, false))⟩ (.fl ⟨(some 23), .v (.bin .neq (.t 17) (.t 22)), (some (15, false))⟩ (.fl ⟨(some 24), .v (.pick (.t 15) (.c (.bool true)) (.t 23)), none⟩ .done)))))))))))))))))))))
    (.cond (.t 24)
     (.seq
      (.reg [⟨(some 2), .v (.mov (.c (.bool false))), none⟩])
      .ret)
     .skip))
   (.seq
    (.seq
     (.dreg (.fl ⟨(some 25), .v (.faddr 3 (.t 1)), none⟩ (.fl ⟨(some 26), .v (.load true 2 (.t 25)), none⟩ (.nx ⟨(some 27), .call 44 [(.t 26)], none⟩ (.fl ⟨(some 28), .v (.un .not (.t 27)), none⟩ (.fl ⟨(some 29), .v (.mov (.t 28)), none⟩ (.fl ⟨(some 30), .v (.faddr 5 (.t 1)), (some (29, false))⟩ (.fl ⟨(some 31), .v (.load true 2 (.t 30)), (some (29, false))⟩ (.nx ⟨(some 32), .call 44 [(.t 31)], (some (29, false))⟩ (.fl ⟨(some 33), .v (.un .not (.t 32)), (some (29, false))⟩ (.fl ⟨(some 34), .v (.pick (.t 29) (.c (.bool true)) (.t 33)), none⟩ (.fl ⟨(some 35), .v (.mov (.t 34)), none⟩ (.fl ⟨(some 36), .v (.faddr 3 (.t 1)), (some (35, false))⟩ (.fl ⟨(some 37), .v (.faddr 0 (.t 36)), (some (35, false))⟩ (.fl ⟨(some 38), .v (.load false 1 (.t 37)), (some (35, false))⟩ (.fl ⟨(some 39), .v (.faddr 0 (.t 1)), (some (35, false))⟩ (.fl ⟨(some 40), .v (.load false 1 (.t 39)), (some (35, false))⟩ (.fl ⟨(some 41), .v (.faddr 2 (.t 1)), (some (35, false))⟩ (.fl ⟨(some 42), .v (.load false 1 (.t 41)), (some (35, false))⟩ (.fl ⟨(some 43), .v (.bin .mul (.t 40) (.t 42)), (some (35, false))⟩ (.fl ⟨(some 44), .v (.bin .neq (.t 38) (.t 43)), (some (35, false))⟩ (.fl ⟨(some 45), .v (.pick (.t 35) (.c (.bool true)) (.t 44)), none⟩ (.fl ⟨(some 46), .v (.mov (.t 45)), none⟩ (.fl ⟨(some 47), .v (.faddr 5 (.t 1)), (some (46, false))⟩ (.fl ⟨(some 48), .v (.faddr 0 (.t 47)), (some (46, false))⟩ (.fl ⟨(some 49), .v (.load false 1 (.t 48)), (some (46, false))⟩ (.fl ⟨(some 50), .v (.faddr 0 (.t 1)), (some (46, false))⟩ (.fl ⟨(some 51), .v (.load false 1 (.t 50)), (some (46, false))⟩ (.fl ⟨(some 52), .v (.faddr 1 (.t 1)), (some (46, false))⟩ (.fl ⟨(some 53), .v (.load false 1 (.t 52)), (some (46, false))⟩ (.fl ⟨(some 54), .v (.bin .sub (.t 53) (.c (.int .i64 1))), (some (46, false))⟩ (.fl ⟨(some 55), .v (.faddr 2 (.t 1)), (some (46, false))⟩ (.fl ⟨(some 56), .v (.load false 1 (.t 55)), (some (46, false))⟩ (.fl ⟨(some 57), .v (.bin .shr (.t 54) (.t 56)), (some (46, false))⟩ (.fl ⟨(some 58), .v (.bin .add (.t 51) (.t 57)), (some (46, false))⟩ (.fl ⟨(some 59), .v (.bin .add (.t 58) (.c (.int .i64 1))), (some (46, false))⟩ (.fl ⟨(some 60), .v (.bin .neq (.t 49) (.t 59)), (some (46, false))⟩ (.fl ⟨(some 61), .v (.pick (.t 46) (.c (.bool true)) (.t 60)), none⟩ .done))))))))))))))))))))))))))))))))))))))
     (.cond (.t 61)
      (.seq
       (.reg [⟨(some 2), .v (.mov (.c (.bool false))), none⟩])
       .ret)
      .skip))
    (.seq
     (.reg [⟨(some 62), .v (.load true 7 (.t 1)), none⟩, ⟨(some 63), .call 58 [(.t 62)], none⟩, ⟨(some 3), .v (.mov (.t 63)), none⟩])
     (.seq
      (.seq
       (.reg [⟨(some 64), .v (.mov (.t 3)), none⟩, ⟨(some 65), .v (.len (.t 64)), none⟩, ⟨(some 66), .v (.faddr 0 (.t 1)), none⟩, ⟨(some 67), .v (.load false 1 (.t 66)), none⟩, ⟨(some 68), .v (.bin .neq (.t 65) (.t 67)), none⟩, ⟨(some 69), .v (.mov (.t 68)), none⟩, ⟨(some 70), .v (.mov (.t 3)), (some (69, false))⟩, ⟨(some 71), .v (.faddr 1 (.t 1)), (some (69, false))⟩, ⟨(some 72), .v (.load false 1 (.t 71)), (some (69, false))⟩, ⟨(some 73), .call 62 [(.t 70), (.t 72)], (some (69, false))⟩, ⟨(some 74), .v (.un .not (.t 73)), (some (69, false))⟩, ⟨(some 75), .v (.pick (.t 69) (.c (.bool true)) (.t 74)), none⟩])
       (.cond (.t 75)
        (.seq
         (.reg [⟨(some 2), .v (.mov (.c (.bool false))), none⟩])
         .ret)
        .skip))
      (.seq
       (.reg [⟨(some 76), .v (.mov (.t 3)), none⟩, ⟨(some 77), .v (.faddr 1 (.t 1)), none⟩, ⟨(some 78), .v (.load false 1 (.t 77)), none⟩, ⟨(some 79), .call 63 [(.t 76), (.t 78)], none⟩, ⟨(some 4), .m (.alloc [(.int .i64 0), (.int .i64 0), (.int .i64 0), (.int .i64 0), .nils, (.int .i64 0), .nils]), none⟩, ⟨none, .m (.store 7 (.t 4) (.t 79)), none⟩])
       (.seq
        (.reg [⟨(some 80), .v (.faddr 3 (.t 1)), none⟩, ⟨(some 81), .v (.load true 2 (.t 80)), none⟩, ⟨(some 82), .v (.faddr 3 (.t 4)), none⟩, ⟨(some 83), .v (.load true 2 (.t 82)), none⟩, ⟨(some 84), .call 91 [(.t 81), (.t 83)], none⟩, ⟨(some 85), .v (.mov (.t 84)), none⟩, ⟨(some 86), .v (.faddr 5 (.t 1)), (some (85, true))⟩, ⟨(some 87), .v (.load true 2 (.t 86)), (some (85, true))⟩, ⟨(some 88), .v (.faddr 5 (.t 4)), (some (85, true))⟩, ⟨(some 89), .v (.load true 2 (.t 88)), (some (85, true))⟩, ⟨(some 90), .call 91 [(.t 87), (.t 89)], (some (85, true))⟩, ⟨(some 91), .v (.pick (.t 85) (.t 90) (.c (.bool false))), none⟩, ⟨(some 2), .v (.mov (.t 91)), none⟩])
        .ret)))))))⟩
theorem e56 : rFunc Tryd.prog Tryd.f56 = some r56 := by kernel_rfl
end Go.Proofs.YtoappkfndnggnaaDoor.M
