/-
  The resolved text of the functions, each tied to the program's own by the kernel.
-/
import Derived.Test.YtdkgoaiodjokpaaGreatProg
import Derived.Test.YtdkgoaiodjokpaaGreatM21
namespace Go.Proofs.YtdkgoaiodjokpaaGreat.M
open Go Go.RowKit
set_option maxRecDepth 100000

def r138 : RFunc := ⟨15, [.t 6],
 (.seq
  (.reg [⟨(some 6), .v (.mov (.c (.bool false))), none⟩])
  (.seq
   (.reg [⟨(some 7), .v (.mov (.t 0)), none⟩, ⟨(some 8), .v (.mov (.t 1)), none⟩, ⟨(some 9), .v (.bin .geq (.t 7) (.t 8)), none⟩, ⟨(some 10), .v (.mov (.t 9)), none⟩, ⟨(some 11), .v (.mov (.t 0)), (some (10, true))⟩, ⟨(some 12), .v (.mov (.t 2)), (some (10, true))⟩, ⟨(some 13), .v (.bin .leq (.t 11) (.t 12)), (some (10, true))⟩, ⟨(some 14), .v (.pick (.t 10) (.t 13) (.c (.bool false))), none⟩, ⟨(some 6), .v (.mov (.t 14)), none⟩])
   .ret))⟩
theorem e138 : rFunc Tryz.prog Tryz.f138 = some r138 := by kernel_rfl
def r109 : RFunc := ⟨21, [.t 6],
 (.seq
  (.reg [⟨(some 6), .v (.mov (.c (.bool false))), none⟩])
  (.seq
   (.seq
    (.reg [⟨(some 9), .v (.mov (.t 0)), none⟩, ⟨(some 10), .v (.len (.t 9)), none⟩, ⟨(some 11), .v (.mov (.c (.int .i64 0))), none⟩])
    (.block 0
     (.loop
      (.seq
       (.reg [⟨(some 12), .v (.bin .lss (.t 11) (.t 10)), none⟩])
       (.seq
        (.cond (.t 12)
         .skip
         (.exit 0))
        (.seq
         (.block 1
          (.seq
           (.reg [⟨(some 13), .v (.iaddr 1 (.t 9) (.t 11)), none⟩, ⟨(some 14), .v (.load false 1 (.t 13)), none⟩, ⟨(some 8), .v (.mov (.t 14)), none⟩])
           (.seq
            (.reg [⟨(some 15), .v (.mov (.t 8)), none⟩, ⟨(some 16), .v (.mov (.t 1)), none⟩, ⟨(some 17), .v (.mov (.t 2)), none⟩, ⟨(some 18), .call 138 [(.t 15), (.t 16), (.t 17)], none⟩, ⟨(some 19), .v (.un .not (.t 18)), none⟩])
            (.cond (.t 19)
             (.seq
              (.reg [⟨(some 6), .v (.mov (.c (.bool false))), none⟩])
              .ret)
             .skip))))
         (.reg [⟨(some 20), .v (.bin .add (.t 11) (.c (.int .i64 1))), none⟩, ⟨(some 11), .v (.mov (.t 20)), none⟩])))))))
   (.seq
    (.reg [⟨(some 6), .v (.mov (.c (.bool true))), none⟩])
    .ret)))⟩
theorem e109 : rFunc Tryz.prog Tryz.f109 = some r109 := by kernel_rfl
def r128 : RFunc := ⟨42, [.t 2],
 (.seq
  (.reg [⟨(some 1), .m (.box (.t 0)), none⟩, ⟨(some 2), .v (.mov (.c (.bool false))), none⟩])
  (.seq
   (.seq
    (.reg [⟨(some 3), .v (.faddr 0 (.t 1)), none⟩, ⟨(some 4), .v (.load false 1 (.t 3)), none⟩, ⟨(some 5), .call 138 [(.t 4), (.c (.int .i64 0)), (.c (.int .i64 4096))], none⟩, ⟨(some 6), .v (.un .not (.t 5)), none⟩, ⟨(some 7), .v (.mov (.t 6)), none⟩, ⟨(some 8), .v (.faddr 1 (.t 1)), (some (7, false))⟩, ⟨(some 9), .v (.load false 1 (.t 8)), (some (7, false))⟩, ⟨(some 10), .v (.len (.t 9)), (some (7, false))⟩, ⟨(some 11), .v (.faddr 0 (.t 1)), (some (7, false))⟩, ⟨(some 12), .v (.load false 1 (.t 11)), (some (7, false))⟩, ⟨(some 13), .v (.bin .add (.t 12) (.c (.int .i64 15))), (some (7, false))⟩, ⟨(some 14), .v (.bin .quo (.t 13) (.c (.int .i64 16))), (some (7, false))⟩, ⟨(some 15), .v (.bin .neq (.t 10) (.t 14)), (some (7, false))⟩, ⟨(some 16), .v (.pick (.t 7) (.c (.bool true)) (.t 15)), none⟩, ⟨(some 17), .v (.mov (.t 16)), none⟩, ⟨(some 18), .v (.faddr 1 (.t 1)), (some (17, false))⟩, ⟨(some 19), .v (.load false 1 (.t 18)), (some (17, false))⟩, ⟨(some 20), .call 109 [(.t 19), (.c (.int .i64 0)), (.c (.int .i64 65535))], (some (17, false))⟩, ⟨(some 21), .v (.un .not (.t 20)), (some (17, false))⟩, ⟨(some 22), .v (.pick (.t 17) (.c (.bool true)) (.t 21)), none⟩])
    (.cond (.t 22)
     (.seq
      (.reg [⟨(some 2), .v (.mov (.c (.bool false))), none⟩])
      .ret)
     .skip))
   (.seq
    (.dreg (.fl ⟨(some 23), .v (.faddr 0 (.t 1)), none⟩ (.fl ⟨(some 24), .v (.load false 1 (.t 23)), none⟩ (.fl ⟨(some 25), .v (.bin .rem (.t 24) (.c (.int .i64 16))), none⟩ (.fl ⟨(some 26), .v (.bin .eql (.t 25) (.c (.int .i64 0))), none⟩ (.fl ⟨(some 27), .v (.mov (.t 26)), none⟩ (.fl ⟨(some 28), .v (.faddr 1 (.t 1)), (some (27, false))⟩ (.fl ⟨(some 29), .v (.load false 1 (.t 28)), (some (27, false))⟩ (.fl ⟨(some 30), .v (.faddr 1 (.t 1)), (some (27, false))⟩ (.fl ⟨(some 31), .v (.load false 1 (.t 30)), (some (27, false))⟩ (.fl ⟨(some 32), .v (.len (.t 31)), (some (27, false))⟩ (.fl ⟨(some 33), .v (.bin .sub (.t 32) (.c (.int .i64 1))), (some (27, false))⟩ (.fl ⟨(some 34), .v (.iaddr 1 (.t 29) (.t 33)), (some (27, false))⟩ (.fl ⟨(some 35), .v (.load false 1 (.t 34)), (some (27, false))⟩ (.fl ⟨(some 36), .v (.faddr 0 (.t 1)), (some (27, false))⟩ (.fl ⟨(some 37), .v (.load false 1 (.t 36)), (some (27, false))⟩ (.fl ⟨(some 38), .v (.bin .rem (.t 37) (.c (.int .i64 16))), (some (27, false))⟩ (.fl ⟨(some 39), .v (.bin .shr (.t 35) (.t 38)), (some (27, false))⟩ (.fl ⟨(some 40), .v (.bin .eql (.t 39) (.c (.int .i64 0))), (some (27, false))⟩ (.fl ⟨(some 41), .v (.pick (.t 27) (.c (.bool true)) (.t 40)), none⟩ (.fl ⟨(some 2), .v (.mov (.t 41)), none⟩ .done)))))))))))))))))))))
    .ret)))⟩
theorem e128 : rFunc Tryz.prog Tryz.f128 = some r128 := by kernel_rfl
def r124 : RFunc := ⟨16, [.t 4],
 (.seq
  (.reg [⟨(some 2), .m (.box (.t 0)), none⟩, ⟨(some 4), .v (.mov (.c (.bool false))), none⟩])
  (.seq
   (.reg [⟨(some 5), .v (.faddr 1 (.t 2)), none⟩, ⟨(some 6), .v (.load false 1 (.t 5)), none⟩, ⟨(some 7), .v (.mov (.t 1)), none⟩, ⟨(some 8), .v (.bin .quo (.t 7) (.c (.int .i64 16))), none⟩, ⟨(some 9), .v (.iaddr 1 (.t 6) (.t 8)), none⟩, ⟨(some 10), .v (.load false 1 (.t 9)), none⟩, ⟨(some 11), .v (.mov (.t 1)), none⟩, ⟨(some 12), .v (.bin .rem (.t 11) (.c (.int .i64 16))), none⟩, ⟨(some 13), .v (.bin .shr (.t 10) (.t 12)), none⟩, ⟨(some 14), .v (.bin .and (.t 13) (.c (.int .i64 1))), none⟩, ⟨(some 15), .v (.bin .eql (.t 14) (.c (.int .i64 1))), none⟩, ⟨(some 4), .v (.mov (.t 15)), none⟩])
   .ret))⟩
theorem e124 : rFunc Tryz.prog Tryz.f124 = some r124 := by kernel_rfl
def r129 : RFunc := ⟨77, [.t 2, .t 3],
 (.seq
  (.reg [⟨(some 1), .m (.box (.t 0)), none⟩, ⟨(some 2), .v (.mov (.c .nils)), none⟩, ⟨(some 3), .v (.mov (.c (.bool false))), none⟩])
  (.seq
   (.reg [⟨(some 8), .v (.faddr 2 (.t 1)), none⟩, ⟨(some 9), .v (.faddr 0 (.t 8)), none⟩, ⟨(some 10), .v (.load false 1 (.t 9)), none⟩, ⟨(some 4), .v (.mov (.t 10)), none⟩])
   (.seq
    (.seq
     (.reg [⟨(some 11), .v (.mov (.t 4)), none⟩, ⟨(some 12), .v (.bin .eql (.t 11) (.c (.int .i64 0))), none⟩, ⟨(some 13), .v (.mov (.t 12)), none⟩, ⟨(some 14), .v (.faddr 0 (.t 1)), (some (13, false))⟩, ⟨(some 15), .v (.faddr 0 (.t 14)), (some (13, false))⟩, ⟨(some 16), .v (.load false 1 (.t 15)), (some (13, false))⟩, ⟨(some 17), .v (.mov (.t 4)), (some (13, false))⟩, ⟨(some 18), .v (.bin .mul (.c (.int .i64 2)) (.t 17)), (some (13, false))⟩, ⟨(some 19), .v (.bin .sub (.t 18) (.c (.int .i64 1))), (some (13, false))⟩, ⟨(some 20), .v (.bin .neq (.t 16) (.t 19)), (some (13, false))⟩, ⟨(some 21), .v (.pick (.t 13) (.c (.bool true)) (.t 20)), none⟩, ⟨(some 22), .v (.mov (.t 21)), none⟩, ⟨(some 23), .v (.faddr 4 (.t 1)), (some (22, false))⟩, ⟨(some 24), .v (.load false 1 (.t 23)), (some (22, false))⟩, ⟨(some 25), .v (.lens (.t 24)), (some (22, false))⟩, ⟨(some 26), .v (.mov (.t 4)), (some (22, false))⟩, ⟨(some 27), .v (.bin .sub (.t 26) (.c (.int .i64 1))), (some (22, false))⟩, ⟨(some 28), .v (.bin .neq (.t 25) (.t 27)), (some (22, false))⟩, ⟨(some 29), .v (.pick (.t 22) (.c (.bool true)) (.t 28)), none⟩])
     (.cond (.t 29)
      (.seq
       (.reg [⟨(some 2), .v (.mov (.c .nils)), none⟩, ⟨(some 3), .v (.mov (.c (.bool false))), none⟩])
       .ret)
      .skip))
    (.seq
     (.reg [⟨(some 30), .m (.bsl 1 1 [(.str [])] [(0, 1, (.c (.str [])))]), none⟩, ⟨(some 5), .v (.mov (.t 30)), none⟩])
     (.seq
      (.reg [⟨(some 6), .v (.mov (.c (.int .i64 0))), none⟩])
      (.seq
       (.seq
        (.reg [⟨(some 7), .v (.mov (.c (.int .i64 0))), none⟩])
        (.block 0
         (.loop
          (.seq
           (.seq
            (.reg [⟨(some 31), .v (.mov (.t 7)), none⟩, ⟨(some 32), .v (.faddr 0 (.t 1)), none⟩, ⟨(some 33), .v (.faddr 0 (.t 32)), none⟩, ⟨(some 34), .v (.load false 1 (.t 33)), none⟩, ⟨(some 35), .v (.bin .lss (.t 31) (.t 34)), none⟩])
            (.cond (.t 35)
             .skip
             (.exit 0)))
           (.seq
            (.block 1
             (.block 2
              (.seq
               (.reg [⟨(some 55), .v (.mov (.t 6)), none⟩, ⟨(some 56), .v (.mov (.t 5)), none⟩, ⟨(some 57), .v (.len (.t 56)), none⟩, ⟨(some 58), .v (.bin .eql (.t 55) (.t 57)), none⟩, ⟨(some 54), .v (.mov (.t 58)), none⟩])
               (.cond (.t 54)
                (.seq
                 (.reg [⟨(some 2), .v (.mov (.c .nils)), none⟩, ⟨(some 3), .v (.mov (.c (.bool false))), none⟩])
                 .ret)
                (.seq
                 (.reg [⟨(some 60), .v (.faddr 0 (.t 1)), none⟩, ⟨(some 61), .v (.load true 2 (.t 60)), none⟩, ⟨(some 62), .v (.mov (.t 7)), none⟩, ⟨(some 63), .call 124 [(.t 61), (.t 62)], none⟩, ⟨(some 64), .v (.un .not (.t 63)), none⟩, ⟨(some 59), .v (.mov (.t 64)), none⟩])
                 (.cond (.t 59)
                  (.reg [⟨(some 65), .v (.mov (.t 6)), none⟩, ⟨(some 66), .v (.bin .add (.t 65) (.c (.int .i64 1))), none⟩, ⟨(some 6), .v (.mov (.t 66)), none⟩])
                  (.seq
                   (.reg [⟨(some 68), .v (.mov (.t 5)), none⟩, ⟨(some 69), .v (.len (.t 68)), none⟩, ⟨(some 70), .v (.mov (.t 4)), none⟩, ⟨(some 71), .v (.bin .eql (.t 69) (.t 70)), none⟩, ⟨(some 67), .v (.mov (.t 71)), none⟩])
                   (.cond (.t 67)
                    (.seq
                     (.reg [⟨(some 2), .v (.mov (.c .nils)), none⟩, ⟨(some 3), .v (.mov (.c (.bool false))), none⟩])
                     .ret)
                    (.dreg (.fl ⟨(some 38), .v (.mov (.t 5)), none⟩ (.fl ⟨(some 39), .v (.mov (.t 5)), none⟩ (.fl ⟨(some 40), .v (.mov (.t 6)), none⟩ (.fl ⟨(some 41), .v (.iaddr 1 (.t 39) (.t 40)), none⟩ (.fl ⟨(some 43), .v (.faddr 4 (.t 1)), none⟩ (.fl ⟨(some 45), .v (.mov (.t 5)), none⟩ (.fl ⟨(some 46), .v (.len (.t 45)), none⟩ (.fl ⟨(some 47), .v (.bin .sub (.t 46) (.c (.int .i64 1))), none⟩ (.fl ⟨(some 48), .v (.mov (.t 5)), none⟩ (.fl ⟨(some 49), .v (.len (.t 48)), none⟩ (.both (.nx ⟨(some 42), .v (.load false 1 (.t 41)), none⟩ (.nx ⟨(some 44), .v (.load false 1 (.t 43)), none⟩ (.fl ⟨(some 50), .v (.sstr (.t 44) (some (.t 47)) (some (.t 49))), none⟩ (.fl ⟨(some 51), .v (.bin .add (.t 42) (.t 50)), none⟩ (.nx ⟨(some 52), .m (.bsl 1 1 [(.str [])] [(0, 1, (.t 51))]), none⟩ (.nx ⟨(some 53), .m (.app false 1 16 (.t 38) (.t 52)), none⟩ (.fl ⟨(some 5), .v (.mov (.t 53)), none⟩ .done))))))) (.nx ⟨(some 44), .v (.load false 1 (.t 43)), none⟩ (.fl ⟨(some 50), .v (.sstr (.t 44) (some (.t 47)) (some (.t 49))), none⟩ (.nx ⟨(some 42), .v (.load false 1 (.t 41)), none⟩ (.fl ⟨(some 51), .v (.bin .add (.t 42) (.t 50)), none⟩ (.nx ⟨(some 52), .m (.bsl 1 1 [(.str [])] [(0, 1, (.t 51))]), none⟩ (.nx ⟨(some 53), .m (.app false 1 16 (.t 38) (.t 52)), none⟩ (.fl ⟨(some 5), .v (.mov (.t 53)), none⟩ .done)))))))))))))))))))))))))))
            (.reg [⟨(some 36), .v (.mov (.t 7)), none⟩, ⟨(some 37), .v (.bin .add (.t 36) (.c (.int .i64 1))), none⟩, ⟨(some 7), .v (.mov (.t 37)), none⟩]))))))
       (.seq
        (.reg [⟨(some 72), .v (.mov (.t 5)), none⟩, ⟨(some 73), .v (.mov (.t 5)), none⟩, ⟨(some 74), .v (.len (.t 73)), none⟩, ⟨(some 75), .v (.mov (.t 4)), none⟩, ⟨(some 76), .v (.bin .eql (.t 74) (.t 75)), none⟩, ⟨(some 2), .v (.mov (.t 72)), none⟩, ⟨(some 3), .v (.mov (.t 76)), none⟩])
        .ret)))))))⟩
theorem e129 : rFunc Tryz.prog Tryz.f129 = some r129 := by kernel_rfl
def r122 : RFunc := ⟨48, [.t 4],
 (.seq
  (.reg [⟨(some 4), .v (.mov (.c .nils)), none⟩])
  (.seq
   (.reg [⟨(some 5), .v (.mov (.c (.int .i64 0))), none⟩])
   (.seq
    (.block 0
     (.loop
      (.seq
       (.seq
        (.reg [⟨(some 7), .v (.mov (.t 5)), none⟩, ⟨(some 8), .v (.mov (.t 0)), none⟩, ⟨(some 9), .v (.len (.t 8)), none⟩, ⟨(some 10), .v (.bin .lss (.t 7) (.t 9)), none⟩, ⟨(some 11), .v (.mov (.t 10)), none⟩, ⟨(some 12), .v (.mov (.t 0)), (some (11, true))⟩, ⟨(some 13), .v (.mov (.t 5)), (some (11, true))⟩, ⟨(some 14), .v (.iaddr 1 (.t 12) (.t 13)), (some (11, true))⟩, ⟨(some 15), .v (.load false 1 (.t 14)), (some (11, true))⟩, ⟨(some 16), .v (.mov (.t 1)), (some (11, true))⟩, ⟨(some 17), .v (.bin .lss (.t 15) (.t 16)), (some (11, true))⟩, ⟨(some 18), .v (.pick (.t 11) (.t 17) (.c (.bool false))), none⟩])
        (.cond (.t 18)
         .skip
         (.exit 0)))
       (.block 1
        (.reg [⟨(some 19), .v (.mov (.t 5)), none⟩, ⟨(some 20), .v (.bin .add (.t 19) (.c (.int .i64 1))), none⟩, ⟨(some 5), .v (.mov (.t 20)), none⟩])))))
    (.seq
     (.seq
      (.reg [⟨(some 21), .v (.mov (.t 5)), none⟩, ⟨(some 22), .v (.mov (.t 0)), none⟩, ⟨(some 23), .v (.len (.t 22)), none⟩, ⟨(some 24), .v (.bin .lss (.t 21) (.t 23)), none⟩, ⟨(some 25), .v (.mov (.t 24)), none⟩, ⟨(some 26), .v (.mov (.t 0)), (some (25, true))⟩, ⟨(some 27), .v (.mov (.t 5)), (some (25, true))⟩, ⟨(some 28), .v (.iaddr 1 (.t 26) (.t 27)), (some (25, true))⟩, ⟨(some 29), .v (.load false 1 (.t 28)), (some (25, true))⟩, ⟨(some 30), .v (.mov (.t 1)), (some (25, true))⟩, ⟨(some 31), .v (.bin .eql (.t 29) (.t 30)), (some (25, true))⟩, ⟨(some 32), .v (.pick (.t 25) (.t 31) (.c (.bool false))), none⟩])
      (.cond (.t 32)
       (.seq
        (.reg [⟨(some 33), .v (.mov (.t 0)), none⟩, ⟨(some 4), .v (.mov (.t 33)), none⟩])
        .ret)
       .skip))
     (.seq
      (.reg [⟨(some 34), .m (.bsl 1 0 [(.str [])] []), none⟩, ⟨(some 35), .v (.mov (.t 0)), none⟩, ⟨(some 36), .v (.mov (.t 5)), none⟩, ⟨(some 37), .v (.slc 1 (.t 35) none (some (.t 36))), none⟩, ⟨(some 38), .m (.app false 1 16 (.t 34) (.t 37)), none⟩, ⟨(some 6), .v (.mov (.t 38)), none⟩])
      (.seq
       (.reg [⟨(some 39), .v (.mov (.t 6)), none⟩, ⟨(some 40), .v (.mov (.t 1)), none⟩, ⟨(some 41), .m (.bsl 1 1 [(.str [])] [(0, 1, (.t 40))]), none⟩, ⟨(some 42), .m (.app false 1 16 (.t 39) (.t 41)), none⟩, ⟨(some 6), .v (.mov (.t 42)), none⟩])
       (.seq
        (.reg [⟨(some 43), .v (.mov (.t 6)), none⟩, ⟨(some 44), .v (.mov (.t 0)), none⟩, ⟨(some 45), .v (.mov (.t 5)), none⟩, ⟨(some 46), .v (.slc 1 (.t 44) (some (.t 45)) none), none⟩, ⟨(some 47), .m (.app false 1 16 (.t 43) (.t 46)), none⟩, ⟨(some 4), .v (.mov (.t 47)), none⟩])
        .ret)))))))⟩
theorem e122 : rFunc Tryz.prog Tryz.f122 = some r122 := by kernel_rfl
def r87 : RFunc := ⟨23, [.t 2],
 (.seq
  (.reg [⟨(some 2), .v (.mov (.c (.bool false))), none⟩])
  (.seq
   (.seq
    (.reg [⟨(some 3), .v (.mov (.c (.int .i64 0))), none⟩])
    (.block 0
     (.loop
      (.seq
       (.seq
        (.reg [⟨(some 4), .v (.mov (.t 3)), none⟩, ⟨(some 5), .v (.mov (.t 0)), none⟩, ⟨(some 6), .v (.lens (.t 5)), none⟩, ⟨(some 7), .v (.bin .lss (.t 4) (.t 6)), none⟩])
        (.cond (.t 7)
         .skip
         (.exit 0)))
       (.seq
        (.block 1
         (.seq
          (.reg [⟨(some 10), .v (.mov (.t 0)), none⟩, ⟨(some 11), .v (.mov (.t 3)), none⟩, ⟨(some 12), .v (.sidx (.t 10) (.t 11)), none⟩, ⟨(some 13), .v (.bin .lss (.t 12) (.c (.int .u8 33))), none⟩, ⟨(some 14), .v (.mov (.t 13)), none⟩, ⟨(some 15), .v (.mov (.t 0)), (some (14, false))⟩, ⟨(some 16), .v (.mov (.t 3)), (some (14, false))⟩, ⟨(some 17), .v (.sidx (.t 15) (.t 16)), (some (14, false))⟩, ⟨(some 18), .v (.bin .gtr (.t 17) (.c (.int .u8 125))), (some (14, false))⟩, ⟨(some 19), .v (.pick (.t 14) (.c (.bool true)) (.t 18)), none⟩])
          (.cond (.t 19)
           (.seq
            (.reg [⟨(some 2), .v (.mov (.c (.bool false))), none⟩])
            .ret)
           .skip)))
        (.reg [⟨(some 8), .v (.mov (.t 3)), none⟩, ⟨(some 9), .v (.bin .add (.t 8) (.c (.int .i64 1))), none⟩, ⟨(some 3), .v (.mov (.t 9)), none⟩]))))))
   (.seq
    (.reg [⟨(some 20), .v (.mov (.t 0)), none⟩, ⟨(some 21), .v (.lens (.t 20)), none⟩, ⟨(some 22), .call 138 [(.t 21), (.c (.int .i64 1)), (.c (.int .i64 12))], none⟩, ⟨(some 2), .v (.mov (.t 22)), none⟩])
    .ret)))⟩
theorem e87 : rFunc Tryz.prog Tryz.f87 = some r87 := by kernel_rfl
def r40 : RFunc := ⟨32, [.t 2],
 (.seq
  (.reg [⟨(some 2), .v (.mov (.c (.bool false))), none⟩])
  (.seq
   (.seq
    (.reg [⟨(some 5), .v (.mov (.t 0)), none⟩, ⟨(some 6), .v (.len (.t 5)), none⟩, ⟨(some 7), .v (.mov (.c (.int .i64 0))), none⟩])
    (.block 0
     (.loop
      (.seq
       (.reg [⟨(some 8), .v (.bin .lss (.t 7) (.t 6)), none⟩])
       (.seq
        (.cond (.t 8)
         .skip
         (.exit 0))
        (.seq
         (.block 1
          (.seq
           (.reg [⟨(some 9), .v (.mov (.t 7)), none⟩, ⟨(some 10), .v (.iaddr 1 (.t 5) (.t 7)), none⟩, ⟨(some 11), .v (.load false 1 (.t 10)), none⟩, ⟨(some 3), .v (.mov (.t 9)), none⟩, ⟨(some 4), .v (.mov (.t 11)), none⟩])
           (.seq
            (.reg [⟨(some 12), .v (.mov (.t 4)), none⟩, ⟨(some 13), .call 87 [(.t 12)], none⟩, ⟨(some 14), .v (.un .not (.t 13)), none⟩, ⟨(some 15), .v (.mov (.t 14)), none⟩, ⟨(some 16), .v (.mov (.t 3)), (some (15, false))⟩, ⟨(some 17), .v (.bin .gtr (.t 16) (.c (.int .i64 0))), (some (15, false))⟩, ⟨(some 18), .v (.mov (.t 17)), (some (15, false))⟩, ⟨(some 19), .v (.mov (.t 0)), (some (18, true))⟩, ⟨(some 20), .v (.mov (.t 3)), (some (18, true))⟩, ⟨(some 21), .v (.bin .sub (.t 20) (.c (.int .i64 1))), (some (18, true))⟩, ⟨(some 22), .v (.iaddr 1 (.t 19) (.t 21)), (some (18, true))⟩, ⟨(some 23), .v (.load false 1 (.t 22)), (some (18, true))⟩, ⟨(some 24), .v (.mov (.t 4)), (some (18, true))⟩, ⟨(some 25), .v (.bin .geq (.t 23) (.t 24)), (some (18, true))⟩, ⟨(some 26), .v (.pick (.t 18) (.t 25) (.c (.bool false))), (some (15, false))⟩, ⟨(some 27), .v (.pick (.t 15) (.c (.bool true)) (.t 26)), none⟩])
            (.cond (.t 27)
             (.seq
              (.reg [⟨(some 2), .v (.mov (.c (.bool false))), none⟩])
              .ret)
             .skip))))
         (.reg [⟨(some 28), .v (.bin .add (.t 7) (.c (.int .i64 1))), none⟩, ⟨(some 7), .v (.mov (.t 28)), none⟩])))))))
   (.seq
    (.reg [⟨(some 29), .v (.mov (.t 0)), none⟩, ⟨(some 30), .v (.len (.t 29)), none⟩, ⟨(some 31), .v (.bin .leq (.t 30) (.c (.int .i64 40))), none⟩, ⟨(some 2), .v (.mov (.t 31)), none⟩])
    .ret)))⟩
theorem e40 : rFunc Tryz.prog Tryz.f40 = some r40 := by kernel_rfl
def r88 : RFunc := ⟨42, [.t 2],
 (.seq
  (.reg [⟨(some 2), .v (.mov (.c .nils)), none⟩])
  (.seq
   (.reg [⟨(some 7), .m (.bsl 1 1 [(.str [])] [(0, 1, (.c (.str [])))]), none⟩, ⟨(some 3), .v (.mov (.t 7)), none⟩])
   (.seq
    (.seq
     (.reg [⟨(some 4), .v (.mov (.c (.int .i64 1))), none⟩])
     (.block 0
      (.loop
       (.seq
        (.seq
         (.reg [⟨(some 8), .v (.mov (.t 4)), none⟩, ⟨(some 9), .v (.bin .leq (.t 8) (.c (.int .i64 12))), none⟩])
         (.cond (.t 9)
          .skip
          (.exit 0)))
        (.seq
         (.block 1
          (.seq
           (.reg [⟨(some 12), .v (.mov (.t 0)), none⟩, ⟨(some 13), .v (.len (.t 12)), none⟩, ⟨(some 14), .v (.mov (.c (.int .i64 0))), none⟩])
           (.block 2
            (.loop
             (.seq
              (.reg [⟨(some 15), .v (.bin .lss (.t 14) (.t 13)), none⟩])
              (.seq
               (.cond (.t 15)
                .skip
                (.exit 2))
               (.seq
                (.block 3
                 (.seq
                  (.reg [⟨(some 16), .v (.iaddr 1 (.t 12) (.t 14)), none⟩, ⟨(some 17), .v (.load false 1 (.t 16)), none⟩, ⟨(some 6), .v (.mov (.t 17)), none⟩])
                  (.seq
                   (.dreg (.fl ⟨(some 18), .v (.mov (.t 6)), none⟩ (.fl ⟨(some 19), .v (.lens (.t 18)), none⟩ (.fl ⟨(some 20), .v (.mov (.t 4)), none⟩ (.fl ⟨(some 21), .v (.bin .geq (.t 19) (.t 20)), none⟩ (.fl ⟨(some 22), .v (.mov (.t 21)), none⟩ (.fl ⟨(some 23), .v (.mov (.t 6)), (some (22, true))⟩ (.fl ⟨(some 24), .v (.mov (.t 4)), (some (22, true))⟩ (.fl ⟨(some 25), .v (.sstr (.t 23) none (some (.t 24))), (some (22, true))⟩ (.fl ⟨(some 26), .v (.mov (.t 3)), (some (22, true))⟩ (.fl ⟨(some 27), .v (.mov (.t 3)), (some (22, true))⟩ (.fl ⟨(some 28), .v (.len (.t 27)), (some (22, true))⟩ (.fl ⟨(some 29), .v (.bin .sub (.t 28) (.c (.int .i64 1))), (some (22, true))⟩ (.fl ⟨(some 30), .v (.iaddr 1 (.t 26) (.t 29)), (some (22, true))⟩ (.fl ⟨(some 31), .v (.load false 1 (.t 30)), (some (22, true))⟩ (.fl ⟨(some 32), .v (.bin .neq (.t 25) (.t 31)), (some (22, true))⟩ (.fl ⟨(some 33), .v (.pick (.t 22) (.t 32) (.c (.bool false))), none⟩ .done)))))))))))))))))
                   (.cond (.t 33)
                    (.reg [⟨(some 34), .v (.mov (.t 3)), none⟩, ⟨(some 35), .v (.mov (.t 6)), none⟩, ⟨(some 36), .v (.mov (.t 4)), none⟩, ⟨(some 37), .v (.sstr (.t 35) none (some (.t 36))), none⟩, ⟨(some 38), .m (.bsl 1 1 [(.str [])] [(0, 1, (.t 37))]), none⟩, ⟨(some 39), .m (.app false 1 16 (.t 34) (.t 38)), none⟩, ⟨(some 3), .v (.mov (.t 39)), none⟩])
                    .skip))))
                (.reg [⟨(some 40), .v (.bin .add (.t 14) (.c (.int .i64 1))), none⟩, ⟨(some 14), .v (.mov (.t 40)), none⟩]))))))))
         (.reg [⟨(some 10), .v (.mov (.t 4)), none⟩, ⟨(some 11), .v (.bin .add (.t 10) (.c (.int .i64 1))), none⟩, ⟨(some 4), .v (.mov (.t 11)), none⟩]))))))
    (.seq
     (.reg [⟨(some 41), .v (.mov (.t 3)), none⟩, ⟨(some 2), .v (.mov (.t 41)), none⟩])
     .ret))))⟩
theorem e88 : rFunc Tryz.prog Tryz.f88 = some r88 := by kernel_rfl
def r89 : RFunc := ⟨18, [.t 4],
 (.seq
  (.reg [⟨(some 4), .v (.mov (.c (.bool false))), none⟩])
  (.seq
   (.reg [⟨(some 5), .v (.mov (.t 0)), none⟩, ⟨(some 6), .v (.lens (.t 5)), none⟩, ⟨(some 7), .v (.mov (.t 1)), none⟩, ⟨(some 8), .v (.lens (.t 7)), none⟩, ⟨(some 9), .v (.bin .geq (.t 6) (.t 8)), none⟩, ⟨(some 10), .v (.mov (.t 9)), none⟩, ⟨(some 11), .v (.mov (.t 0)), (some (10, true))⟩, ⟨(some 12), .v (.mov (.t 1)), (some (10, true))⟩, ⟨(some 13), .v (.lens (.t 12)), (some (10, true))⟩, ⟨(some 14), .v (.sstr (.t 11) none (some (.t 13))), (some (10, true))⟩, ⟨(some 15), .v (.mov (.t 1)), (some (10, true))⟩, ⟨(some 16), .v (.bin .eql (.t 14) (.t 15)), (some (10, true))⟩, ⟨(some 17), .v (.pick (.t 10) (.t 16) (.c (.bool false))), none⟩, ⟨(some 4), .v (.mov (.t 17)), none⟩])
   .ret))⟩
theorem e89 : rFunc Tryz.prog Tryz.f89 = some r89 := by kernel_rfl
def r90 : RFunc := ⟨17, [.t 4],
 (.seq
  (.reg [⟨(some 4), .v (.mov (.c (.bool false))), none⟩])
  (.seq
   (.seq
    (.reg [⟨(some 7), .v (.mov (.t 0)), none⟩, ⟨(some 8), .v (.len (.t 7)), none⟩, ⟨(some 9), .v (.mov (.c (.int .i64 0))), none⟩])
    (.block 0
     (.loop
      (.seq
       (.reg [⟨(some 10), .v (.bin .lss (.t 9) (.t 8)), none⟩])
       (.seq
        (.cond (.t 10)
         .skip
         (.exit 0))
        (.seq
         (.block 1
          (.seq
           (.reg [⟨(some 11), .v (.iaddr 1 (.t 7) (.t 9)), none⟩, ⟨(some 12), .v (.load false 1 (.t 11)), none⟩, ⟨(some 6), .v (.mov (.t 12)), none⟩])
           (.seq
            (.reg [⟨(some 13), .v (.mov (.t 6)), none⟩, ⟨(some 14), .v (.mov (.t 1)), none⟩, ⟨(some 15), .v (.bin .eql (.t 13) (.t 14)), none⟩])
            (.cond (.t 15)
             (.seq
              (.reg [⟨(some 4), .v (.mov (.c (.bool true))), none⟩])
              .ret)
             .skip))))
         (.reg [⟨(some 16), .v (.bin .add (.t 9) (.c (.int .i64 1))), none⟩, ⟨(some 9), .v (.mov (.t 16)), none⟩])))))))
   (.seq
    (.reg [⟨(some 4), .v (.mov (.c (.bool false))), none⟩])
    .ret)))⟩
theorem e90 : rFunc Tryz.prog Tryz.f90 = some r90 := by kernel_rfl
def r125 : RFunc := ⟨9, [.cell true 2 2],
 (.seq
  (.reg [⟨(some 2), .m (.alloc [(.int .i64 0), .nils]), none⟩])
  (.seq
   (.reg [⟨(some 3), .v (.mov (.t 0)), none⟩, ⟨(some 4), .v (.mov (.t 0)), none⟩, ⟨(some 5), .v (.bin .add (.t 4) (.c (.int .i64 15))), none⟩, ⟨(some 6), .v (.bin .quo (.t 5) (.c (.int .i64 16))), none⟩, ⟨(some 7), .m (.mks 1 8 [(.int .i64 0)] (.t 6) (.t 6)), none⟩, ⟨(some 8), .v (.bld [(.int .i64 0), .nils] [(0, 1, (.t 3)), (1, 1, (.t 7))]), none⟩, ⟨none, .m (.store 2 (.t 2) (.t 8)), none⟩])
   .ret))⟩
theorem e125 : rFunc Tryz.prog Tryz.f125 = some r125 := by kernel_rfl
def r126 : RFunc := ⟨15, [],
 (.seq
  (.reg [⟨(some 2), .m (.box (.t 0)), none⟩])
  (.dreg (.fl ⟨(some 4), .v (.faddr 1 (.t 2)), none⟩ (.fl ⟨(some 6), .v (.mov (.t 1)), none⟩ (.fl ⟨(some 7), .v (.bin .quo (.t 6) (.c (.int .i64 16))), none⟩ (.fl ⟨(some 10), .v (.mov (.t 1)), none⟩ (.fl ⟨(some 11), .v (.bin .rem (.t 10) (.c (.int .i64 16))), none⟩ (.fl ⟨(some 12), .v (.bin .shl (.c (.int .i64 1)) (.t 11)), none⟩ (.nx ⟨(some 5), .v (.load false 1 (.t 4)), none⟩ (.fl ⟨(some 8), .v (.iaddr 1 (.t 5) (.t 7)), none⟩ (.nx ⟨(some 9), .v (.load false 1 (.t 8)), none⟩ (.fl ⟨(some 13), .v (.bin .or (.t 9) (.t 12)), none⟩ (.fl ⟨(some 14), .v (.iaddr 1 (.t 5) (.t 7)), none⟩ (.nx ⟨none, .m (.store 1 (.t 14) (.t 13)), none⟩ .done))))))))))))))⟩
theorem e126 : rFunc Tryz.prog Tryz.f126 = some r126 := by kernel_rfl
def r75 : RFunc := ⟨22, [.cell true 2 2],
 (.seq
  (.reg [⟨(some 2), .m (.alloc [(.int .i64 0), .nils]), none⟩])
  (.seq
   (.reg [⟨(some 6), .v (.mov (.t 0)), none⟩, ⟨(some 7), .v (.len (.t 6)), none⟩, ⟨(some 8), .call 125 [(.t 7)], none⟩, ⟨(some 3), .m (.alloc [(.int .i64 0), .nils]), none⟩, ⟨none, .m (.store 2 (.t 3) (.t 8)), none⟩])
   (.seq
    (.seq
     (.reg [⟨(some 9), .v (.mov (.t 0)), none⟩, ⟨(some 10), .v (.len (.t 9)), none⟩, ⟨(some 11), .v (.mov (.c (.int .i64 0))), none⟩])
     (.block 0
      (.loop
       (.seq
        (.reg [⟨(some 12), .v (.bin .lss (.t 11) (.t 10)), none⟩])
        (.seq
         (.cond (.t 12)
          .skip
          (.exit 0))
         (.seq
          (.block 1
           (.seq
            (.reg [⟨(some 13), .v (.mov (.t 11)), none⟩, ⟨(some 14), .v (.iaddr 1 (.t 9) (.t 11)), none⟩, ⟨(some 15), .v (.load false 1 (.t 14)), none⟩, ⟨(some 4), .v (.mov (.t 13)), none⟩, ⟨(some 5), .v (.mov (.t 15)), none⟩])
            (.seq
             (.reg [⟨(some 16), .v (.mov (.t 5)), none⟩])
             (.cond (.t 16)
              (.reg [⟨(some 17), .v (.load true 2 (.t 3)), none⟩, ⟨(some 18), .v (.mov (.t 4)), none⟩, ⟨(some 19), .call 126 [(.t 17), (.t 18)], none⟩])
              .skip))))
          (.reg [⟨(some 20), .v (.bin .add (.t 11) (.c (.int .i64 1))), none⟩, ⟨(some 11), .v (.mov (.t 20)), none⟩])))))))
    (.seq
     (.reg [⟨(some 21), .v (.load true 2 (.t 3)), none⟩, ⟨none, .m (.store 2 (.t 2) (.t 21)), none⟩])
     .ret))))⟩
theorem e75 : rFunc Tryz.prog Tryz.f75 = some r75 := by kernel_rfl
def r41 : RFunc := ⟨71, [.cell true 5 2],
 (.seq
  (.reg [⟨(some 2), .m (.alloc [(.int .i64 0), .nils, (.int .i64 0), .nils, (.str [])]), none⟩])
  (.seq
   (.reg [⟨(some 11), .v (.mov (.t 0)), none⟩, ⟨(some 12), .call 88 [(.t 11)], none⟩, ⟨(some 3), .v (.mov (.t 12)), none⟩])
   (.seq
    (.reg [⟨(some 4), .v (.mov (.c .nils)), none⟩, ⟨(some 5), .v (.mov (.c .nils)), none⟩])
    (.seq
     (.reg [⟨(some 6), .v (.mov (.c .nils)), none⟩])
     (.seq
      (.seq
       (.reg [⟨(some 13), .v (.mov (.t 3)), none⟩, ⟨(some 14), .v (.len (.t 13)), none⟩, ⟨(some 15), .v (.mov (.c (.int .i64 0))), none⟩])
       (.block 0
        (.loop
         (.seq
          (.reg [⟨(some 16), .v (.bin .lss (.t 15) (.t 14)), none⟩])
          (.seq
           (.cond (.t 16)
            .skip
            (.exit 0))
           (.seq
            (.block 1
             (.seq
              (.reg [⟨(some 17), .v (.mov (.t 15)), none⟩, ⟨(some 18), .v (.iaddr 1 (.t 13) (.t 15)), none⟩, ⟨(some 19), .v (.load false 1 (.t 18)), none⟩, ⟨(some 7), .v (.mov (.t 17)), none⟩, ⟨(some 8), .v (.mov (.t 19)), none⟩])
              (.seq
               (.seq
                (.reg [⟨(some 20), .v (.mov (.t 3)), none⟩, ⟨(some 21), .v (.mov (.t 7)), none⟩, ⟨(some 22), .v (.bin .add (.t 21) (.c (.int .i64 1))), none⟩, ⟨(some 23), .v (.slc 1 (.t 20) (some (.t 22)) none), none⟩, ⟨(some 24), .v (.len (.t 23)), none⟩, ⟨(some 25), .v (.mov (.c (.int .i64 0))), none⟩])
                (.block 2
                 (.loop
                  (.seq
                   (.reg [⟨(some 26), .v (.bin .lss (.t 25) (.t 24)), none⟩])
                   (.seq
                    (.cond (.t 26)
                     .skip
                     (.exit 2))
                    (.seq
                     (.block 3
                      (.seq
                       (.reg [⟨(some 27), .v (.iaddr 1 (.t 23) (.t 25)), none⟩, ⟨(some 28), .v (.load false 1 (.t 27)), none⟩, ⟨(some 10), .v (.mov (.t 28)), none⟩])
                       (.seq
                        (.reg [⟨(some 29), .v (.mov (.t 10)), none⟩, ⟨(some 30), .v (.lens (.t 29)), none⟩, ⟨(some 31), .v (.mov (.t 8)), none⟩, ⟨(some 32), .v (.lens (.t 31)), none⟩, ⟨(some 33), .v (.bin .add (.t 32) (.c (.int .i64 1))), none⟩, ⟨(some 34), .v (.bin .eql (.t 30) (.t 33)), none⟩, ⟨(some 35), .v (.mov (.t 34)), none⟩, ⟨(some 36), .v (.mov (.t 10)), (some (35, true))⟩, ⟨(some 37), .v (.mov (.t 8)), (some (35, true))⟩, ⟨(some 38), .call 89 [(.t 36), (.t 37)], (some (35, true))⟩, ⟨(some 39), .v (.pick (.t 35) (.t 38) (.c (.bool false))), none⟩])
                        (.cond (.t 39)
                         (.reg [⟨(some 40), .v (.mov (.t 4)), none⟩, ⟨(some 41), .m (.bsl 1 1 [(.bool false)] [(0, 1, (.c (.bool true)))]), none⟩, ⟨(some 42), .m (.app false 1 1 (.t 40) (.t 41)), none⟩, ⟨(some 4), .v (.mov (.t 42)), none⟩])
                         .skip))))
                     (.reg [⟨(some 43), .v (.bin .add (.t 25) (.c (.int .i64 1))), none⟩, ⟨(some 25), .v (.mov (.t 43)), none⟩])))))))
               (.seq
                (.reg [⟨(some 44), .v (.mov (.t 4)), none⟩, ⟨(some 45), .m (.bsl 1 1 [(.bool false)] [(0, 1, (.c (.bool false)))]), none⟩, ⟨(some 46), .m (.app false 1 1 (.t 44) (.t 45)), none⟩, ⟨(some 4), .v (.mov (.t 46)), none⟩])
                (.seq
                 (.reg [⟨(some 47), .v (.mov (.t 5)), none⟩, ⟨(some 48), .v (.mov (.t 0)), none⟩, ⟨(some 49), .v (.mov (.t 8)), none⟩, ⟨(some 50), .call 90 [(.t 48), (.t 49)], none⟩, ⟨(some 51), .m (.bsl 1 1 [(.bool false)] [(0, 1, (.t 50))]), none⟩, ⟨(some 52), .m (.app false 1 1 (.t 47) (.t 51)), none⟩, ⟨(some 5), .v (.mov (.t 52)), none⟩])
                 (.seq
                  (.reg [⟨(some 53), .v (.mov (.t 7)), none⟩, ⟨(some 54), .v (.bin .gtr (.t 53) (.c (.int .i64 0))), none⟩])
                  (.cond (.t 54)
                   (.reg [⟨(some 55), .v (.mov (.t 6)), none⟩, ⟨(some 56), .v (.mov (.t 8)), none⟩, ⟨(some 57), .v (.mov (.t 8)), none⟩, ⟨(some 58), .v (.lens (.t 57)), none⟩, ⟨(some 59), .v (.bin .sub (.t 58) (.c (.int .i64 1))), none⟩, ⟨(some 60), .v (.sidx (.t 56) (.t 59)), none⟩, ⟨(some 61), .m (.bsl 1 1 [(.int .u8 0)] [(0, 1, (.t 60))]), none⟩, ⟨(some 62), .m (.app false 1 1 (.t 55) (.t 61)), none⟩, ⟨(some 6), .v (.mov (.t 62)), none⟩])
                   .skip)))))))
            (.reg [⟨(some 63), .v (.bin .add (.t 15) (.c (.int .i64 1))), none⟩, ⟨(some 15), .v (.mov (.t 63)), none⟩])))))))
      (.seq
       (.dreg (.fl ⟨(some 64), .v (.mov (.t 4)), none⟩ (.fl ⟨(some 66), .v (.mov (.t 5)), none⟩ (.fl ⟨(some 68), .v (.mov (.t 6)), none⟩ (.fl ⟨(some 69), .v (.cbs (.t 68)), none⟩ (.nx ⟨(some 65), .call 75 [(.t 64)], none⟩ (.nx ⟨(some 67), .call 75 [(.t 66)], none⟩ (.fl ⟨(some 70), .v (.bld [(.int .i64 0), .nils, (.int .i64 0), .nils, (.str [])] [(0, 2, (.t 65)), (2, 2, (.t 67)), (4, 1, (.t 69))]), none⟩ (.nx ⟨none, .m (.store 5 (.t 2) (.t 70)), none⟩ .done)))))))))
       .ret))))))⟩
theorem e41 : rFunc Tryz.prog Tryz.f41 = some r41 := by kernel_rfl
def r162 : RFunc := ⟨26, [.t 4],
 (.seq
  (.reg [⟨(some 4), .v (.mov (.c (.bool false))), none⟩])
  (.seq
   (.seq
    (.reg [⟨(some 6), .v (.mov (.t 0)), none⟩, ⟨(some 7), .v (.len (.t 6)), none⟩, ⟨(some 8), .v (.mov (.t 1)), none⟩, ⟨(some 9), .v (.len (.t 8)), none⟩, ⟨(some 10), .v (.bin .neq (.t 7) (.t 9)), none⟩])
    (.cond (.t 10)
     (.seq
      (.reg [⟨(some 4), .v (.mov (.c (.bool false))), none⟩])
      .ret)
     .skip))
   (.seq
    (.seq
     (.reg [⟨(some 11), .v (.mov (.t 0)), none⟩, ⟨(some 12), .v (.len (.t 11)), none⟩, ⟨(some 13), .v (.mov (.c (.int .i64 0))), none⟩])
     (.block 0
      (.loop
       (.seq
        (.reg [⟨(some 14), .v (.bin .lss (.t 13) (.t 12)), none⟩])
        (.seq
         (.cond (.t 14)
          .skip
          (.exit 0))
         (.seq
          (.block 1
           (.seq
            (.reg [⟨(some 15), .v (.mov (.t 13)), none⟩, ⟨(some 5), .v (.mov (.t 15)), none⟩])
            (.seq
             (.dreg (.fl ⟨(some 16), .v (.mov (.t 0)), none⟩ (.fl ⟨(some 17), .v (.mov (.t 5)), none⟩ (.fl ⟨(some 18), .v (.iaddr 1 (.t 16) (.t 17)), none⟩ (.fl ⟨(some 19), .v (.load false 1 (.t 18)), none⟩ (.fl ⟨(some 20), .v (.mov (.t 1)), none⟩ (.fl ⟨(some 21), .v (.mov (.t 5)), none⟩ (.fl ⟨(some 22), .v (.iaddr 1 (.t 20) (.t 21)), none⟩ (.fl ⟨(some 23), .v (.load false 1 (.t 22)), none⟩ (.fl ⟨(some 24), .v (.bin .neq (.t 19) (.t 23)), none⟩ .done))))))))))
             (.cond (.t 24)
              (.seq
               (.reg [⟨(some 4), .v (.mov (.c (.bool false))), none⟩])
               .ret)
              .skip))))
          (.reg [⟨(some 25), .v (.bin .add (.t 13) (.c (.int .i64 1))), none⟩, ⟨(some 13), .v (.mov (.t 25)), none⟩])))))))
    (.seq
     (.reg [⟨(some 4), .v (.mov (.c (.bool true))), none⟩])
     .ret))))⟩
theorem e162 : rFunc Tryz.prog Tryz.f162 = some r162 := by kernel_rfl
def r130 : RFunc := ⟨17, [.t 4],
 (.seq
  (.reg [⟨(some 2), .m (.box (.t 0)), none⟩, ⟨(some 3), .m (.box (.t 1)), none⟩, ⟨(some 4), .v (.mov (.c (.bool false))), none⟩])
  (.seq
   (.reg [⟨(some 5), .v (.faddr 0 (.t 2)), none⟩, ⟨(some 6), .v (.load false 1 (.t 5)), none⟩, ⟨(some 7), .v (.faddr 0 (.t 3)), none⟩, ⟨(some 8), .v (.load false 1 (.t 7)), none⟩, ⟨(some 9), .v (.bin .eql (.t 6) (.t 8)), none⟩, ⟨(some 10), .v (.mov (.t 9)), none⟩, ⟨(some 11), .v (.faddr 1 (.t 2)), (some (10, true))⟩, ⟨(some 12), .v (.load false 1 (.t 11)), (some (10, true))⟩, ⟨(some 13), .v (.faddr 1 (.t 3)), (some (10, true))⟩, ⟨(some 14), .v (.load false 1 (.t 13)), (some (10, true))⟩, ⟨(some 15), .call 162 [(.t 12), (.t 14)], (some (10, true))⟩, ⟨(some 16), .v (.pick (.t 10) (.t 15) (.c (.bool false))), none⟩, ⟨(some 4), .v (.mov (.t 16)), none⟩])
   .ret))⟩
theorem e130 : rFunc Tryz.prog Tryz.f130 = some r130 := by kernel_rfl
def r80 : RFunc := ⟨67, [.t 2, .t 3],
 (.seq
  (.reg [⟨(some 1), .m (.box (.t 0)), none⟩, ⟨(some 2), .v (.mov (.c .nils)), none⟩, ⟨(some 3), .v (.mov (.c (.bool false))), none⟩])
  (.seq
   (.seq
    (.reg [⟨(some 10), .v (.faddr 0 (.t 1)), none⟩, ⟨(some 11), .v (.load true 2 (.t 10)), none⟩, ⟨(some 12), .call 128 [(.t 11)], none⟩, ⟨(some 13), .v (.un .not (.t 12)), none⟩, ⟨(some 14), .v (.mov (.t 13)), none⟩, ⟨(some 15), .v (.faddr 2 (.t 1)), (some (14, false))⟩, ⟨(some 16), .v (.load true 2 (.t 15)), (some (14, false))⟩, ⟨(some 17), .call 128 [(.t 16)], (some (14, false))⟩, ⟨(some 18), .v (.un .not (.t 17)), (some (14, false))⟩, ⟨(some 19), .v (.pick (.t 14) (.c (.bool true)) (.t 18)), none⟩])
    (.cond (.t 19)
     (.seq
      (.reg [⟨(some 2), .v (.mov (.c .nils)), none⟩, ⟨(some 3), .v (.mov (.c (.bool false))), none⟩])
      .ret)
     .skip))
   (.seq
    (.reg [⟨(some 21), .v (.load true 5 (.t 1)), none⟩, ⟨(some 22), .call 129 [(.t 21)], none⟩, ⟨(some 20), .v (.mov (.t 22)), none⟩, ⟨(some 23), .v (.ext (.t 20) 0), none⟩, ⟨(some 24), .v (.ext (.t 20) 1), none⟩, ⟨(some 4), .v (.mov (.t 23)), none⟩, ⟨(some 5), .v (.mov (.t 24)), none⟩])
    (.seq
     (.seq
      (.reg [⟨(some 25), .v (.mov (.t 5)), none⟩, ⟨(some 26), .v (.un .not (.t 25)), none⟩])
      (.cond (.t 26)
       (.seq
        (.reg [⟨(some 2), .v (.mov (.c .nils)), none⟩, ⟨(some 3), .v (.mov (.c (.bool false))), none⟩])
        .ret)
       .skip))
     (.seq
      (.reg [⟨(some 6), .v (.mov (.c .nils)), none⟩])
      (.seq
       (.seq
        (.reg [⟨(some 27), .v (.mov (.t 4)), none⟩, ⟨(some 28), .v (.len (.t 27)), none⟩, ⟨(some 29), .v (.mov (.c (.int .i64 0))), none⟩])
        (.block 0
         (.loop
          (.seq
           (.reg [⟨(some 30), .v (.bin .lss (.t 29) (.t 28)), none⟩])
           (.seq
            (.cond (.t 30)
             .skip
             (.exit 0))
            (.seq
             (.block 1
              (.seq
               (.reg [⟨(some 31), .v (.mov (.t 29)), none⟩, ⟨(some 32), .v (.iaddr 1 (.t 27) (.t 29)), none⟩, ⟨(some 33), .v (.load false 1 (.t 32)), none⟩, ⟨(some 7), .v (.mov (.t 31)), none⟩, ⟨(some 8), .v (.mov (.t 33)), none⟩])
               (.seq
                (.reg [⟨(some 34), .v (.faddr 2 (.t 1)), none⟩, ⟨(some 35), .v (.load true 2 (.t 34)), none⟩, ⟨(some 36), .v (.mov (.t 7)), none⟩, ⟨(some 37), .call 124 [(.t 35), (.t 36)], none⟩])
                (.cond (.t 37)
                 (.reg [⟨(some 38), .v (.mov (.t 6)), none⟩, ⟨(some 39), .v (.mov (.t 8)), none⟩, ⟨(some 40), .call 122 [(.t 38), (.t 39)], none⟩, ⟨(some 6), .v (.mov (.t 40)), none⟩])
                 .skip))))
             (.reg [⟨(some 41), .v (.bin .add (.t 29) (.c (.int .i64 1))), none⟩, ⟨(some 29), .v (.mov (.t 41)), none⟩])))))))
       (.seq
        (.seq
         (.reg [⟨(some 42), .v (.mov (.t 6)), none⟩, ⟨(some 43), .call 40 [(.t 42)], none⟩, ⟨(some 44), .v (.un .not (.t 43)), none⟩])
         (.cond (.t 44)
          (.seq
           (.reg [⟨(some 2), .v (.mov (.c .nils)), none⟩, ⟨(some 3), .v (.mov (.c (.bool false))), none⟩])
           .ret)
          .skip))
        (.seq
         (.reg [⟨(some 45), .v (.mov (.t 6)), none⟩, ⟨(some 46), .call 41 [(.t 45)], none⟩, ⟨(some 9), .m (.alloc [(.int .i64 0), .nils, (.int .i64 0), .nils, (.str [])]), none⟩, ⟨none, .m (.store 5 (.t 9) (.t 46)), none⟩])
         (.seq
          (.dreg (.fl ⟨(some 47), .v (.mov (.t 6)), none⟩ (.fl ⟨(some 48), .v (.faddr 0 (.t 1)), none⟩ (.fl ⟨(some 49), .v (.load true 2 (.t 48)), none⟩ (.fl ⟨(some 50), .v (.faddr 0 (.t 9)), none⟩ (.fl ⟨(some 51), .v (.load true 2 (.t 50)), none⟩ (.nx ⟨(some 52), .call 130 [(.t 49), (.t 51)], none⟩ (.fl ⟨(some 53), .v (.mov (.t 52)), none⟩ (.fl ⟨(some 54), .v (.faddr 2 (.t 1)), (some (53, true))⟩ (.fl ⟨(some 55), .v (.load true 2 (.t 54)), (some (53, true))⟩ (.fl ⟨(some 56), .v (.faddr 2 (.t 9)), (some (53, true))⟩ (.fl ⟨(some 57), .v (.load true 2 (.t 56)), (some (53, true))⟩ (.nx ⟨(some 58), .call 130 [(.t 55), (.t 57)], (some (53, true))⟩ (.fl ⟨(some 59), .v (.pick (.t 53) (.t 58) (.c (.bool false))), none⟩ (.fl ⟨(some 60), .v (.mov (.t 59)), none⟩ (.fl ⟨(some 61), .v (.faddr 4 (.t 1)), (some (60, true))⟩ (.fl ⟨(some 62), .v (.load false 1 (.t 61)), (some (60, true))⟩ (.fl ⟨(some 63), .v (.faddr 4 (.t 9)), (some (60, true))⟩ (.fl ⟨(some 64), .v (.load false 1 (.t 63)), (some (60, true))⟩ (.fl ⟨(some 65), .v (.bin .eql (.t 62) (.t 64)), (some (60, true))⟩ (.fl ⟨(some 66), .v (.pick (.t 60) (.t 65) (.c (.bool false))), none⟩ (.fl ⟨(some 2), .v (.mov (.t 47)), none⟩ (.fl ⟨(some 3), .v (.mov (.t 66)), none⟩ .done)))))))))))))))))))))))
          .ret)))))))))⟩
theorem e80 : rFunc Tryz.prog Tryz.f80 = some r80 := by kernel_rfl
end Go.Proofs.YtdkgoaiodjokpaaGreat.M
