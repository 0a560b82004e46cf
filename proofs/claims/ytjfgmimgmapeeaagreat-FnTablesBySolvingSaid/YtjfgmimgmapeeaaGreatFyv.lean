/-
  The resolved text of the functions, each tied to the program's own by the kernel.
-/
import Derived.Test.YtjfgmimgmapeeaaGreatProg
import Derived.Test.YtjfgmimgmapeeaaGreatFyt
namespace Go.Proofs.YtjfgmimgmapeeaaGreat.M
open Go Go.RowKit
set_option maxRecDepth 100000

def r120 : RFunc := ⟨17, [.t 6],
 (.seq
  (.reg [⟨(some 6), .v (.mov (.c (.bool false))), none⟩])
  (.seq
   (.reg [⟨(some 7), .v (.mov (.t 0)), none⟩, ⟨(some 8), .call 57 [(.t 7), (.c (.int .i64 0)), (.c (.int .i64 9999))], none⟩, ⟨(some 9), .v (.mov (.t 8)), none⟩, ⟨(some 10), .v (.mov (.t 1)), (some (9, true))⟩, ⟨(some 11), .call 56 [(.t 10)], (some (9, true))⟩, ⟨(some 12), .v (.pick (.t 9) (.t 11) (.c (.bool false))), none⟩, ⟨(some 13), .v (.mov (.t 12)), none⟩, ⟨(some 14), .v (.mov (.t 2)), (some (13, true))⟩, ⟨(some 15), .call 57 [(.t 14), (.c (.int .i64 1)), (.c (.int .i64 24))], (some (13, true))⟩, ⟨(some 16), .v (.pick (.t 13) (.t 15) (.c (.bool false))), none⟩, ⟨(some 6), .v (.mov (.t 16)), none⟩])
   .ret))⟩
theorem e120 : rFunc Tryz.prog Tryz.f120 = some r120 := by kernel_rfl
def r85 : RFunc := ⟨33, [.t 10],
 (.seq
  (.reg [⟨(some 10), .v (.mov (.c (.bool false))), none⟩])
  (.seq
   (.reg [⟨(some 11), .v (.mov (.t 0)), none⟩, ⟨(some 12), .v (.mov (.t 1)), none⟩, ⟨(some 13), .v (.mov (.t 3)), none⟩, ⟨(some 14), .call 120 [(.t 11), (.t 12), (.t 13)], none⟩, ⟨(some 15), .v (.mov (.t 14)), none⟩, ⟨(some 16), .v (.mov (.t 4)), (some (15, true))⟩, ⟨(some 17), .call 125 [(.t 16)], (some (15, true))⟩, ⟨(some 18), .v (.pick (.t 15) (.t 17) (.c (.bool false))), none⟩, ⟨(some 19), .v (.mov (.t 18)), none⟩, ⟨(some 20), .v (.mov (.t 2)), (some (19, true))⟩, ⟨(some 21), .v (.len (.t 20)), (some (19, true))⟩, ⟨(some 22), .v (.mov (.t 1)), (some (19, true))⟩, ⟨(some 23), .v (.len (.t 22)), (some (19, true))⟩, ⟨(some 24), .v (.bin .eql (.t 21) (.t 23)), (some (19, true))⟩, ⟨(some 25), .v (.pick (.t 19) (.t 24) (.c (.bool false))), none⟩, ⟨(some 26), .v (.mov (.t 25)), none⟩, ⟨(some 27), .v (.mov (.t 2)), (some (26, true))⟩, ⟨(some 28), .v (.mov (.t 4)), (some (26, true))⟩, ⟨(some 29), .call 58 [(.t 28)], (some (26, true))⟩, ⟨(some 30), .v (.bin .sub (.t 29) (.c (.int .i64 1))), (some (26, true))⟩, ⟨(some 31), .call 126 [(.t 27), (.c (.int .i64 0)), (.t 30)], (some (26, true))⟩, ⟨(some 32), .v (.pick (.t 26) (.t 31) (.c (.bool false))), none⟩, ⟨(some 10), .v (.mov (.t 32)), none⟩])
   .ret))⟩
theorem e85 : rFunc Tryz.prog Tryz.f85 = some r85 := by kernel_rfl
def r98 : RFunc := ⟨18, [.t 2, .t 3],
 (.seq
  (.reg [⟨(some 1), .m (.box (.t 0)), none⟩, ⟨(some 2), .v (.mov (.c .nils)), none⟩, ⟨(some 3), .v (.mov (.c (.bool false))), none⟩])
  (.seq
   (.seq
    (.reg [⟨(some 6), .v (.load true 3 (.t 1)), none⟩, ⟨(some 7), .call 108 [(.t 6)], none⟩, ⟨(some 8), .v (.un .not (.t 7)), none⟩])
    (.cond (.t 8)
     (.seq
      (.reg [⟨(some 2), .v (.mov (.c .nils)), none⟩, ⟨(some 3), .v (.mov (.c (.bool false))), none⟩])
      .ret)
     .skip))
   (.seq
    (.reg [⟨(some 10), .v (.load true 3 (.t 1)), none⟩, ⟨(some 11), .call 147 [(.t 10)], none⟩, ⟨(some 9), .v (.mov (.t 11)), none⟩, ⟨(some 12), .v (.ext (.t 9) 0), none⟩, ⟨(some 13), .v (.ext (.t 9) 1), none⟩, ⟨(some 4), .v (.mov (.t 12)), none⟩, ⟨(some 5), .v (.mov (.t 13)), none⟩])
    (.seq
     (.reg [⟨(some 14), .v (.mov (.t 5)), none⟩, ⟨(some 15), .v (.mov (.t 5)), none⟩, ⟨(some 16), .v (.len (.t 15)), none⟩, ⟨(some 17), .v (.bin .gtr (.t 16) (.c (.int .i64 0))), none⟩, ⟨(some 2), .v (.mov (.t 14)), none⟩, ⟨(some 3), .v (.mov (.t 17)), none⟩])
     .ret))))⟩
theorem e98 : rFunc Tryz.prog Tryz.f98 = some r98 := by kernel_rfl
def r37 : RFunc := ⟨44, [.t 10, .t 11, .t 12],
 (.seq
  (.reg [⟨(some 10), .v (.mov (.c (.int .i64 0))), none⟩, ⟨(some 11), .v (.mov (.c .nils)), none⟩, ⟨(some 12), .v (.mov (.c (.bool false))), none⟩])
  (.seq
   (.seq
    (.reg [⟨(some 17), .v (.mov (.t 0)), none⟩, ⟨(some 18), .v (.mov (.t 1)), none⟩, ⟨(some 19), .v (.mov (.t 2)), none⟩, ⟨(some 20), .v (.mov (.t 3)), none⟩, ⟨(some 21), .v (.mov (.t 4)), none⟩, ⟨(some 22), .call 85 [(.t 17), (.t 18), (.t 19), (.t 20), (.t 21)], none⟩, ⟨(some 23), .v (.un .not (.t 22)), none⟩])
    (.cond (.t 23)
     (.seq
      (.reg [⟨(some 10), .v (.mov (.c (.int .i64 0))), none⟩, ⟨(some 11), .v (.mov (.c .nils)), none⟩, ⟨(some 12), .v (.mov (.c (.bool false))), none⟩])
      .ret)
     .skip))
   (.seq
    (.reg [⟨(some 24), .v (.mov (.t 0)), none⟩, ⟨(some 25), .v (.mov (.t 1)), none⟩, ⟨(some 26), .v (.mov (.t 3)), none⟩, ⟨(some 27), .call 97 [(.t 24), (.t 25), (.t 26)], none⟩, ⟨(some 13), .m (.alloc [(.int .i64 0), .nils]), none⟩, ⟨none, .m (.store 2 (.t 13) (.t 27)), none⟩])
    (.seq
     (.seq
      (.reg [⟨(some 14), .v (.mov (.c (.int .i64 0))), none⟩])
      (.block 0
       (.loop
        (.seq
         (.seq
          (.reg [⟨(some 28), .v (.mov (.t 14)), none⟩, ⟨(some 29), .v (.mov (.t 4)), none⟩, ⟨(some 30), .v (.bin .lss (.t 28) (.t 29)), none⟩])
          (.cond (.t 30)
           .skip
           (.exit 0)))
         (.seq
          (.block 1
           (.seq
            (.reg [⟨(some 34), .v (.load true 2 (.t 13)), none⟩, ⟨(some 35), .v (.mov (.t 2)), none⟩, ⟨(some 36), .v (.mov (.t 14)), none⟩, ⟨(some 37), .call 99 [(.t 34), (.t 35), (.t 36)], none⟩, ⟨(some 38), .call 98 [(.t 37)], none⟩, ⟨(some 33), .v (.mov (.t 38)), none⟩, ⟨(some 39), .v (.ext (.t 33) 0), none⟩, ⟨(some 40), .v (.ext (.t 33) 1), none⟩, ⟨(some 15), .v (.mov (.t 39)), none⟩, ⟨(some 16), .v (.mov (.t 40)), none⟩])
            (.seq
             (.reg [⟨(some 41), .v (.mov (.t 16)), none⟩])
             (.cond (.t 41)
              (.seq
               (.reg [⟨(some 42), .v (.mov (.t 14)), none⟩, ⟨(some 43), .v (.mov (.t 15)), none⟩, ⟨(some 10), .v (.mov (.t 42)), none⟩, ⟨(some 11), .v (.mov (.t 43)), none⟩, ⟨(some 12), .v (.mov (.c (.bool true))), none⟩])
               .ret)
              .skip))))
          (.reg [⟨(some 31), .v (.mov (.t 14)), none⟩, ⟨(some 32), .v (.bin .add (.t 31) (.c (.int .i64 1))), none⟩, ⟨(some 14), .v (.mov (.t 32)), none⟩]))))))
     (.seq
      (.reg [⟨(some 10), .v (.mov (.c (.int .i64 0))), none⟩, ⟨(some 11), .v (.mov (.c .nils)), none⟩, ⟨(some 12), .v (.mov (.c (.bool false))), none⟩])
      .ret)))))⟩
theorem e37 : rFunc Tryz.prog Tryz.f37 = some r37 := by kernel_rfl
def r33 : RFunc := ⟨46, [.t 10, .t 11, .t 12],
 (.seq
  (.reg [⟨(some 10), .v (.mov (.c (.int .i64 0))), none⟩, ⟨(some 11), .v (.mov (.c .nils)), none⟩, ⟨(some 12), .v (.mov (.c (.bool false))), none⟩])
  (.seq
   (.seq
    (.reg [⟨(some 17), .v (.mov (.t 0)), none⟩, ⟨(some 18), .v (.mov (.t 1)), none⟩, ⟨(some 19), .v (.mov (.t 2)), none⟩, ⟨(some 20), .v (.mov (.t 3)), none⟩, ⟨(some 21), .v (.mov (.t 4)), none⟩, ⟨(some 22), .call 80 [(.t 17), (.t 18), (.t 19), (.t 20), (.t 21)], none⟩, ⟨(some 23), .v (.un .not (.t 22)), none⟩])
    (.cond (.t 23)
     (.seq
      (.reg [⟨(some 10), .v (.mov (.c (.int .i64 0))), none⟩, ⟨(some 11), .v (.mov (.c .nils)), none⟩, ⟨(some 12), .v (.mov (.c (.bool false))), none⟩])
      .ret)
     .skip))
   (.seq
    (.reg [⟨(some 24), .v (.mov (.t 0)), none⟩, ⟨(some 25), .v (.mov (.t 1)), none⟩, ⟨(some 26), .v (.mov (.t 3)), none⟩, ⟨(some 27), .call 81 [(.t 24), (.t 25), (.t 26)], none⟩, ⟨(some 13), .m (.alloc [(.int .i64 0), .nils]), none⟩, ⟨none, .m (.store 2 (.t 13) (.t 27)), none⟩])
    (.seq
     (.seq
      (.reg [⟨(some 28), .v (.mov (.t 4)), none⟩, ⟨(some 29), .v (.mov (.c (.int .i64 0))), none⟩])
      (.block 0
       (.loop
        (.seq
         (.reg [⟨(some 30), .v (.bin .lss (.t 29) (.t 28)), none⟩])
         (.seq
          (.cond (.t 30)
           .skip
           (.exit 0))
          (.seq
           (.block 1
            (.seq
             (.reg [⟨(some 31), .v (.mov (.t 29)), none⟩, ⟨(some 14), .v (.mov (.t 31)), none⟩])
             (.seq
              (.reg [⟨(some 33), .v (.load true 2 (.t 13)), none⟩, ⟨(some 34), .v (.mov (.t 2)), none⟩, ⟨(some 35), .v (.mov (.t 14)), none⟩, ⟨(some 36), .call 88 [(.t 33), (.t 34), (.t 35)], none⟩, ⟨(some 37), .call 90 [(.t 36)], none⟩, ⟨(some 32), .v (.mov (.t 37)), none⟩, ⟨(some 38), .v (.ext (.t 32) 0), none⟩, ⟨(some 39), .v (.ext (.t 32) 1), none⟩, ⟨(some 15), .v (.mov (.t 38)), none⟩, ⟨(some 16), .v (.mov (.t 39)), none⟩])
              (.seq
               (.reg [⟨(some 40), .v (.mov (.t 16)), none⟩, ⟨(some 41), .v (.bin .neq (.t 40) (.c (.int .u64 0))), none⟩])
               (.cond (.t 41)
                (.seq
                 (.reg [⟨(some 42), .v (.mov (.t 14)), none⟩, ⟨(some 43), .v (.mov (.t 16)), none⟩, ⟨(some 44), .call 91 [(.t 43)], none⟩, ⟨(some 10), .v (.mov (.t 42)), none⟩, ⟨(some 11), .v (.mov (.t 44)), none⟩, ⟨(some 12), .v (.mov (.c (.bool true))), none⟩])
                 .ret)
                .skip)))))
           (.reg [⟨(some 45), .v (.bin .add (.t 29) (.c (.int .i64 1))), none⟩, ⟨(some 29), .v (.mov (.t 45)), none⟩])))))))
     (.seq
      (.reg [⟨(some 10), .v (.mov (.c (.int .i64 0))), none⟩, ⟨(some 11), .v (.mov (.c .nils)), none⟩, ⟨(some 12), .v (.mov (.c (.bool false))), none⟩])
      .ret)))))⟩
theorem e33 : rFunc Tryz.prog Tryz.f33 = some r33 := by kernel_rfl
def r103 : RFunc := ⟨36, [.t 4],
 (.seq
  (.reg [⟨(some 4), .v (.mov (.c (.bool false))), none⟩])
  (.seq
   (.seq
    (.reg [⟨(some 7), .v (.mov (.t 0)), none⟩, ⟨(some 8), .v (.len (.t 7)), none⟩, ⟨(some 9), .v (.mov (.c (.int .i64 0))), none⟩])
    (.block 0
     (.loop
      (.seq
       (.reg [⟨(some 10), .v (.bin .lss (.t 9) (.t 8)), none⟩])
       (.seq
        (.cond (.t 10)
         .skip
         (.exit 0))
        (.seq
         (.block 1
          (.seq
           (.reg [⟨(some 11), .v (.mov (.t 9)), none⟩, ⟨(some 12), .v (.iaddr 1 (.t 7) (.t 9)), none⟩, ⟨(some 13), .v (.load false 1 (.t 12)), none⟩, ⟨(some 5), .v (.mov (.t 11)), none⟩, ⟨(some 6), .v (.mov (.t 13)), none⟩])
           (.seq
            (.reg [⟨(some 14), .v (.mov (.t 6)), none⟩, ⟨(some 15), .v (.mov (.t 1)), none⟩, ⟨(some 16), .v (.bin .sub (.t 15) (.c (.int .i64 1))), none⟩, ⟨(some 17), .call 63 [(.t 14), (.c (.int .i64 0)), (.t 16)], none⟩, ⟨(some 18), .v (.un .not (.t 17)), none⟩, ⟨(some 19), .v (.mov (.t 18)), none⟩, ⟨(some 20), .v (.mov (.t 5)), (some (19, false))⟩, ⟨(some 21), .v (.bin .gtr (.t 20) (.c (.int .i64 0))), (some (19, false))⟩, ⟨(some 22), .v (.mov (.t 21)), (some (19, false))⟩, ⟨(some 23), .v (.mov (.t 0)), (some (22, true))⟩, ⟨(some 24), .v (.mov (.t 5)), (some (22, true))⟩, ⟨(some 25), .v (.bin .sub (.t 24) (.c (.int .i64 1))), (some (22, true))⟩, ⟨(some 26), .v (.iaddr 1 (.t 23) (.t 25)), (some (22, true))⟩, ⟨(some 27), .v (.load false 1 (.t 26)), (some (22, true))⟩, ⟨(some 28), .v (.mov (.t 6)), (some (22, true))⟩, ⟨(some 29), .v (.bin .geq (.t 27) (.t 28)), (some (22, true))⟩, ⟨(some 30), .v (.pick (.t 22) (.t 29) (.c (.bool false))), (some (19, false))⟩, ⟨(some 31), .v (.pick (.t 19) (.c (.bool true)) (.t 30)), none⟩])
            (.cond (.t 31)
             (.seq
              (.reg [⟨(some 4), .v (.mov (.c (.bool false))), none⟩])
              .ret)
             .skip))))
         (.reg [⟨(some 32), .v (.bin .add (.t 9) (.c (.int .i64 1))), none⟩, ⟨(some 9), .v (.mov (.t 32)), none⟩])))))))
   (.seq
    (.reg [⟨(some 33), .v (.mov (.t 0)), none⟩, ⟨(some 34), .v (.len (.t 33)), none⟩, ⟨(some 35), .v (.bin .gtr (.t 34) (.c (.int .i64 0))), none⟩, ⟨(some 4), .v (.mov (.t 35)), none⟩])
    .ret)))⟩
theorem e103 : rFunc Tryz.prog Tryz.f103 = some r103 := by kernel_rfl
def r41 : RFunc := ⟨51, [.t 4, .t 5],
 (.seq
  (.reg [⟨(some 2), .m (.box (.t 0)), none⟩, ⟨(some 4), .v (.mov (.c (.bool false))), none⟩, ⟨(some 5), .v (.mov (.c (.bool false))), none⟩])
  (.seq
   (.seq
    (.reg [⟨(some 9), .v (.load true 3 (.t 2)), none⟩, ⟨(some 10), .call 102 [(.t 9)], none⟩, ⟨(some 11), .v (.un .not (.t 10)), none⟩])
    (.cond (.t 11)
     (.seq
      (.reg [⟨(some 4), .v (.mov (.c (.bool false))), none⟩, ⟨(some 5), .v (.mov (.c (.bool false))), none⟩])
      .ret)
     .skip))
   (.seq
    (.seq
     (.reg [⟨(some 12), .v (.mov (.t 1)), none⟩, ⟨(some 13), .v (.faddr 1 (.t 2)), none⟩, ⟨(some 14), .v (.load false 1 (.t 13)), none⟩, ⟨(some 15), .v (.len (.t 14)), none⟩, ⟨(some 16), .call 103 [(.t 12), (.t 15)], none⟩, ⟨(some 17), .v (.un .not (.t 16)), none⟩])
     (.cond (.t 17)
      (.seq
       (.reg [⟨(some 4), .v (.mov (.c (.bool false))), none⟩, ⟨(some 5), .v (.mov (.c (.bool true))), none⟩])
       .ret)
      .skip))
    (.seq
     (.reg [⟨(some 18), .v (.faddr 0 (.t 2)), none⟩, ⟨(some 19), .v (.load false 1 (.t 18)), none⟩, ⟨(some 20), .call 104 [(.t 19)], none⟩, ⟨(some 21), .v (.bld [(.int .i64 0), .nils, (.bool false), (.int .u64 0)] [(0, 2, (.t 20))]), none⟩, ⟨(some 6), .m (.alloc [(.int .i64 0), .nils, (.bool false), (.int .u64 0)]), none⟩, ⟨none, .m (.store 4 (.t 6) (.t 21)), none⟩])
     (.seq
      (.seq
       (.reg [⟨(some 22), .v (.mov (.t 1)), none⟩, ⟨(some 23), .v (.len (.t 22)), none⟩, ⟨(some 24), .v (.mov (.c (.int .i64 0))), none⟩])
       (.block 0
        (.loop
         (.seq
          (.reg [⟨(some 25), .v (.bin .lss (.t 24) (.t 23)), none⟩])
          (.seq
           (.cond (.t 25)
            .skip
            (.exit 0))
           (.seq
            (.block 1
             (.seq
              (.reg [⟨(some 26), .v (.iaddr 1 (.t 22) (.t 24)), none⟩, ⟨(some 27), .v (.load false 1 (.t 26)), none⟩, ⟨(some 8), .v (.mov (.t 27)), none⟩])
              (.dreg (.fl ⟨(some 28), .v (.faddr 1 (.t 2)), none⟩ (.fl ⟨(some 29), .v (.load false 1 (.t 28)), none⟩ (.fl ⟨(some 30), .v (.mov (.t 8)), none⟩ (.fl ⟨(some 31), .v (.iaddr 2 (.t 29) (.t 30)), none⟩ (.fl ⟨(some 32), .v (.load true 2 (.t 31)), none⟩ (.fl ⟨(some 33), .v (.faddr 2 (.t 2)), none⟩ (.fl ⟨(some 34), .v (.load false 1 (.t 33)), none⟩ (.fl ⟨(some 35), .v (.mov (.t 8)), none⟩ (.fl ⟨(some 36), .v (.iaddr 1 (.t 34) (.t 35)), none⟩ (.fl ⟨(some 37), .v (.load false 1 (.t 36)), none⟩ (.fl ⟨(some 38), .v (.bld [(.int .i64 0), .nils, (.bool false), (.int .u64 0)] [(0, 2, (.t 32)), (2, 1, (.t 37)), (3, 1, (.c (.int .u64 0)))]), none⟩ (.nx ⟨(some 39), .m (.box (.t 38)), none⟩ (.nx ⟨(some 40), .call 105 [(.t 6), (.t 39)], none⟩ .done))))))))))))))))
            (.reg [⟨(some 41), .v (.bin .add (.t 24) (.c (.int .i64 1))), none⟩, ⟨(some 24), .v (.mov (.t 41)), none⟩])))))))
      (.seq
       (.dreg (.fl ⟨(some 42), .v (.faddr 2 (.t 6)), none⟩ (.fl ⟨(some 43), .v (.load false 1 (.t 42)), none⟩ (.fl ⟨(some 44), .v (.mov (.t 43)), none⟩ (.fl ⟨(some 45), .v (.faddr 0 (.t 6)), (some (44, true))⟩ (.fl ⟨(some 47), .v (.faddr 0 (.t 2)), (some (44, true))⟩ (.fl ⟨(some 48), .v (.load false 1 (.t 47)), (some (44, true))⟩ (.nx ⟨(some 46), .call 106 [(.t 45), (.c (.int .i64 0)), (.c (.bool true))], (some (44, true))⟩ (.fl ⟨(some 49), .v (.bin .eql (.t 46) (.t 48)), (some (44, true))⟩ (.fl ⟨(some 50), .v (.pick (.t 44) (.t 49) (.c (.bool false))), none⟩ (.fl ⟨(some 4), .v (.mov (.t 50)), none⟩ (.fl ⟨(some 5), .v (.mov (.c (.bool true))), none⟩ .done))))))))))))
       .ret))))))⟩
theorem e41 : rFunc Tryz.prog Tryz.f41 = some r41 := by kernel_rfl
def r38 : RFunc := ⟨26, [.t 4],
 (.seq
  (.reg [⟨(some 4), .v (.mov (.c (.bool false))), none⟩])
  (.seq
   (.seq
    (.reg [⟨(some 6), .v (.mov (.t 0)), none⟩, ⟨(some 7), .v (.len (.t 6)), none⟩, ⟨(some 8), .v (.mov (.t 1)), none⟩, ⟨(some 9), .v (.len (.t 8)), none⟩, ⟨(some 10), .v (.bin .neq (.t 7) (.t 9)), none⟩])
    (.cond (.t 10)
     (.seq
      (.reg [⟨(some 4), .v (.mov (.c (.bool false))), none⟩])
      .ret)
     .skip))
   (.seq
    (.seq
     (.reg [⟨(some 11), .v (.mov (.t 0)), none⟩, ⟨(some 12), .v (.len (.t 11)), none⟩, ⟨(some 13), .v (.mov (.c (.int .i64 0))), none⟩])
     (.block 0
      (.loop
       (.seq
        (.reg [⟨(some 14), .v (.bin .lss (.t 13) (.t 12)), none⟩])
        (.seq
         (.cond (.t 14)
          .skip
          (.exit 0))
         (.seq
          (.block 1
           (.seq
            (.reg [⟨(some 15), .v (.mov (.t 13)), none⟩, ⟨(some 5), .v (.mov (.t 15)), none⟩])
            (.seq
             (.dreg (.fl ⟨(some 16), .v (.mov (.t 0)), none⟩ (.fl ⟨(some 17), .v (.mov (.t 5)), none⟩ (.fl ⟨(some 18), .v (.iaddr 1 (.t 16) (.t 17)), none⟩ (.fl ⟨(some 19), .v (.load false 1 (.t 18)), none⟩ (.fl ⟨(some 20), .v (.mov (.t 1)), none⟩ (.fl ⟨(some 21), .v (.mov (.t 5)), none⟩ (.fl ⟨(some 22), .v (.iaddr 1 (.t 20) (.t 21)), none⟩ (.fl ⟨(some 23), .v (.load false 1 (.t 22)), none⟩ (.fl ⟨(some 24), .v (.bin .neq (.t 19) (.t 23)), none⟩ .done))))))))))
             (.cond (.t 24)
              (.seq
               (.reg [⟨(some 4), .v (.mov (.c (.bool false))), none⟩])
               .ret)
              .skip))))
          (.reg [⟨(some 25), .v (.bin .add (.t 13) (.c (.int .i64 1))), none⟩, ⟨(some 13), .v (.mov (.t 25)), none⟩])))))))
    (.seq
     (.reg [⟨(some 4), .v (.mov (.c (.bool true))), none⟩])
     .ret))))⟩
theorem e38 : rFunc Tryz.prog Tryz.f38 = some r38 := by kernel_rfl
def r23 : RFunc := ⟨31, [.t 4],
 (.seq
  (.reg [⟨(some 2), .m (.box (.t 0)), none⟩, ⟨(some 3), .m (.box (.t 1)), none⟩, ⟨(some 4), .v (.mov (.c (.bool false))), none⟩])
  (.seq
   (.reg [⟨(some 5), .v (.faddr 0 (.t 2)), none⟩, ⟨(some 6), .v (.load false 1 (.t 5)), none⟩, ⟨(some 7), .v (.faddr 0 (.t 3)), none⟩, ⟨(some 8), .v (.load false 1 (.t 7)), none⟩, ⟨(some 9), .v (.bin .eql (.t 6) (.t 8)), none⟩, ⟨(some 10), .v (.mov (.t 9)), none⟩, ⟨(some 11), .v (.faddr 1 (.t 2)), (some (10, true))⟩, ⟨(some 12), .v (.load false 1 (.t 11)), (some (10, true))⟩, ⟨(some 13), .v (.faddr 1 (.t 3)), (some (10, true))⟩, ⟨(some 14), .v (.load false 1 (.t 13)), (some (10, true))⟩, ⟨(some 15), .v (.bin .eql (.t 12) (.t 14)), (some (10, true))⟩, ⟨(some 16), .v (.pick (.t 10) (.t 15) (.c (.bool false))), none⟩, ⟨(some 17), .v (.mov (.t 16)), none⟩, ⟨(some 18), .v (.faddr 2 (.t 2)), (some (17, true))⟩, ⟨(some 19), .v (.load false 1 (.t 18)), (some (17, true))⟩, ⟨(some 20), .v (.faddr 2 (.t 3)), (some (17, true))⟩, ⟨(some 21), .v (.load false 1 (.t 20)), (some (17, true))⟩, ⟨(some 22), .v (.bin .eql (.t 19) (.t 21)), (some (17, true))⟩, ⟨(some 23), .v (.pick (.t 17) (.t 22) (.c (.bool false))), none⟩, ⟨(some 24), .v (.mov (.t 23)), none⟩, ⟨(some 25), .v (.faddr 3 (.t 2)), (some (24, true))⟩, ⟨(some 26), .v (.load false 1 (.t 25)), (some (24, true))⟩, ⟨(some 27), .v (.faddr 3 (.t 3)), (some (24, true))⟩, ⟨(some 28), .v (.load false 1 (.t 27)), (some (24, true))⟩, ⟨(some 29), .call 38 [(.t 26), (.t 28)], (some (24, true))⟩, ⟨(some 30), .v (.pick (.t 24) (.t 29) (.c (.bool false))), none⟩, ⟨(some 4), .v (.mov (.t 30)), none⟩])
   .ret))⟩
theorem e23 : rFunc Tryz.prog Tryz.f23 = some r23 := by kernel_rfl
def r25 : RFunc := ⟨16, [.t 4, .t 5],
 (.seq
  (.reg [⟨(some 2), .m (.box (.t 0)), none⟩, ⟨(some 4), .v (.mov (.c (.int .i64 0))), none⟩, ⟨(some 5), .v (.mov (.c (.bool false))), none⟩])
  (.seq
   (.seq
    (.reg [⟨(some 6), .v (.load true 4 (.t 2)), none⟩, ⟨(some 7), .call 34 [(.t 6)], none⟩, ⟨(some 8), .v (.un .not (.t 7)), none⟩, ⟨(some 9), .v (.mov (.t 8)), none⟩, ⟨(some 10), .v (.mov (.t 1)), (some (9, false))⟩, ⟨(some 11), .call 74 [(.t 10)], (some (9, false))⟩, ⟨(some 12), .v (.un .not (.t 11)), (some (9, false))⟩, ⟨(some 13), .v (.pick (.t 9) (.c (.bool true)) (.t 12)), none⟩])
    (.cond (.t 13)
     (.seq
      (.reg [⟨(some 4), .v (.mov (.c (.int .i64 0))), none⟩, ⟨(some 5), .v (.mov (.c (.bool false))), none⟩])
      .ret)
     .skip))
   (.seq
    (.reg [⟨(some 14), .v (.mov (.t 1)), none⟩, ⟨(some 15), .call 64 [(.t 2), (.t 14)], none⟩, ⟨(some 4), .v (.mov (.t 15)), none⟩, ⟨(some 5), .v (.mov (.c (.bool true))), none⟩])
    .ret)))⟩
theorem e25 : rFunc Tryz.prog Tryz.f25 = some r25 := by kernel_rfl
def r36 : RFunc := ⟨28, [.cell true 4 10, .t 11],
 (.seq
  (.reg [⟨(some 10), .m (.alloc [(.int .i64 0), (.int .i64 0), (.int .i64 0), .nils]), none⟩, ⟨(some 11), .v (.mov (.c (.bool false))), none⟩])
  (.seq
   (.seq
    (.reg [⟨(some 12), .v (.mov (.t 0)), none⟩, ⟨(some 13), .v (.mov (.t 1)), none⟩, ⟨(some 14), .v (.mov (.t 2)), none⟩, ⟨(some 15), .v (.mov (.t 3)), none⟩, ⟨(some 16), .v (.mov (.t 4)), none⟩, ⟨(some 17), .call 85 [(.t 12), (.t 13), (.t 14), (.t 15), (.t 16)], none⟩, ⟨(some 18), .v (.un .not (.t 17)), none⟩])
    (.cond (.t 18)
     (.seq
      (.reg [⟨(some 19), .v (.bld [(.int .i64 0), (.int .i64 0), (.int .i64 0), .nils] []), none⟩, ⟨none, .m (.store 4 (.t 10) (.t 19)), none⟩, ⟨(some 11), .v (.mov (.c (.bool false))), none⟩])
      .ret)
     .skip))
   (.seq
    (.reg [⟨(some 20), .v (.mov (.t 0)), none⟩, ⟨(some 21), .v (.mov (.t 1)), none⟩, ⟨(some 22), .v (.mov (.t 2)), none⟩, ⟨(some 23), .v (.mov (.t 3)), none⟩, ⟨(some 24), .v (.mov (.t 4)), none⟩, ⟨(some 25), .call 60 [(.t 20), (.t 21), (.t 22), (.t 23), (.t 24)], none⟩, ⟨(some 26), .v (.ext (.t 25) 0), none⟩, ⟨(some 27), .v (.ext (.t 25) 1), none⟩, ⟨none, .m (.store 4 (.t 10) (.t 26)), none⟩, ⟨(some 11), .v (.mov (.t 27)), none⟩])
    .ret)))⟩
theorem e36 : rFunc Tryz.prog Tryz.f36 = some r36 := by kernel_rfl
def r19 : RFunc := ⟨16, [.t 4],
 (.seq
  (.reg [⟨(some 4), .v (.mov (.c (.bool false))), none⟩])
  (.seq
   (.reg [⟨(some 5), .v (.mov (.t 0)), none⟩, ⟨(some 6), .v (.len (.t 5)), none⟩, ⟨(some 7), .v (.bin .gtr (.t 6) (.c (.int .i64 1048576))), none⟩, ⟨(some 8), .v (.mov (.t 7)), none⟩, ⟨(some 9), .v (.mov (.t 1)), (some (8, false))⟩, ⟨(some 10), .v (.len (.t 9)), (some (8, false))⟩, ⟨(some 11), .v (.mov (.t 0)), (some (8, false))⟩, ⟨(some 12), .v (.len (.t 11)), (some (8, false))⟩, ⟨(some 13), .v (.bin .sub (.c (.int .i64 1048576)) (.t 12)), (some (8, false))⟩, ⟨(some 14), .v (.bin .gtr (.t 10) (.t 13)), (some (8, false))⟩, ⟨(some 15), .v (.pick (.t 8) (.c (.bool true)) (.t 14)), none⟩, ⟨(some 4), .v (.mov (.t 15)), none⟩])
   .ret))⟩
theorem e19 : rFunc Tryz.prog Tryz.f19 = some r19 := by kernel_rfl
end Go.Proofs.YtjfgmimgmapeeaaGreat.M
