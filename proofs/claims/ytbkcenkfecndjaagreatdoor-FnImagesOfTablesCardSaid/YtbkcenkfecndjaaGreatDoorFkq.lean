/-
  The resolved text of the functions, each tied to the program's own by the kernel.
-/
import Derived.Test.YtbkcenkfecndjaaGreatDoorProg
import Derived.Test.YtbkcenkfecndjaaGreatDoorFkp
namespace Go.Proofs.YtbkcenkfecndjaaGreatDoor.M
open Go Go.RowKit
set_option maxRecDepth 100000

def r137 : RFunc := ⟨50, [.t 6],
 (.seq
  (.reg [⟨(some 6), .v (.mov (.c (.int .i64 0))), none⟩])
  (.seq
   (.reg [⟨(some 11), .v (.mov (.t 0)), none⟩, ⟨(some 12), .v (.bin .mul (.c (.int .i64 31)) (.t 11)), none⟩, ⟨(some 13), .v (.mov (.t 1)), none⟩, ⟨(some 14), .v (.bin .mul (.c (.int .i64 977)) (.t 13)), none⟩, ⟨(some 15), .v (.bin .add (.t 12) (.t 14)), none⟩, ⟨(some 16), .v (.bin .add (.t 15) (.c (.int .i64 7))), none⟩, ⟨(some 17), .v (.bin .rem (.t 16) (.c (.int .i64 65521))), none⟩, ⟨(some 7), .v (.mov (.t 17)), none⟩])
   (.seq
    (.seq
     (.reg [⟨(some 8), .v (.mov (.c (.int .i64 0))), none⟩])
     (.block 0
      (.loop
       (.seq
        (.seq
         (.reg [⟨(some 18), .v (.mov (.t 8)), none⟩, ⟨(some 19), .v (.mov (.t 2)), none⟩, ⟨(some 20), .v (.lens (.t 19)), none⟩, ⟨(some 21), .v (.bin .lss (.t 18) (.t 20)), none⟩])
         (.cond (.t 21)
          .skip
          (.exit 0)))
        (.seq
         (.block 1
          (.reg [⟨(some 24), .v (.mov (.t 7)), none⟩, ⟨(some 25), .v (.bin .mul (.c (.int .i64 263)) (.t 24)), none⟩, ⟨(some 26), .v (.mov (.t 2)), none⟩, ⟨(some 27), .v (.mov (.t 8)), none⟩, ⟨(some 28), .v (.sidx (.t 26) (.t 27)), none⟩, ⟨(some 29), .v (.conv .i64 (.t 28)), none⟩, ⟨(some 30), .v (.bin .add (.t 25) (.t 29)), none⟩, ⟨(some 31), .v (.bin .rem (.t 30) (.c (.int .i64 65521))), none⟩, ⟨(some 7), .v (.mov (.t 31)), none⟩]))
         (.reg [⟨(some 22), .v (.mov (.t 8)), none⟩, ⟨(some 23), .v (.bin .add (.t 22) (.c (.int .i64 1))), none⟩, ⟨(some 8), .v (.mov (.t 23)), none⟩]))))))
    (.seq
     (.reg [⟨(some 32), .v (.mov (.t 7)), none⟩, ⟨(some 33), .v (.mov (.t 7)), none⟩, ⟨(some 34), .v (.bin .mul (.t 32) (.t 33)), none⟩, ⟨(some 35), .v (.bin .rem (.t 34) (.c (.int .i64 65521))), none⟩, ⟨(some 9), .v (.mov (.t 35)), none⟩])
     (.seq
      (.reg [⟨(some 36), .v (.mov (.t 9)), none⟩, ⟨(some 37), .v (.mov (.t 9)), none⟩, ⟨(some 38), .v (.bin .mul (.t 36) (.t 37)), none⟩, ⟨(some 39), .v (.bin .rem (.t 38) (.c (.int .i64 65521))), none⟩, ⟨(some 40), .v (.mov (.t 7)), none⟩, ⟨(some 41), .v (.bin .mul (.t 39) (.t 40)), none⟩, ⟨(some 42), .v (.bin .rem (.t 41) (.c (.int .i64 65521))), none⟩, ⟨(some 10), .v (.mov (.t 42)), none⟩])
      (.seq
       (.reg [⟨(some 43), .v (.mov (.t 10)), none⟩, ⟨(some 44), .v (.mov (.t 10)), none⟩, ⟨(some 45), .v (.bin .mul (.t 43) (.t 44)), none⟩, ⟨(some 46), .v (.bin .rem (.t 45) (.c (.int .i64 65521))), none⟩, ⟨(some 47), .v (.mov (.t 7)), none⟩, ⟨(some 48), .v (.bin .mul (.t 46) (.t 47)), none⟩, ⟨(some 49), .v (.bin .rem (.t 48) (.c (.int .i64 65521))), none⟩, ⟨(some 6), .v (.mov (.t 49)), none⟩])
       .ret))))))⟩
theorem e137 : rFunc Tryz.prog Tryz.f137 = some r137 := by kernel_rfl
def r122 : RFunc := ⟨16, [.t 8],
 (.seq
  (.reg [⟨(some 8), .v (.mov (.c (.int .i64 0))), none⟩])
  (.seq
   (.reg [⟨(some 9), .v (.mov (.t 0)), none⟩, ⟨(some 10), .v (.mov (.t 1)), none⟩, ⟨(some 11), .v (.mov (.t 2)), none⟩, ⟨(some 12), .call 137 [(.t 9), (.t 10), (.t 11)], none⟩, ⟨(some 13), .v (.mov (.t 3)), none⟩, ⟨(some 14), .v (.bin .mul (.t 12) (.t 13)), none⟩, ⟨(some 15), .v (.bin .quo (.t 14) (.c (.int .i64 65521))), none⟩, ⟨(some 8), .v (.mov (.t 15)), none⟩])
   .ret))⟩
theorem e122 : rFunc Tryz.prog Tryz.f122 = some r122 := by kernel_rfl
def r102 : RFunc := ⟨26, [.t 6],
 (.seq
  (.reg [⟨(some 6), .v (.mov (.c .nils)), none⟩])
  (.seq
   (.reg [⟨(some 7), .v (.mov (.c .nils)), none⟩])
   (.seq
    (.seq
     (.reg [⟨(some 8), .v (.mov (.c (.int .i64 0))), none⟩])
     (.block 0
      (.loop
       (.seq
        (.seq
         (.reg [⟨(some 9), .v (.mov (.t 8)), none⟩, ⟨(some 10), .v (.bin .lss (.t 9) (.c (.int .i64 3))), none⟩])
         (.cond (.t 10)
          .skip
          (.exit 0)))
        (.seq
         (.block 1
          (.reg [⟨(some 13), .v (.mov (.t 7)), none⟩, ⟨(some 14), .v (.mov (.t 0)), none⟩, ⟨(some 15), .v (.mov (.t 8)), none⟩, ⟨(some 16), .v (.mov (.t 1)), none⟩, ⟨(some 17), .v (.mov (.t 2)), none⟩, ⟨(some 18), .call 122 [(.t 14), (.t 15), (.t 16), (.t 17)], none⟩, ⟨(some 19), .v (.mov (.t 8)), none⟩, ⟨(some 20), .v (.mov (.t 2)), none⟩, ⟨(some 21), .v (.bin .mul (.t 19) (.t 20)), none⟩, ⟨(some 22), .v (.bin .add (.t 18) (.t 21)), none⟩, ⟨(some 23), .m (.bsl 1 1 [(.int .i64 0)] [(0, 1, (.t 22))]), none⟩, ⟨(some 24), .m (.app false 1 8 (.t 13) (.t 23)), none⟩, ⟨(some 7), .v (.mov (.t 24)), none⟩]))
         (.reg [⟨(some 11), .v (.mov (.t 8)), none⟩, ⟨(some 12), .v (.bin .add (.t 11) (.c (.int .i64 1))), none⟩, ⟨(some 8), .v (.mov (.t 12)), none⟩]))))))
    (.seq
     (.reg [⟨(some 25), .v (.mov (.t 7)), none⟩, ⟨(some 6), .v (.mov (.t 25)), none⟩])
     .ret))))⟩
theorem e102 : rFunc Tryz.prog Tryz.f102 = some r102 := by kernel_rfl
def r83 : RFunc := ⟨30, [.cell true 2 6],
 (.seq
  (.reg [⟨(some 6), .m (.alloc [(.int .i64 0), .nils]), none⟩])
  (.seq
   (.reg [⟨(some 10), .v (.mov (.t 2)), none⟩, ⟨(some 11), .v (.bin .mul (.c (.int .i64 3)) (.t 10)), none⟩, ⟨(some 12), .v (.bld [(.int .i64 0), .nils] [(0, 1, (.t 11))]), none⟩, ⟨(some 7), .m (.alloc [(.int .i64 0), .nils]), none⟩, ⟨none, .m (.store 2 (.t 7) (.t 12)), none⟩])
   (.seq
    (.seq
     (.reg [⟨(some 13), .v (.mov (.t 1)), none⟩, ⟨(some 14), .v (.len (.t 13)), none⟩, ⟨(some 15), .v (.mov (.c (.int .i64 0))), none⟩])
     (.block 0
      (.loop
       (.seq
        (.reg [⟨(some 16), .v (.bin .lss (.t 15) (.t 14)), none⟩])
        (.seq
         (.cond (.t 16)
          .skip
          (.exit 0))
         (.seq
          (.block 1
           (.seq
            (.reg [⟨(some 17), .v (.iaddr 1 (.t 13) (.t 15)), none⟩, ⟨(some 18), .v (.load false 1 (.t 17)), none⟩, ⟨(some 9), .v (.mov (.t 18)), none⟩])
            (.dreg (.fl ⟨(some 19), .v (.faddr 1 (.t 7)), none⟩ (.fl ⟨(some 21), .v (.mov (.t 0)), none⟩ (.fl ⟨(some 22), .v (.mov (.t 9)), none⟩ (.fl ⟨(some 23), .v (.mov (.t 2)), none⟩ (.both (.nx ⟨(some 20), .v (.load false 1 (.t 19)), none⟩ (.nx ⟨(some 24), .call 102 [(.t 21), (.t 22), (.t 23)], none⟩ (.nx ⟨(some 25), .m (.bsl 1 1 [.nils] [(0, 1, (.t 24))]), none⟩ (.nx ⟨(some 26), .m (.app false 1 24 (.t 20) (.t 25)), none⟩ (.fl ⟨(some 27), .v (.faddr 1 (.t 7)), none⟩ (.nx ⟨none, .m (.store 1 (.t 27) (.t 26)), none⟩ .done)))))) (.nx ⟨(some 24), .call 102 [(.t 21), (.t 22), (.t 23)], none⟩ (.both (.nx ⟨(some 20), .v (.load false 1 (.t 19)), none⟩ (.nx ⟨(some 25), .m (.bsl 1 1 [.nils] [(0, 1, (.t 24))]), none⟩ (.nx ⟨(some 26), .m (.app false 1 24 (.t 20) (.t 25)), none⟩ (.fl ⟨(some 27), .v (.faddr 1 (.t 7)), none⟩ (.nx ⟨none, .m (.store 1 (.t 27) (.t 26)), none⟩ .done))))) (.nx ⟨(some 25), .m (.bsl 1 1 [.nils] [(0, 1, (.t 24))]), none⟩ (.nx ⟨(some 20), .v (.load false 1 (.t 19)), none⟩ (.nx ⟨(some 26), .m (.app false 1 24 (.t 20) (.t 25)), none⟩ (.fl ⟨(some 27), .v (.faddr 1 (.t 7)), none⟩ (.nx ⟨none, .m (.store 1 (.t 27) (.t 26)), none⟩ .done)))))))))))))))
          (.reg [⟨(some 28), .v (.bin .add (.t 15) (.c (.int .i64 1))), none⟩, ⟨(some 15), .v (.mov (.t 28)), none⟩])))))))
    (.seq
     (.reg [⟨(some 29), .v (.load true 2 (.t 7)), none⟩, ⟨none, .m (.store 2 (.t 6) (.t 29)), none⟩])
     .ret))))⟩
theorem e83 : rFunc Tryz.prog Tryz.f83 = some r83 := by kernel_rfl
def r101 : RFunc := ⟨11, [.t 2],
 (.seq
  (.reg [⟨(some 1), .m (.box (.t 0)), none⟩, ⟨(some 2), .v (.mov (.c .nils)), none⟩])
  (.seq
   (.reg [⟨(some 6), .v (.load true 2 (.t 1)), none⟩, ⟨(some 7), .call 84 [(.t 6), (.c .nils), (.c (.bool true))], none⟩, ⟨(some 5), .v (.mov (.t 7)), none⟩, ⟨(some 8), .v (.ext (.t 5) 0), none⟩, ⟨(some 9), .v (.ext (.t 5) 1), none⟩, ⟨(some 3), .v (.mov (.t 8)), none⟩, ⟨(some 4), .v (.mov (.t 9)), none⟩])
   (.seq
    (.reg [⟨(some 10), .v (.mov (.t 4)), none⟩, ⟨(some 2), .v (.mov (.t 10)), none⟩])
    .ret)))⟩
theorem e101 : rFunc Tryz.prog Tryz.f101 = some r101 := by kernel_rfl
def r82 : RFunc := ⟨14, [.t 6],
 (.seq
  (.reg [⟨(some 6), .v (.mov (.c (.bool false))), none⟩])
  (.seq
   (.reg [⟨(some 7), .v (.mov (.t 0)), none⟩, ⟨(some 8), .v (.mov (.t 1)), none⟩, ⟨(some 9), .v (.mov (.t 2)), none⟩, ⟨(some 10), .call 83 [(.t 7), (.t 8), (.t 9)], none⟩, ⟨(some 11), .call 101 [(.t 10)], none⟩, ⟨(some 12), .v (.len (.t 11)), none⟩, ⟨(some 13), .v (.bin .eql (.t 12) (.c (.int .i64 0))), none⟩, ⟨(some 6), .v (.mov (.t 13)), none⟩])
   .ret))⟩
theorem e82 : rFunc Tryz.prog Tryz.f82 = some r82 := by kernel_rfl
def r85 : RFunc := ⟨19, [.t 4],
 (.seq
  (.reg [⟨(some 4), .v (.mov (.c (.int .i64 0))), none⟩])
  (.seq
   (.seq
    (.reg [⟨(some 7), .v (.mov (.t 0)), none⟩, ⟨(some 8), .v (.len (.t 7)), none⟩, ⟨(some 9), .v (.mov (.c (.int .i64 0))), none⟩])
    (.block 0
     (.loop
      (.seq
       (.reg [⟨(some 10), .v (.bin .lss (.t 9) (.t 8)), none⟩])
       (.seq
        (.cond (.t 10)
         .skip
         (.exit 0))
        (.seq
         (.block 1
          (.seq
           (.reg [⟨(some 11), .v (.mov (.t 9)), none⟩, ⟨(some 12), .v (.iaddr 1 (.t 7) (.t 9)), none⟩, ⟨(some 13), .v (.load false 1 (.t 12)), none⟩, ⟨(some 5), .v (.mov (.t 11)), none⟩, ⟨(some 6), .v (.mov (.t 13)), none⟩])
           (.seq
            (.reg [⟨(some 14), .v (.mov (.t 6)), none⟩, ⟨(some 15), .v (.mov (.t 1)), none⟩, ⟨(some 16), .v (.bin .eql (.t 14) (.t 15)), none⟩])
            (.cond (.t 16)
             (.seq
              (.reg [⟨(some 17), .v (.mov (.t 5)), none⟩, ⟨(some 4), .v (.mov (.t 17)), none⟩])
              .ret)
             .skip))))
         (.reg [⟨(some 18), .v (.bin .add (.t 9) (.c (.int .i64 1))), none⟩, ⟨(some 9), .v (.mov (.t 18)), none⟩])))))))
   (.seq
    (.reg [⟨(some 4), .v (.mov (.c (.int .i64 0))), none⟩])
    .ret)))⟩
theorem e85 : rFunc Tryz.prog Tryz.f85 = some r85 := by kernel_rfl
end Go.Proofs.YtbkcenkfecndjaaGreatDoor.M
