/-
  The resolved text of the functions, each tied to the program's own by the kernel.
-/
import Derived.Test.YtoappkfndnggnaaDoorProg
import Derived.Test.YtoappkfndnggnaaDoorM21
namespace Go.Proofs.YtoappkfndnggnaaDoor.M
open Go Go.RowKit
set_option maxRecDepth 100000

def r77 : RFunc := ⟨9, [.cell true 2 2],
 (.seq
  (.reg [⟨(some 2), .m (.alloc [(.int .i64 0), .nils]), none⟩])
  (.seq
   (.reg [⟨(some 3), .v (.mov (.t 0)), none⟩, ⟨(some 4), .v (.mov (.t 0)), none⟩, ⟨(some 5), .v (.bin .add (.t 4) (.c (.int .i64 15))), none⟩, ⟨(some 6), .v (.bin .quo (.t 5) (.c (.int .i64 16))), none⟩, ⟨(some 7), .m (.mks 1 8 [(.int .i64 0)] (.t 6) (.t 6)), none⟩, ⟨(some 8), .v (.bld [(.int .i64 0), .nils] [(0, 1, (.t 3)), (1, 1, (.t 7))]), none⟩, ⟨none, .m (.store 2 (.t 2) (.t 8)), none⟩])
   .ret))⟩
theorem e77 : rFunc Tryd.prog Tryd.f77 = some r77 := by kernel_rfl
def r101 : RFunc := ⟨15, [],
 (.seq
  (.reg [⟨(some 2), .m (.box (.t 0)), none⟩])
  (.dreg (.fl ⟨(some 4), .v (.faddr 1 (.t 2)), none⟩ (.fl ⟨(some 6), .v (.mov (.t 1)), none⟩ (.fl ⟨(some 7), .v (.bin .quo (.t 6) (.c (.int .i64 16))), none⟩ (.fl ⟨(some 10), .v (.mov (.t 1)), none⟩ (.fl ⟨(some 11), .v (.bin .rem (.t 10) (.c (.int .i64 16))), none⟩ (.fl ⟨(some 12), .v (.bin .shl (.c (.int .i64 1)) (.t 11)), none⟩ (.nx ⟨(some 5), .v (.load false 1 (.t 4)), none⟩ (.fl ⟨(some 8), .v (.iaddr 1 (.t 5) (.t 7)), none⟩ (.nx ⟨(some 9), .v (.load false 1 (.t 8)), none⟩ (.fl ⟨(some 13), .v (.bin .or (.t 9) (.t 12)), none⟩ (.fl ⟨(some 14), .v (.iaddr 1 (.t 5) (.t 7)), none⟩ (.nx ⟨none, .m (.store 1 (.t 14) (.t 13)), none⟩ .done))))))))))))))⟩
theorem e101 : rFunc Tryd.prog Tryd.f101 = some r101 := by kernel_rfl
def r68 : RFunc := ⟨22, [.cell true 2 2],
 (.seq
  (.reg [⟨(some 2), .m (.alloc [(.int .i64 0), .nils]), none⟩])
  (.seq
   (.reg [⟨(some 6), .v (.mov (.t 0)), none⟩, ⟨(some 7), .v (.len (.t 6)), none⟩, ⟨(some 8), .call 77 [(.t 7)], none⟩, ⟨(some 3), .m (.alloc [(.int .i64 0), .nils]), none⟩, ⟨none, .m (.store 2 (.t 3) (.t 8)), none⟩])
   (.seq
    (.seq
     (.reg [⟨(some 9), .v (.mov (.t 0)), none⟩, ⟨(some 10), .v (.len (.t 9)), none⟩, ⟨(some 11), .v (.mov (.c (.int .i64 0))), none⟩])
     (.block 0
      (.loop
       (.seq
        (.reg [⟨(some 12), .v (.bin .lss (.t 11) (.t 10)), none⟩])
        (.seq
         (.cond (.t 12)
          .skip
          (.exit 0))
         (.seq
          (.block 1
           (.seq
            (.reg [⟨(some 13), .v (.mov (.t 11)), none⟩, ⟨(some 14), .v (.iaddr 1 (.t 9) (.t 11)), none⟩, ⟨(some 15), .v (.load false 1 (.t 14)), none⟩, ⟨(some 4), .v (.mov (.t 13)), none⟩, ⟨(some 5), .v (.mov (.t 15)), none⟩])
            (.seq
             (.reg [⟨(some 16), .v (.mov (.t 5)), none⟩])
             (.cond (.t 16)
              (.reg [⟨(some 17), .v (.load true 2 (.t 3)), none⟩, ⟨(some 18), .v (.mov (.t 4)), none⟩, ⟨(some 19), .call 101 [(.t 17), (.t 18)], none⟩])
              .skip))))
          (.reg [⟨(some 20), .v (.bin .add (.t 11) (.c (.int .i64 1))), none⟩, ⟨(some 11), .v (.mov (.t 20)), none⟩])))))))
    (.seq
     (.reg [⟨(some 21), .v (.load true 2 (.t 3)), none⟩, ⟨none, .m (.store 2 (.t 2) (.t 21)), none⟩])
     .ret))))⟩
theorem e68 : rFunc Tryd.prog Tryd.f68 = some r68 := by kernel_rfl
def r114 : RFunc := ⟨7, [.t 2],
 (.seq
  (.reg [⟨(some 2), .v (.mov (.c (.int .i64 0))), none⟩])
  (.seq
   (.reg [⟨(some 3), .v (.mov (.t 0)), none⟩, ⟨(some 4), .v (.bin .add (.t 3) (.c (.int .i64 16))), none⟩, ⟨(some 5), .v (.bin .sub (.t 4) (.c (.int .i64 1))), none⟩, ⟨(some 6), .v (.bin .quo (.t 5) (.c (.int .i64 16))), none⟩, ⟨(some 2), .v (.mov (.t 6)), none⟩])
   .ret))⟩
theorem e114 : rFunc Tryd.prog Tryd.f114 = some r114 := by kernel_rfl
def r110 : RFunc := ⟨8, [.cell true 2 2],
 (.seq
  (.reg [⟨(some 2), .m (.alloc [(.int .i64 0), .nils]), none⟩])
  (.seq
   (.reg [⟨(some 3), .v (.mov (.t 0)), none⟩, ⟨(some 4), .v (.mov (.t 0)), none⟩, ⟨(some 5), .call 114 [(.t 4)], none⟩, ⟨(some 6), .m (.mks 1 8 [(.int .i64 0)] (.t 5) (.t 5)), none⟩, ⟨(some 7), .v (.bld [(.int .i64 0), .nils] [(0, 1, (.t 3)), (1, 1, (.t 6))]), none⟩, ⟨none, .m (.store 2 (.t 2) (.t 7)), none⟩])
   .ret))⟩
theorem e110 : rFunc Tryd.prog Tryd.f110 = some r110 := by kernel_rfl
def r111 : RFunc := ⟨33, [],
 (.seq
  (.dreg (.fl ⟨(some 6), .v (.mov (.t 0)), none⟩ (.fl ⟨(some 7), .v (.nchk (.t 6)), none⟩ (.fl ⟨(some 8), .v (.faddr 1 (.t 7)), none⟩ (.fl ⟨(some 10), .v (.mov (.t 1)), none⟩ (.fl ⟨(some 11), .v (.bin .quo (.t 10) (.c (.int .i64 16))), none⟩ (.fl ⟨(some 14), .v (.mov (.t 1)), none⟩ (.fl ⟨(some 15), .v (.bin .rem (.t 14) (.c (.int .i64 16))), none⟩ (.fl ⟨(some 16), .v (.bin .shl (.c (.int .i64 1)) (.t 15)), none⟩ (.nx ⟨(some 9), .v (.load false 1 (.t 8)), none⟩ (.fl ⟨(some 12), .v (.iaddr 1 (.t 9) (.t 11)), none⟩ (.nx ⟨(some 13), .v (.load false 1 (.t 12)), none⟩ (.fl ⟨(some 17), .v (.bin .andNot (.t 13) (.t 16)), none⟩ (.fl ⟨(some 18), .v (.iaddr 1 (.t 9) (.t 11)), none⟩ (.nx ⟨none, .m (.store 1 (.t 18) (.t 17)), none⟩ .done)))))))))))))))
  (.seq
   (.reg [⟨(some 19), .v (.mov (.t 2)), none⟩])
   (.cond (.t 19)
    (.dreg (.fl ⟨(some 20), .v (.mov (.t 0)), none⟩ (.fl ⟨(some 21), .v (.nchk (.t 20)), none⟩ (.fl ⟨(some 22), .v (.faddr 1 (.t 21)), none⟩ (.fl ⟨(some 24), .v (.mov (.t 1)), none⟩ (.fl ⟨(some 25), .v (.bin .quo (.t 24) (.c (.int .i64 16))), none⟩ (.fl ⟨(some 28), .v (.mov (.t 1)), none⟩ (.fl ⟨(some 29), .v (.bin .rem (.t 28) (.c (.int .i64 16))), none⟩ (.fl ⟨(some 30), .v (.bin .shl (.c (.int .i64 1)) (.t 29)), none⟩ (.nx ⟨(some 23), .v (.load false 1 (.t 22)), none⟩ (.fl ⟨(some 26), .v (.iaddr 1 (.t 23) (.t 25)), none⟩ (.nx ⟨(some 27), .v (.load false 1 (.t 26)), none⟩ (.fl ⟨(some 31), .v (.bin .or (.t 27) (.t 30)), none⟩ (.fl ⟨(some 32), .v (.iaddr 1 (.t 23) (.t 25)), none⟩ (.nx ⟨none, .m (.store 1 (.t 32) (.t 31)), none⟩ .done)))))))))))))))
    .skip)))⟩
theorem e111 : rFunc Tryd.prog Tryd.f111 = some r111 := by kernel_rfl
def r72 : RFunc := ⟨20, [.cell true 2 4],
 (.seq
  (.reg [⟨(some 4), .m (.alloc [(.int .i64 0), .nils]), none⟩])
  (.seq
   (.reg [⟨(some 7), .v (.mov (.t 0)), none⟩, ⟨(some 8), .call 110 [(.t 7)], none⟩, ⟨(some 5), .m (.alloc [(.int .i64 0), .nils]), none⟩, ⟨none, .m (.store 2 (.t 5) (.t 8)), none⟩])
   (.seq
    (.seq
     (.reg [⟨(some 9), .v (.mov (.t 0)), none⟩, ⟨(some 10), .v (.mov (.c (.int .i64 0))), none⟩])
     (.block 0
      (.loop
       (.seq
        (.reg [⟨(some 11), .v (.bin .lss (.t 10) (.t 9)), none⟩])
        (.seq
         (.cond (.t 11)
          .skip
          (.exit 0))
         (.seq
          (.block 1
           (.seq
            (.reg [⟨(some 12), .v (.mov (.t 10)), none⟩, ⟨(some 6), .v (.mov (.t 12)), none⟩])
            (.reg [⟨(some 13), .v (.mov (.t 6)), none⟩, ⟨(some 14), .v (.mov (.t 1)), none⟩, ⟨(some 15), .v (.mov (.t 6)), none⟩, ⟨(some 16), .callv (.t 14) [(.t 15)], none⟩, ⟨(some 17), .call 111 [(.t 5), (.t 13), (.t 16)], none⟩])))
          (.reg [⟨(some 18), .v (.bin .add (.t 10) (.c (.int .i64 1))), none⟩, ⟨(some 10), .v (.mov (.t 18)), none⟩])))))))
    (.seq
     (.reg [⟨(some 19), .v (.load true 2 (.t 5)), none⟩, ⟨none, .m (.store 2 (.t 4) (.t 19)), none⟩])
     .ret))))⟩
theorem e72 : rFunc Tryd.prog Tryd.f72 = some r72 := by kernel_rfl
def r113 : RFunc := ⟨62, [.t 2],
 (.seq
  (.reg [⟨(some 2), .v (.mov (.c (.int .i64 0))), none⟩])
  (.seq
   (.reg [⟨(some 3), .v (.mov (.c (.int .i64 0))), none⟩])
   (.seq
    (.seq
     (.dreg (.fl ⟨(some 4), .v (.mov (.t 0)), none⟩ (.fl ⟨(some 5), .v (.nchk (.t 4)), none⟩ (.fl ⟨(some 6), .v (.faddr 1 (.t 5)), none⟩ (.fl ⟨(some 7), .v (.load false 1 (.t 6)), none⟩ (.fl ⟨(some 8), .v (.mov (.t 0)), none⟩ (.fl ⟨(some 9), .v (.nchk (.t 8)), none⟩ (.fl ⟨(some 10), .v (.faddr 0 (.t 9)), none⟩ (.fl ⟨(some 11), .v (.load false 1 (.t 10)), none⟩ (.fl ⟨(some 12), .v (.len (.t 11)), none⟩ (.fl ⟨(some 13), .v (.bin .lss (.t 7) (.t 12)), none⟩ .done)))))))))))
     (.cond (.t 13)
      (.dreg (.fl ⟨(some 14), .v (.mov (.t 0)), none⟩ (.fl ⟨(some 15), .v (.nchk (.t 14)), none⟩ (.fl ⟨(some 16), .v (.faddr 0 (.t 15)), none⟩ (.fl ⟨(some 17), .v (.load false 1 (.t 16)), none⟩ (.fl ⟨(some 18), .v (.mov (.t 0)), none⟩ (.fl ⟨(some 19), .v (.nchk (.t 18)), none⟩ (.fl ⟨(some 20), .v (.faddr 1 (.t 19)), none⟩ (.fl ⟨(some 21), .v (.load false 1 (.t 20)), none⟩ (.fl ⟨(some 22), .v (.iaddr 1 (.t 17) (.t 21)), none⟩ (.fl ⟨(some 23), .v (.load false 1 (.t 22)), none⟩ (.fl ⟨(some 24), .v (.conv .i64 (.t 23)), none⟩ (.fl ⟨(some 3), .v (.mov (.t 24)), none⟩ .done)))))))))))))
      .skip))
    (.seq
     (.reg [⟨(some 25), .v (.mov (.t 0)), none⟩, ⟨(some 26), .v (.nchk (.t 25)), none⟩, ⟨(some 27), .v (.faddr 1 (.t 26)), none⟩, ⟨(some 28), .v (.load false 1 (.t 27)), none⟩, ⟨(some 29), .v (.bin .add (.t 28) (.c (.int .i64 1))), none⟩, ⟨(some 30), .v (.nchk (.t 25)), none⟩, ⟨(some 31), .v (.faddr 1 (.t 30)), none⟩, ⟨none, .m (.store 1 (.t 31) (.t 29)), none⟩])
     (.seq
      (.reg [⟨(some 32), .v (.mov (.t 0)), none⟩, ⟨(some 33), .v (.mov (.t 0)), none⟩, ⟨(some 34), .v (.nchk (.t 33)), none⟩, ⟨(some 35), .v (.faddr 2 (.t 34)), none⟩, ⟨(some 36), .v (.load false 1 (.t 35)), none⟩, ⟨(some 37), .v (.bin .mul (.t 36) (.c (.int .u64 6364136223846793005))), none⟩, ⟨(some 38), .v (.mov (.t 3)), none⟩, ⟨(some 39), .v (.conv .u64 (.t 38)), none⟩, ⟨(some 40), .v (.bin .add (.t 37) (.t 39)), none⟩, ⟨(some 41), .v (.bin .add (.t 40) (.c (.int .u64 1442695040888963407))), none⟩, ⟨(some 42), .v (.nchk (.t 32)), none⟩, ⟨(some 43), .v (.faddr 2 (.t 42)), none⟩, ⟨none, .m (.store 1 (.t 43) (.t 41)), none⟩])
      (.seq
       (.seq
        (.dreg (.fl ⟨(some 44), .v (.mov (.t 0)), none⟩ (.fl ⟨(some 45), .v (.nchk (.t 44)), none⟩ (.fl ⟨(some 46), .v (.faddr 1 (.t 45)), none⟩ (.fl ⟨(some 47), .v (.load false 1 (.t 46)), none⟩ (.fl ⟨(some 48), .v (.mov (.t 0)), none⟩ (.fl ⟨(some 49), .v (.nchk (.t 48)), none⟩ (.fl ⟨(some 50), .v (.faddr 0 (.t 49)), none⟩ (.fl ⟨(some 51), .v (.load false 1 (.t 50)), none⟩ (.fl ⟨(some 52), .v (.len (.t 51)), none⟩ (.fl ⟨(some 53), .v (.bin .leq (.t 47) (.t 52)), none⟩ .done)))))))))))
        (.cond (.t 53)
         (.seq
          (.reg [⟨(some 54), .v (.mov (.t 3)), none⟩, ⟨(some 2), .v (.mov (.t 54)), none⟩])
          .ret)
         .skip))
       (.seq
        (.reg [⟨(some 55), .v (.mov (.t 0)), none⟩, ⟨(some 56), .v (.nchk (.t 55)), none⟩, ⟨(some 57), .v (.faddr 2 (.t 56)), none⟩, ⟨(some 58), .v (.load false 1 (.t 57)), none⟩, ⟨(some 59), .v (.bin .shr (.t 58) (.c (.int .u64 40))), none⟩, ⟨(some 60), .v (.bin .and (.t 59) (.c (.int .u64 255))), none⟩, ⟨(some 61), .v (.conv .i64 (.t 60)), none⟩, ⟨(some 2), .v (.mov (.t 61)), none⟩])
        .ret)))))))⟩
theorem e113 : rFunc Tryd.prog Tryd.f113 = some r113 := by kernel_rfl
def r75 : RFunc := ⟨20, [.t 4],
 (.seq
  (.reg [⟨(some 4), .v (.mov (.c (.int .i64 0))), none⟩])
  (.seq
   (.seq
    (.reg [⟨(some 6), .v (.mov (.t 1)), none⟩, ⟨(some 7), .v (.bin .leq (.t 6) (.c (.int .i64 1))), none⟩])
    (.cond (.t 7)
     (.seq
      (.reg [⟨(some 4), .v (.mov (.c (.int .i64 0))), none⟩])
      .ret)
     .skip))
   (.seq
    (.reg [⟨(some 8), .v (.mov (.t 0)), none⟩, ⟨(some 9), .call 113 [(.t 8)], none⟩, ⟨(some 5), .v (.mov (.t 9)), none⟩])
    (.seq
     (.seq
      (.reg [⟨(some 10), .v (.mov (.t 1)), none⟩, ⟨(some 11), .v (.bin .gtr (.t 10) (.c (.int .i64 200))), none⟩])
      (.cond (.t 11)
       (.reg [⟨(some 12), .v (.mov (.t 5)), none⟩, ⟨(some 13), .v (.bin .mul (.t 12) (.c (.int .i64 256))), none⟩, ⟨(some 14), .v (.mov (.t 0)), none⟩, ⟨(some 15), .call 113 [(.t 14)], none⟩, ⟨(some 16), .v (.bin .add (.t 13) (.t 15)), none⟩, ⟨(some 5), .v (.mov (.t 16)), none⟩])
       .skip))
     (.seq
      (.reg [⟨(some 17), .v (.mov (.t 5)), none⟩, ⟨(some 18), .v (.mov (.t 1)), none⟩, ⟨(some 19), .v (.bin .rem (.t 17) (.t 18)), none⟩, ⟨(some 4), .v (.mov (.t 19)), none⟩])
      .ret)))))⟩
theorem e75 : rFunc Tryd.prog Tryd.f75 = some r75 := by kernel_rfl
def r112 : RFunc := ⟨9, [.t 4],
 (.seq
  (.reg [⟨(some 4), .v (.mov (.c (.bool false))), none⟩])
  (.seq
   (.reg [⟨(some 5), .v (.mov (.t 0)), none⟩, ⟨(some 6), .v (.mov (.t 1)), none⟩, ⟨(some 7), .call 75 [(.t 5), (.t 6)], none⟩, ⟨(some 8), .v (.bin .eql (.t 7) (.c (.int .i64 0))), none⟩, ⟨(some 4), .v (.mov (.t 8)), none⟩])
   .ret))⟩
theorem e112 : rFunc Tryd.prog Tryd.f112 = some r112 := by kernel_rfl
def r74 : RFunc := ⟨22, [.cell true 2 4],
 (.seq
  (.reg [⟨(some 4), .m (.alloc [(.int .i64 0), .nils]), none⟩])
  (.seq
   (.reg [⟨(some 5), .v (.mov (.c .nils)), none⟩])
   (.seq
    (.seq
     (.reg [⟨(some 7), .v (.mov (.t 0)), none⟩, ⟨(some 8), .v (.mov (.t 1)), none⟩, ⟨(some 9), .v (.bin .add (.t 8) (.c (.int .i64 1))), none⟩, ⟨(some 10), .call 75 [(.t 7), (.t 9)], none⟩, ⟨(some 6), .v (.mov (.t 10)), none⟩])
     (.block 0
      (.loop
       (.seq
        (.seq
         (.reg [⟨(some 11), .v (.mov (.t 6)), none⟩, ⟨(some 12), .v (.bin .gtr (.t 11) (.c (.int .i64 0))), none⟩])
         (.cond (.t 12)
          .skip
          (.exit 0)))
        (.seq
         (.block 1
          (.reg [⟨(some 15), .v (.mov (.t 5)), none⟩, ⟨(some 16), .v (.mov (.t 0)), none⟩, ⟨(some 17), .call 112 [(.t 16), (.c (.int .i64 2))], none⟩, ⟨(some 18), .m (.bsl 1 1 [(.bool false)] [(0, 1, (.t 17))]), none⟩, ⟨(some 19), .m (.app false 1 1 (.t 15) (.t 18)), none⟩, ⟨(some 5), .v (.mov (.t 19)), none⟩]))
         (.reg [⟨(some 13), .v (.mov (.t 6)), none⟩, ⟨(some 14), .v (.bin .sub (.t 13) (.c (.int .i64 1))), none⟩, ⟨(some 6), .v (.mov (.t 14)), none⟩]))))))
    (.seq
     (.reg [⟨(some 20), .v (.mov (.t 5)), none⟩, ⟨(some 21), .call 68 [(.t 20)], none⟩, ⟨none, .m (.store 2 (.t 4) (.t 21)), none⟩])
     .ret))))⟩
theorem e74 : rFunc Tryd.prog Tryd.f74 = some r74 := by kernel_rfl
def r76 : RFunc := ⟨12, [.t 4],
 (.seq
  (.reg [⟨(some 4), .v (.mov (.c (.int .i64 0))), none⟩])
  (.seq
   (.reg [⟨(some 5), .v (.mov (.t 1)), none⟩, ⟨(some 6), .v (.mov (.t 0)), none⟩, ⟨(some 7), .v (.mov (.t 1)), none⟩, ⟨(some 8), .v (.len (.t 7)), none⟩, ⟨(some 9), .call 75 [(.t 6), (.t 8)], none⟩, ⟨(some 10), .v (.iaddr 1 (.t 5) (.t 9)), none⟩, ⟨(some 11), .v (.load false 1 (.t 10)), none⟩, ⟨(some 4), .v (.mov (.t 11)), none⟩])
   .ret))⟩
theorem e76 : rFunc Tryd.prog Tryd.f76 = some r76 := by kernel_rfl
def r41 : RFunc := ⟨56, [.cell true 2 2],
 (.seq
  (.reg [⟨(some 2), .m (.alloc [(.int .i64 0), .nils]), none⟩])
  (.seq
   (.reg [⟨(some 4), .v (.mov (.t 0)), none⟩, ⟨(some 5), .call 74 [(.t 4), (.c (.int .i64 40))], none⟩, ⟨(some 3), .m (.alloc [(.int .i64 0), .nils]), none⟩, ⟨none, .m (.store 2 (.t 3) (.t 5)), none⟩])
   (.seq
    (.seq
     (.reg [⟨(some 6), .v (.mov (.t 0)), none⟩, ⟨(some 7), .call 75 [(.t 6), (.c (.int .i64 16))], none⟩])
     (.block 0
      (.seq
       (.reg [⟨(some 9), .v (.bin .eql (.t 7) (.c (.int .i64 0))), none⟩, ⟨(some 8), .v (.mov (.t 9)), none⟩])
       (.cond (.t 8)
        (.dreg (.fl ⟨(some 10), .v (.faddr 1 (.t 3)), none⟩ (.fl ⟨(some 12), .v (.mov (.t 0)), none⟩ (.both (.nx ⟨(some 11), .v (.load false 1 (.t 10)), none⟩ (.nx ⟨(some 13), .call 75 [(.t 12), (.c (.int .i64 2))], none⟩ (.nx ⟨(some 14), .m (.bsl 1 1 [(.int .i64 0)] [(0, 1, (.t 13))]), none⟩ (.nx ⟨(some 15), .m (.app false 1 8 (.t 11) (.t 14)), none⟩ (.fl ⟨(some 16), .v (.faddr 1 (.t 3)), none⟩ (.nx ⟨none, .m (.store 1 (.t 16) (.t 15)), none⟩ .done)))))) (.nx ⟨(some 13), .call 75 [(.t 12), (.c (.int .i64 2))], none⟩ (.both (.nx ⟨(some 11), .v (.load false 1 (.t 10)), none⟩ (.nx ⟨(some 14), .m (.bsl 1 1 [(.int .i64 0)] [(0, 1, (.t 13))]), none⟩ (.nx ⟨(some 15), .m (.app false 1 8 (.t 11) (.t 14)), none⟩ (.fl ⟨(some 16), .v (.faddr 1 (.t 3)), none⟩ (.nx ⟨none, .m (.store 1 (.t 16) (.t 15)), none⟩ .done))))) (.nx ⟨(some 14), .m (.bsl 1 1 [(.int .i64 0)] [(0, 1, (.t 13))]), none⟩ (.nx ⟨(some 11), .v (.load false 1 (.t 10)), none⟩ (.nx ⟨(some 15), .m (.app false 1 8 (.t 11) (.t 14)), none⟩ (.fl ⟨(some 16), .v (.faddr 1 (.t 3)), none⟩ (.nx ⟨none, .m (.store 1 (.t 16) (.t 15)), none⟩ .done)))))))))))
        (.seq
         (.reg [⟨(some 18), .v (.bin .eql (.t 7) (.c (.int .i64 1))), none⟩, ⟨(some 17), .v (.mov (.t 18)), none⟩])
         (.cond (.t 17)
          (.dreg (.fl ⟨(some 19), .v (.faddr 0 (.t 3)), none⟩ (.fl ⟨(some 21), .v (.mov (.t 0)), none⟩ (.both (.nx ⟨(some 20), .v (.load false 1 (.t 19)), none⟩ (.nx ⟨(some 22), .call 75 [(.t 21), (.c (.int .i64 3))], none⟩ (.fl ⟨(some 23), .v (.bin .sub (.t 22) (.c (.int .i64 1))), none⟩ (.fl ⟨(some 24), .v (.bin .add (.t 20) (.t 23)), none⟩ (.fl ⟨(some 25), .v (.faddr 0 (.t 3)), none⟩ (.nx ⟨none, .m (.store 1 (.t 25) (.t 24)), none⟩ .done)))))) (.nx ⟨(some 22), .call 75 [(.t 21), (.c (.int .i64 3))], none⟩ (.fl ⟨(some 23), .v (.bin .sub (.t 22) (.c (.int .i64 1))), none⟩ (.nx ⟨(some 20), .v (.load false 1 (.t 19)), none⟩ (.fl ⟨(some 24), .v (.bin .add (.t 20) (.t 23)), none⟩ (.fl ⟨(some 25), .v (.faddr 0 (.t 3)), none⟩ (.nx ⟨none, .m (.store 1 (.t 25) (.t 24)), none⟩ .done))))))))))
          (.seq
           (.reg [⟨(some 27), .v (.bin .eql (.t 7) (.c (.int .i64 2))), none⟩, ⟨(some 26), .v (.mov (.t 27)), none⟩])
           (.cond (.t 26)
            (.seq
             (.reg [⟨(some 28), .v (.faddr 1 (.t 3)), none⟩, ⟨(some 29), .v (.load false 1 (.t 28)), none⟩, ⟨(some 30), .v (.len (.t 29)), none⟩, ⟨(some 31), .v (.bin .gtr (.t 30) (.c (.int .i64 0))), none⟩])
             (.cond (.t 31)
              (.dreg (.fl ⟨(some 32), .v (.faddr 1 (.t 3)), none⟩ (.fl ⟨(some 34), .v (.mov (.t 0)), none⟩ (.fl ⟨(some 35), .v (.faddr 1 (.t 3)), none⟩ (.fl ⟨(some 39), .v (.mov (.t 0)), none⟩ (.both (.nx ⟨(some 33), .v (.load false 1 (.t 32)), none⟩ (.both (.nx ⟨(some 36), .v (.load false 1 (.t 35)), none⟩ (.fl ⟨(some 37), .v (.len (.t 36)), none⟩ (.both (.nx ⟨(some 38), .call 75 [(.t 34), (.t 37)], none⟩ (.nx ⟨(some 40), .m (.bsl 1 4 [(.int .i64 0)] [(0, 1, (.c (.int .i64 (-1)))), (1, 1, (.c (.int .i64 65535))), (2, 1, (.c (.int .i64 65536))), (3, 1, (.c (.int .i64 40000)))]), none⟩ (.nx ⟨(some 41), .call 76 [(.t 39), (.t 40)], none⟩ (.fl ⟨(some 42), .v (.iaddr 1 (.t 33) (.t 38)), none⟩ (.nx ⟨none, .m (.store 1 (.t 42) (.t 41)), none⟩ .done))))) (.nx ⟨(some 40), .m (.bsl 1 4 [(.int .i64 0)] [(0, 1, (.c (.int .i64 (-1)))), (1, 1, (.c (.int .i64 65535))), (2, 1, (.c (.int .i64 65536))), (3, 1, (.c (.int .i64 40000)))]), none⟩ (.nx ⟨(some 38), .call 75 [(.t 34), (.t 37)], none⟩ (.nx ⟨(some 41), .call 76 [(.t 39), (.t 40)], none⟩ (.fl ⟨(some 42), .v (.iaddr 1 (.t 33) (.t 38)), none⟩ (.nx ⟨none, .m (.store 1 (.t 42) (.t 41)), none⟩ .done)))))))) (.nx ⟨(some 40), .m (.bsl 1 4 [(.int .i64 0)] [(0, 1, (.c (.int .i64 (-1)))), (1, 1, (.c (.int .i64 65535))), (2, 1, (.c (.int .i64 65536))), (3, 1, (.c (.int .i64 40000)))]), none⟩ (.nx ⟨(some 36), .v (.load false 1 (.t 35)), none⟩ (.fl ⟨(some 37), .v (.len (.t 36)), none⟩ (.nx ⟨(some 38), .call 75 [(.t 34), (.t 37)], none⟩ (.nx ⟨(some 41), .call 76 [(.t 39), (.t 40)], none⟩ (.fl ⟨(some 42), .v (.iaddr 1 (.t 33) (.t 38)), none⟩ (.nx ⟨none, .m (.store 1 (.t 42) (.t 41)), none⟩ .done))))))))) (.both (.nx ⟨(some 36), .v (.load false 1 (.t 35)), none⟩ (.fl ⟨(some 37), .v (.len (.t 36)), none⟩ (.both (.nx ⟨(some 33), .v (.load false 1 (.t 32)), none⟩ (.both (.nx ⟨(some 38), .call 75 [(.t 34), (.t 37)], none⟩ (.nx ⟨(some 40), .m (.bsl 1 4 [(.int .i64 0)] [(0, 1, (.c (.int .i64 (-1)))), (1, 1, (.c (.int .i64 65535))), (2, 1, (.c (.int .i64 65536))), (3, 1, (.c (.int .i64 40000)))]), none⟩ (.nx ⟨(some 41), .call 76 [(.t 39), (.t 40)], none⟩ (.fl ⟨(some 42), .v (.iaddr 1 (.t 33) (.t 38)), none⟩ (.nx ⟨none, .m (.store 1 (.t 42) (.t 41)), none⟩ .done))))) (.nx ⟨(some 40), .m (.bsl 1 4 [(.int .i64 0)] [(0, 1, (.c (.int .i64 (-1)))), (1, 1, (.c (.int .i64 65535))), (2, 1, (.c (.int .i64 65536))), (3, 1, (.c (.int .i64 40000)))]), none⟩ (.nx ⟨(some 38), .call 75 [(.t 34), (.t 37)], none⟩ (.nx ⟨(some 41), .call 76 [(.t 39), (.t 40)], none⟩ (.fl ⟨(some 42), .v (.iaddr 1 (.t 33) (.t 38)), none⟩ (.nx ⟨none, .m (.store 1 (.t 42) (.t 41)), none⟩ .done))))))) (.both (.nx ⟨(some 38), .call 75 [(.t 34), (.t 37)], none⟩ (.both (.nx ⟨(some 33), .v (.load false 1 (.t 32)), none⟩ (.nx ⟨(some 40), .m (.bsl 1 4 [(.int .i64 0)] [(0, 1, (.c (.int .i64 (-1)))), (1, 1, (.c (.int .i64 65535))), (2, 1, (.c (.int .i64 65536))), (3, 1, (.c (.int .i64 40000)))]), none⟩ (.nx ⟨(some 41), .call 76 [(.t 39), (.t 40)], none⟩ (.fl ⟨(some 42), .v (.iaddr 1 (.t 33) (.t 38)), none⟩ (.nx ⟨none, .m (.store 1 (.t 42) (.t 41)), none⟩ .done))))) (.nx ⟨(some 40), .m (.bsl 1 4 [(.int .i64 0)] [(0, 1, (.c (.int .i64 (-1)))), (1, 1, (.c (.int .i64 65535))), (2, 1, (.c (.int .i64 65536))), (3, 1, (.c (.int .i64 40000)))]), none⟩ (.both (.nx ⟨(some 33), .v (.load false 1 (.t 32)), none⟩ (.nx ⟨(some 41), .call 76 [(.t 39), (.t 40)], none⟩ (.fl ⟨(some 42), .v (.iaddr 1 (.t 33) (.t 38)), none⟩ (.nx ⟨none, .m (.store 1 (.t 42) (.t 41)), none⟩ .done)))) (.nx ⟨(some 41), .call 76 [(.t 39), (.t 40)], none⟩ (.nx ⟨(some 33), .v (.load false 1 (.t 32)), none⟩ (.fl ⟨(some 42), .v (.iaddr 1 (.t 33) (.t 38)), none⟩ (.nx ⟨none, .m (.store 1 (.t 42) (.t 41)), none⟩ .done)))))))) (.nx ⟨(some 40), .m (.bsl 1 4 [(.int .i64 0)] [(0, 1, (.c (.int .i64 (-1)))), (1, 1, (.c (.int .i64 65535))), (2, 1, (.c (.int .i64 65536))), (3, 1, (.c (.int .i64 40000)))]), none⟩ (.both (.nx ⟨(some 33), .v (.load false 1 (.t 32)), none⟩ (.nx ⟨(some 38), .call 75 [(.t 34), (.t 37)], none⟩ (.nx ⟨(some 41), .call 76 [(.t 39), (.t 40)], none⟩ (.fl ⟨(some 42), .v (.iaddr 1 (.t 33) (.t 38)), none⟩ (.nx ⟨none, .m (.store 1 (.t 42) (.t 41)), none⟩ .done))))) (.nx ⟨(some 38), .call 75 [(.t 34), (.t 37)], none⟩ (.both (.nx ⟨(some 33), .v (.load false 1 (.t 32)), none⟩ (.nx ⟨(some 41), .call 76 [(.t 39), (.t 40)], none⟩ (.fl ⟨(some 42), .v (.iaddr 1 (.t 33) (.t 38)), none⟩ (.nx ⟨none, .m (.store 1 (.t 42) (.t 41)), none⟩ .done)))) (.nx ⟨(some 41), .call 76 [(.t 39), (.t 40)], none⟩ (.nx ⟨(some 33), .v (.load false 1 (.t 32)), none⟩ (.fl ⟨(some 42), .v (.iaddr 1 (.t 33) (.t 38)), none⟩ (.nx ⟨none, .m (.store 1 (.t 42) (.t 41)), none⟩ .done)))))))))))) (.nx ⟨(some 40), .m (.bsl 1 4 [(.int .i64 0)] [(0, 1, (.c (.int .i64 (-1)))), (1, 1, (.c (.int .i64 65535))), (2, 1, (.c (.int .i64 65536))), (3, 1, (.c (.int .i64 40000)))]), none⟩ (.both (.nx ⟨(some 33), .v (.load false 1 (.t 32)), none⟩ (.nx ⟨(some 36), .v (.load false 1 (.t 35)), none⟩ (.fl ⟨(some 37), .v (.len (.t 36)), none⟩ (.nx ⟨(some 38), .call 75 [(.t 34), (.t 37)], none⟩ (.nx ⟨(some 41), .call 76 [(.t 39), (.t 40)], none⟩ (.fl ⟨(some 42), .v (.iaddr 1 (.t 33) (.t 38)), none⟩ (.nx ⟨none, .m (.store 1 (.t 42) (.t 41)), none⟩ .done))))))) (.nx ⟨(some 36), .v (.load false 1 (.t 35)), none⟩ (.fl ⟨(some 37), .v (.len (.t 36)), none⟩ (.both (.nx ⟨(some 33), .v (.load false 1 (.t 32)), none⟩ (.nx ⟨(some 38), .call 75 [(.t 34), (.t 37)], none⟩ (.nx ⟨(some 41), .call 76 [(.t 39), (.t 40)], none⟩ (.fl ⟨(some 42), .v (.iaddr 1 (.t 33) (.t 38)), none⟩ (.nx ⟨none, .m (.store 1 (.t 42) (.t 41)), none⟩ .done))))) (.nx ⟨(some 38), .call 75 [(.t 34), (.t 37)], none⟩ (.both (.nx ⟨(some 33), .v (.load false 1 (.t 32)), none⟩ (.nx ⟨(some 41), .call 76 [(.t 39), (.t 40)], none⟩ (.fl ⟨(some 42), .v (.iaddr 1 (.t 33) (.t 38)), none⟩ (.nx ⟨none, .m (.store 1 (.t 42) (.t 41)), none⟩ .done)))) (.nx ⟨(some 41), .call 76 [(.t 39), (.t 40)], none⟩ (.nx ⟨(some 33), .v (.load false 1 (.t 32)), none⟩ (.fl ⟨(some 42), .v (.iaddr 1 (.t 33) (.t 38)), none⟩ (.nx ⟨none, .m (.store 1 (.t 42) (.t 41)), none⟩ .done))))))))))))))))))
              .skip))
            (.seq
             (.reg [⟨(some 44), .v (.bin .eql (.t 7) (.c (.int .i64 3))), none⟩, ⟨(some 43), .v (.mov (.t 44)), none⟩])
             (.cond (.t 43)
              (.reg [⟨(some 45), .v (.mov (.t 0)), none⟩, ⟨(some 46), .call 75 [(.t 45), (.c (.int .i64 2))], none⟩, ⟨(some 47), .v (.bin .sub (.c (.int .i64 4096)) (.t 46)), none⟩, ⟨(some 48), .call 77 [(.t 47)], none⟩, ⟨none, .m (.store 2 (.t 3) (.t 48)), none⟩])
              (.seq
               (.reg [⟨(some 50), .v (.bin .eql (.t 7) (.c (.int .i64 4))), none⟩, ⟨(some 49), .v (.mov (.t 50)), none⟩])
               (.cond (.t 49)
                (.reg [⟨(some 51), .v (.mov (.t 0)), none⟩, ⟨(some 52), .call 75 [(.t 51), (.c (.int .i64 5))], none⟩, ⟨(some 53), .v (.bin .mul (.c (.int .i64 16)) (.t 52)), none⟩, ⟨(some 54), .call 77 [(.t 53)], none⟩, ⟨none, .m (.store 2 (.t 3) (.t 54)), none⟩])
                .skip))))))))))))
    (.seq
     (.reg [⟨(some 55), .v (.load true 2 (.t 3)), none⟩, ⟨none, .m (.store 2 (.t 2) (.t 55)), none⟩])
     .ret))))⟩
theorem e41 : rFunc Tryd.prog Tryd.f41 = some r41 := by kernel_rfl
def r38 : RFunc := ⟨26, [.t 4],
 (.seq
  (.reg [⟨(some 4), .v (.mov (.c (.bool false))), none⟩])
  (.seq
   (.seq
    (.reg [⟨(some 6), .v (.mov (.t 0)), none⟩, ⟨(some 7), .v (.len (.t 6)), none⟩, ⟨(some 8), .v (.mov (.t 1)), none⟩, ⟨(some 9), .v (.len (.t 8)), none⟩, ⟨(some 10), .v (.bin .neq (.t 7) (.t 9)), none⟩])
    (.cond (.t 10)
     (.seq
      (.reg [⟨(some 4), .v (.mov (.c (.bool false))), none⟩])
      .ret)
     .skip))
   (.seq
    (.seq
     (.reg [⟨(some 5), .v (.mov (.c (.int .i64 0))), none⟩])
     (.block 0
      (.loop
       (.seq
        (.seq
         (.reg [⟨(some 11), .v (.mov (.t 5)), none⟩, ⟨(some 12), .v (.mov (.t 0)), none⟩, ⟨(some 13), .v (.len (.t 12)), none⟩, ⟨(some 14), .v (.bin .lss (.t 11) (.t 13)), none⟩])
         (.cond (.t 14)
          .skip
          (.exit 0)))
        (.seq
         (.block 1
          (.seq
           (.dreg (.fl ⟨(some 17), .v (.mov (.t 0)), none⟩ (.fl ⟨(some 18), .v (.mov (.t 5)), none⟩ (.fl ⟨(some 19), .v (.iaddr 1 (.t 17) (.t 18)), none⟩ (.fl ⟨(some 20), .v (.load false 1 (.t 19)), none⟩ (.fl ⟨(some 21), .v (.mov (.t 1)), none⟩ (.fl ⟨(some 22), .v (.mov (.t 5)), none⟩ (.fl ⟨(some 23), .v (.iaddr 1 (.t 21) (.t 22)), none⟩ (.fl ⟨(some 24), .v (.load false 1 (.t 23)), none⟩ (.fl ⟨(some 25), .v (.bin .neq (.t 20) (.t 24)), none⟩ .done))))))))))
           (.cond (.t 25)
            (.seq
             (.reg [⟨(some 4), .v (.mov (.c (.bool false))), none⟩])
             .ret)
            .skip)))
         (.reg [⟨(some 15), .v (.mov (.t 5)), none⟩, ⟨(some 16), .v (.bin .add (.t 15) (.c (.int .i64 1))), none⟩, ⟨(some 5), .v (.mov (.t 16)), none⟩]))))))
    (.seq
     (.reg [⟨(some 4), .v (.mov (.c (.bool true))), none⟩])
     .ret))))⟩
theorem e38 : rFunc Tryd.prog Tryd.f38 = some r38 := by kernel_rfl
def r10 : RFunc := ⟨16, [.t 4],
 (.seq
  (.reg [⟨(some 2), .m (.box (.t 0)), none⟩, ⟨(some 3), .m (.box (.t 1)), none⟩, ⟨(some 4), .v (.mov (.c (.bool false))), none⟩])
  (.seq
   (.seq
    (.reg [⟨(some 5), .v (.faddr 0 (.t 2)), none⟩, ⟨(some 6), .v (.load false 1 (.t 5)), none⟩, ⟨(some 7), .v (.faddr 0 (.t 3)), none⟩, ⟨(some 8), .v (.load false 1 (.t 7)), none⟩, ⟨(some 9), .v (.bin .neq (.t 6) (.t 8)), none⟩])
    (.cond (.t 9)
     (.seq
      (.reg [⟨(some 4), .v (.mov (.c (.bool false))), none⟩])
      .ret)
     .skip))
   (.seq
    (.seq
     (.reg [⟨(some 10), .v (.faddr 1 (.t 2)), none⟩, ⟨(some 11), .v (.load false 1 (.t 10)), none⟩, ⟨(some 12), .v (.faddr 1 (.t 3)), none⟩, ⟨(some 13), .v (.load false 1 (.t 12)), none⟩, ⟨(some 14), .call 38 [(.t 11), (.t 13)], none⟩, ⟨(some 15), .v (.un .not (.t 14)), none⟩])
     (.cond (.t 15)
      (.seq
       (.reg [⟨(some 4), .v (.mov (.c (.bool false))), none⟩])
       .ret)
      .skip))
    (.seq
     (.reg [⟨(some 4), .v (.mov (.c (.bool true))), none⟩])
     .ret))))⟩
theorem e10 : rFunc Tryd.prog Tryd.f10 = some r10 := by kernel_rfl
def r39 : RFunc := ⟨19, [.t 4],
 (.seq
  (.reg [⟨(some 4), .v (.mov (.c (.int .i64 0))), none⟩])
  (.seq
   (.seq
    (.reg [⟨(some 5), .v (.mov (.c (.int .i64 0))), none⟩])
    (.block 0
     (.loop
      (.seq
       (.seq
        (.reg [⟨(some 6), .v (.mov (.t 5)), none⟩, ⟨(some 7), .v (.mov (.t 0)), none⟩, ⟨(some 8), .v (.len (.t 7)), none⟩, ⟨(some 9), .v (.bin .lss (.t 6) (.t 8)), none⟩])
        (.cond (.t 9)
         .skip
         (.exit 0)))
       (.seq
        (.block 1
         (.seq
          (.reg [⟨(some 12), .v (.mov (.t 0)), none⟩, ⟨(some 13), .v (.mov (.t 5)), none⟩, ⟨(some 14), .v (.mov (.t 1)), none⟩, ⟨(some 15), .v (.iaddr 1 (.t 12) (.t 13)), none⟩, ⟨none, .m (.store 1 (.t 15) (.t 14)), none⟩])
          (.reg [⟨(some 16), .v (.mov (.t 1)), none⟩, ⟨(some 17), .v (.bin .add (.t 16) (.c (.int .i64 1))), none⟩, ⟨(some 1), .v (.mov (.t 17)), none⟩])))
        (.reg [⟨(some 10), .v (.mov (.t 5)), none⟩, ⟨(some 11), .v (.bin .add (.t 10) (.c (.int .i64 1))), none⟩, ⟨(some 5), .v (.mov (.t 11)), none⟩]))))))
   (.seq
    (.reg [⟨(some 18), .v (.mov (.t 1)), none⟩, ⟨(some 4), .v (.mov (.t 18)), none⟩])
    .ret)))⟩
theorem e39 : rFunc Tryd.prog Tryd.f39 = some r39 := by kernel_rfl
def r11 : RFunc := ⟨10, [.t 4],
 (.seq
  (.reg [⟨(some 2), .m (.box (.t 0)), none⟩, ⟨(some 4), .v (.mov (.c (.int .i64 0))), none⟩])
  (.seq
   (.reg [⟨(some 5), .v (.faddr 1 (.t 2)), none⟩, ⟨(some 6), .v (.load false 1 (.t 5)), none⟩, ⟨(some 7), .v (.mov (.t 1)), none⟩, ⟨(some 8), .call 39 [(.t 6), (.t 7)], none⟩, ⟨(some 1), .v (.mov (.t 8)), none⟩])
   (.seq
    (.reg [⟨(some 9), .v (.mov (.t 1)), none⟩, ⟨(some 4), .v (.mov (.t 9)), none⟩])
    .ret)))⟩
theorem e11 : rFunc Tryd.prog Tryd.f11 = some r11 := by kernel_rfl
def r40 : RFunc := ⟨21, [.t 4],
 (.seq
  (.reg [⟨(some 4), .v (.mov (.c (.int .i64 0))), none⟩])
  (.seq
   (.seq
    (.reg [⟨(some 5), .v (.mov (.c (.int .i64 0))), none⟩])
    (.block 0
     (.loop
      (.seq
       (.seq
        (.reg [⟨(some 6), .v (.mov (.t 5)), none⟩, ⟨(some 7), .v (.mov (.t 0)), none⟩, ⟨(some 8), .v (.len (.t 7)), none⟩, ⟨(some 9), .v (.bin .lss (.t 6) (.t 8)), none⟩])
        (.cond (.t 9)
         .skip
         (.exit 0)))
       (.seq
        (.block 1
         (.seq
          (.seq
           (.reg [⟨(some 12), .v (.mov (.t 0)), none⟩, ⟨(some 13), .v (.mov (.t 5)), none⟩, ⟨(some 14), .v (.iaddr 1 (.t 12) (.t 13)), none⟩, ⟨(some 15), .v (.load false 1 (.t 14)), none⟩, ⟨(some 16), .v (.mov (.t 1)), none⟩, ⟨(some 17), .v (.bin .neq (.t 15) (.t 16)), none⟩])
           (.cond (.t 17)
            (.seq
             (.reg [⟨(some 4), .v (.mov (.c (.int .i64 (-1)))), none⟩])
             .ret)
            .skip))
          (.reg [⟨(some 18), .v (.mov (.t 1)), none⟩, ⟨(some 19), .v (.bin .add (.t 18) (.c (.int .i64 1))), none⟩, ⟨(some 1), .v (.mov (.t 19)), none⟩])))
        (.reg [⟨(some 10), .v (.mov (.t 5)), none⟩, ⟨(some 11), .v (.bin .add (.t 10) (.c (.int .i64 1))), none⟩, ⟨(some 5), .v (.mov (.t 11)), none⟩]))))))
   (.seq
    (.reg [⟨(some 20), .v (.mov (.t 1)), none⟩, ⟨(some 4), .v (.mov (.t 20)), none⟩])
    .ret)))⟩
theorem e40 : rFunc Tryd.prog Tryd.f40 = some r40 := by kernel_rfl
def r12 : RFunc := ⟨12, [.t 4],
 (.seq
  (.reg [⟨(some 2), .m (.box (.t 0)), none⟩, ⟨(some 4), .v (.mov (.c (.int .i64 0))), none⟩])
  (.seq
   (.reg [⟨(some 5), .v (.faddr 1 (.t 2)), none⟩, ⟨(some 6), .v (.load false 1 (.t 5)), none⟩, ⟨(some 7), .v (.mov (.t 1)), none⟩, ⟨(some 8), .call 40 [(.t 6), (.t 7)], none⟩, ⟨(some 1), .v (.mov (.t 8)), none⟩])
   (.seq
    (.seq
     (.reg [⟨(some 9), .v (.mov (.t 1)), none⟩, ⟨(some 10), .v (.bin .lss (.t 9) (.c (.int .i64 0))), none⟩])
     (.cond (.t 10)
      (.seq
       (.reg [⟨(some 4), .v (.mov (.c (.int .i64 (-1)))), none⟩])
       .ret)
      .skip))
    (.seq
     (.reg [⟨(some 11), .v (.mov (.t 1)), none⟩, ⟨(some 4), .v (.mov (.t 11)), none⟩])
     .ret))))⟩
theorem e12 : rFunc Tryd.prog Tryd.f12 = some r12 := by kernel_rfl
def r13 : RFunc := ⟨16, [.t 4],
 (.seq
  (.reg [⟨(some 4), .v (.mov (.c (.bool false))), none⟩])
  (.seq
   (.reg [⟨(some 5), .v (.mov (.t 0)), none⟩, ⟨(some 6), .v (.len (.t 5)), none⟩, ⟨(some 7), .v (.bin .gtr (.t 6) (.c (.int .i64 1048576))), none⟩, ⟨(some 8), .v (.mov (.t 7)), none⟩, ⟨(some 9), .v (.mov (.t 1)), (some (8, false))⟩, ⟨(some 10), .v (.len (.t 9)), (some (8, false))⟩, ⟨(some 11), .v (.mov (.t 0)), (some (8, false))⟩, ⟨(some 12), .v (.len (.t 11)), (some (8, false))⟩, ⟨(some 13), .v (.bin .sub (.c (.int .i64 1048576)) (.t 12)), (some (8, false))⟩, ⟨(some 14), .v (.bin .gtr (.t 10) (.t 13)), (some (8, false))⟩, ⟨(some 15), .v (.pick (.t 8) (.c (.bool true)) (.t 14)), none⟩, ⟨(some 4), .v (.mov (.t 15)), none⟩])
   .ret))⟩
theorem e13 : rFunc Tryd.prog Tryd.f13 = some r13 := by kernel_rfl
def r47 : RFunc := ⟨26, [.t 4],
 (.seq
  (.reg [⟨(some 4), .v (.mov (.c (.bool false))), none⟩])
  (.seq
   (.seq
    (.reg [⟨(some 6), .v (.mov (.t 0)), none⟩, ⟨(some 7), .v (.len (.t 6)), none⟩, ⟨(some 8), .v (.mov (.t 1)), none⟩, ⟨(some 9), .v (.len (.t 8)), none⟩, ⟨(some 10), .v (.bin .neq (.t 7) (.t 9)), none⟩])
    (.cond (.t 10)
     (.seq
      (.reg [⟨(some 4), .v (.mov (.c (.bool false))), none⟩])
      .ret)
     .skip))
   (.seq
    (.seq
     (.reg [⟨(some 11), .v (.mov (.t 0)), none⟩, ⟨(some 12), .v (.len (.t 11)), none⟩, ⟨(some 13), .v (.mov (.c (.int .i64 0))), none⟩])
     (.block 0
      (.loop
       (.seq
        (.reg [⟨(some 14), .v (.bin .lss (.t 13) (.t 12)), none⟩])
        (.seq
         (.cond (.t 14)
          .skip
          (.exit 0))
         (.seq
          (.block 1
           (.seq
            (.reg [⟨(some 15), .v (.mov (.t 13)), none⟩, ⟨(some 5), .v (.mov (.t 15)), none⟩])
            (.seq
             (.dreg (.fl ⟨(some 16), .v (.mov (.t 0)), none⟩ (.fl ⟨(some 17), .v (.mov (.t 5)), none⟩ (.fl ⟨(some 18), .v (.iaddr 1 (.t 16) (.t 17)), none⟩ (.fl ⟨(some 19), .v (.load false 1 (.t 18)), none⟩ (.fl ⟨(some 20), .v (.mov (.t 1)), none⟩ (.fl ⟨(some 21), .v (.mov (.t 5)), none⟩ (.fl ⟨(some 22), .v (.iaddr 1 (.t 20) (.t 21)), none⟩ (.fl ⟨(some 23), .v (.load false 1 (.t 22)), none⟩ (.fl ⟨(some 24), .v (.bin .neq (.t 19) (.t 23)), none⟩ .done))))))))))
             (.cond (.t 24)
              (.seq
               (.reg [⟨(some 4), .v (.mov (.c (.bool false))), none⟩])
               .ret)
              .skip))))
          (.reg [⟨(some 25), .v (.bin .add (.t 13) (.c (.int .i64 1))), none⟩, ⟨(some 13), .v (.mov (.t 25)), none⟩])))))))
    (.seq
     (.reg [⟨(some 4), .v (.mov (.c (.bool true))), none⟩])
     .ret))))⟩
theorem e47 : rFunc Tryd.prog Tryd.f47 = some r47 := by kernel_rfl
def r17 : RFunc := ⟨17, [.t 4],
 (.seq
  (.reg [⟨(some 2), .m (.box (.t 0)), none⟩, ⟨(some 3), .m (.box (.t 1)), none⟩, ⟨(some 4), .v (.mov (.c (.bool false))), none⟩])
  (.seq
   (.reg [⟨(some 5), .v (.faddr 0 (.t 2)), none⟩, ⟨(some 6), .v (.load false 1 (.t 5)), none⟩, ⟨(some 7), .v (.faddr 0 (.t 3)), none⟩, ⟨(some 8), .v (.load false 1 (.t 7)), none⟩, ⟨(some 9), .v (.bin .eql (.t 6) (.t 8)), none⟩, ⟨(some 10), .v (.mov (.t 9)), none⟩, ⟨(some 11), .v (.faddr 1 (.t 2)), (some (10, true))⟩, ⟨(some 12), .v (.load false 1 (.t 11)), (some (10, true))⟩, ⟨(some 13), .v (.faddr 1 (.t 3)), (some (10, true))⟩, ⟨(some 14), .v (.load false 1 (.t 13)), (some (10, true))⟩, ⟨(some 15), .call 47 [(.t 12), (.t 14)], (some (10, true))⟩, ⟨(some 16), .v (.pick (.t 10) (.t 15) (.c (.bool false))), none⟩, ⟨(some 4), .v (.mov (.t 16)), none⟩])
   .ret))⟩
theorem e17 : rFunc Tryd.prog Tryd.f17 = some r17 := by kernel_rfl
def r81 : RFunc := ⟨16, [.t 4],
 (.seq
  (.reg [⟨(some 2), .m (.box (.t 0)), none⟩, ⟨(some 4), .v (.mov (.c (.bool false))), none⟩])
  (.seq
   (.reg [⟨(some 5), .v (.faddr 1 (.t 2)), none⟩, ⟨(some 6), .v (.load false 1 (.t 5)), none⟩, ⟨(some 7), .v (.mov (.t 1)), none⟩, ⟨(some 8), .v (.bin .quo (.t 7) (.c (.int .i64 16))), none⟩, ⟨(some 9), .v (.iaddr 1 (.t 6) (.t 8)), none⟩, ⟨(some 10), .v (.load false 1 (.t 9)), none⟩, ⟨(some 11), .v (.mov (.t 1)), none⟩, ⟨(some 12), .v (.bin .rem (.t 11) (.c (.int .i64 16))), none⟩, ⟨(some 13), .v (.bin .shr (.t 10) (.t 12)), none⟩, ⟨(some 14), .v (.bin .and (.t 13) (.c (.int .i64 1))), none⟩, ⟨(some 15), .v (.bin .eql (.t 14) (.c (.int .i64 1))), none⟩, ⟨(some 4), .v (.mov (.t 15)), none⟩])
   .ret))⟩
theorem e81 : rFunc Tryd.prog Tryd.f81 = some r81 := by kernel_rfl
def r46 : RFunc := ⟨25, [.t 2],
 (.seq
  (.reg [⟨(some 1), .m (.box (.t 0)), none⟩, ⟨(some 2), .v (.mov (.c (.str []))), none⟩])
  (.seq
   (.seq
    (.reg [⟨(some 5), .v (.faddr 0 (.t 1)), none⟩, ⟨(some 6), .v (.load false 1 (.t 5)), none⟩, ⟨(some 7), .v (.bin .eql (.t 6) (.c (.int .i64 0))), none⟩])
    (.cond (.t 7)
     (.seq
      (.reg [⟨(some 2), .v (.mov (.c (.str [45]))), none⟩])
      .ret)
     .skip))
   (.seq
    (.reg [⟨(some 3), .v (.mov (.c .nils)), none⟩])
    (.seq
     (.seq
      (.reg [⟨(some 4), .v (.mov (.c (.int .i64 0))), none⟩])
      (.block 0
       (.loop
        (.seq
         (.seq
          (.reg [⟨(some 8), .v (.mov (.t 4)), none⟩, ⟨(some 9), .v (.faddr 0 (.t 1)), none⟩, ⟨(some 10), .v (.load false 1 (.t 9)), none⟩, ⟨(some 11), .v (.bin .lss (.t 8) (.t 10)), none⟩])
          (.cond (.t 11)
           .skip
           (.exit 0)))
         (.seq
          (.block 1
           (.seq
            (.reg [⟨(some 14), .v (.load true 2 (.t 1)), none⟩, ⟨(some 15), .v (.mov (.t 4)), none⟩, ⟨(some 16), .call 81 [(.t 14), (.t 15)], none⟩])
            (.cond (.t 16)
             (.reg [⟨(some 17), .v (.mov (.t 3)), none⟩, ⟨(some 18), .m (.bsl 1 1 [(.int .u8 0)] [(0, 1, (.c (.int .u8 49)))]), none⟩, ⟨(some 19), .m (.app false 1 1 (.t 17) (.t 18)), none⟩, ⟨(some 3), .v (.mov (.t 19)), none⟩])
             (.reg [⟨(some 20), .v (.mov (.t 3)), none⟩, ⟨(some 21), .m (.bsl 1 1 [(.int .u8 0)] [(0, 1, (.c (.int .u8 48)))]), none⟩, ⟨(some 22), .m (.app false 1 1 (.t 20) (.t 21)), none⟩, ⟨(some 3), .v (.mov (.t 22)), none⟩]))))
          (.reg [⟨(some 12), .v (.mov (.t 4)), none⟩, ⟨(some 13), .v (.bin .add (.t 12) (.c (.int .i64 1))), none⟩, ⟨(some 4), .v (.mov (.t 13)), none⟩]))))))
     (.seq
      (.reg [⟨(some 23), .v (.mov (.t 3)), none⟩, ⟨(some 24), .v (.cbs (.t 23)), none⟩, ⟨(some 2), .v (.mov (.t 24)), none⟩])
      .ret)))))⟩
theorem e46 : rFunc Tryd.prog Tryd.f46 = some r46 := by kernel_rfl
def r70 : RFunc := ⟨15, [.t 6],
 (.seq
  (.reg [⟨(some 6), .v (.mov (.c (.bool false))), none⟩])
  (.seq
   (.reg [⟨(some 7), .v (.mov (.t 0)), none⟩, ⟨(some 8), .v (.mov (.t 1)), none⟩, ⟨(some 9), .v (.bin .geq (.t 7) (.t 8)), none⟩, ⟨(some 10), .v (.mov (.t 9)), none⟩, ⟨(some 11), .v (.mov (.t 0)), (some (10, true))⟩, ⟨(some 12), .v (.mov (.t 2)), (some (10, true))⟩, ⟨(some 13), .v (.bin .leq (.t 11) (.t 12)), (some (10, true))⟩, ⟨(some 14), .v (.pick (.t 10) (.t 13) (.c (.bool false))), none⟩, ⟨(some 6), .v (.mov (.t 14)), none⟩])
   .ret))⟩
theorem e70 : rFunc Tryd.prog Tryd.f70 = some r70 := by kernel_rfl
def r78 : RFunc := ⟨48, [.t 2],
 (.seq
  (.reg [⟨(some 1), .m (.box (.t 0)), none⟩, ⟨(some 2), .v (.mov (.c (.bool false))), none⟩])
  (.seq
   (.seq
    (.dreg (.fl ⟨(some 6), .v (.faddr 0 (.t 1)), none⟩ (.fl ⟨(some 7), .v (.load false 1 (.t 6)), none⟩ (.nx ⟨(some 8), .call 70 [(.t 7), (.c (.int .i64 0)), (.c (.int .i64 4096))], none⟩ (.fl ⟨(some 9), .v (.un .not (.t 8)), none⟩ (.fl ⟨(some 10), .v (.mov (.t 9)), none⟩ (.fl ⟨(some 11), .v (.faddr 1 (.t 1)), (some (10, false))⟩ (.fl ⟨(some 12), .v (.load false 1 (.t 11)), (some (10, false))⟩ (.fl ⟨(some 13), .v (.len (.t 12)), (some (10, false))⟩ (.fl ⟨(some 14), .v (.faddr 0 (.t 1)), (some (10, false))⟩ (.fl ⟨(some 15), .v (.load false 1 (.t 14)), (some (10, false))⟩ (.nx ⟨(some 16), .call 114 [(.t 15)], (some (10, false))⟩ (.fl ⟨(some 17), .v (.bin .neq (.t 13) (.t 16)), (some (10, false))⟩ (.fl ⟨(some 18), .v (.pick (.t 10) (.c (.bool true)) (.t 17)), none⟩ .done))))))))))))))
    (.cond (.t 18)
     (.seq
      (.reg [⟨(some 2), .v (.mov (.c (.bool false))), none⟩])
      .ret)
     .skip))
   (.seq
    (.seq
     (.reg [⟨(some 19), .v (.faddr 1 (.t 1)), none⟩, ⟨(some 20), .v (.load false 1 (.t 19)), none⟩, ⟨(some 21), .v (.len (.t 20)), none⟩, ⟨(some 22), .v (.mov (.c (.int .i64 0))), none⟩])
     (.block 0
      (.loop
       (.seq
        (.reg [⟨(some 23), .v (.bin .lss (.t 22) (.t 21)), none⟩])
        (.seq
         (.cond (.t 23)
          .skip
          (.exit 0))
         (.seq
          (.block 1
           (.seq
            (.reg [⟨(some 24), .v (.iaddr 1 (.t 20) (.t 22)), none⟩, ⟨(some 25), .v (.load false 1 (.t 24)), none⟩, ⟨(some 4), .v (.mov (.t 25)), none⟩])
            (.seq
             (.reg [⟨(some 26), .v (.mov (.t 4)), none⟩, ⟨(some 27), .call 70 [(.t 26), (.c (.int .i64 0)), (.c (.int .i64 65535))], none⟩, ⟨(some 28), .v (.un .not (.t 27)), none⟩])
             (.cond (.t 28)
              (.seq
               (.reg [⟨(some 2), .v (.mov (.c (.bool false))), none⟩])
               .ret)
              .skip))))
          (.reg [⟨(some 29), .v (.bin .add (.t 22) (.c (.int .i64 1))), none⟩, ⟨(some 22), .v (.mov (.t 29)), none⟩])))))))
    (.seq
     (.reg [⟨(some 30), .v (.faddr 0 (.t 1)), none⟩, ⟨(some 31), .v (.load false 1 (.t 30)), none⟩, ⟨(some 32), .v (.bin .rem (.t 31) (.c (.int .i64 16))), none⟩, ⟨(some 5), .v (.mov (.t 32)), none⟩])
     (.seq
      (.reg [⟨(some 33), .v (.mov (.t 5)), none⟩, ⟨(some 34), .v (.bin .eql (.t 33) (.c (.int .i64 0))), none⟩, ⟨(some 35), .v (.mov (.t 34)), none⟩, ⟨(some 36), .v (.faddr 1 (.t 1)), (some (35, false))⟩, ⟨(some 37), .v (.load false 1 (.t 36)), (some (35, false))⟩, ⟨(some 38), .v (.faddr 1 (.t 1)), (some (35, false))⟩, ⟨(some 39), .v (.load false 1 (.t 38)), (some (35, false))⟩, ⟨(some 40), .v (.len (.t 39)), (some (35, false))⟩, ⟨(some 41), .v (.bin .sub (.t 40) (.c (.int .i64 1))), (some (35, false))⟩, ⟨(some 42), .v (.iaddr 1 (.t 37) (.t 41)), (some (35, false))⟩, ⟨(some 43), .v (.load false 1 (.t 42)), (some (35, false))⟩, ⟨(some 44), .v (.mov (.t 5)), (some (35, false))⟩, ⟨(some 45), .v (.bin .shr (.t 43) (.t 44)), (some (35, false))⟩, ⟨(some 46), .v (.bin .eql (.t 45) (.c (.int .i64 0))), (some (35, false))⟩, ⟨(some 47), .v (.pick (.t 35) (.c (.bool true)) (.t 46)), none⟩, ⟨(some 2), .v (.mov (.t 47)), none⟩])
      .ret)))))⟩
theorem e78 : rFunc Tryd.prog Tryd.f78 = some r78 := by kernel_rfl
def r79 : RFunc := ⟨18, [.t 4],
 (.seq
  (.reg [⟨(some 4), .v (.mov (.c (.bool false))), none⟩])
  (.seq
   (.reg [⟨(some 5), .v (.mov (.t 0)), none⟩, ⟨(some 6), .v (.nchk (.t 5)), none⟩, ⟨(some 7), .v (.faddr 1 (.t 6)), none⟩, ⟨(some 8), .v (.load false 1 (.t 7)), none⟩, ⟨(some 9), .v (.mov (.t 1)), none⟩, ⟨(some 10), .v (.bin .quo (.t 9) (.c (.int .i64 16))), none⟩, ⟨(some 11), .v (.iaddr 1 (.t 8) (.t 10)), none⟩, ⟨(some 12), .v (.load false 1 (.t 11)), none⟩, ⟨(some 13), .v (.mov (.t 1)), none⟩, ⟨(some 14), .v (.bin .rem (.t 13) (.c (.int .i64 16))), none⟩, ⟨(some 15), .v (.bin .shr (.t 12) (.t 14)), none⟩, ⟨(some 16), .v (.bin .and (.t 15) (.c (.int .i64 1))), none⟩, ⟨(some 17), .v (.bin .eql (.t 16) (.c (.int .i64 1))), none⟩, ⟨(some 4), .v (.mov (.t 17)), none⟩])
   .ret))⟩
theorem e79 : rFunc Tryd.prog Tryd.f79 = some r79 := by kernel_rfl
def r42 : RFunc := ⟨29, [.t 2, .t 3],
 (.seq
  (.reg [⟨(some 1), .m (.box (.t 0)), none⟩, ⟨(some 2), .v (.mov (.c (.str []))), none⟩, ⟨(some 3), .v (.mov (.c (.bool false))), none⟩])
  (.seq
   (.seq
    (.reg [⟨(some 7), .v (.load true 2 (.t 1)), none⟩, ⟨(some 8), .call 78 [(.t 7)], none⟩, ⟨(some 9), .v (.un .not (.t 8)), none⟩])
    (.cond (.t 9)
     (.seq
      (.reg [⟨(some 2), .v (.mov (.c (.str []))), none⟩, ⟨(some 3), .v (.mov (.c (.bool false))), none⟩])
      .ret)
     .skip))
   (.seq
    (.seq
     (.reg [⟨(some 10), .v (.faddr 0 (.t 1)), none⟩, ⟨(some 11), .v (.load false 1 (.t 10)), none⟩, ⟨(some 12), .v (.bin .eql (.t 11) (.c (.int .i64 0))), none⟩])
     (.cond (.t 12)
      (.seq
       (.reg [⟨(some 2), .v (.mov (.c (.str [45]))), none⟩, ⟨(some 3), .v (.mov (.c (.bool true))), none⟩])
       .ret)
      .skip))
    (.seq
     (.reg [⟨(some 13), .m (.bsl 1 0 [(.int .u8 0)] []), none⟩, ⟨(some 4), .v (.mov (.t 13)), none⟩])
     (.seq
      (.seq
       (.reg [⟨(some 14), .v (.faddr 0 (.t 1)), none⟩, ⟨(some 15), .v (.load false 1 (.t 14)), none⟩, ⟨(some 16), .v (.mov (.c (.int .i64 0))), none⟩])
       (.block 0
        (.loop
         (.seq
          (.reg [⟨(some 17), .v (.bin .lss (.t 16) (.t 15)), none⟩])
          (.seq
           (.cond (.t 17)
            .skip
            (.exit 0))
           (.seq
            (.block 1
             (.seq
              (.reg [⟨(some 18), .v (.mov (.t 16)), none⟩, ⟨(some 5), .v (.mov (.t 18)), none⟩])
              (.seq
               (.reg [⟨(some 6), .v (.mov (.c (.int .i64 0))), none⟩])
               (.seq
                (.seq
                 (.reg [⟨(some 19), .v (.mov (.t 5)), none⟩, ⟨(some 20), .call 79 [(.t 1), (.t 19)], none⟩])
                 (.cond (.t 20)
                  (.reg [⟨(some 6), .v (.mov (.c (.int .i64 1))), none⟩])
                  .skip))
                (.reg [⟨(some 21), .v (.mov (.t 4)), none⟩, ⟨(some 22), .v (.mov (.t 6)), none⟩, ⟨(some 23), .v (.sidx (.c (.str [48, 49])) (.t 22)), none⟩, ⟨(some 24), .m (.bsl 1 1 [(.int .u8 0)] [(0, 1, (.t 23))]), none⟩, ⟨(some 25), .m (.app false 1 1 (.t 21) (.t 24)), none⟩, ⟨(some 4), .v (.mov (.t 25)), none⟩])))))
            (.reg [⟨(some 26), .v (.bin .add (.t 16) (.c (.int .i64 1))), none⟩, ⟨(some 16), .v (.mov (.t 26)), none⟩])))))))
      (.seq
       (.reg [⟨(some 27), .v (.mov (.t 4)), none⟩, ⟨(some 28), .v (.cbs (.t 27)), none⟩, ⟨(some 2), .v (.mov (.t 28)), none⟩, ⟨(some 3), .v (.mov (.c (.bool true))), none⟩])
       .ret))))))⟩
theorem e42 : rFunc Tryd.prog Tryd.f42 = some r42 := by kernel_rfl
end Go.Proofs.YtoappkfndnggnaaDoor.M
