/-
  The resolved text of the functions, each tied to the program's own by the kernel.
-/
import Derived.Test.YtjfgmimgmapeeaaGreatProg
import Derived.Test.YtjfgmimgmapeeaaGreatFya
namespace Go.Proofs.YtjfgmimgmapeeaaGreat.M
open Go Go.RowKit
set_option maxRecDepth 100000

def r97 : RFunc := ⟨30, [.cell true 2 6],
 (.seq
  (.reg [⟨(some 6), .m (.alloc [(.int .i64 0), .nils]), none⟩])
  (.seq
   (.reg [⟨(some 10), .v (.mov (.t 2)), none⟩, ⟨(some 11), .v (.bin .mul (.c (.int .i64 3)) (.t 10)), none⟩, ⟨(some 12), .v (.bld [(.int .i64 0), .nils] [(0, 1, (.t 11))]), none⟩, ⟨(some 7), .m (.alloc [(.int .i64 0), .nils]), none⟩, ⟨none, .m (.store 2 (.t 7) (.t 12)), none⟩])
   (.seq
    (.seq
     (.reg [⟨(some 13), .v (.mov (.t 1)), none⟩, ⟨(some 14), .v (.len (.t 13)), none⟩, ⟨(some 15), .v (.mov (.c (.int .i64 0))), none⟩])
     (.block 0
      (.loop
       (.seq
        (.reg [⟨(some 16), .v (.bin .lss (.t 15) (.t 14)), none⟩])
        (.seq
         (.cond (.t 16)
          .skip
          (.exit 0))
         (.seq
          (.block 1
           (.seq
            (.reg [⟨(some 17), .v (.iaddr 1 (.t 13) (.t 15)), none⟩, ⟨(some 18), .v (.load false 1 (.t 17)), none⟩, ⟨(some 9), .v (.mov (.t 18)), none⟩])
            (.dreg (.fl ⟨(some 19), .v (.faddr 1 (.t 7)), none⟩ (.fl ⟨(some 21), .v (.mov (.t 0)), none⟩ (.fl ⟨(some 22), .v (.mov (.t 9)), none⟩ (.fl ⟨(some 23), .v (.mov (.t 2)), none⟩ (.both (.nx ⟨(some 20), .v (.load false 1 (.t 19)), none⟩ (.nx ⟨(some 24), .call 127 [(.t 21), (.t 22), (.t 23)], none⟩ (.nx ⟨(some 25), .m (.bsl 1 1 [.nils] [(0, 1, (.t 24))]), none⟩ (.nx ⟨(some 26), .m (.app false 1 24 (.t 20) (.t 25)), none⟩ (.fl ⟨(some 27), .v (.faddr 1 (.t 7)), none⟩ (.nx ⟨none, .m (.store 1 (.t 27) (.t 26)), none⟩ .done)))))) (.nx ⟨(some 24), .call 127 [(.t 21), (.t 22), (.t 23)], none⟩ (.both (.nx ⟨(some 20), .v (.load false 1 (.t 19)), none⟩ (.nx ⟨(some 25), .m (.bsl 1 1 [.nils] [(0, 1, (.t 24))]), none⟩ (.nx ⟨(some 26), .m (.app false 1 24 (.t 20) (.t 25)), none⟩ (.fl ⟨(some 27), .v (.faddr 1 (.t 7)), none⟩ (.nx ⟨none, .m (.store 1 (.t 27) (.t 26)), none⟩ .done))))) (.nx ⟨(some 25), .m (.bsl 1 1 [.nils] [(0, 1, (.t 24))]), none⟩ (.nx ⟨(some 20), .v (.load false 1 (.t 19)), none⟩ (.nx ⟨(some 26), .m (.app false 1 24 (.t 20) (.t 25)), none⟩ (.fl ⟨(some 27), .v (.faddr 1 (.t 7)), none⟩ (.nx ⟨none, .m (.store 1 (.t 27) (.t 26)), none⟩ .done)))))))))))))))
          (.reg [⟨(some 28), .v (.bin .add (.t 15) (.c (.int .i64 1))), none⟩, ⟨(some 15), .v (.mov (.t 28)), none⟩])))))))
    (.seq
     (.reg [⟨(some 29), .v (.load true 2 (.t 7)), none⟩, ⟨none, .m (.store 2 (.t 6) (.t 29)), none⟩])
     .ret))))⟩
theorem e97 : rFunc Tryz.prog Tryz.f97 = some r97 := by kernel_rfl
def r81 : RFunc := ⟨30, [.cell true 2 6],
 (.seq
  (.reg [⟨(some 6), .m (.alloc [(.int .i64 0), .nils]), none⟩])
  (.seq
   (.reg [⟨(some 10), .v (.mov (.t 2)), none⟩, ⟨(some 11), .v (.bin .mul (.c (.int .i64 3)) (.t 10)), none⟩, ⟨(some 12), .v (.bld [(.int .i64 0), .nils] [(0, 1, (.t 11))]), none⟩, ⟨(some 7), .m (.alloc [(.int .i64 0), .nils]), none⟩, ⟨none, .m (.store 2 (.t 7) (.t 12)), none⟩])
   (.seq
    (.seq
     (.reg [⟨(some 13), .v (.mov (.t 1)), none⟩, ⟨(some 14), .v (.len (.t 13)), none⟩, ⟨(some 15), .v (.mov (.c (.int .i64 0))), none⟩])
     (.block 0
      (.loop
       (.seq
        (.reg [⟨(some 16), .v (.bin .lss (.t 15) (.t 14)), none⟩])
        (.seq
         (.cond (.t 16)
          .skip
          (.exit 0))
         (.seq
          (.block 1
           (.seq
            (.reg [⟨(some 17), .v (.iaddr 1 (.t 13) (.t 15)), none⟩, ⟨(some 18), .v (.load false 1 (.t 17)), none⟩, ⟨(some 9), .v (.mov (.t 18)), none⟩])
            (.dreg (.fl ⟨(some 19), .v (.faddr 1 (.t 7)), none⟩ (.fl ⟨(some 21), .v (.mov (.t 0)), none⟩ (.fl ⟨(some 22), .v (.mov (.t 9)), none⟩ (.fl ⟨(some 23), .v (.mov (.t 2)), none⟩ (.both (.nx ⟨(some 20), .v (.load false 1 (.t 19)), none⟩ (.nx ⟨(some 24), .call 129 [(.t 21), (.t 22), (.t 23)], none⟩ (.nx ⟨(some 25), .m (.bsl 1 1 [.nils] [(0, 1, (.t 24))]), none⟩ (.nx ⟨(some 26), .m (.app false 1 24 (.t 20) (.t 25)), none⟩ (.fl ⟨(some 27), .v (.faddr 1 (.t 7)), none⟩ (.nx ⟨none, .m (.store 1 (.t 27) (.t 26)), none⟩ .done)))))) (.nx ⟨(some 24), .call 129 [(.t 21), (.t 22), (.t 23)], none⟩ (.both (.nx ⟨(some 20), .v (.load false 1 (.t 19)), none⟩ (.nx ⟨(some 25), .m (.bsl 1 1 [.nils] [(0, 1, (.t 24))]), none⟩ (.nx ⟨(some 26), .m (.app false 1 24 (.t 20) (.t 25)), none⟩ (.fl ⟨(some 27), .v (.faddr 1 (.t 7)), none⟩ (.nx ⟨none, .m (.store 1 (.t 27) (.t 26)), none⟩ .done))))) (.nx ⟨(some 25), .m (.bsl 1 1 [.nils] [(0, 1, (.t 24))]), none⟩ (.nx ⟨(some 20), .v (.load false 1 (.t 19)), none⟩ (.nx ⟨(some 26), .m (.app false 1 24 (.t 20) (.t 25)), none⟩ (.fl ⟨(some 27), .v (.faddr 1 (.t 7)), none⟩ (.nx ⟨none, .m (.store 1 (.t 27) (.t 26)), none⟩ .done)))))))))))))))
          (.reg [⟨(some 28), .v (.bin .add (.t 15) (.c (.int .i64 1))), none⟩, ⟨(some 15), .v (.mov (.t 28)), none⟩])))))))
    (.seq
     (.reg [⟨(some 29), .v (.load true 2 (.t 7)), none⟩, ⟨none, .m (.store 2 (.t 6) (.t 29)), none⟩])
     .ret))))⟩
theorem e81 : rFunc Tryz.prog Tryz.f81 = some r81 := by kernel_rfl
def r151 : RFunc := ⟨8, [.t 2],
 (.seq
  (.reg [⟨(some 2), .v (.mov (.c .nils)), none⟩])
  (.seq
   (.seq
    (.reg [⟨(some 3), .v (.mov (.t 0)), none⟩, ⟨(some 4), .v (.seq false (.t 3) (.c .nils)), none⟩])
    (.cond (.t 4)
     (.seq
      (.reg [⟨(some 2), .v (.mov (.c .nils)), none⟩])
      .ret)
     .skip))
   (.seq
    (.reg [⟨(some 5), .m (.bsl 1 0 [(.bool false)] []), none⟩, ⟨(some 6), .v (.mov (.t 0)), none⟩, ⟨(some 7), .m (.app false 1 1 (.t 5) (.t 6)), none⟩, ⟨(some 2), .v (.mov (.t 7)), none⟩])
    .ret)))⟩
theorem e151 : rFunc Tryz.prog Tryz.f151 = some r151 := by kernel_rfl
def r182 : RFunc := ⟨19, [.t 4],
 (.seq
  (.reg [⟨(some 4), .v (.mov (.c (.int .i64 0))), none⟩])
  (.seq
   (.seq
    (.reg [⟨(some 6), .v (.mov (.t 0)), none⟩, ⟨(some 7), .v (.len (.t 6)), none⟩, ⟨(some 8), .v (.mov (.c (.int .i64 0))), none⟩])
    (.block 0
     (.loop
      (.seq
       (.reg [⟨(some 9), .v (.bin .lss (.t 8) (.t 7)), none⟩])
       (.seq
        (.cond (.t 9)
         .skip
         (.exit 0))
        (.seq
         (.block 1
          (.seq
           (.reg [⟨(some 10), .v (.mov (.t 8)), none⟩, ⟨(some 5), .v (.mov (.t 10)), none⟩])
           (.seq
            (.reg [⟨(some 11), .v (.mov (.t 1)), none⟩, ⟨(some 12), .v (.mov (.t 0)), none⟩, ⟨(some 13), .v (.mov (.t 5)), none⟩, ⟨(some 14), .v (.iaddr 1 (.t 12) (.t 13)), none⟩, ⟨(some 15), .v (.load false 1 (.t 14)), none⟩, ⟨(some 16), .v (.bin .eql (.t 11) (.t 15)), none⟩])
            (.cond (.t 16)
             (.seq
              (.reg [⟨(some 17), .v (.mov (.t 5)), none⟩, ⟨(some 4), .v (.mov (.t 17)), none⟩])
              .ret)
             .skip))))
         (.reg [⟨(some 18), .v (.bin .add (.t 8) (.c (.int .i64 1))), none⟩, ⟨(some 8), .v (.mov (.t 18)), none⟩])))))))
   (.seq
    (.reg [⟨(some 4), .v (.mov (.c (.int .i64 (-1)))), none⟩])
    .ret)))⟩
theorem e182 : rFunc Tryz.prog Tryz.f182 = some r182 := by kernel_rfl
def r154 : RFunc := ⟨9, [.t 4],
 (.seq
  (.reg [⟨(some 4), .v (.mov (.c (.bool false))), none⟩])
  (.seq
   (.reg [⟨(some 5), .v (.mov (.t 0)), none⟩, ⟨(some 6), .v (.mov (.t 1)), none⟩, ⟨(some 7), .call 182 [(.t 5), (.t 6)], none⟩, ⟨(some 8), .v (.bin .geq (.t 7) (.c (.int .i64 0))), none⟩, ⟨(some 4), .v (.mov (.t 8)), none⟩])
   .ret))⟩
theorem e154 : rFunc Tryz.prog Tryz.f154 = some r154 := by kernel_rfl
def r153 : RFunc := ⟨7, [.t 3],
 (.seq
  (.reg [⟨(some 3), .v (.mov (.c (.bool false))), none⟩])
  (.seq
   (.reg [⟨(some 4), .v (.load false 1 (.t 1)), none⟩, ⟨(some 5), .v (.mov (.t 0)), none⟩, ⟨(some 6), .call 154 [(.t 4), (.t 5)], none⟩, ⟨(some 3), .v (.mov (.t 6)), none⟩])
   .ret))⟩
theorem e153 : rFunc Tryz.prog Tryz.f153 = some r153 := by kernel_rfl
def r157 : RFunc := ⟨7, [.t 2],
 (.seq
  (.reg [⟨(some 2), .v (.mov (.c (.int .i64 0))), none⟩])
  (.seq
   (.reg [⟨(some 3), .v (.mov (.t 0)), none⟩, ⟨(some 4), .v (.bin .add (.t 3) (.c (.int .i64 16))), none⟩, ⟨(some 5), .v (.bin .sub (.t 4) (.c (.int .i64 1))), none⟩, ⟨(some 6), .v (.bin .quo (.t 5) (.c (.int .i64 16))), none⟩, ⟨(some 2), .v (.mov (.t 6)), none⟩])
   .ret))⟩
theorem e157 : rFunc Tryz.prog Tryz.f157 = some r157 := by kernel_rfl
def r104 : RFunc := ⟨8, [.cell true 2 2],
 (.seq
  (.reg [⟨(some 2), .m (.alloc [(.int .i64 0), .nils]), none⟩])
  (.seq
   (.reg [⟨(some 3), .v (.mov (.t 0)), none⟩, ⟨(some 4), .v (.mov (.t 0)), none⟩, ⟨(some 5), .call 157 [(.t 4)], none⟩, ⟨(some 6), .m (.mks 1 8 [(.int .i64 0)] (.t 5) (.t 5)), none⟩, ⟨(some 7), .v (.bld [(.int .i64 0), .nils] [(0, 1, (.t 3)), (1, 1, (.t 6))]), none⟩, ⟨none, .m (.store 2 (.t 2) (.t 7)), none⟩])
   .ret))⟩
theorem e104 : rFunc Tryz.prog Tryz.f104 = some r104 := by kernel_rfl
def r143 : RFunc := ⟨33, [],
 (.seq
  (.dreg (.fl ⟨(some 6), .v (.mov (.t 0)), none⟩ (.fl ⟨(some 7), .v (.nchk (.t 6)), none⟩ (.fl ⟨(some 8), .v (.faddr 1 (.t 7)), none⟩ (.fl ⟨(some 10), .v (.mov (.t 1)), none⟩ (.fl ⟨(some 11), .v (.bin .quo (.t 10) (.c (.int .i64 16))), none⟩ (.fl ⟨(some 14), .v (.mov (.t 1)), none⟩ (.fl ⟨(some 15), .v (.bin .rem (.t 14) (.c (.int .i64 16))), none⟩ (.fl ⟨(some 16), .v (.bin .shl (.c (.int .i64 1)) (.t 15)), none⟩ (.nx ⟨(some 9), .v (.load false 1 (.t 8)), none⟩ (.fl ⟨(some 12), .v (.iaddr 1 (.t 9) (.t 11)), none⟩ (.nx ⟨(some 13), .v (.load false 1 (.t 12)), none⟩ (.fl ⟨(some 17), .v (.bin .andNot (.t 13) (.t 16)), none⟩ (.fl ⟨(some 18), .v (.iaddr 1 (.t 9) (.t 11)), none⟩ (.nx ⟨none, .m (.store 1 (.t 18) (.t 17)), none⟩ .done)))))))))))))))
  (.seq
   (.reg [⟨(some 19), .v (.mov (.t 2)), none⟩])
   (.cond (.t 19)
    (.dreg (.fl ⟨(some 20), .v (.mov (.t 0)), none⟩ (.fl ⟨(some 21), .v (.nchk (.t 20)), none⟩ (.fl ⟨(some 22), .v (.faddr 1 (.t 21)), none⟩ (.fl ⟨(some 24), .v (.mov (.t 1)), none⟩ (.fl ⟨(some 25), .v (.bin .quo (.t 24) (.c (.int .i64 16))), none⟩ (.fl ⟨(some 28), .v (.mov (.t 1)), none⟩ (.fl ⟨(some 29), .v (.bin .rem (.t 28) (.c (.int .i64 16))), none⟩ (.fl ⟨(some 30), .v (.bin .shl (.c (.int .i64 1)) (.t 29)), none⟩ (.nx ⟨(some 23), .v (.load false 1 (.t 22)), none⟩ (.fl ⟨(some 26), .v (.iaddr 1 (.t 23) (.t 25)), none⟩ (.nx ⟨(some 27), .v (.load false 1 (.t 26)), none⟩ (.fl ⟨(some 31), .v (.bin .or (.t 27) (.t 30)), none⟩ (.fl ⟨(some 32), .v (.iaddr 1 (.t 23) (.t 25)), none⟩ (.nx ⟨none, .m (.store 1 (.t 32) (.t 31)), none⟩ .done)))))))))))))))
    .skip)))⟩
theorem e143 : rFunc Tryz.prog Tryz.f143 = some r143 := by kernel_rfl
def r152 : RFunc := ⟨20, [.cell true 2 4],
 (.seq
  (.reg [⟨(some 4), .m (.alloc [(.int .i64 0), .nils]), none⟩])
  (.seq
   (.reg [⟨(some 7), .v (.mov (.t 0)), none⟩, ⟨(some 8), .call 104 [(.t 7)], none⟩, ⟨(some 5), .m (.alloc [(.int .i64 0), .nils]), none⟩, ⟨none, .m (.store 2 (.t 5) (.t 8)), none⟩])
   (.seq
    (.seq
     (.reg [⟨(some 9), .v (.mov (.t 0)), none⟩, ⟨(some 10), .v (.mov (.c (.int .i64 0))), none⟩])
     (.block 0
      (.loop
       (.seq
        (.reg [⟨(some 11), .v (.bin .lss (.t 10) (.t 9)), none⟩])
        (.seq
         (.cond (.t 11)
          .skip
          (.exit 0))
         (.seq
          (.block 1
           (.seq
            (.reg [⟨(some 12), .v (.mov (.t 10)), none⟩, ⟨(some 6), .v (.mov (.t 12)), none⟩])
            (.reg [⟨(some 13), .v (.mov (.t 6)), none⟩, ⟨(some 14), .v (.mov (.t 1)), none⟩, ⟨(some 15), .v (.mov (.t 6)), none⟩, ⟨(some 16), .callv (.t 14) [(.t 15)], none⟩, ⟨(some 17), .call 143 [(.t 5), (.t 13), (.t 16)], none⟩])))
          (.reg [⟨(some 18), .v (.bin .add (.t 10) (.c (.int .i64 1))), none⟩, ⟨(some 10), .v (.mov (.t 18)), none⟩])))))))
    (.seq
     (.reg [⟨(some 19), .v (.load true 2 (.t 5)), none⟩, ⟨none, .m (.store 2 (.t 4) (.t 19)), none⟩])
     .ret))))⟩
theorem e152 : rFunc Tryz.prog Tryz.f152 = some r152 := by kernel_rfl
end Go.Proofs.YtjfgmimgmapeeaaGreat.M
