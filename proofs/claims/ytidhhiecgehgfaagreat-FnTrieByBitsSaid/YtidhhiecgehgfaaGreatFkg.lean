/-
  The resolved text of the functions, each tied to the program's own by the kernel.
-/
import Derived.Test.YtidhhiecgehgfaaGreatProg
import Derived.Test.YtidhhiecgehgfaaGreatFkd
namespace Go.Proofs.YtidhhiecgehgfaaGreat.M
open Go Go.RowKit
set_option maxRecDepth 100000

def r44 : RFunc := ⟨17, [.cell true 5 2, .t 3],
 (.seq
  (.reg [⟨(some 2), .m (.alloc [(.int .i64 0), .nils, (.int .i64 0), .nils, (.str [])]), none⟩, ⟨(some 3), .v (.mov (.c (.int .i64 0))), none⟩])
  (.seq
   (.reg [⟨(some 6), .v (.mov (.t 0)), none⟩, ⟨(some 7), .v (.bld [.nils, (.int .i64 0), (.int .u64 0)] [(0, 1, (.t 6))]), none⟩, ⟨(some 8), .m (.box (.t 7)), none⟩, ⟨(some 4), .v (.mov (.t 8)), none⟩])
   (.seq
    (.reg [⟨(some 9), .v (.mov (.t 4)), none⟩, ⟨(some 10), .call 73 [(.t 9)], none⟩, ⟨(some 5), .m (.alloc [(.int .i64 0), .nils, (.int .i64 0), .nils, (.str [])]), none⟩, ⟨none, .m (.store 5 (.t 5) (.t 10)), none⟩])
    (.seq
     (.dreg (.fl ⟨(some 12), .v (.mov (.t 4)), none⟩ (.fl ⟨(some 13), .v (.faddr 2 (.t 5)), none⟩ (.fl ⟨(some 14), .v (.faddr 0 (.t 13)), none⟩ (.both (.nx ⟨(some 11), .v (.load true 5 (.t 5)), none⟩ (.nx ⟨(some 15), .v (.load false 1 (.t 14)), none⟩ (.nx ⟨(some 16), .call 74 [(.t 12), (.t 15)], none⟩ (.nx ⟨none, .m (.store 5 (.t 2) (.t 11)), none⟩ (.fl ⟨(some 3), .v (.mov (.t 16)), none⟩ .done))))) (.nx ⟨(some 15), .v (.load false 1 (.t 14)), none⟩ (.both (.nx ⟨(some 11), .v (.load true 5 (.t 5)), none⟩ (.nx ⟨(some 16), .call 74 [(.t 12), (.t 15)], none⟩ (.nx ⟨none, .m (.store 5 (.t 2) (.t 11)), none⟩ (.fl ⟨(some 3), .v (.mov (.t 16)), none⟩ .done)))) (.nx ⟨(some 16), .call 74 [(.t 12), (.t 15)], none⟩ (.nx ⟨(some 11), .v (.load true 5 (.t 5)), none⟩ (.nx ⟨none, .m (.store 5 (.t 2) (.t 11)), none⟩ (.fl ⟨(some 3), .v (.mov (.t 16)), none⟩ .done)))))))))))
     .ret))))⟩
theorem e44 : rFunc Tryz.prog Tryz.f44 = some r44 := by kernel_rfl
def r145 : RFunc := ⟨8, [.t 2],
 (.seq
  (.reg [⟨(some 2), .v (.mov (.c .nils)), none⟩])
  (.seq
   (.seq
    (.reg [⟨(some 3), .v (.mov (.t 0)), none⟩, ⟨(some 4), .v (.seq false (.t 3) (.c .nils)), none⟩])
    (.cond (.t 4)
     (.seq
      (.reg [⟨(some 2), .v (.mov (.c .nils)), none⟩])
      .ret)
     .skip))
   (.seq
    (.reg [⟨(some 5), .m (.bsl 1 0 [(.int .i64 0)] []), none⟩, ⟨(some 6), .v (.mov (.t 0)), none⟩, ⟨(some 7), .m (.app false 1 8 (.t 5) (.t 6)), none⟩, ⟨(some 2), .v (.mov (.t 7)), none⟩])
    .ret)))⟩
theorem e145 : rFunc Tryz.prog Tryz.f145 = some r145 := by kernel_rfl
def r123 : RFunc := ⟨9, [.cell true 2 2],
 (.seq
  (.reg [⟨(some 1), .m (.box (.t 0)), none⟩, ⟨(some 2), .m (.alloc [(.int .i64 0), .nils]), none⟩])
  (.seq
   (.dreg (.fl ⟨(some 3), .v (.faddr 0 (.t 1)), none⟩ (.fl ⟨(some 5), .v (.faddr 1 (.t 1)), none⟩ (.both (.nx ⟨(some 4), .v (.load false 1 (.t 3)), none⟩ (.nx ⟨(some 6), .v (.load false 1 (.t 5)), none⟩ (.nx ⟨(some 7), .call 145 [(.t 6)], none⟩ (.fl ⟨(some 8), .v (.bld [(.int .i64 0), .nils] [(0, 1, (.t 4)), (1, 1, (.t 7))]), none⟩ (.nx ⟨none, .m (.store 2 (.t 2) (.t 8)), none⟩ .done))))) (.nx ⟨(some 6), .v (.load false 1 (.t 5)), none⟩ (.both (.nx ⟨(some 4), .v (.load false 1 (.t 3)), none⟩ (.nx ⟨(some 7), .call 145 [(.t 6)], none⟩ (.fl ⟨(some 8), .v (.bld [(.int .i64 0), .nils] [(0, 1, (.t 4)), (1, 1, (.t 7))]), none⟩ (.nx ⟨none, .m (.store 2 (.t 2) (.t 8)), none⟩ .done)))) (.nx ⟨(some 7), .call 145 [(.t 6)], none⟩ (.nx ⟨(some 4), .v (.load false 1 (.t 3)), none⟩ (.fl ⟨(some 8), .v (.bld [(.int .i64 0), .nils] [(0, 1, (.t 4)), (1, 1, (.t 7))]), none⟩ (.nx ⟨none, .m (.store 2 (.t 2) (.t 8)), none⟩ .done))))))))))
   .ret))⟩
theorem e123 : rFunc Tryz.prog Tryz.f123 = some r123 := by kernel_rfl
def r65 : RFunc := ⟨21, [.t 6],
 (.seq
  (.reg [⟨(some 6), .v (.mov (.c (.int .i64 0))), none⟩])
  (.seq
   (.reg [⟨(some 7), .v (.mov (.c (.int .i64 0))), none⟩])
   (.seq
    (.seq
     (.reg [⟨(some 9), .v (.mov (.t 1)), none⟩, ⟨(some 8), .v (.mov (.t 9)), none⟩])
     (.block 0
      (.loop
       (.seq
        (.seq
         (.reg [⟨(some 10), .v (.mov (.t 8)), none⟩, ⟨(some 11), .v (.mov (.t 2)), none⟩, ⟨(some 12), .v (.bin .lss (.t 10) (.t 11)), none⟩])
         (.cond (.t 12)
          .skip
          (.exit 0)))
        (.seq
         (.block 1
          (.seq
           (.reg [⟨(some 15), .v (.mov (.t 0)), none⟩, ⟨(some 16), .v (.mov (.t 8)), none⟩, ⟨(some 17), .call 64 [(.t 15), (.t 16)], none⟩])
           (.cond (.t 17)
            (.reg [⟨(some 18), .v (.mov (.t 7)), none⟩, ⟨(some 19), .v (.bin .add (.t 18) (.c (.int .i64 1))), none⟩, ⟨(some 7), .v (.mov (.t 19)), none⟩])
            .skip)))
         (.reg [⟨(some 13), .v (.mov (.t 8)), none⟩, ⟨(some 14), .v (.bin .add (.t 13) (.c (.int .i64 1))), none⟩, ⟨(some 8), .v (.mov (.t 14)), none⟩]))))))
    (.seq
     (.reg [⟨(some 20), .v (.mov (.t 7)), none⟩, ⟨(some 6), .v (.mov (.t 20)), none⟩])
     .ret))))⟩
theorem e65 : rFunc Tryz.prog Tryz.f65 = some r65 := by kernel_rfl
def r83 : RFunc := ⟨47, [.cell true 4 2],
 (.seq
  (.reg [⟨(some 1), .m (.box (.t 0)), none⟩, ⟨(some 2), .m (.alloc [(.int .i64 0), .nils, .nils, .nils]), none⟩])
  (.seq
   (.reg [⟨(some 8), .v (.load true 2 (.t 1)), none⟩, ⟨(some 9), .call 123 [(.t 8)], none⟩, ⟨(some 10), .v (.bld [(.int .i64 0), .nils, .nils, .nils] [(0, 2, (.t 9))]), none⟩, ⟨(some 3), .m (.alloc [(.int .i64 0), .nils, .nils, .nils]), none⟩, ⟨none, .m (.store 4 (.t 3) (.t 10)), none⟩])
   (.seq
    (.reg [⟨(some 4), .v (.mov (.c (.int .i64 0))), none⟩, ⟨(some 5), .v (.mov (.c (.int .i64 0))), none⟩])
    (.seq
     (.seq
      (.reg [⟨(some 6), .v (.mov (.c (.int .i64 0))), none⟩, ⟨(some 7), .v (.mov (.c (.int .i64 0))), none⟩])
      (.block 0
       (.loop
        (.seq
         (.seq
          (.reg [⟨(some 11), .v (.mov (.t 6)), none⟩, ⟨(some 12), .v (.faddr 0 (.t 1)), none⟩, ⟨(some 13), .v (.load false 1 (.t 12)), none⟩, ⟨(some 14), .v (.bin .lss (.t 11) (.t 13)), none⟩])
          (.cond (.t 14)
           .skip
           (.exit 0)))
         (.seq
          (.block 1
           (.seq
            (.seq
             (.reg [⟨(some 19), .v (.mov (.t 6)), none⟩, ⟨(some 20), .v (.bin .rem (.t 19) (.c (.int .i64 64))), none⟩, ⟨(some 21), .v (.bin .eql (.t 20) (.c (.int .i64 0))), none⟩])
             (.cond (.t 21)
              (.seq
               (.reg [⟨(some 22), .v (.faddr 2 (.t 3)), none⟩, ⟨(some 23), .v (.load false 1 (.t 22)), none⟩, ⟨(some 24), .v (.mov (.t 4)), none⟩, ⟨(some 25), .m (.bsl 1 1 [(.int .i64 0)] [(0, 1, (.t 24))]), none⟩, ⟨(some 26), .m (.app false 1 8 (.t 23) (.t 25)), none⟩, ⟨(some 27), .v (.faddr 2 (.t 3)), none⟩, ⟨none, .m (.store 1 (.t 27) (.t 26)), none⟩])
               (.reg [⟨(some 28), .v (.mov (.t 4)), none⟩, ⟨(some 5), .v (.mov (.t 28)), none⟩]))
              .skip))
            (.seq
             (.reg [⟨(some 29), .v (.faddr 3 (.t 3)), none⟩, ⟨(some 30), .v (.load false 1 (.t 29)), none⟩, ⟨(some 31), .v (.mov (.t 4)), none⟩, ⟨(some 32), .v (.mov (.t 5)), none⟩, ⟨(some 33), .v (.bin .sub (.t 31) (.t 32)), none⟩, ⟨(some 34), .m (.bsl 1 1 [(.int .i64 0)] [(0, 1, (.t 33))]), none⟩, ⟨(some 35), .m (.app false 1 8 (.t 30) (.t 34)), none⟩, ⟨(some 36), .v (.faddr 3 (.t 3)), none⟩, ⟨none, .m (.store 1 (.t 36) (.t 35)), none⟩])
             (.reg [⟨(some 37), .v (.mov (.t 4)), none⟩, ⟨(some 38), .v (.mov (.t 6)), none⟩, ⟨(some 39), .v (.mov (.t 6)), none⟩, ⟨(some 40), .v (.bin .add (.t 39) (.c (.int .i64 16))), none⟩, ⟨(some 41), .v (.faddr 0 (.t 1)), none⟩, ⟨(some 42), .v (.load false 1 (.t 41)), none⟩, ⟨(some 43), .v (.mn [(.t 40), (.t 42)]), none⟩, ⟨(some 44), .call 65 [(.t 1), (.t 38), (.t 43)], none⟩, ⟨(some 45), .v (.bin .add (.t 37) (.t 44)), none⟩, ⟨(some 4), .v (.mov (.t 45)), none⟩]))))
          (.reg [⟨(some 15), .v (.mov (.t 6)), none⟩, ⟨(some 16), .v (.bin .add (.t 15) (.c (.int .i64 16))), none⟩, ⟨(some 17), .v (.mov (.t 7)), none⟩, ⟨(some 18), .v (.bin .add (.t 17) (.c (.int .i64 1))), none⟩, ⟨(some 6), .v (.mov (.t 16)), none⟩, ⟨(some 7), .v (.mov (.t 18)), none⟩]))))))
     (.seq
      (.reg [⟨(some 46), .v (.load true 4 (.t 3)), none⟩, ⟨none, .m (.store 4 (.t 2) (.t 46)), none⟩])
      .ret)))))⟩
theorem e83 : rFunc Tryz.prog Tryz.f83 = some r83 := by kernel_rfl
def r45 : RFunc := ⟨10, [.cell true 4 2, .t 3],
 (.seq
  (.reg [⟨(some 1), .m (.box (.t 0)), none⟩, ⟨(some 2), .m (.alloc [(.int .i64 0), .nils, .nils, .nils]), none⟩, ⟨(some 3), .v (.mov (.c (.bool false))), none⟩])
  (.seq
   (.seq
    (.reg [⟨(some 4), .v (.load true 2 (.t 1)), none⟩, ⟨(some 5), .call 82 [(.t 4)], none⟩, ⟨(some 6), .v (.un .not (.t 5)), none⟩])
    (.cond (.t 6)
     (.seq
      (.reg [⟨(some 7), .v (.bld [(.int .i64 0), .nils, .nils, .nils] []), none⟩, ⟨none, .m (.store 4 (.t 2) (.t 7)), none⟩, ⟨(some 3), .v (.mov (.c (.bool false))), none⟩])
      .ret)
     .skip))
   (.seq
    (.reg [⟨(some 8), .v (.load true 2 (.t 1)), none⟩, ⟨(some 9), .call 83 [(.t 8)], none⟩, ⟨none, .m (.store 4 (.t 2) (.t 9)), none⟩, ⟨(some 3), .v (.mov (.c (.bool true))), none⟩])
    .ret)))⟩
theorem e45 : rFunc Tryz.prog Tryz.f45 = some r45 := by kernel_rfl
def r86 : RFunc := ⟨23, [.t 2],
 (.seq
  (.reg [⟨(some 1), .m (.box (.t 0)), none⟩, ⟨(some 2), .v (.mov (.c (.bool false))), none⟩])
  (.seq
   (.seq
    (.reg [⟨(some 4), .v (.faddr 0 (.t 1)), none⟩, ⟨(some 5), .v (.load true 2 (.t 4)), none⟩, ⟨(some 6), .call 82 [(.t 5)], none⟩, ⟨(some 7), .v (.un .not (.t 6)), none⟩])
    (.cond (.t 7)
     (.seq
      (.reg [⟨(some 2), .v (.mov (.c (.bool false))), none⟩])
      .ret)
     .skip))
   (.seq
    (.reg [⟨(some 8), .v (.faddr 0 (.t 1)), none⟩, ⟨(some 9), .v (.load true 2 (.t 8)), none⟩, ⟨(some 10), .call 83 [(.t 9)], none⟩, ⟨(some 3), .m (.alloc [(.int .i64 0), .nils, .nils, .nils]), none⟩, ⟨none, .m (.store 4 (.t 3) (.t 10)), none⟩])
    (.seq
     (.reg [⟨(some 11), .v (.faddr 2 (.t 3)), none⟩, ⟨(some 12), .v (.load false 1 (.t 11)), none⟩, ⟨(some 13), .v (.faddr 2 (.t 1)), none⟩, ⟨(some 14), .v (.load false 1 (.t 13)), none⟩, ⟨(some 15), .call 124 [(.t 12), (.t 14)], none⟩, ⟨(some 16), .v (.mov (.t 15)), none⟩, ⟨(some 17), .v (.faddr 3 (.t 3)), (some (16, true))⟩, ⟨(some 18), .v (.load false 1 (.t 17)), (some (16, true))⟩, ⟨(some 19), .v (.faddr 3 (.t 1)), (some (16, true))⟩, ⟨(some 20), .v (.load false 1 (.t 19)), (some (16, true))⟩, ⟨(some 21), .call 124 [(.t 18), (.t 20)], (some (16, true))⟩, ⟨(some 22), .v (.pick (.t 16) (.t 21) (.c (.bool false))), none⟩, ⟨(some 2), .v (.mov (.t 22)), none⟩])
     .ret))))⟩
theorem e86 : rFunc Tryz.prog Tryz.f86 = some r86 := by kernel_rfl
def r84 : RFunc := ⟨29, [.t 6, .t 7],
 (.seq
  (.reg [⟨(some 3), .m (.box (.t 0)), none⟩, ⟨(some 6), .v (.mov (.c (.int .i64 0))), none⟩, ⟨(some 7), .v (.mov (.c (.bool false))), none⟩])
  (.seq
   (.seq
    (.reg [⟨(some 9), .v (.load true 4 (.t 3)), none⟩, ⟨(some 10), .call 86 [(.t 9)], none⟩, ⟨(some 11), .v (.un .not (.t 10)), none⟩])
    (.cond (.t 11)
     (.seq
      (.reg [⟨(some 6), .v (.mov (.c (.int .i64 0))), none⟩, ⟨(some 7), .v (.mov (.c (.bool false))), none⟩])
      .ret)
     .skip))
   (.seq
    (.seq
     (.reg [⟨(some 12), .v (.faddr 0 (.t 3)), none⟩, ⟨(some 13), .v (.faddr 0 (.t 12)), none⟩, ⟨(some 14), .v (.load false 1 (.t 13)), none⟩, ⟨(some 15), .v (.mov (.c (.int .i64 0))), none⟩])
     (.block 0
      (.loop
       (.seq
        (.reg [⟨(some 16), .v (.bin .lss (.t 15) (.t 14)), none⟩])
        (.seq
         (.cond (.t 16)
          .skip
          (.exit 0))
         (.seq
          (.block 1
           (.seq
            (.reg [⟨(some 17), .v (.mov (.t 15)), none⟩, ⟨(some 8), .v (.mov (.t 17)), none⟩])
            (.seq
             (.seq
              (.reg [⟨(some 18), .v (.faddr 0 (.t 3)), none⟩, ⟨(some 19), .v (.mov (.t 8)), none⟩, ⟨(some 20), .call 64 [(.t 18), (.t 19)], none⟩, ⟨(some 21), .v (.mov (.t 2)), none⟩, ⟨(some 22), .v (.beq true (.t 20) (.t 21)), none⟩])
              (.cond (.t 22)
               (.exit 1)
               .skip))
             (.seq
              (.seq
               (.reg [⟨(some 23), .v (.mov (.t 1)), none⟩, ⟨(some 24), .v (.bin .eql (.t 23) (.c (.int .i64 0))), none⟩])
               (.cond (.t 24)
                (.seq
                 (.reg [⟨(some 25), .v (.mov (.t 8)), none⟩, ⟨(some 6), .v (.mov (.t 25)), none⟩, ⟨(some 7), .v (.mov (.c (.bool true))), none⟩])
                 .ret)
                .skip))
              (.reg [⟨(some 26), .v (.mov (.t 1)), none⟩, ⟨(some 27), .v (.bin .sub (.t 26) (.c (.int .i64 1))), none⟩, ⟨(some 1), .v (.mov (.t 27)), none⟩])))))
          (.reg [⟨(some 28), .v (.bin .add (.t 15) (.c (.int .i64 1))), none⟩, ⟨(some 15), .v (.mov (.t 28)), none⟩])))))))
    (.seq
     (.reg [⟨(some 6), .v (.mov (.c (.int .i64 0))), none⟩, ⟨(some 7), .v (.mov (.c (.bool false))), none⟩])
     .ret))))⟩
theorem e84 : rFunc Tryz.prog Tryz.f84 = some r84 := by kernel_rfl
def r46 : RFunc := ⟨11, [.t 4, .t 5],
 (.seq
  (.reg [⟨(some 2), .m (.box (.t 0)), none⟩, ⟨(some 4), .v (.mov (.c (.int .i64 0))), none⟩, ⟨(some 5), .v (.mov (.c (.bool false))), none⟩])
  (.seq
   (.reg [⟨(some 6), .v (.load true 4 (.t 2)), none⟩, ⟨(some 7), .v (.mov (.t 1)), none⟩, ⟨(some 8), .call 84 [(.t 6), (.t 7), (.c (.bool true))], none⟩, ⟨(some 9), .v (.ext (.t 8) 0), none⟩, ⟨(some 10), .v (.ext (.t 8) 1), none⟩, ⟨(some 4), .v (.mov (.t 9)), none⟩, ⟨(some 5), .v (.mov (.t 10)), none⟩])
   .ret))⟩
theorem e46 : rFunc Tryz.prog Tryz.f46 = some r46 := by kernel_rfl
def r50 : RFunc := ⟨20, [.t 4, .t 5],
 (.seq
  (.reg [⟨(some 2), .m (.box (.t 0)), none⟩, ⟨(some 4), .v (.mov (.c (.int .i64 0))), none⟩, ⟨(some 5), .v (.mov (.c (.bool false))), none⟩])
  (.seq
   (.seq
    (.reg [⟨(some 6), .v (.load true 4 (.t 2)), none⟩, ⟨(some 7), .call 86 [(.t 6)], none⟩, ⟨(some 8), .v (.un .not (.t 7)), none⟩, ⟨(some 9), .v (.mov (.t 8)), none⟩, ⟨(some 10), .v (.mov (.t 1)), (some (9, false))⟩, ⟨(some 11), .v (.faddr 0 (.t 2)), (some (9, false))⟩, ⟨(some 12), .v (.faddr 0 (.t 11)), (some (9, false))⟩, ⟨(some 13), .v (.load false 1 (.t 12)), (some (9, false))⟩, ⟨(some 14), .call 60 [(.t 10), (.c (.int .i64 0)), (.t 13)], (some (9, false))⟩, ⟨(some 15), .v (.un .not (.t 14)), (some (9, false))⟩, ⟨(some 16), .v (.pick (.t 9) (.c (.bool true)) (.t 15)), none⟩])
    (.cond (.t 16)
     (.seq
      (.reg [⟨(some 4), .v (.mov (.c (.int .i64 0))), none⟩, ⟨(some 5), .v (.mov (.c (.bool false))), none⟩])
      .ret)
     .skip))
   (.seq
    (.reg [⟨(some 17), .v (.faddr 0 (.t 2)), none⟩, ⟨(some 18), .v (.mov (.t 1)), none⟩, ⟨(some 19), .call 65 [(.t 17), (.c (.int .i64 0)), (.t 18)], none⟩, ⟨(some 4), .v (.mov (.t 19)), none⟩, ⟨(some 5), .v (.mov (.c (.bool true))), none⟩])
    .ret)))⟩
theorem e50 : rFunc Tryz.prog Tryz.f50 = some r50 := by kernel_rfl
def r47 : RFunc := ⟨19, [.t 4, .t 5],
 (.seq
  (.reg [⟨(some 2), .m (.box (.t 0)), none⟩, ⟨(some 4), .v (.mov (.c (.int .i64 0))), none⟩, ⟨(some 5), .v (.mov (.c (.bool false))), none⟩])
  (.seq
   (.reg [⟨(some 9), .v (.load true 4 (.t 2)), none⟩, ⟨(some 10), .v (.mov (.t 1)), none⟩, ⟨(some 11), .call 50 [(.t 9), (.t 10)], none⟩, ⟨(some 8), .v (.mov (.t 11)), none⟩, ⟨(some 12), .v (.ext (.t 8) 0), none⟩, ⟨(some 13), .v (.ext (.t 8) 1), none⟩, ⟨(some 6), .v (.mov (.t 12)), none⟩, ⟨(some 7), .v (.mov (.t 13)), none⟩])
   (.seq
    (.seq
     (.reg [⟨(some 14), .v (.mov (.t 7)), none⟩, ⟨(some 15), .v (.un .not (.t 14)), none⟩])
     (.cond (.t 15)
      (.seq
       (.reg [⟨(some 4), .v (.mov (.c (.int .i64 0))), none⟩, ⟨(some 5), .v (.mov (.c (.bool false))), none⟩])
       .ret)
      .skip))
    (.seq
     (.reg [⟨(some 16), .v (.mov (.t 1)), none⟩, ⟨(some 17), .v (.mov (.t 6)), none⟩, ⟨(some 18), .v (.bin .sub (.t 16) (.t 17)), none⟩, ⟨(some 4), .v (.mov (.t 18)), none⟩, ⟨(some 5), .v (.mov (.c (.bool true))), none⟩])
     .ret))))⟩
theorem e47 : rFunc Tryz.prog Tryz.f47 = some r47 := by kernel_rfl
def r85 : RFunc := ⟨5, [.t 2],
 (.seq
  (.reg [⟨(some 1), .m (.box (.t 0)), none⟩, ⟨(some 2), .v (.mov (.c (.bool false))), none⟩])
  (.seq
   (.reg [⟨(some 3), .call 75 [(.t 1)], none⟩, ⟨(some 4), .v (.seq true (.t 3) (.c .nils)), none⟩, ⟨(some 2), .v (.mov (.t 4)), none⟩])
   .ret))⟩
theorem e85 : rFunc Tryz.prog Tryz.f85 = some r85 := by kernel_rfl
def r48 : RFunc := ⟨19, [.t 2, .t 3],
 (.seq
  (.reg [⟨(some 1), .m (.box (.t 0)), none⟩, ⟨(some 2), .v (.mov (.c (.int .i64 0))), none⟩, ⟨(some 3), .v (.mov (.c (.bool false))), none⟩])
  (.seq
   (.seq
    (.reg [⟨(some 4), .v (.load true 5 (.t 1)), none⟩, ⟨(some 5), .call 85 [(.t 4)], none⟩, ⟨(some 6), .v (.un .not (.t 5)), none⟩])
    (.cond (.t 6)
     (.seq
      (.reg [⟨(some 2), .v (.mov (.c (.int .i64 0))), none⟩, ⟨(some 3), .v (.mov (.c (.bool false))), none⟩])
      .ret)
     .skip))
   (.seq
    (.reg [⟨(some 7), .v (.faddr 0 (.t 1)), none⟩, ⟨(some 8), .v (.faddr 0 (.t 7)), none⟩, ⟨(some 9), .v (.load false 1 (.t 8)), none⟩, ⟨(some 10), .v (.faddr 2 (.t 1)), none⟩, ⟨(some 11), .v (.faddr 0 (.t 10)), none⟩, ⟨(some 12), .v (.load false 1 (.t 11)), none⟩, ⟨(some 13), .v (.bin .add (.t 9) (.t 12)), none⟩, ⟨(some 14), .v (.faddr 4 (.t 1)), none⟩, ⟨(some 15), .v (.load false 1 (.t 14)), none⟩, ⟨(some 16), .v (.lens (.t 15)), none⟩, ⟨(some 17), .v (.bin .mul (.c (.int .i64 7)) (.t 16)), none⟩, ⟨(some 18), .v (.bin .add (.t 13) (.t 17)), none⟩, ⟨(some 2), .v (.mov (.t 18)), none⟩, ⟨(some 3), .v (.mov (.c (.bool true))), none⟩])
    .ret)))⟩
theorem e48 : rFunc Tryz.prog Tryz.f48 = some r48 := by kernel_rfl
def r51 : RFunc := ⟨27, [.t 4, .t 5],
 (.seq
  (.reg [⟨(some 2), .m (.box (.t 0)), none⟩, ⟨(some 4), .v (.mov (.c (.str []))), none⟩, ⟨(some 5), .v (.mov (.c (.bool false))), none⟩])
  (.seq
   (.seq
    (.reg [⟨(some 8), .call 75 [(.t 2)], none⟩, ⟨(some 9), .v (.len (.t 8)), none⟩, ⟨(some 10), .v (.mov (.c (.int .i64 0))), none⟩])
    (.block 0
     (.loop
      (.seq
       (.reg [⟨(some 11), .v (.bin .lss (.t 10) (.t 9)), none⟩])
       (.seq
        (.cond (.t 11)
         .skip
         (.exit 0))
        (.seq
         (.block 1
          (.seq
           (.reg [⟨(some 12), .v (.mov (.t 10)), none⟩, ⟨(some 13), .v (.iaddr 1 (.t 8) (.t 10)), none⟩, ⟨(some 14), .v (.load false 1 (.t 13)), none⟩, ⟨(some 6), .v (.mov (.t 12)), none⟩, ⟨(some 7), .v (.mov (.t 14)), none⟩])
           (.seq
            (.reg [⟨(some 15), .v (.faddr 2 (.t 2)), none⟩, ⟨(some 16), .v (.mov (.t 6)), none⟩, ⟨(some 17), .call 64 [(.t 15), (.t 16)], none⟩, ⟨(some 18), .v (.mov (.t 17)), none⟩, ⟨(some 19), .v (.faddr 2 (.t 2)), (some (18, true))⟩, ⟨(some 20), .v (.mov (.t 6)), (some (18, true))⟩, ⟨(some 21), .call 65 [(.t 19), (.c (.int .i64 0)), (.t 20)], (some (18, true))⟩, ⟨(some 22), .v (.mov (.t 1)), (some (18, true))⟩, ⟨(some 23), .v (.bin .eql (.t 21) (.t 22)), (some (18, true))⟩, ⟨(some 24), .v (.pick (.t 18) (.t 23) (.c (.bool false))), none⟩])
            (.cond (.t 24)
             (.seq
              (.reg [⟨(some 25), .v (.mov (.t 7)), none⟩, ⟨(some 4), .v (.mov (.t 25)), none⟩, ⟨(some 5), .v (.mov (.c (.bool true))), none⟩])
              .ret)
             .skip))))
         (.reg [⟨(some 26), .v (.bin .add (.t 10) (.c (.int .i64 1))), none⟩, ⟨(some 10), .v (.mov (.t 26)), none⟩])))))))
   (.seq
    (.reg [⟨(some 4), .v (.mov (.c (.str []))), none⟩, ⟨(some 5), .v (.mov (.c (.bool false))), none⟩])
    .ret)))⟩
theorem e51 : rFunc Tryz.prog Tryz.f51 = some r51 := by kernel_rfl
end Go.Proofs.YtidhhiecgehgfaaGreat.M
