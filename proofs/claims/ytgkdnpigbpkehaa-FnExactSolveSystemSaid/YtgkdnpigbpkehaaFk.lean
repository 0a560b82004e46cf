/-
  The resolved text of the functions, each tied to the program's own by the kernel.
-/
import Derived.Test.YtgkdnpigbpkehaaProg
import Derived.Test.YtgkdnpigbpkehaaFb
namespace Go.Proofs.Ytgkdnpigbpkehaa.M
open Go Go.RowKit
set_option maxRecDepth 100000

def r85 : RFunc := ⟨24, [.t 4],
 (.seq
  (.reg [⟨(some 2), .m (.box (.t 0)), none⟩, ⟨(some 3), .m (.box (.t 1)), none⟩, ⟨(some 4), .v (.mov (.c (.bool false))), none⟩])
  (.seq
   (.reg [⟨(some 5), .v (.mov (.c (.bool false))), none⟩])
   (.seq
    (.seq
     (.reg [⟨(some 6), .v (.mov (.c (.int .i64 0))), none⟩])
     (.block 0
      (.loop
       (.seq
        (.seq
         (.reg [⟨(some 7), .v (.mov (.t 6)), none⟩, ⟨(some 8), .v (.faddr 0 (.t 2)), none⟩, ⟨(some 9), .v (.load false 1 (.t 8)), none⟩, ⟨(some 10), .v (.bin .lss (.t 7) (.t 9)), none⟩])
         (.cond (.t 10)
          .skip
          (.exit 0)))
        (.seq
         (.block 1
          (.reg [⟨(some 13), .v (.mov (.t 5)), none⟩, ⟨(some 14), .v (.load true 2 (.t 2)), none⟩, ⟨(some 15), .v (.mov (.t 6)), none⟩, ⟨(some 16), .call 113 [(.t 14), (.t 15)], none⟩, ⟨(some 17), .v (.mov (.t 16)), none⟩, ⟨(some 18), .v (.load true 2 (.t 3)), (some (17, true))⟩, ⟨(some 19), .v (.mov (.t 6)), (some (17, true))⟩, ⟨(some 20), .call 113 [(.t 18), (.t 19)], (some (17, true))⟩, ⟨(some 21), .v (.pick (.t 17) (.t 20) (.c (.bool false))), none⟩, ⟨(some 22), .v (.beq true (.t 13) (.t 21)), none⟩, ⟨(some 5), .v (.mov (.t 22)), none⟩]))
         (.reg [⟨(some 11), .v (.mov (.t 6)), none⟩, ⟨(some 12), .v (.bin .add (.t 11) (.c (.int .i64 1))), none⟩, ⟨(some 6), .v (.mov (.t 12)), none⟩]))))))
    (.seq
     (.reg [⟨(some 23), .v (.mov (.t 5)), none⟩, ⟨(some 4), .v (.mov (.t 23)), none⟩])
     .ret))))⟩
theorem e85 : rFunc Try.prog Try.f85 = some r85 := by kernel_rfl
def r80 : RFunc := ⟨45, [.cell true 2 6],
 (.seq
  (.reg [⟨(some 4), .m (.box (.t 1)), none⟩, ⟨(some 6), .m (.alloc [(.int .i64 0), .nils]), none⟩])
  (.seq
   (.seq
    (.reg [⟨(some 10), .v (.faddr 0 (.t 4)), none⟩, ⟨(some 11), .v (.load false 1 (.t 10)), none⟩, ⟨(some 12), .v (.bin .sub (.t 11) (.c (.int .i64 1))), none⟩, ⟨(some 7), .v (.mov (.t 12)), none⟩])
    (.block 0
     (.loop
      (.seq
       (.seq
        (.reg [⟨(some 13), .v (.mov (.t 7)), none⟩, ⟨(some 14), .v (.bin .geq (.t 13) (.c (.int .i64 0))), none⟩])
        (.cond (.t 14)
         .skip
         (.exit 0)))
       (.seq
        (.block 1
         (.seq
          (.reg [⟨(some 17), .v (.mov (.t 0)), none⟩, ⟨(some 18), .v (.len (.t 17)), none⟩, ⟨(some 19), .v (.mov (.c (.int .i64 0))), none⟩])
          (.block 2
           (.loop
            (.seq
             (.reg [⟨(some 20), .v (.bin .lss (.t 19) (.t 18)), none⟩])
             (.seq
              (.cond (.t 20)
               .skip
               (.exit 2))
              (.seq
               (.block 3
                (.seq
                 (.reg [⟨(some 21), .v (.iaddr 4 (.t 17) (.t 19)), none⟩, ⟨(some 22), .v (.load true 4 (.t 21)), none⟩, ⟨(some 9), .m (.alloc [(.int .i64 0), .nils, (.bool false), .nils]), none⟩, ⟨none, .m (.store 4 (.t 9) (.t 22)), none⟩])
                 (.seq
                  (.reg [⟨(some 23), .v (.faddr 0 (.t 9)), none⟩, ⟨(some 24), .v (.load true 2 (.t 23)), none⟩, ⟨(some 25), .call 63 [(.t 24)], none⟩, ⟨(some 26), .v (.mov (.t 7)), none⟩, ⟨(some 27), .v (.bin .eql (.t 25) (.t 26)), none⟩, ⟨(some 28), .v (.mov (.t 27)), none⟩, ⟨(some 29), .v (.faddr 0 (.t 9)), (some (28, true))⟩, ⟨(some 30), .v (.load true 2 (.t 29)), (some (28, true))⟩, ⟨(some 31), .v (.load true 2 (.t 4)), (some (28, true))⟩, ⟨(some 32), .call 85 [(.t 30), (.t 31)], (some (28, true))⟩, ⟨(some 33), .v (.mov (.t 2)), (some (28, true))⟩, ⟨(some 34), .v (.mov (.t 33)), (some (28, true))⟩, ⟨(some 35), .v (.faddr 2 (.t 9)), (some (34, true))⟩, ⟨(some 36), .v (.load false 1 (.t 35)), (some (34, true))⟩, ⟨(some 37), .v (.pick (.t 34) (.t 36) (.c (.bool false))), (some (28, true))⟩, ⟨(some 38), .v (.beq true (.t 32) (.t 37)), (some (28, true))⟩, ⟨(some 39), .v (.pick (.t 28) (.t 38) (.c (.bool false))), none⟩])
                  (.cond (.t 39)
                   (.reg [⟨(some 40), .v (.load true 2 (.t 4)), none⟩, ⟨(some 41), .v (.mov (.t 7)), none⟩, ⟨(some 42), .call 79 [(.t 40), (.t 41)], none⟩])
                   .skip))))
               (.reg [⟨(some 43), .v (.bin .add (.t 19) (.c (.int .i64 1))), none⟩, ⟨(some 19), .v (.mov (.t 43)), none⟩]))))))))
        (.reg [⟨(some 15), .v (.mov (.t 7)), none⟩, ⟨(some 16), .v (.bin .sub (.t 15) (.c (.int .i64 1))), none⟩, ⟨(some 7), .v (.mov (.t 16)), none⟩]))))))
   (.seq
    (.reg [⟨(some 44), .v (.load true 2 (.t 4)), none⟩, ⟨none, .m (.store 2 (.t 6) (.t 44)), none⟩])
    .ret)))⟩
theorem e80 : rFunc Try.prog Try.f80 = some r80 := by kernel_rfl
def r77 : RFunc := ⟨20, [.cell true 2 2, .t 3],
 (.seq
  (.reg [⟨(some 1), .m (.box (.t 0)), none⟩, ⟨(some 2), .m (.alloc [(.int .i64 0), .nils]), none⟩, ⟨(some 3), .v (.mov (.c (.bool false))), none⟩])
  (.seq
   (.reg [⟨(some 7), .v (.load true 3 (.t 1)), none⟩, ⟨(some 8), .call 71 [(.t 7)], none⟩, ⟨(some 6), .v (.mov (.t 8)), none⟩, ⟨(some 9), .v (.ext (.t 6) 0), none⟩, ⟨(some 10), .v (.ext (.t 6) 1), none⟩, ⟨(some 4), .v (.mov (.t 9)), none⟩, ⟨(some 5), .v (.mov (.t 10)), none⟩])
   (.seq
    (.seq
     (.reg [⟨(some 11), .v (.mov (.t 5)), none⟩, ⟨(some 12), .v (.len (.t 11)), none⟩, ⟨(some 13), .v (.bin .gtr (.t 12) (.c (.int .i64 0))), none⟩])
     (.cond (.t 13)
      (.seq
       (.reg [⟨(some 14), .v (.bld [(.int .i64 0), .nils] []), none⟩, ⟨none, .m (.store 2 (.t 2) (.t 14)), none⟩, ⟨(some 3), .v (.mov (.c (.bool false))), none⟩])
       .ret)
      .skip))
    (.seq
     (.reg [⟨(some 15), .v (.mov (.t 4)), none⟩, ⟨(some 16), .v (.faddr 0 (.t 1)), none⟩, ⟨(some 17), .v (.load false 1 (.t 16)), none⟩, ⟨(some 18), .call 61 [(.t 17)], none⟩, ⟨(some 19), .call 80 [(.t 15), (.t 18), (.c (.bool true))], none⟩, ⟨none, .m (.store 2 (.t 2) (.t 19)), none⟩, ⟨(some 3), .v (.mov (.c (.bool true))), none⟩])
     .ret))))⟩
theorem e77 : rFunc Try.prog Try.f77 = some r77 := by kernel_rfl
def r33 : RFunc := ⟨12, [.cell true 2 2, .t 3],
 (.seq
  (.reg [⟨(some 1), .m (.box (.t 0)), none⟩, ⟨(some 2), .m (.alloc [(.int .i64 0), .nils]), none⟩, ⟨(some 3), .v (.mov (.c (.bool false))), none⟩])
  (.seq
   (.seq
    (.reg [⟨(some 4), .v (.load true 3 (.t 1)), none⟩, ⟨(some 5), .call 59 [(.t 4)], none⟩, ⟨(some 6), .v (.un .not (.t 5)), none⟩])
    (.cond (.t 6)
     (.seq
      (.reg [⟨(some 7), .v (.bld [(.int .i64 0), .nils] []), none⟩, ⟨none, .m (.store 2 (.t 2) (.t 7)), none⟩, ⟨(some 3), .v (.mov (.c (.bool false))), none⟩])
      .ret)
     .skip))
   (.seq
    (.reg [⟨(some 8), .v (.load true 3 (.t 1)), none⟩, ⟨(some 9), .call 77 [(.t 8)], none⟩, ⟨(some 10), .v (.ext (.t 9) 0), none⟩, ⟨(some 11), .v (.ext (.t 9) 1), none⟩, ⟨none, .m (.store 2 (.t 2) (.t 10)), none⟩, ⟨(some 3), .v (.mov (.t 11)), none⟩])
    .ret)))⟩
theorem e33 : rFunc Try.prog Try.f33 = some r33 := by kernel_rfl
def r67 : RFunc := ⟨8, [.cell true 2 2],
 (.seq
  (.reg [⟨(some 2), .m (.alloc [(.int .i64 0), .nils]), none⟩])
  (.seq
   (.reg [⟨(some 3), .v (.mov (.t 0)), none⟩, ⟨(some 4), .v (.mov (.t 0)), none⟩, ⟨(some 5), .call 104 [(.t 4)], none⟩, ⟨(some 6), .m (.mks 1 8 [(.int .i64 0)] (.t 5) (.t 5)), none⟩, ⟨(some 7), .v (.bld [(.int .i64 0), .nils] [(0, 1, (.t 3)), (1, 1, (.t 6))]), none⟩, ⟨none, .m (.store 2 (.t 2) (.t 7)), none⟩])
   .ret))⟩
theorem e67 : rFunc Try.prog Try.f67 = some r67 := by kernel_rfl
def r81 : RFunc := ⟨33, [],
 (.seq
  (.dreg (.fl ⟨(some 6), .v (.mov (.t 0)), none⟩ (.fl ⟨(some 7), .v (.nchk (.t 6)), none⟩ (.fl ⟨(some 8), .v (.faddr 1 (.t 7)), none⟩ (.fl ⟨(some 10), .v (.mov (.t 1)), none⟩ (.fl ⟨(some 11), .v (.bin .quo (.t 10) (.c (.int .i64 16))), none⟩ (.fl ⟨(some 14), .v (.mov (.t 1)), none⟩ (.fl ⟨(some 15), .v (.bin .rem (.t 14) (.c (.int .i64 16))), none⟩ (.fl ⟨(some 16), .v (.bin .shl (.c (.int .i64 1)) (.t 15)), none⟩ (.nx ⟨(some 9), .v (.load false 1 (.t 8)), none⟩ (.fl ⟨(some 12), .v (.iaddr 1 (.t 9) (.t 11)), none⟩ (.nx ⟨(some 13), .v (.load false 1 (.t 12)), none⟩ (.fl ⟨(some 17), .v (.bin .andNot (.t 13) (.t 16)), none⟩ (.fl ⟨(some 18), .v (.iaddr 1 (.t 9) (.t 11)), none⟩ (.nx ⟨none, .m (.store 1 (.t 18) (.t 17)), none⟩ .done)))))))))))))))
  (.seq
   (.reg [⟨(some 19), .v (.mov (.t 2)), none⟩])
   (.cond (.t 19)
    (.dreg (.fl ⟨(some 20), .v (.mov (.t 0)), none⟩ (.fl ⟨(some 21), .v (.nchk (.t 20)), none⟩ (.fl ⟨(some 22), .v (.faddr 1 (.t 21)), none⟩ (.fl ⟨(some 24), .v (.mov (.t 1)), none⟩ (.fl ⟨(some 25), .v (.bin .quo (.t 24) (.c (.int .i64 16))), none⟩ (.fl ⟨(some 28), .v (.mov (.t 1)), none⟩ (.fl ⟨(some 29), .v (.bin .rem (.t 28) (.c (.int .i64 16))), none⟩ (.fl ⟨(some 30), .v (.bin .shl (.c (.int .i64 1)) (.t 29)), none⟩ (.nx ⟨(some 23), .v (.load false 1 (.t 22)), none⟩ (.fl ⟨(some 26), .v (.iaddr 1 (.t 23) (.t 25)), none⟩ (.nx ⟨(some 27), .v (.load false 1 (.t 26)), none⟩ (.fl ⟨(some 31), .v (.bin .or (.t 27) (.t 30)), none⟩ (.fl ⟨(some 32), .v (.iaddr 1 (.t 23) (.t 25)), none⟩ (.nx ⟨none, .m (.store 1 (.t 32) (.t 31)), none⟩ .done)))))))))))))))
    .skip)))⟩
theorem e81 : rFunc Try.prog Try.f81 = some r81 := by kernel_rfl
def r78 : RFunc := ⟨32, [.cell true 2 2, .t 3],
 (.seq
  (.reg [⟨(some 1), .m (.box (.t 0)), none⟩, ⟨(some 2), .m (.alloc [(.int .i64 0), .nils]), none⟩, ⟨(some 3), .v (.mov (.c (.bool false))), none⟩])
  (.seq
   (.reg [⟨(some 10), .v (.load true 3 (.t 1)), none⟩, ⟨(some 11), .call 72 [(.t 10)], none⟩, ⟨(some 9), .v (.mov (.t 11)), none⟩, ⟨(some 12), .v (.ext (.t 9) 0), none⟩, ⟨(some 13), .v (.ext (.t 9) 1), none⟩, ⟨(some 4), .v (.mov (.t 12)), none⟩, ⟨(some 5), .v (.mov (.t 13)), none⟩])
   (.seq
    (.reg [⟨(some 14), .v (.faddr 0 (.t 1)), none⟩, ⟨(some 15), .v (.load false 1 (.t 14)), none⟩, ⟨(some 16), .call 67 [(.t 15)], none⟩, ⟨(some 6), .m (.alloc [(.int .i64 0), .nils]), none⟩, ⟨none, .m (.store 2 (.t 6) (.t 16)), none⟩])
    (.seq
     (.seq
      (.reg [⟨(some 17), .v (.mov (.t 4)), none⟩, ⟨(some 18), .v (.len (.t 17)), none⟩, ⟨(some 19), .v (.mov (.c (.int .i64 0))), none⟩])
      (.block 0
       (.loop
        (.seq
         (.reg [⟨(some 20), .v (.bin .lss (.t 19) (.t 18)), none⟩])
         (.seq
          (.cond (.t 20)
           .skip
           (.exit 0))
          (.seq
           (.block 1
            (.seq
             (.reg [⟨(some 21), .v (.iaddr 4 (.t 17) (.t 19)), none⟩, ⟨(some 22), .v (.load true 4 (.t 21)), none⟩, ⟨(some 8), .m (.alloc [(.int .i64 0), .nils, (.bool false), (.int .u64 0)]), none⟩, ⟨none, .m (.store 4 (.t 8) (.t 22)), none⟩])
             (.dreg (.fl ⟨(some 23), .v (.faddr 0 (.t 8)), none⟩ (.fl ⟨(some 25), .v (.faddr 2 (.t 8)), none⟩ (.fl ⟨(some 26), .v (.load false 1 (.t 25)), none⟩ (.nx ⟨(some 24), .call 69 [(.t 23), (.c (.int .i64 0)), (.c (.bool true))], none⟩ (.nx ⟨(some 27), .call 81 [(.t 6), (.t 24), (.t 26)], none⟩ .done))))))))
           (.reg [⟨(some 28), .v (.bin .add (.t 19) (.c (.int .i64 1))), none⟩, ⟨(some 19), .v (.mov (.t 28)), none⟩])))))))
     (.seq
      (.reg [⟨(some 29), .v (.load true 2 (.t 6)), none⟩, ⟨(some 30), .v (.mov (.t 5)), none⟩, ⟨(some 31), .v (.bin .eql (.t 30) (.c (.int .u64 0))), none⟩, ⟨none, .m (.store 2 (.t 2) (.t 29)), none⟩, ⟨(some 3), .v (.mov (.t 31)), none⟩])
      .ret)))))⟩
theorem e78 : rFunc Try.prog Try.f78 = some r78 := by kernel_rfl
def r34 : RFunc := ⟨19, [.cell true 2 2, .t 3],
 (.seq
  (.reg [⟨(some 1), .m (.box (.t 0)), none⟩, ⟨(some 2), .m (.alloc [(.int .i64 0), .nils]), none⟩, ⟨(some 3), .v (.mov (.c (.bool false))), none⟩])
  (.seq
   (.seq
    (.reg [⟨(some 6), .v (.load true 3 (.t 1)), none⟩, ⟨(some 7), .call 50 [(.t 6)], none⟩, ⟨(some 8), .v (.un .not (.t 7)), none⟩])
    (.cond (.t 8)
     (.seq
      (.reg [⟨(some 9), .v (.bld [(.int .i64 0), .nils] []), none⟩, ⟨none, .m (.store 2 (.t 2) (.t 9)), none⟩, ⟨(some 3), .v (.mov (.c (.bool false))), none⟩])
      .ret)
     .skip))
   (.seq
    (.reg [⟨(some 11), .v (.load true 3 (.t 1)), none⟩, ⟨(some 12), .call 78 [(.t 11)], none⟩, ⟨(some 10), .v (.mov (.t 12)), none⟩, ⟨(some 13), .v (.ext (.t 10) 0), none⟩, ⟨(some 14), .v (.ext (.t 10) 1), none⟩, ⟨(some 4), .m (.alloc [(.int .i64 0), .nils]), none⟩, ⟨none, .m (.store 2 (.t 4) (.t 13)), none⟩, ⟨(some 5), .v (.mov (.t 14)), none⟩])
    (.seq
     (.seq
      (.reg [⟨(some 15), .v (.mov (.t 5)), none⟩, ⟨(some 16), .v (.un .not (.t 15)), none⟩])
      (.cond (.t 16)
       (.seq
        (.reg [⟨(some 17), .v (.bld [(.int .i64 0), .nils] []), none⟩, ⟨none, .m (.store 2 (.t 2) (.t 17)), none⟩, ⟨(some 3), .v (.mov (.c (.bool false))), none⟩])
        .ret)
       .skip))
     (.seq
      (.reg [⟨(some 18), .v (.load true 2 (.t 4)), none⟩, ⟨none, .m (.store 2 (.t 2) (.t 18)), none⟩, ⟨(some 3), .v (.mov (.c (.bool true))), none⟩])
      .ret)))))⟩
theorem e34 : rFunc Try.prog Try.f34 = some r34 := by kernel_rfl
def r8 : RFunc := ⟨96, [.t 2],
 (.seq
  (.reg [⟨(some 1), .m (.box (.t 0)), none⟩, ⟨(some 2), .v (.mov (.c (.bool false))), none⟩])
  (.seq
   (.reg [⟨(some 3), .v (.mov (.c (.int .i64 1048576))), none⟩])
   (.seq
    (.reg [⟨(some 14), .v (.load true 3 (.t 1)), none⟩, ⟨(some 15), .v (.mov (.t 3)), none⟩, ⟨(some 16), .call 17 [(.t 14), (.t 15)], none⟩, ⟨(some 3), .v (.mov (.t 16)), none⟩])
    (.seq
     (.seq
      (.reg [⟨(some 17), .v (.mov (.t 3)), none⟩, ⟨(some 18), .v (.bin .lss (.t 17) (.c (.int .i64 0))), none⟩])
      (.cond (.t 18)
       (.seq
        (.reg [⟨(some 2), .v (.mov (.c (.bool true))), none⟩])
        .ret)
       .skip))
     (.seq
      (.reg [⟨(some 20), .v (.load true 3 (.t 1)), none⟩, ⟨(some 21), .call 19 [(.t 20)], none⟩, ⟨(some 22), .call 33 [(.t 21)], none⟩, ⟨(some 19), .v (.mov (.t 22)), none⟩, ⟨(some 23), .v (.ext (.t 19) 0), none⟩, ⟨(some 24), .v (.ext (.t 19) 1), none⟩, ⟨(some 4), .m (.alloc [(.int .i64 0), .nils]), none⟩, ⟨none, .m (.store 2 (.t 4) (.t 23)), none⟩, ⟨(some 5), .v (.mov (.t 24)), none⟩])
      (.seq
       (.reg [⟨(some 25), .v (.load true 3 (.t 1)), none⟩, ⟨(some 26), .call 19 [(.t 25)], none⟩, ⟨(some 6), .m (.alloc [(.int .i64 0), .nils, .nils]), none⟩, ⟨none, .m (.store 3 (.t 6) (.t 26)), none⟩])
       (.seq
        (.reg [⟨(some 28), .v (.load true 3 (.t 6)), none⟩, ⟨(some 29), .call 34 [(.t 28)], none⟩, ⟨(some 27), .v (.mov (.t 29)), none⟩, ⟨(some 30), .v (.ext (.t 27) 0), none⟩, ⟨(some 31), .v (.ext (.t 27) 1), none⟩, ⟨(some 7), .m (.alloc [(.int .i64 0), .nils]), none⟩, ⟨none, .m (.store 2 (.t 7) (.t 30)), none⟩, ⟨(some 8), .v (.mov (.t 31)), none⟩])
        (.seq
         (.seq
          (.reg [⟨(some 32), .v (.load true 2 (.t 7)), none⟩, ⟨(some 33), .v (.load true 2 (.t 4)), none⟩, ⟨(some 34), .call 35 [(.t 32), (.t 33)], none⟩, ⟨(some 35), .v (.un .not (.t 34)), none⟩, ⟨(some 36), .v (.mov (.t 35)), none⟩, ⟨(some 37), .v (.mov (.t 8)), (some (36, false))⟩, ⟨(some 38), .v (.mov (.t 5)), (some (36, false))⟩, ⟨(some 39), .v (.beq true (.t 37) (.t 38)), (some (36, false))⟩, ⟨(some 40), .v (.pick (.t 36) (.c (.bool true)) (.t 39)), none⟩])
          (.cond (.t 40)
           (.seq
            (.reg [⟨(some 2), .v (.mov (.c (.bool false))), none⟩])
            .ret)
           .skip))
         (.seq
          (.seq
           (.dreg (.fl ⟨(some 41), .v (.load true 3 (.t 6)), none⟩ (.fl ⟨(some 42), .v (.load true 3 (.t 1)), none⟩ (.nx ⟨(some 43), .call 19 [(.t 42)], none⟩ (.nx ⟨(some 44), .call 22 [(.t 41), (.t 43)], none⟩ (.fl ⟨(some 45), .v (.un .not (.t 44)), none⟩ .done))))))
           (.cond (.t 45)
            (.seq
             (.reg [⟨(some 2), .v (.mov (.c (.bool false))), none⟩])
             .ret)
            .skip))
          (.seq
           (.reg [⟨(some 9), .v (.mov (.c (.int .i64 1))), none⟩])
           (.seq
            (.reg [⟨(some 46), .v (.load true 3 (.t 6)), none⟩, ⟨(some 47), .v (.mov (.t 9)), none⟩, ⟨(some 48), .call 28 [(.t 46), (.t 47)], none⟩, ⟨(some 9), .v (.mov (.t 48)), none⟩])
            (.seq
             (.seq
              (.reg [⟨(some 49), .v (.mov (.t 9)), none⟩, ⟨(some 50), .v (.bin .lss (.t 49) (.c (.int .i64 0))), none⟩, ⟨(some 51), .v (.mov (.t 50)), none⟩, ⟨(some 52), .v (.load true 2 (.t 7)), (some (51, false))⟩, ⟨(some 53), .v (.load true 2 (.t 4)), (some (51, false))⟩, ⟨(some 54), .call 35 [(.t 52), (.t 53)], (some (51, false))⟩, ⟨(some 55), .v (.un .not (.t 54)), (some (51, false))⟩, ⟨(some 56), .v (.pick (.t 51) (.c (.bool true)) (.t 55)), none⟩, ⟨(some 57), .v (.mov (.t 56)), none⟩, ⟨(some 58), .v (.mov (.t 8)), (some (57, false))⟩, ⟨(some 59), .v (.mov (.t 5)), (some (57, false))⟩, ⟨(some 60), .v (.beq true (.t 58) (.t 59)), (some (57, false))⟩, ⟨(some 61), .v (.pick (.t 57) (.c (.bool true)) (.t 60)), none⟩])
              (.cond (.t 61)
               (.seq
                (.reg [⟨(some 2), .v (.mov (.c (.bool false))), none⟩])
                .ret)
               .skip))
             (.seq
              (.reg [⟨(some 10), .v (.mov (.c (.int .i64 1))), none⟩])
              (.seq
               (.reg [⟨(some 62), .v (.load true 2 (.t 7)), none⟩, ⟨(some 63), .v (.mov (.t 10)), none⟩, ⟨(some 64), .call 36 [(.t 62), (.t 63)], none⟩, ⟨(some 10), .v (.mov (.t 64)), none⟩])
               (.seq
                (.reg [⟨(some 11), .v (.mov (.c (.int .i64 1))), none⟩])
                (.seq
                 (.reg [⟨(some 65), .v (.load true 2 (.t 7)), none⟩, ⟨(some 66), .v (.mov (.t 11)), none⟩, ⟨(some 67), .call 37 [(.t 65), (.t 66)], none⟩, ⟨(some 11), .v (.mov (.t 67)), none⟩])
                 (.seq
                  (.seq
                   (.reg [⟨(some 68), .v (.mov (.t 11)), none⟩, ⟨(some 69), .v (.bin .lss (.t 68) (.c (.int .i64 0))), none⟩])
                   (.cond (.t 69)
                    (.seq
                     (.reg [⟨(some 2), .v (.mov (.c (.bool false))), none⟩])
                     .ret)
                    .skip))
                  (.seq
                   (.seq
                    (.reg [⟨(some 70), .v (.mov (.t 11)), none⟩, ⟨(some 71), .v (.mov (.t 10)), none⟩, ⟨(some 72), .v (.bin .neq (.t 70) (.t 71)), none⟩])
                    (.cond (.t 72)
                     (.seq
                      (.reg [⟨(some 2), .v (.mov (.c (.bool false))), none⟩])
                      .ret)
                     .skip))
                   (.seq
                    (.reg [⟨(some 74), .v (.load true 3 (.t 1)), none⟩, ⟨(some 75), .call 19 [(.t 74)], none⟩, ⟨(some 76), .call 34 [(.t 75)], none⟩, ⟨(some 73), .v (.mov (.t 76)), none⟩, ⟨(some 77), .v (.ext (.t 73) 0), none⟩, ⟨(some 78), .v (.ext (.t 73) 1), none⟩, ⟨(some 12), .m (.alloc [(.int .i64 0), .nils]), none⟩, ⟨none, .m (.store 2 (.t 12) (.t 77)), none⟩, ⟨(some 13), .v (.mov (.t 78)), none⟩])
                    (.seq
                     (.seq
                      (.reg [⟨(some 79), .v (.load true 2 (.t 12)), none⟩, ⟨(some 80), .v (.load true 2 (.t 4)), none⟩, ⟨(some 81), .call 35 [(.t 79), (.t 80)], none⟩, ⟨(some 82), .v (.un .not (.t 81)), none⟩, ⟨(some 83), .v (.mov (.t 82)), none⟩, ⟨(some 84), .v (.mov (.t 13)), (some (83, false))⟩, ⟨(some 85), .v (.mov (.t 5)), (some (83, false))⟩, ⟨(some 86), .v (.beq true (.t 84) (.t 85)), (some (83, false))⟩, ⟨(some 87), .v (.pick (.t 83) (.c (.bool true)) (.t 86)), none⟩])
                      (.cond (.t 87)
                       (.seq
                        (.reg [⟨(some 2), .v (.mov (.c (.bool false))), none⟩])
                        .ret)
                       .skip))
                     (.seq
                      (.reg [⟨(some 11), .v (.mov (.c (.int .i64 1))), none⟩])
                      (.seq
                       (.reg [⟨(some 88), .v (.load true 2 (.t 7)), none⟩, ⟨(some 89), .v (.mov (.t 11)), none⟩, ⟨(some 90), .call 37 [(.t 88), (.t 89)], none⟩, ⟨(some 11), .v (.mov (.t 90)), none⟩])
                       (.seq
                        (.seq
                         (.reg [⟨(some 91), .v (.mov (.t 11)), none⟩, ⟨(some 92), .v (.bin .lss (.t 91) (.c (.int .i64 0))), none⟩])
                         (.cond (.t 92)
                          (.seq
                           (.reg [⟨(some 2), .v (.mov (.c (.bool false))), none⟩])
                           .ret)
                          .skip))
                        (.seq
                         (.seq
                          (.reg [⟨(some 93), .v (.mov (.t 11)), none⟩, ⟨(some 94), .v (.mov (.t 10)), none⟩, ⟨(some 95), .v (.bin .neq (.t 93) (.t 94)), none⟩])
                          (.cond (.t 95)
                           (.seq
                            (.reg [⟨(some 2), .v (.mov (.c (.bool false))), none⟩])
                            .ret)
                           .skip))
                         (.seq
                          (.reg [⟨(some 2), .v (.mov (.c (.bool true))), none⟩])
                          .ret)))))))))))))))))))))))))⟩
theorem e8 : rFunc Try.prog Try.f8 = some r8 := by kernel_rfl
end Go.Proofs.Ytgkdnpigbpkehaa.M
