/-
  The resolved text of the functions, each tied to the program's own by the kernel.
-/
import Derived.Test.YtgkdnpigbpkehaaProg
import Derived.Test.YtgkdnpigbpkehaaFb
namespace Go.Proofs.Ytgkdnpigbpkehaa.M
open Go Go.RowKit
set_option maxRecDepth 100000

def r75 : RFunc := ⟨43, [.t 2],
 (.seq
  (.reg [⟨(some 1), .m (.box (.t 0)), none⟩, ⟨(some 2), .v (.mov (.c .nils)), none⟩])
  (.seq
   (.reg [⟨(some 11), .v (.load true 3 (.t 1)), none⟩, ⟨(some 12), .call 71 [(.t 11)], none⟩, ⟨(some 10), .v (.mov (.t 12)), none⟩, ⟨(some 13), .v (.ext (.t 10) 0), none⟩, ⟨(some 14), .v (.ext (.t 10) 1), none⟩, ⟨(some 3), .v (.mov (.t 13)), none⟩, ⟨(some 4), .v (.mov (.t 14)), none⟩])
   (.seq
    (.reg [⟨(some 5), .v (.mov (.c .nils)), none⟩, ⟨(some 6), .v (.mov (.c .nils)), none⟩])
    (.seq
     (.seq
      (.reg [⟨(some 15), .v (.mov (.t 3)), none⟩, ⟨(some 16), .v (.len (.t 15)), none⟩, ⟨(some 17), .v (.mov (.c (.int .i64 0))), none⟩])
      (.block 0
       (.loop
        (.seq
         (.reg [⟨(some 18), .v (.bin .lss (.t 17) (.t 16)), none⟩])
         (.seq
          (.cond (.t 18)
           .skip
           (.exit 0))
          (.seq
           (.block 1
            (.seq
             (.reg [⟨(some 19), .v (.iaddr 4 (.t 15) (.t 17)), none⟩, ⟨(some 20), .v (.load true 4 (.t 19)), none⟩, ⟨(some 8), .m (.alloc [(.int .i64 0), .nils, (.bool false), .nils]), none⟩, ⟨none, .m (.store 4 (.t 8) (.t 20)), none⟩])
             (.reg [⟨(some 21), .v (.mov (.t 5)), none⟩, ⟨(some 22), .v (.faddr 0 (.t 8)), none⟩, ⟨(some 23), .v (.load true 2 (.t 22)), none⟩, ⟨(some 24), .call 63 [(.t 23)], none⟩, ⟨(some 25), .m (.bsl 1 1 [(.int .i64 0)] [(0, 1, (.t 24))]), none⟩, ⟨(some 26), .m (.app false 1 8 (.t 21) (.t 25)), none⟩, ⟨(some 5), .v (.mov (.t 26)), none⟩])))
           (.reg [⟨(some 27), .v (.bin .add (.t 17) (.c (.int .i64 1))), none⟩, ⟨(some 17), .v (.mov (.t 27)), none⟩])))))))
     (.seq
      (.seq
       (.reg [⟨(some 9), .v (.mov (.c (.int .i64 0))), none⟩])
       (.block 2
        (.loop
         (.seq
          (.seq
           (.reg [⟨(some 28), .v (.mov (.t 9)), none⟩, ⟨(some 29), .v (.faddr 0 (.t 1)), none⟩, ⟨(some 30), .v (.load false 1 (.t 29)), none⟩, ⟨(some 31), .v (.bin .lss (.t 28) (.t 30)), none⟩])
           (.cond (.t 31)
            .skip
            (.exit 2)))
          (.seq
           (.block 3
            (.seq
             (.reg [⟨(some 34), .v (.mov (.t 5)), none⟩, ⟨(some 35), .v (.mov (.t 9)), none⟩, ⟨(some 36), .call 100 [(.t 34), (.t 35)], none⟩, ⟨(some 37), .v (.un .not (.t 36)), none⟩])
             (.cond (.t 37)
              (.reg [⟨(some 38), .v (.mov (.t 6)), none⟩, ⟨(some 39), .v (.mov (.t 9)), none⟩, ⟨(some 40), .m (.bsl 1 1 [(.int .i64 0)] [(0, 1, (.t 39))]), none⟩, ⟨(some 41), .m (.app false 1 8 (.t 38) (.t 40)), none⟩, ⟨(some 6), .v (.mov (.t 41)), none⟩])
              .skip)))
           (.reg [⟨(some 32), .v (.mov (.t 9)), none⟩, ⟨(some 33), .v (.bin .add (.t 32) (.c (.int .i64 1))), none⟩, ⟨(some 9), .v (.mov (.t 33)), none⟩]))))))
      (.seq
       (.reg [⟨(some 42), .v (.mov (.t 6)), none⟩, ⟨(some 2), .v (.mov (.t 42)), none⟩])
       .ret))))))⟩
theorem e75 : rFunc Try.prog Try.f75 = some r75 := by kernel_rfl
def r31 : RFunc := ⟨9, [.t 2, .t 3],
 (.seq
  (.reg [⟨(some 1), .m (.box (.t 0)), none⟩, ⟨(some 2), .v (.mov (.c .nils)), none⟩, ⟨(some 3), .v (.mov (.c (.bool false))), none⟩])
  (.seq
   (.seq
    (.reg [⟨(some 4), .v (.load true 3 (.t 1)), none⟩, ⟨(some 5), .call 59 [(.t 4)], none⟩, ⟨(some 6), .v (.un .not (.t 5)), none⟩])
    (.cond (.t 6)
     (.seq
      (.reg [⟨(some 2), .v (.mov (.c .nils)), none⟩, ⟨(some 3), .v (.mov (.c (.bool false))), none⟩])
      .ret)
     .skip))
   (.seq
    (.reg [⟨(some 7), .v (.load true 3 (.t 1)), none⟩, ⟨(some 8), .call 75 [(.t 7)], none⟩, ⟨(some 2), .v (.mov (.t 8)), none⟩, ⟨(some 3), .v (.mov (.c (.bool true))), none⟩])
    .ret)))⟩
theorem e31 : rFunc Try.prog Try.f31 = some r31 := by kernel_rfl
def r122 : RFunc := ⟨19, [.t 4],
 (.seq
  (.reg [⟨(some 4), .v (.mov (.c (.int .i64 0))), none⟩])
  (.seq
   (.seq
    (.reg [⟨(some 6), .v (.mov (.t 0)), none⟩, ⟨(some 7), .v (.len (.t 6)), none⟩, ⟨(some 8), .v (.mov (.c (.int .i64 0))), none⟩])
    (.block 0
     (.loop
      (.seq
       (.reg [⟨(some 9), .v (.bin .lss (.t 8) (.t 7)), none⟩])
       (.seq
        (.cond (.t 9)
         .skip
         (.exit 0))
        (.seq
         (.block 1
          (.seq
           (.reg [⟨(some 10), .v (.mov (.t 8)), none⟩, ⟨(some 5), .v (.mov (.t 10)), none⟩])
           (.seq
            (.reg [⟨(some 11), .v (.mov (.t 1)), none⟩, ⟨(some 12), .v (.mov (.t 0)), none⟩, ⟨(some 13), .v (.mov (.t 5)), none⟩, ⟨(some 14), .v (.iaddr 4 (.t 12) (.t 13)), none⟩, ⟨(some 15), .v (.load true 4 (.t 14)), none⟩, ⟨(some 16), .callv (.t 11) [(.t 15)], none⟩])
            (.cond (.t 16)
             (.seq
              (.reg [⟨(some 17), .v (.mov (.t 5)), none⟩, ⟨(some 4), .v (.mov (.t 17)), none⟩])
              .ret)
             .skip))))
         (.reg [⟨(some 18), .v (.bin .add (.t 8) (.c (.int .i64 1))), none⟩, ⟨(some 8), .v (.mov (.t 18)), none⟩])))))))
   (.seq
    (.reg [⟨(some 4), .v (.mov (.c (.int .i64 (-1)))), none⟩])
    .ret)))⟩
theorem e122 : rFunc Try.prog Try.f122 = some r122 := by kernel_rfl
def r108 : RFunc := ⟨9, [.t 4],
 (.seq
  (.reg [⟨(some 4), .v (.mov (.c (.bool false))), none⟩])
  (.seq
   (.reg [⟨(some 5), .v (.mov (.t 0)), none⟩, ⟨(some 6), .v (.mov (.t 1)), none⟩, ⟨(some 7), .call 122 [(.t 5), (.t 6)], none⟩, ⟨(some 8), .v (.bin .geq (.t 7) (.c (.int .i64 0))), none⟩, ⟨(some 4), .v (.mov (.t 8)), none⟩])
   .ret))⟩
theorem e108 : rFunc Try.prog Try.f108 = some r108 := by kernel_rfl
def r109 : RFunc := ⟨8, [.t 3],
 (.seq
  (.reg [⟨(some 2), .m (.box (.t 0)), none⟩, ⟨(some 3), .v (.mov (.c (.bool false))), none⟩])
  (.seq
   (.dreg (.fl ⟨(some 4), .v (.faddr 0 (.t 2)), none⟩ (.fl ⟨(some 6), .v (.load false 1 (.t 1)), none⟩ (.nx ⟨(some 5), .call 69 [(.t 4), (.c (.int .i64 0)), (.c (.bool true))], none⟩ (.fl ⟨(some 7), .v (.bin .eql (.t 5) (.t 6)), none⟩ (.fl ⟨(some 3), .v (.mov (.t 7)), none⟩ .done))))))
   .ret))⟩
theorem e109 : rFunc Try.prog Try.f109 = some r109 := by kernel_rfl
def r76 : RFunc := ⟨23, [.t 4],
 (.seq
  (.reg [⟨(some 2), .m (.box (.t 0)), none⟩, ⟨(some 4), .v (.mov (.c .nils)), none⟩])
  (.seq
   (.reg [⟨(some 7), .m (.bsl 1 0 [(.int .i64 0)] []), none⟩, ⟨(some 5), .v (.mov (.t 7)), none⟩])
   (.seq
    (.seq
     (.reg [⟨(some 8), .v (.faddr 0 (.t 2)), none⟩, ⟨(some 9), .v (.load false 1 (.t 8)), none⟩, ⟨(some 10), .v (.mov (.c (.int .i64 0))), none⟩])
     (.block 0
      (.loop
       (.seq
        (.reg [⟨(some 11), .v (.bin .lss (.t 10) (.t 9)), none⟩])
        (.seq
         (.cond (.t 11)
          .skip
          (.exit 0))
         (.seq
          (.block 1
           (.seq
            (.reg [⟨(some 12), .v (.mov (.t 10)), none⟩, ⟨(some 6), .m (.alloc [(.int .i64 0)]), none⟩, ⟨none, .m (.store 1 (.t 6) (.t 12)), none⟩])
            (.seq
             (.reg [⟨(some 13), .v (.mov (.t 1)), none⟩, ⟨(some 14), .v (.mkfn 109 [(.t 6)]), none⟩, ⟨(some 15), .call 108 [(.t 13), (.t 14)], none⟩, ⟨(some 16), .v (.un .not (.t 15)), none⟩])
             (.cond (.t 16)
              (.reg [⟨(some 17), .v (.mov (.t 5)), none⟩, ⟨(some 18), .v (.load false 1 (.t 6)), none⟩, ⟨(some 19), .m (.bsl 1 1 [(.int .i64 0)] [(0, 1, (.t 18))]), none⟩, ⟨(some 20), .m (.app false 1 8 (.t 17) (.t 19)), none⟩, ⟨(some 5), .v (.mov (.t 20)), none⟩])
              .skip))))
          (.reg [⟨(some 21), .v (.bin .add (.t 10) (.c (.int .i64 1))), none⟩, ⟨(some 10), .v (.mov (.t 21)), none⟩])))))))
    (.seq
     (.reg [⟨(some 22), .v (.mov (.t 5)), none⟩, ⟨(some 4), .v (.mov (.t 22)), none⟩])
     .ret))))⟩
theorem e76 : rFunc Try.prog Try.f76 = some r76 := by kernel_rfl
def r67 : RFunc := ⟨8, [.cell true 2 2],
 (.seq
  (.reg [⟨(some 2), .m (.alloc [(.int .i64 0), .nils]), none⟩])
  (.seq
   (.reg [⟨(some 3), .v (.mov (.t 0)), none⟩, ⟨(some 4), .v (.mov (.t 0)), none⟩, ⟨(some 5), .call 104 [(.t 4)], none⟩, ⟨(some 6), .m (.mks 1 8 [(.int .i64 0)] (.t 5) (.t 5)), none⟩, ⟨(some 7), .v (.bld [(.int .i64 0), .nils] [(0, 1, (.t 3)), (1, 1, (.t 6))]), none⟩, ⟨none, .m (.store 2 (.t 2) (.t 7)), none⟩])
   .ret))⟩
theorem e67 : rFunc Try.prog Try.f67 = some r67 := by kernel_rfl
def r81 : RFunc := ⟨33, [],
 (.seq
  (.dreg (.fl ⟨(some 6), .v (.mov (.t 0)), none⟩ (.fl ⟨(some 7), .v (.nchk (.t 6)), none⟩ (.fl ⟨(some 8), .v (.faddr 1 (.t 7)), none⟩ (.fl ⟨(some 10), .v (.mov (.t 1)), none⟩ (.fl ⟨(some 11), .v (.bin .quo (.t 10) (.c (.int .i64 16))), none⟩ (.fl ⟨(some 14), .v (.mov (.t 1)), none⟩ (.fl ⟨(some 15), .v (.bin .rem (.t 14) (.c (.int .i64 16))), none⟩ (.fl ⟨(some 16), .v (.bin .shl (.c (.int .i64 1)) (.t 15)), none⟩ (.nx ⟨(some 9), .v (.load false 1 (.t 8)), none⟩ (.fl ⟨(some 12), .v (.iaddr 1 (.t 9) (.t 11)), none⟩ (.nx ⟨(some 13), .v (.load false 1 (.t 12)), none⟩ (.fl ⟨(some 17), .v (.bin .andNot (.t 13) (.t 16)), none⟩ (.fl ⟨(some 18), .v (.iaddr 1 (.t 9) (.t 11)), none⟩ (.nx ⟨none, .m (.store 1 (.t 18) (.t 17)), none⟩ .done)))))))))))))))
  (.seq
   (.reg [⟨(some 19), .v (.mov (.t 2)), none⟩])
   (.cond (.t 19)
    (.dreg (.fl ⟨(some 20), .v (.mov (.t 0)), none⟩ (.fl ⟨(some 21), .v (.nchk (.t 20)), none⟩ (.fl ⟨(some 22), .v (.faddr 1 (.t 21)), none⟩ (.fl ⟨(some 24), .v (.mov (.t 1)), none⟩ (.fl ⟨(some 25), .v (.bin .quo (.t 24) (.c (.int .i64 16))), none⟩ (.fl ⟨(some 28), .v (.mov (.t 1)), none⟩ (.fl ⟨(some 29), .v (.bin .rem (.t 28) (.c (.int .i64 16))), none⟩ (.fl ⟨(some 30), .v (.bin .shl (.c (.int .i64 1)) (.t 29)), none⟩ (.nx ⟨(some 23), .v (.load false 1 (.t 22)), none⟩ (.fl ⟨(some 26), .v (.iaddr 1 (.t 23) (.t 25)), none⟩ (.nx ⟨(some 27), .v (.load false 1 (.t 26)), none⟩ (.fl ⟨(some 31), .v (.bin .or (.t 27) (.t 30)), none⟩ (.fl ⟨(some 32), .v (.iaddr 1 (.t 23) (.t 25)), none⟩ (.nx ⟨none, .m (.store 1 (.t 32) (.t 31)), none⟩ .done)))))))))))))))
    .skip)))⟩
theorem e81 : rFunc Try.prog Try.f81 = some r81 := by kernel_rfl
def r78 : RFunc := ⟨32, [.cell true 2 2, .t 3],
 (.seq
  (.reg [⟨(some 1), .m (.box (.t 0)), none⟩, ⟨(some 2), .m (.alloc [(.int .i64 0), .nils]), none⟩, ⟨(some 3), .v (.mov (.c (.bool false))), none⟩])
  (.seq
   (.reg [⟨(some 10), .v (.load true 3 (.t 1)), none⟩, ⟨(some 11), .call 72 [(.t 10)], none⟩, ⟨(some 9), .v (.mov (.t 11)), none⟩, ⟨(some 12), .v (.ext (.t 9) 0), none⟩, ⟨(some 13), .v (.ext (.t 9) 1), none⟩, ⟨(some 4), .v (.mov (.t 12)), none⟩, ⟨(some 5), .v (.mov (.t 13)), none⟩])
   (.seq
    (.reg [⟨(some 14), .v (.faddr 0 (.t 1)), none⟩, ⟨(some 15), .v (.load false 1 (.t 14)), none⟩, ⟨(some 16), .call 67 [(.t 15)], none⟩, ⟨(some 6), .m (.alloc [(.int .i64 0), .nils]), none⟩, ⟨none, .m (.store 2 (.t 6) (.t 16)), none⟩])
    (.seq
     (.seq
      (.reg [⟨(some 17), .v (.mov (.t 4)), none⟩, ⟨(some 18), .v (.len (.t 17)), none⟩, ⟨(some 19), .v (.mov (.c (.int .i64 0))), none⟩])
      (.block 0
       (.loop
        (.seq
         (.reg [⟨(some 20), .v (.bin .lss (.t 19) (.t 18)), none⟩])
         (.seq
          (.cond (.t 20)
           .skip
           (.exit 0))
          (.seq
           (.block 1
            (.seq
             (.reg [⟨(some 21), .v (.iaddr 4 (.t 17) (.t 19)), none⟩, ⟨(some 22), .v (.load true 4 (.t 21)), none⟩, ⟨(some 8), .m (.alloc [(.int .i64 0), .nils, (.bool false), (.int .u64 0)]), none⟩, ⟨none, .m (.store 4 (.t 8) (.t 22)), none⟩])
             (.dreg (.fl ⟨(some 23), .v (.faddr 0 (.t 8)), none⟩ (.fl ⟨(some 25), .v (.faddr 2 (.t 8)), none⟩ (.fl ⟨(some 26), .v (.load false 1 (.t 25)), none⟩ (.nx ⟨(some 24), .call 69 [(.t 23), (.c (.int .i64 0)), (.c (.bool true))], none⟩ (.nx ⟨(some 27), .call 81 [(.t 6), (.t 24), (.t 26)], none⟩ .done))))))))
           (.reg [⟨(some 28), .v (.bin .add (.t 19) (.c (.int .i64 1))), none⟩, ⟨(some 19), .v (.mov (.t 28)), none⟩])))))))
     (.seq
      (.reg [⟨(some 29), .v (.load true 2 (.t 6)), none⟩, ⟨(some 30), .v (.mov (.t 5)), none⟩, ⟨(some 31), .v (.bin .eql (.t 30) (.c (.int .u64 0))), none⟩, ⟨none, .m (.store 2 (.t 2) (.t 29)), none⟩, ⟨(some 3), .v (.mov (.t 31)), none⟩])
      .ret)))))⟩
theorem e78 : rFunc Try.prog Try.f78 = some r78 := by kernel_rfl
def r85 : RFunc := ⟨24, [.t 4],
 (.seq
  (.reg [⟨(some 2), .m (.box (.t 0)), none⟩, ⟨(some 3), .m (.box (.t 1)), none⟩, ⟨(some 4), .v (.mov (.c (.bool false))), none⟩])
  (.seq
   (.reg [⟨(some 5), .v (.mov (.c (.bool false))), none⟩])
   (.seq
    (.seq
     (.reg [⟨(some 6), .v (.mov (.c (.int .i64 0))), none⟩])
     (.block 0
      (.loop
       (.seq
        (.seq
         (.reg [⟨(some 7), .v (.mov (.t 6)), none⟩, ⟨(some 8), .v (.faddr 0 (.t 2)), none⟩, ⟨(some 9), .v (.load false 1 (.t 8)), none⟩, ⟨(some 10), .v (.bin .lss (.t 7) (.t 9)), none⟩])
         (.cond (.t 10)
          .skip
          (.exit 0)))
        (.seq
         (.block 1
          (.reg [⟨(some 13), .v (.mov (.t 5)), none⟩, ⟨(some 14), .v (.load true 2 (.t 2)), none⟩, ⟨(some 15), .v (.mov (.t 6)), none⟩, ⟨(some 16), .call 113 [(.t 14), (.t 15)], none⟩, ⟨(some 17), .v (.mov (.t 16)), none⟩, ⟨(some 18), .v (.load true 2 (.t 3)), (some (17, true))⟩, ⟨(some 19), .v (.mov (.t 6)), (some (17, true))⟩, ⟨(some 20), .call 113 [(.t 18), (.t 19)], (some (17, true))⟩, ⟨(some 21), .v (.pick (.t 17) (.t 20) (.c (.bool false))), none⟩, ⟨(some 22), .v (.beq true (.t 13) (.t 21)), none⟩, ⟨(some 5), .v (.mov (.t 22)), none⟩]))
         (.reg [⟨(some 11), .v (.mov (.t 6)), none⟩, ⟨(some 12), .v (.bin .add (.t 11) (.c (.int .i64 1))), none⟩, ⟨(some 6), .v (.mov (.t 12)), none⟩]))))))
    (.seq
     (.reg [⟨(some 23), .v (.mov (.t 5)), none⟩, ⟨(some 4), .v (.mov (.t 23)), none⟩])
     .ret))))⟩
theorem e85 : rFunc Try.prog Try.f85 = some r85 := by kernel_rfl
def r80 : RFunc := ⟨45, [.cell true 2 6],
 (.seq
  (.reg [⟨(some 4), .m (.box (.t 1)), none⟩, ⟨(some 6), .m (.alloc [(.int .i64 0), .nils]), none⟩])
  (.seq
   (.seq
    (.reg [⟨(some 10), .v (.faddr 0 (.t 4)), none⟩, ⟨(some 11), .v (.load false 1 (.t 10)), none⟩, ⟨(some 12), .v (.bin .sub (.t 11) (.c (.int .i64 1))), none⟩, ⟨(some 7), .v (.mov (.t 12)), none⟩])
    (.block 0
     (.loop
      (.seq
       (.seq
        (.reg [⟨(some 13), .v (.mov (.t 7)), none⟩, ⟨(some 14), .v (.bin .geq (.t 13) (.c (.int .i64 0))), none⟩])
        (.cond (.t 14)
         .skip
         (.exit 0)))
       (.seq
        (.block 1
         (.seq
          (.reg [⟨(some 17), .v (.mov (.t 0)), none⟩, ⟨(some 18), .v (.len (.t 17)), none⟩, ⟨(some 19), .v (.mov (.c (.int .i64 0))), none⟩])
          (.block 2
           (.loop
            (.seq
             (.reg [⟨(some 20), .v (.bin .lss (.t 19) (.t 18)), none⟩])
             (.seq
              (.cond (.t 20)
               .skip
               (.exit 2))
              (.seq
               (.block 3
                (.seq
                 (.reg [⟨(some 21), .v (.iaddr 4 (.t 17) (.t 19)), none⟩, ⟨(some 22), .v (.load true 4 (.t 21)), none⟩, ⟨(some 9), .m (.alloc [(.int .i64 0), .nils, (.bool false), .nils]), none⟩, ⟨none, .m (.store 4 (.t 9) (.t 22)), none⟩])
                 (.seq
                  (.reg [⟨(some 23), .v (.faddr 0 (.t 9)), none⟩, ⟨(some 24), .v (.load true 2 (.t 23)), none⟩, ⟨(some 25), .call 63 [(.t 24)], none⟩, ⟨(some 26), .v (.mov (.t 7)), none⟩, ⟨(some 27), .v (.bin .eql (.t 25) (.t 26)), none⟩, ⟨(some 28), .v (.mov (.t 27)), none⟩, ⟨(some 29), .v (.faddr 0 (.t 9)), (some (28, true))⟩, ⟨(some 30), .v (.load true 2 (.t 29)), (some (28, true))⟩, ⟨(some 31), .v (.load true 2 (.t 4)), (some (28, true))⟩, ⟨(some 32), .call 85 [(.t 30), (.t 31)], (some (28, true))⟩, ⟨(some 33), .v (.mov (.t 2)), (some (28, true))⟩, ⟨(some 34), .v (.mov (.t 33)), (some (28, true))⟩, ⟨(some 35), .v (.faddr 2 (.t 9)), (some (34, true))⟩, ⟨(some 36), .v (.load false 1 (.t 35)), (some (34, true))⟩, ⟨(some 37), .v (.pick (.t 34) (.t 36) (.c (.bool false))), (some (28, true))⟩, ⟨(some 38), .v (.beq true (.t 32) (.t 37)), (some (28, true))⟩, ⟨(some 39), .v (.pick (.t 28) (.t 38) (.c (.bool false))), none⟩])
                  (.cond (.t 39)
                   (.reg [⟨(some 40), .v (.load true 2 (.t 4)), none⟩, ⟨(some 41), .v (.mov (.t 7)), none⟩, ⟨(some 42), .call 79 [(.t 40), (.t 41)], none⟩])
                   .skip))))
               (.reg [⟨(some 43), .v (.bin .add (.t 19) (.c (.int .i64 1))), none⟩, ⟨(some 19), .v (.mov (.t 43)), none⟩]))))))))
        (.reg [⟨(some 15), .v (.mov (.t 7)), none⟩, ⟨(some 16), .v (.bin .sub (.t 15) (.c (.int .i64 1))), none⟩, ⟨(some 7), .v (.mov (.t 16)), none⟩]))))))
   (.seq
    (.reg [⟨(some 44), .v (.load true 2 (.t 4)), none⟩, ⟨none, .m (.store 2 (.t 6) (.t 44)), none⟩])
    .ret)))⟩
theorem e80 : rFunc Try.prog Try.f80 = some r80 := by kernel_rfl
end Go.Proofs.Ytgkdnpigbpkehaa.M
