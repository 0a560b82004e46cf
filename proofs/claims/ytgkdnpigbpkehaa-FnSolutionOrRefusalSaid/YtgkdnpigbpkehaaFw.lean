/-
  The resolved text of the functions, each tied to the program's own by the kernel.
-/
import Derived.Test.YtgkdnpigbpkehaaProg
import Derived.Test.YtgkdnpigbpkehaaFv
namespace Go.Proofs.Ytgkdnpigbpkehaa.M
open Go Go.RowKit
set_option maxRecDepth 100000

def r43 : RFunc := ⟨16, [.t 4],
 (.seq
  (.reg [⟨(some 4), .v (.mov (.c (.bool false))), none⟩])
  (.seq
   (.reg [⟨(some 5), .v (.mov (.t 0)), none⟩, ⟨(some 6), .v (.len (.t 5)), none⟩, ⟨(some 7), .v (.bin .gtr (.t 6) (.c (.int .i64 1048576))), none⟩, ⟨(some 8), .v (.mov (.t 7)), none⟩, ⟨(some 9), .v (.mov (.t 1)), (some (8, false))⟩, ⟨(some 10), .v (.len (.t 9)), (some (8, false))⟩, ⟨(some 11), .v (.mov (.t 0)), (some (8, false))⟩, ⟨(some 12), .v (.len (.t 11)), (some (8, false))⟩, ⟨(some 13), .v (.bin .sub (.c (.int .i64 1048576)) (.t 12)), (some (8, false))⟩, ⟨(some 14), .v (.bin .gtr (.t 10) (.t 13)), (some (8, false))⟩, ⟨(some 15), .v (.pick (.t 8) (.c (.bool true)) (.t 14)), none⟩, ⟨(some 4), .v (.mov (.t 15)), none⟩])
   .ret))⟩
theorem e43 : rFunc Try.prog Try.f43 = some r43 := by kernel_rfl
def r34 : RFunc := ⟨19, [.cell true 2 2, .t 3],
 (.seq
  (.reg [⟨(some 1), .m (.box (.t 0)), none⟩, ⟨(some 2), .m (.alloc [(.int .i64 0), .nils]), none⟩, ⟨(some 3), .v (.mov (.c (.bool false))), none⟩])
  (.seq
   (.seq
    (.reg [⟨(some 6), .v (.load true 3 (.t 1)), none⟩, ⟨(some 7), .call 50 [(.t 6)], none⟩, ⟨(some 8), .v (.un .not (.t 7)), none⟩])
    (.cond (.t 8)
     (.seq
      (.reg [⟨(some 9), .v (.bld [(.int .i64 0), .nils] []), none⟩, ⟨none, .m (.store 2 (.t 2) (.t 9)), none⟩, ⟨(some 3), .v (.mov (.c (.bool false))), none⟩])
      .ret)
     .skip))
   (.seq
    (.reg [⟨(some 11), .v (.load true 3 (.t 1)), none⟩, ⟨(some 12), .call 78 [(.t 11)], none⟩, ⟨(some 10), .v (.mov (.t 12)), none⟩, ⟨(some 13), .v (.ext (.t 10) 0), none⟩, ⟨(some 14), .v (.ext (.t 10) 1), none⟩, ⟨(some 4), .m (.alloc [(.int .i64 0), .nils]), none⟩, ⟨none, .m (.store 2 (.t 4) (.t 13)), none⟩, ⟨(some 5), .v (.mov (.t 14)), none⟩])
    (.seq
     (.seq
      (.reg [⟨(some 15), .v (.mov (.t 5)), none⟩, ⟨(some 16), .v (.un .not (.t 15)), none⟩])
      (.cond (.t 16)
       (.seq
        (.reg [⟨(some 17), .v (.bld [(.int .i64 0), .nils] []), none⟩, ⟨none, .m (.store 2 (.t 2) (.t 17)), none⟩, ⟨(some 3), .v (.mov (.c (.bool false))), none⟩])
        .ret)
       .skip))
     (.seq
      (.reg [⟨(some 18), .v (.load true 2 (.t 4)), none⟩, ⟨none, .m (.store 2 (.t 2) (.t 18)), none⟩, ⟨(some 3), .v (.mov (.c (.bool true))), none⟩])
      .ret)))))⟩
theorem e34 : rFunc Try.prog Try.f34 = some r34 := by kernel_rfl
def r33 : RFunc := ⟨12, [.cell true 2 2, .t 3],
 (.seq
  (.reg [⟨(some 1), .m (.box (.t 0)), none⟩, ⟨(some 2), .m (.alloc [(.int .i64 0), .nils]), none⟩, ⟨(some 3), .v (.mov (.c (.bool false))), none⟩])
  (.seq
   (.seq
    (.reg [⟨(some 4), .v (.load true 3 (.t 1)), none⟩, ⟨(some 5), .call 59 [(.t 4)], none⟩, ⟨(some 6), .v (.un .not (.t 5)), none⟩])
    (.cond (.t 6)
     (.seq
      (.reg [⟨(some 7), .v (.bld [(.int .i64 0), .nils] []), none⟩, ⟨none, .m (.store 2 (.t 2) (.t 7)), none⟩, ⟨(some 3), .v (.mov (.c (.bool false))), none⟩])
      .ret)
     .skip))
   (.seq
    (.reg [⟨(some 8), .v (.load true 3 (.t 1)), none⟩, ⟨(some 9), .call 77 [(.t 8)], none⟩, ⟨(some 10), .v (.ext (.t 9) 0), none⟩, ⟨(some 11), .v (.ext (.t 9) 1), none⟩, ⟨none, .m (.store 2 (.t 2) (.t 10)), none⟩, ⟨(some 3), .v (.mov (.t 11)), none⟩])
    .ret)))⟩
theorem e33 : rFunc Try.prog Try.f33 = some r33 := by kernel_rfl
def r73 : RFunc := ⟨20, [.t 2],
 (.seq
  (.reg [⟨(some 2), .v (.mov (.c .nils)), none⟩])
  (.seq
   (.reg [⟨(some 5), .m (.bsl 1 0 [(.int .i64 0)] []), none⟩, ⟨(some 3), .v (.mov (.t 5)), none⟩])
   (.seq
    (.seq
     (.reg [⟨(some 6), .v (.mov (.c (.int .i64 0))), none⟩])
     (.block 0
      (.loop
       (.seq
        (.reg [⟨(some 7), .v (.bin .lss (.t 6) (.c (.int .i64 64))), none⟩])
        (.seq
         (.cond (.t 7)
          .skip
          (.exit 0))
         (.seq
          (.block 1
           (.seq
            (.reg [⟨(some 8), .v (.mov (.t 6)), none⟩, ⟨(some 4), .v (.mov (.t 8)), none⟩])
            (.seq
             (.reg [⟨(some 9), .v (.mov (.t 0)), none⟩, ⟨(some 10), .v (.mov (.t 4)), none⟩, ⟨(some 11), .v (.bin .shr (.t 9) (.t 10)), none⟩, ⟨(some 12), .v (.bin .and (.t 11) (.c (.int .u64 1))), none⟩, ⟨(some 13), .v (.bin .eql (.t 12) (.c (.int .u64 1))), none⟩])
             (.cond (.t 13)
              (.reg [⟨(some 14), .v (.mov (.t 3)), none⟩, ⟨(some 15), .v (.mov (.t 4)), none⟩, ⟨(some 16), .m (.bsl 1 1 [(.int .i64 0)] [(0, 1, (.t 15))]), none⟩, ⟨(some 17), .m (.app false 1 8 (.t 14) (.t 16)), none⟩, ⟨(some 3), .v (.mov (.t 17)), none⟩])
              .skip))))
          (.reg [⟨(some 18), .v (.bin .add (.t 6) (.c (.int .i64 1))), none⟩, ⟨(some 6), .v (.mov (.t 18)), none⟩])))))))
    (.seq
     (.reg [⟨(some 19), .v (.mov (.t 3)), none⟩, ⟨(some 2), .v (.mov (.t 19)), none⟩])
     .ret))))⟩
theorem e73 : rFunc Try.prog Try.f73 = some r73 := by kernel_rfl
def r27 : RFunc := ⟨18, [.t 2, .t 3],
 (.seq
  (.reg [⟨(some 1), .m (.box (.t 0)), none⟩, ⟨(some 2), .v (.mov (.c .nils)), none⟩, ⟨(some 3), .v (.mov (.c (.bool false))), none⟩])
  (.seq
   (.seq
    (.reg [⟨(some 6), .v (.load true 3 (.t 1)), none⟩, ⟨(some 7), .call 50 [(.t 6)], none⟩, ⟨(some 8), .v (.un .not (.t 7)), none⟩])
    (.cond (.t 8)
     (.seq
      (.reg [⟨(some 2), .v (.mov (.c .nils)), none⟩, ⟨(some 3), .v (.mov (.c (.bool false))), none⟩])
      .ret)
     .skip))
   (.seq
    (.reg [⟨(some 10), .v (.load true 3 (.t 1)), none⟩, ⟨(some 11), .call 72 [(.t 10)], none⟩, ⟨(some 9), .v (.mov (.t 11)), none⟩, ⟨(some 12), .v (.ext (.t 9) 0), none⟩, ⟨(some 13), .v (.ext (.t 9) 1), none⟩, ⟨(some 4), .v (.mov (.t 12)), none⟩, ⟨(some 5), .v (.mov (.t 13)), none⟩])
    (.seq
     (.seq
      (.reg [⟨(some 14), .v (.mov (.t 5)), none⟩, ⟨(some 15), .v (.bin .eql (.t 14) (.c (.int .u64 0))), none⟩])
      (.cond (.t 15)
       (.seq
        (.reg [⟨(some 2), .v (.mov (.c .nils)), none⟩, ⟨(some 3), .v (.mov (.c (.bool false))), none⟩])
        .ret)
       .skip))
     (.seq
      (.reg [⟨(some 16), .v (.mov (.t 5)), none⟩, ⟨(some 17), .call 73 [(.t 16)], none⟩, ⟨(some 2), .v (.mov (.t 17)), none⟩, ⟨(some 3), .v (.mov (.c (.bool true))), none⟩])
      .ret)))))⟩
theorem e27 : rFunc Try.prog Try.f27 = some r27 := by kernel_rfl
def r26 : RFunc := ⟨18, [.t 2, .t 3],
 (.seq
  (.reg [⟨(some 1), .m (.box (.t 0)), none⟩, ⟨(some 2), .v (.mov (.c .nils)), none⟩, ⟨(some 3), .v (.mov (.c (.bool false))), none⟩])
  (.seq
   (.seq
    (.reg [⟨(some 6), .v (.load true 3 (.t 1)), none⟩, ⟨(some 7), .call 59 [(.t 6)], none⟩, ⟨(some 8), .v (.un .not (.t 7)), none⟩])
    (.cond (.t 8)
     (.seq
      (.reg [⟨(some 2), .v (.mov (.c .nils)), none⟩, ⟨(some 3), .v (.mov (.c (.bool false))), none⟩])
      .ret)
     .skip))
   (.seq
    (.reg [⟨(some 10), .v (.load true 3 (.t 1)), none⟩, ⟨(some 11), .call 71 [(.t 10)], none⟩, ⟨(some 9), .v (.mov (.t 11)), none⟩, ⟨(some 12), .v (.ext (.t 9) 0), none⟩, ⟨(some 13), .v (.ext (.t 9) 1), none⟩, ⟨(some 4), .v (.mov (.t 12)), none⟩, ⟨(some 5), .v (.mov (.t 13)), none⟩])
    (.seq
     (.reg [⟨(some 14), .v (.mov (.t 5)), none⟩, ⟨(some 15), .v (.mov (.t 5)), none⟩, ⟨(some 16), .v (.len (.t 15)), none⟩, ⟨(some 17), .v (.bin .gtr (.t 16) (.c (.int .i64 0))), none⟩, ⟨(some 2), .v (.mov (.t 14)), none⟩, ⟨(some 3), .v (.mov (.t 17)), none⟩])
     .ret))))⟩
theorem e26 : rFunc Try.prog Try.f26 = some r26 := by kernel_rfl
def r45 : RFunc := ⟨26, [.t 4],
 (.seq
  (.reg [⟨(some 4), .v (.mov (.c (.bool false))), none⟩])
  (.seq
   (.seq
    (.reg [⟨(some 6), .v (.mov (.t 0)), none⟩, ⟨(some 7), .v (.len (.t 6)), none⟩, ⟨(some 8), .v (.mov (.t 1)), none⟩, ⟨(some 9), .v (.len (.t 8)), none⟩, ⟨(some 10), .v (.bin .neq (.t 7) (.t 9)), none⟩])
    (.cond (.t 10)
     (.seq
      (.reg [⟨(some 4), .v (.mov (.c (.bool false))), none⟩])
      .ret)
     .skip))
   (.seq
    (.seq
     (.reg [⟨(some 11), .v (.mov (.t 0)), none⟩, ⟨(some 12), .v (.len (.t 11)), none⟩, ⟨(some 13), .v (.mov (.c (.int .i64 0))), none⟩])
     (.block 0
      (.loop
       (.seq
        (.reg [⟨(some 14), .v (.bin .lss (.t 13) (.t 12)), none⟩])
        (.seq
         (.cond (.t 14)
          .skip
          (.exit 0))
         (.seq
          (.block 1
           (.seq
            (.reg [⟨(some 15), .v (.mov (.t 13)), none⟩, ⟨(some 5), .v (.mov (.t 15)), none⟩])
            (.seq
             (.dreg (.fl ⟨(some 16), .v (.mov (.t 0)), none⟩ (.fl ⟨(some 17), .v (.mov (.t 5)), none⟩ (.fl ⟨(some 18), .v (.iaddr 1 (.t 16) (.t 17)), none⟩ (.fl ⟨(some 19), .v (.load false 1 (.t 18)), none⟩ (.fl ⟨(some 20), .v (.mov (.t 1)), none⟩ (.fl ⟨(some 21), .v (.mov (.t 5)), none⟩ (.fl ⟨(some 22), .v (.iaddr 1 (.t 20) (.t 21)), none⟩ (.fl ⟨(some 23), .v (.load false 1 (.t 22)), none⟩ (.fl ⟨(some 24), .v (.bin .neq (.t 19) (.t 23)), none⟩ .done))))))))))
             (.cond (.t 24)
              (.seq
               (.reg [⟨(some 4), .v (.mov (.c (.bool false))), none⟩])
               .ret)
              .skip))))
          (.reg [⟨(some 25), .v (.bin .add (.t 13) (.c (.int .i64 1))), none⟩, ⟨(some 13), .v (.mov (.t 25)), none⟩])))))))
    (.seq
     (.reg [⟨(some 4), .v (.mov (.c (.bool true))), none⟩])
     .ret))))⟩
theorem e45 : rFunc Try.prog Try.f45 = some r45 := by kernel_rfl
def r46 : RFunc := ⟨17, [.t 4],
 (.seq
  (.reg [⟨(some 2), .m (.box (.t 0)), none⟩, ⟨(some 3), .m (.box (.t 1)), none⟩, ⟨(some 4), .v (.mov (.c (.bool false))), none⟩])
  (.seq
   (.reg [⟨(some 5), .v (.faddr 0 (.t 2)), none⟩, ⟨(some 6), .v (.load false 1 (.t 5)), none⟩, ⟨(some 7), .v (.faddr 0 (.t 3)), none⟩, ⟨(some 8), .v (.load false 1 (.t 7)), none⟩, ⟨(some 9), .v (.bin .eql (.t 6) (.t 8)), none⟩, ⟨(some 10), .v (.mov (.t 9)), none⟩, ⟨(some 11), .v (.faddr 1 (.t 2)), (some (10, true))⟩, ⟨(some 12), .v (.load false 1 (.t 11)), (some (10, true))⟩, ⟨(some 13), .v (.faddr 1 (.t 3)), (some (10, true))⟩, ⟨(some 14), .v (.load false 1 (.t 13)), (some (10, true))⟩, ⟨(some 15), .call 45 [(.t 12), (.t 14)], (some (10, true))⟩, ⟨(some 16), .v (.pick (.t 10) (.t 15) (.c (.bool false))), none⟩, ⟨(some 4), .v (.mov (.t 16)), none⟩])
   .ret))⟩
theorem e46 : rFunc Try.prog Try.f46 = some r46 := by kernel_rfl
def r89 : RFunc := ⟨22, [.t 4],
 (.seq
  (.reg [⟨(some 2), .m (.box (.t 0)), none⟩, ⟨(some 3), .m (.box (.t 1)), none⟩, ⟨(some 4), .v (.mov (.c (.bool false))), none⟩])
  (.seq
   (.reg [⟨(some 5), .v (.mov (.c (.bool false))), none⟩])
   (.seq
    (.seq
     (.reg [⟨(some 7), .v (.faddr 0 (.t 2)), none⟩, ⟨(some 8), .v (.load false 1 (.t 7)), none⟩, ⟨(some 9), .v (.mov (.c (.int .i64 0))), none⟩])
     (.block 0
      (.loop
       (.seq
        (.reg [⟨(some 10), .v (.bin .lss (.t 9) (.t 8)), none⟩])
        (.seq
         (.cond (.t 10)
          .skip
          (.exit 0))
         (.seq
          (.block 1
           (.seq
            (.reg [⟨(some 11), .v (.mov (.t 9)), none⟩, ⟨(some 6), .v (.mov (.t 11)), none⟩])
            (.reg [⟨(some 12), .v (.mov (.t 5)), none⟩, ⟨(some 13), .v (.mov (.t 6)), none⟩, ⟨(some 14), .call 82 [(.t 2), (.t 13)], none⟩, ⟨(some 15), .v (.mov (.t 14)), none⟩, ⟨(some 16), .v (.mov (.t 6)), (some (15, true))⟩, ⟨(some 17), .call 82 [(.t 3), (.t 16)], (some (15, true))⟩, ⟨(some 18), .v (.pick (.t 15) (.t 17) (.c (.bool false))), none⟩, ⟨(some 19), .v (.beq true (.t 12) (.t 18)), none⟩, ⟨(some 5), .v (.mov (.t 19)), none⟩])))
          (.reg [⟨(some 20), .v (.bin .add (.t 9) (.c (.int .i64 1))), none⟩, ⟨(some 9), .v (.mov (.t 20)), none⟩])))))))
    (.seq
     (.reg [⟨(some 21), .v (.mov (.t 5)), none⟩, ⟨(some 4), .v (.mov (.t 21)), none⟩])
     .ret))))⟩
theorem e89 : rFunc Try.prog Try.f89 = some r89 := by kernel_rfl
def r49 : RFunc := ⟨39, [.t 4, .t 5],
 (.seq
  (.reg [⟨(some 2), .m (.box (.t 0)), none⟩, ⟨(some 3), .m (.box (.t 1)), none⟩, ⟨(some 4), .v (.mov (.c (.bool false))), none⟩, ⟨(some 5), .v (.mov (.c (.bool false))), none⟩])
  (.seq
   (.seq
    (.reg [⟨(some 8), .v (.load true 3 (.t 2)), none⟩, ⟨(some 9), .call 50 [(.t 8)], none⟩, ⟨(some 10), .v (.un .not (.t 9)), none⟩, ⟨(some 11), .v (.mov (.t 10)), none⟩, ⟨(some 12), .v (.load true 2 (.t 3)), (some (11, false))⟩, ⟨(some 13), .call 86 [(.t 12)], (some (11, false))⟩, ⟨(some 14), .v (.un .not (.t 13)), (some (11, false))⟩, ⟨(some 15), .v (.pick (.t 11) (.c (.bool true)) (.t 14)), none⟩])
    (.cond (.t 15)
     (.seq
      (.reg [⟨(some 4), .v (.mov (.c (.bool false))), none⟩, ⟨(some 5), .v (.mov (.c (.bool false))), none⟩])
      .ret)
     .skip))
   (.seq
    (.seq
     (.reg [⟨(some 16), .v (.faddr 0 (.t 3)), none⟩, ⟨(some 17), .v (.load false 1 (.t 16)), none⟩, ⟨(some 18), .v (.faddr 0 (.t 2)), none⟩, ⟨(some 19), .v (.load false 1 (.t 18)), none⟩, ⟨(some 20), .v (.bin .neq (.t 17) (.t 19)), none⟩])
     (.cond (.t 20)
      (.seq
       (.reg [⟨(some 4), .v (.mov (.c (.bool false))), none⟩, ⟨(some 5), .v (.mov (.c (.bool true))), none⟩])
       .ret)
      .skip))
    (.seq
     (.seq
      (.reg [⟨(some 21), .v (.faddr 1 (.t 2)), none⟩, ⟨(some 22), .v (.load false 1 (.t 21)), none⟩, ⟨(some 23), .v (.len (.t 22)), none⟩, ⟨(some 24), .v (.mov (.c (.int .i64 0))), none⟩])
      (.block 0
       (.loop
        (.seq
         (.reg [⟨(some 25), .v (.bin .lss (.t 24) (.t 23)), none⟩])
         (.seq
          (.cond (.t 25)
           .skip
           (.exit 0))
          (.seq
           (.block 1
            (.seq
             (.reg [⟨(some 26), .v (.mov (.t 24)), none⟩, ⟨(some 27), .v (.iaddr 2 (.t 22) (.t 24)), none⟩, ⟨(some 28), .v (.load true 2 (.t 27)), none⟩, ⟨(some 7), .m (.alloc [(.int .i64 0), .nils]), none⟩, ⟨(some 6), .v (.mov (.t 26)), none⟩, ⟨none, .m (.store 2 (.t 7) (.t 28)), none⟩])
             (.seq
              (.dreg (.fl ⟨(some 29), .v (.load true 2 (.t 7)), none⟩ (.fl ⟨(some 30), .v (.load true 2 (.t 3)), none⟩ (.fl ⟨(some 32), .v (.faddr 2 (.t 2)), none⟩ (.fl ⟨(some 33), .v (.load false 1 (.t 32)), none⟩ (.fl ⟨(some 34), .v (.mov (.t 6)), none⟩ (.fl ⟨(some 35), .v (.iaddr 1 (.t 33) (.t 34)), none⟩ (.fl ⟨(some 36), .v (.load false 1 (.t 35)), none⟩ (.nx ⟨(some 31), .call 89 [(.t 29), (.t 30)], none⟩ (.fl ⟨(some 37), .v (.beq true (.t 31) (.t 36)), none⟩ .done))))))))))
              (.cond (.t 37)
               (.seq
                (.reg [⟨(some 4), .v (.mov (.c (.bool false))), none⟩, ⟨(some 5), .v (.mov (.c (.bool true))), none⟩])
                .ret)
               .skip))))
           (.reg [⟨(some 38), .v (.bin .add (.t 24) (.c (.int .i64 1))), none⟩, ⟨(some 24), .v (.mov (.t 38)), none⟩])))))))
     (.seq
      (.reg [⟨(some 4), .v (.mov (.c (.bool true))), none⟩, ⟨(some 5), .v (.mov (.c (.bool true))), none⟩])
      .ret)))))⟩
theorem e49 : rFunc Try.prog Try.f49 = some r49 := by kernel_rfl
def r66 : RFunc := ⟨36, [.t 4],
 (.seq
  (.reg [⟨(some 4), .v (.mov (.c (.bool false))), none⟩])
  (.seq
   (.seq
    (.reg [⟨(some 7), .v (.mov (.t 0)), none⟩, ⟨(some 8), .v (.len (.t 7)), none⟩, ⟨(some 9), .v (.mov (.c (.int .i64 0))), none⟩])
    (.block 0
     (.loop
      (.seq
       (.reg [⟨(some 10), .v (.bin .lss (.t 9) (.t 8)), none⟩])
       (.seq
        (.cond (.t 10)
         .skip
         (.exit 0))
        (.seq
         (.block 1
          (.seq
           (.reg [⟨(some 11), .v (.mov (.t 9)), none⟩, ⟨(some 12), .v (.iaddr 1 (.t 7) (.t 9)), none⟩, ⟨(some 13), .v (.load false 1 (.t 12)), none⟩, ⟨(some 5), .v (.mov (.t 11)), none⟩, ⟨(some 6), .v (.mov (.t 13)), none⟩])
           (.seq
            (.reg [⟨(some 14), .v (.mov (.t 6)), none⟩, ⟨(some 15), .v (.mov (.t 1)), none⟩, ⟨(some 16), .v (.bin .sub (.t 15) (.c (.int .i64 1))), none⟩, ⟨(some 17), .call 87 [(.t 14), (.c (.int .i64 0)), (.t 16)], none⟩, ⟨(some 18), .v (.un .not (.t 17)), none⟩, ⟨(some 19), .v (.mov (.t 18)), none⟩, ⟨(some 20), .v (.mov (.t 5)), (some (19, false))⟩, ⟨(some 21), .v (.bin .gtr (.t 20) (.c (.int .i64 0))), (some (19, false))⟩, ⟨(some 22), .v (.mov (.t 21)), (some (19, false))⟩, ⟨(some 23), .v (.mov (.t 0)), (some (22, true))⟩, ⟨(some 24), .v (.mov (.t 5)), (some (22, true))⟩, ⟨(some 25), .v (.bin .sub (.t 24) (.c (.int .i64 1))), (some (22, true))⟩, ⟨(some 26), .v (.iaddr 1 (.t 23) (.t 25)), (some (22, true))⟩, ⟨(some 27), .v (.load false 1 (.t 26)), (some (22, true))⟩, ⟨(some 28), .v (.mov (.t 6)), (some (22, true))⟩, ⟨(some 29), .v (.bin .geq (.t 27) (.t 28)), (some (22, true))⟩, ⟨(some 30), .v (.pick (.t 22) (.t 29) (.c (.bool false))), (some (19, false))⟩, ⟨(some 31), .v (.pick (.t 19) (.c (.bool true)) (.t 30)), none⟩])
            (.cond (.t 31)
             (.seq
              (.reg [⟨(some 4), .v (.mov (.c (.bool false))), none⟩])
              .ret)
             .skip))))
         (.reg [⟨(some 32), .v (.bin .add (.t 9) (.c (.int .i64 1))), none⟩, ⟨(some 9), .v (.mov (.t 32)), none⟩])))))))
   (.seq
    (.reg [⟨(some 33), .v (.mov (.t 0)), none⟩, ⟨(some 34), .v (.len (.t 33)), none⟩, ⟨(some 35), .v (.bin .gtr (.t 34) (.c (.int .i64 0))), none⟩, ⟨(some 4), .v (.mov (.t 35)), none⟩])
    .ret)))⟩
theorem e66 : rFunc Try.prog Try.f66 = some r66 := by kernel_rfl
def r21 : RFunc := ⟨51, [.t 4, .t 5],
 (.seq
  (.reg [⟨(some 2), .m (.box (.t 0)), none⟩, ⟨(some 4), .v (.mov (.c (.bool false))), none⟩, ⟨(some 5), .v (.mov (.c (.bool false))), none⟩])
  (.seq
   (.seq
    (.reg [⟨(some 9), .v (.load true 3 (.t 2)), none⟩, ⟨(some 10), .call 50 [(.t 9)], none⟩, ⟨(some 11), .v (.un .not (.t 10)), none⟩])
    (.cond (.t 11)
     (.seq
      (.reg [⟨(some 4), .v (.mov (.c (.bool false))), none⟩, ⟨(some 5), .v (.mov (.c (.bool false))), none⟩])
      .ret)
     .skip))
   (.seq
    (.seq
     (.reg [⟨(some 12), .v (.mov (.t 1)), none⟩, ⟨(some 13), .v (.faddr 1 (.t 2)), none⟩, ⟨(some 14), .v (.load false 1 (.t 13)), none⟩, ⟨(some 15), .v (.len (.t 14)), none⟩, ⟨(some 16), .call 66 [(.t 12), (.t 15)], none⟩, ⟨(some 17), .v (.un .not (.t 16)), none⟩])
     (.cond (.t 17)
      (.seq
       (.reg [⟨(some 4), .v (.mov (.c (.bool false))), none⟩, ⟨(some 5), .v (.mov (.c (.bool true))), none⟩])
       .ret)
      .skip))
    (.seq
     (.reg [⟨(some 18), .v (.faddr 0 (.t 2)), none⟩, ⟨(some 19), .v (.load false 1 (.t 18)), none⟩, ⟨(some 20), .call 67 [(.t 19)], none⟩, ⟨(some 21), .v (.bld [(.int .i64 0), .nils, (.bool false), (.int .u64 0)] [(0, 2, (.t 20))]), none⟩, ⟨(some 6), .m (.alloc [(.int .i64 0), .nils, (.bool false), (.int .u64 0)]), none⟩, ⟨none, .m (.store 4 (.t 6) (.t 21)), none⟩])
     (.seq
      (.seq
       (.reg [⟨(some 22), .v (.mov (.t 1)), none⟩, ⟨(some 23), .v (.len (.t 22)), none⟩, ⟨(some 24), .v (.mov (.c (.int .i64 0))), none⟩])
       (.block 0
        (.loop
         (.seq
          (.reg [⟨(some 25), .v (.bin .lss (.t 24) (.t 23)), none⟩])
          (.seq
           (.cond (.t 25)
            .skip
            (.exit 0))
           (.seq
            (.block 1
             (.seq
              (.reg [⟨(some 26), .v (.iaddr 1 (.t 22) (.t 24)), none⟩, ⟨(some 27), .v (.load false 1 (.t 26)), none⟩, ⟨(some 8), .v (.mov (.t 27)), none⟩])
              (.dreg (.fl ⟨(some 28), .v (.faddr 1 (.t 2)), none⟩ (.fl ⟨(some 29), .v (.load false 1 (.t 28)), none⟩ (.fl ⟨(some 30), .v (.mov (.t 8)), none⟩ (.fl ⟨(some 31), .v (.iaddr 2 (.t 29) (.t 30)), none⟩ (.fl ⟨(some 32), .v (.load true 2 (.t 31)), none⟩ (.fl ⟨(some 33), .v (.faddr 2 (.t 2)), none⟩ (.fl ⟨(some 34), .v (.load false 1 (.t 33)), none⟩ (.fl ⟨(some 35), .v (.mov (.t 8)), none⟩ (.fl ⟨(some 36), .v (.iaddr 1 (.t 34) (.t 35)), none⟩ (.fl ⟨(some 37), .v (.load false 1 (.t 36)), none⟩ (.fl ⟨(some 38), .v (.bld [(.int .i64 0), .nils, (.bool false), (.int .u64 0)] [(0, 2, (.t 32)), (2, 1, (.t 37)), (3, 1, (.c (.int .u64 0)))]), none⟩ (.nx ⟨(some 39), .m (.box (.t 38)), none⟩ (.nx ⟨(some 40), .call 68 [(.t 6), (.t 39)], none⟩ .done))))))))))))))))
            (.reg [⟨(some 41), .v (.bin .add (.t 24) (.c (.int .i64 1))), none⟩, ⟨(some 24), .v (.mov (.t 41)), none⟩])))))))
      (.seq
       (.dreg (.fl ⟨(some 42), .v (.faddr 2 (.t 6)), none⟩ (.fl ⟨(some 43), .v (.load false 1 (.t 42)), none⟩ (.fl ⟨(some 44), .v (.mov (.t 43)), none⟩ (.fl ⟨(some 45), .v (.faddr 0 (.t 6)), (some (44, true))⟩ (.fl ⟨(some 47), .v (.faddr 0 (.t 2)), (some (44, true))⟩ (.fl ⟨(some 48), .v (.load false 1 (.t 47)), (some (44, true))⟩ (.nx ⟨(some 46), .call 69 [(.t 45), (.c (.int .i64 0)), (.c (.bool true))], (some (44, true))⟩ (.fl ⟨(some 49), .v (.bin .eql (.t 46) (.t 48)), (some (44, true))⟩ (.fl ⟨(some 50), .v (.pick (.t 44) (.t 49) (.c (.bool false))), none⟩ (.fl ⟨(some 4), .v (.mov (.t 50)), none⟩ (.fl ⟨(some 5), .v (.mov (.c (.bool true))), none⟩ .done))))))))))))
       .ret))))))⟩
theorem e21 : rFunc Try.prog Try.f21 = some r21 := by kernel_rfl
def r52 : RFunc := ⟨39, [.t 4, .t 5],
 (.seq
  (.reg [⟨(some 2), .m (.box (.t 0)), none⟩, ⟨(some 3), .m (.box (.t 1)), none⟩, ⟨(some 4), .v (.mov (.c (.bool false))), none⟩, ⟨(some 5), .v (.mov (.c (.bool false))), none⟩])
  (.seq
   (.seq
    (.reg [⟨(some 8), .v (.load true 3 (.t 2)), none⟩, ⟨(some 9), .call 59 [(.t 8)], none⟩, ⟨(some 10), .v (.un .not (.t 9)), none⟩, ⟨(some 11), .v (.mov (.t 10)), none⟩, ⟨(some 12), .v (.load true 2 (.t 3)), (some (11, false))⟩, ⟨(some 13), .call 94 [(.t 12)], (some (11, false))⟩, ⟨(some 14), .v (.un .not (.t 13)), (some (11, false))⟩, ⟨(some 15), .v (.pick (.t 11) (.c (.bool true)) (.t 14)), none⟩])
    (.cond (.t 15)
     (.seq
      (.reg [⟨(some 4), .v (.mov (.c (.bool false))), none⟩, ⟨(some 5), .v (.mov (.c (.bool false))), none⟩])
      .ret)
     .skip))
   (.seq
    (.seq
     (.reg [⟨(some 16), .v (.faddr 0 (.t 3)), none⟩, ⟨(some 17), .v (.load false 1 (.t 16)), none⟩, ⟨(some 18), .v (.faddr 0 (.t 2)), none⟩, ⟨(some 19), .v (.load false 1 (.t 18)), none⟩, ⟨(some 20), .v (.bin .neq (.t 17) (.t 19)), none⟩])
     (.cond (.t 20)
      (.seq
       (.reg [⟨(some 4), .v (.mov (.c (.bool false))), none⟩, ⟨(some 5), .v (.mov (.c (.bool true))), none⟩])
       .ret)
      .skip))
    (.seq
     (.seq
      (.reg [⟨(some 21), .v (.faddr 1 (.t 2)), none⟩, ⟨(some 22), .v (.load false 1 (.t 21)), none⟩, ⟨(some 23), .v (.len (.t 22)), none⟩, ⟨(some 24), .v (.mov (.c (.int .i64 0))), none⟩])
      (.block 0
       (.loop
        (.seq
         (.reg [⟨(some 25), .v (.bin .lss (.t 24) (.t 23)), none⟩])
         (.seq
          (.cond (.t 25)
           .skip
           (.exit 0))
          (.seq
           (.block 1
            (.seq
             (.reg [⟨(some 26), .v (.mov (.t 24)), none⟩, ⟨(some 27), .v (.iaddr 2 (.t 22) (.t 24)), none⟩, ⟨(some 28), .v (.load true 2 (.t 27)), none⟩, ⟨(some 7), .m (.alloc [(.int .i64 0), .nils]), none⟩, ⟨(some 6), .v (.mov (.t 26)), none⟩, ⟨none, .m (.store 2 (.t 7) (.t 28)), none⟩])
             (.seq
              (.dreg (.fl ⟨(some 29), .v (.load true 2 (.t 7)), none⟩ (.fl ⟨(some 30), .v (.load true 2 (.t 3)), none⟩ (.fl ⟨(some 32), .v (.faddr 2 (.t 2)), none⟩ (.fl ⟨(some 33), .v (.load false 1 (.t 32)), none⟩ (.fl ⟨(some 34), .v (.mov (.t 6)), none⟩ (.fl ⟨(some 35), .v (.iaddr 1 (.t 33) (.t 34)), none⟩ (.fl ⟨(some 36), .v (.load false 1 (.t 35)), none⟩ (.nx ⟨(some 31), .call 85 [(.t 29), (.t 30)], none⟩ (.fl ⟨(some 37), .v (.beq true (.t 31) (.t 36)), none⟩ .done))))))))))
              (.cond (.t 37)
               (.seq
                (.reg [⟨(some 4), .v (.mov (.c (.bool false))), none⟩, ⟨(some 5), .v (.mov (.c (.bool true))), none⟩])
                .ret)
               .skip))))
           (.reg [⟨(some 38), .v (.bin .add (.t 24) (.c (.int .i64 1))), none⟩, ⟨(some 24), .v (.mov (.t 38)), none⟩])))))))
     (.seq
      (.reg [⟨(some 4), .v (.mov (.c (.bool true))), none⟩, ⟨(some 5), .v (.mov (.c (.bool true))), none⟩])
      .ret)))))⟩
theorem e52 : rFunc Try.prog Try.f52 = some r52 := by kernel_rfl
def r60 : RFunc := ⟨35, [.t 6],
 (.seq
  (.reg [⟨(some 6), .v (.mov (.c (.bool false))), none⟩])
  (.seq
   (.seq
    (.reg [⟨(some 9), .v (.mov (.t 0)), none⟩, ⟨(some 10), .v (.len (.t 9)), none⟩, ⟨(some 11), .v (.mov (.c (.int .i64 0))), none⟩])
    (.block 0
     (.loop
      (.seq
       (.reg [⟨(some 12), .v (.bin .lss (.t 11) (.t 10)), none⟩])
       (.seq
        (.cond (.t 12)
         .skip
         (.exit 0))
        (.seq
         (.block 1
          (.seq
           (.reg [⟨(some 13), .v (.mov (.t 11)), none⟩, ⟨(some 14), .v (.iaddr 1 (.t 9) (.t 11)), none⟩, ⟨(some 15), .v (.load false 1 (.t 14)), none⟩, ⟨(some 7), .v (.mov (.t 13)), none⟩, ⟨(some 8), .v (.mov (.t 15)), none⟩])
           (.seq
            (.reg [⟨(some 16), .v (.mov (.t 8)), none⟩, ⟨(some 17), .v (.mov (.t 1)), none⟩, ⟨(some 18), .v (.mov (.t 2)), none⟩, ⟨(some 19), .call 98 [(.t 16), (.t 17), (.t 18)], none⟩, ⟨(some 20), .v (.un .not (.t 19)), none⟩, ⟨(some 21), .v (.mov (.t 20)), none⟩, ⟨(some 22), .v (.mov (.t 7)), (some (21, false))⟩, ⟨(some 23), .v (.bin .gtr (.t 22) (.c (.int .i64 0))), (some (21, false))⟩, ⟨(some 24), .v (.mov (.t 23)), (some (21, false))⟩, ⟨(some 25), .v (.mov (.t 0)), (some (24, true))⟩, ⟨(some 26), .v (.mov (.t 7)), (some (24, true))⟩, ⟨(some 27), .v (.bin .sub (.t 26) (.c (.int .i64 1))), (some (24, true))⟩, ⟨(some 28), .v (.iaddr 1 (.t 25) (.t 27)), (some (24, true))⟩, ⟨(some 29), .v (.load false 1 (.t 28)), (some (24, true))⟩, ⟨(some 30), .v (.mov (.t 8)), (some (24, true))⟩, ⟨(some 31), .v (.bin .geq (.t 29) (.t 30)), (some (24, true))⟩, ⟨(some 32), .v (.pick (.t 24) (.t 31) (.c (.bool false))), (some (21, false))⟩, ⟨(some 33), .v (.pick (.t 21) (.c (.bool true)) (.t 32)), none⟩])
            (.cond (.t 33)
             (.seq
              (.reg [⟨(some 6), .v (.mov (.c (.bool false))), none⟩])
              .ret)
             .skip))))
         (.reg [⟨(some 34), .v (.bin .add (.t 11) (.c (.int .i64 1))), none⟩, ⟨(some 11), .v (.mov (.t 34)), none⟩])))))))
   (.seq
    (.reg [⟨(some 6), .v (.mov (.c (.bool true))), none⟩])
    .ret)))⟩
theorem e60 : rFunc Try.prog Try.f60 = some r60 := by kernel_rfl
def r18 : RFunc := ⟨51, [.t 4, .t 5],
 (.seq
  (.reg [⟨(some 2), .m (.box (.t 0)), none⟩, ⟨(some 4), .v (.mov (.c (.bool false))), none⟩, ⟨(some 5), .v (.mov (.c (.bool false))), none⟩])
  (.seq
   (.seq
    (.reg [⟨(some 9), .v (.load true 3 (.t 2)), none⟩, ⟨(some 10), .call 59 [(.t 9)], none⟩, ⟨(some 11), .v (.un .not (.t 10)), none⟩])
    (.cond (.t 11)
     (.seq
      (.reg [⟨(some 4), .v (.mov (.c (.bool false))), none⟩, ⟨(some 5), .v (.mov (.c (.bool false))), none⟩])
      .ret)
     .skip))
   (.seq
    (.seq
     (.reg [⟨(some 12), .v (.mov (.t 1)), none⟩, ⟨(some 13), .v (.faddr 1 (.t 2)), none⟩, ⟨(some 14), .v (.load false 1 (.t 13)), none⟩, ⟨(some 15), .v (.len (.t 14)), none⟩, ⟨(some 16), .v (.bin .sub (.t 15) (.c (.int .i64 1))), none⟩, ⟨(some 17), .call 60 [(.t 12), (.c (.int .i64 0)), (.t 16)], none⟩, ⟨(some 18), .v (.un .not (.t 17)), none⟩])
     (.cond (.t 18)
      (.seq
       (.reg [⟨(some 4), .v (.mov (.c (.bool false))), none⟩, ⟨(some 5), .v (.mov (.c (.bool true))), none⟩])
       .ret)
      .skip))
    (.seq
     (.reg [⟨(some 19), .v (.faddr 0 (.t 2)), none⟩, ⟨(some 20), .v (.load false 1 (.t 19)), none⟩, ⟨(some 21), .call 61 [(.t 20)], none⟩, ⟨(some 22), .v (.bld [(.int .i64 0), .nils, (.bool false), .nils] [(0, 2, (.t 21))]), none⟩, ⟨(some 6), .m (.alloc [(.int .i64 0), .nils, (.bool false), .nils]), none⟩, ⟨none, .m (.store 4 (.t 6) (.t 22)), none⟩])
     (.seq
      (.seq
       (.reg [⟨(some 23), .v (.mov (.t 1)), none⟩, ⟨(some 24), .v (.len (.t 23)), none⟩, ⟨(some 25), .v (.mov (.c (.int .i64 0))), none⟩])
       (.block 0
        (.loop
         (.seq
          (.reg [⟨(some 26), .v (.bin .lss (.t 25) (.t 24)), none⟩])
          (.seq
           (.cond (.t 26)
            .skip
            (.exit 0))
           (.seq
            (.block 1
             (.seq
              (.reg [⟨(some 27), .v (.iaddr 1 (.t 23) (.t 25)), none⟩, ⟨(some 28), .v (.load false 1 (.t 27)), none⟩, ⟨(some 8), .v (.mov (.t 28)), none⟩])
              (.dreg (.fl ⟨(some 30), .v (.faddr 1 (.t 2)), none⟩ (.fl ⟨(some 32), .v (.mov (.t 8)), none⟩ (.fl ⟨(some 35), .v (.faddr 2 (.t 2)), none⟩ (.fl ⟨(some 37), .v (.mov (.t 8)), none⟩ (.both (.nx ⟨(some 29), .v (.load true 4 (.t 6)), none⟩ (.both (.nx ⟨(some 31), .v (.load false 1 (.t 30)), none⟩ (.fl ⟨(some 33), .v (.iaddr 2 (.t 31) (.t 32)), none⟩ (.both (.nx ⟨(some 34), .v (.load true 2 (.t 33)), none⟩ (.nx ⟨(some 36), .v (.load false 1 (.t 35)), none⟩ (.fl ⟨(some 38), .v (.iaddr 1 (.t 36) (.t 37)), none⟩ (.nx ⟨(some 39), .v (.load false 1 (.t 38)), none⟩ (.fl ⟨(some 40), .v (.bld [(.int .i64 0), .nils, (.bool false), .nils] [(0, 2, (.t 34)), (2, 1, (.t 39))]), none⟩ (.nx ⟨(some 41), .call 62 [(.t 29), (.t 40)], none⟩ (.nx ⟨none, .m (.store 4 (.t 6) (.t 41)), none⟩ .done))))))) (.nx ⟨(some 36), .v (.load false 1 (.t 35)), none⟩ (.fl ⟨(some 38), .v (.iaddr 1 (.t 36) (.t 37)), none⟩ (.both (.nx ⟨(some 34), .v (.load true 2 (.t 33)), none⟩ (.nx ⟨(some 39), .v (.load false 1 (.t 38)), none⟩ (.fl ⟨(some 40), .v (.bld [(.int .i64 0), .nils, (.bool false), .nils] [(0, 2, (.t 34)), (2, 1, (.t 39))]), none⟩ (.nx ⟨(some 41), .call 62 [(.t 29), (.t 40)], none⟩ (.nx ⟨none, .m (.store 4 (.t 6) (.t 41)), none⟩ .done))))) (.nx ⟨(some 39), .v (.load false 1 (.t 38)), none⟩ (.nx ⟨(some 34), .v (.load true 2 (.t 33)), none⟩ (.fl ⟨(some 40), .v (.bld [(.int .i64 0), .nils, (.bool false), .nils] [(0, 2, (.t 34)), (2, 1, (.t 39))]), none⟩ (.nx ⟨(some 41), .call 62 [(.t 29), (.t 40)], none⟩ (.nx ⟨none, .m (.store 4 (.t 6) (.t 41)), none⟩ .done))))))))))) (.nx ⟨(some 36), .v (.load false 1 (.t 35)), none⟩ (.fl ⟨(some 38), .v (.iaddr 1 (.t 36) (.t 37)), none⟩ (.both (.nx ⟨(some 31), .v (.load false 1 (.t 30)), none⟩ (.fl ⟨(some 33), .v (.iaddr 2 (.t 31) (.t 32)), none⟩ (.both (.nx ⟨(some 34), .v (.load true 2 (.t 33)), none⟩ (.nx ⟨(some 39), .v (.load false 1 (.t 38)), none⟩ (.fl ⟨(some 40), .v (.bld [(.int .i64 0), .nils, (.bool false), .nils] [(0, 2, (.t 34)), (2, 1, (.t 39))]), none⟩ (.nx ⟨(some 41), .call 62 [(.t 29), (.t 40)], none⟩ (.nx ⟨none, .m (.store 4 (.t 6) (.t 41)), none⟩ .done))))) (.nx ⟨(some 39), .v (.load false 1 (.t 38)), none⟩ (.nx ⟨(some 34), .v (.load true 2 (.t 33)), none⟩ (.fl ⟨(some 40), .v (.bld [(.int .i64 0), .nils, (.bool false), .nils] [(0, 2, (.t 34)), (2, 1, (.t 39))]), none⟩ (.nx ⟨(some 41), .call 62 [(.t 29), (.t 40)], none⟩ (.nx ⟨none, .m (.store 4 (.t 6) (.t 41)), none⟩ .done)))))))) (.nx ⟨(some 39), .v (.load false 1 (.t 38)), none⟩ (.nx ⟨(some 31), .v (.load false 1 (.t 30)), none⟩ (.fl ⟨(some 33), .v (.iaddr 2 (.t 31) (.t 32)), none⟩ (.nx ⟨(some 34), .v (.load true 2 (.t 33)), none⟩ (.fl ⟨(some 40), .v (.bld [(.int .i64 0), .nils, (.bool false), .nils] [(0, 2, (.t 34)), (2, 1, (.t 39))]), none⟩ (.nx ⟨(some 41), .call 62 [(.t 29), (.t 40)], none⟩ (.nx ⟨none, .m (.store 4 (.t 6) (.t 41)), none⟩ .done)))))))))))) (.both (.nx ⟨(some 31), .v (.load false 1 (.t 30)), none⟩ (.fl ⟨(some 33), .v (.iaddr 2 (.t 31) (.t 32)), none⟩ (.both (.nx ⟨(some 29), .v (.load true 4 (.t 6)), none⟩ (.both (.nx ⟨(some 34), .v (.load true 2 (.t 33)), none⟩ (.nx ⟨(some 36), .v (.load false 1 (.t 35)), none⟩ (.fl ⟨(some 38), .v (.iaddr 1 (.t 36) (.t 37)), none⟩ (.nx ⟨(some 39), .v (.load false 1 (.t 38)), none⟩ (.fl ⟨(some 40), .v (.bld [(.int .i64 0), .nils, (.bool false), .nils] [(0, 2, (.t 34)), (2, 1, (.t 39))]), none⟩ (.nx ⟨(some 41), .call 62 [(.t 29), (.t 40)], none⟩ (.nx ⟨none, .m (.store 4 (.t 6) (.t 41)), none⟩ .done))))))) (.nx ⟨(some 36), .v (.load false 1 (.t 35)), none⟩ (.fl ⟨(some 38), .v (.iaddr 1 (.t 36) (.t 37)), none⟩ (.both (.nx ⟨(some 34), .v (.load true 2 (.t 33)), none⟩ (.nx ⟨(some 39), .v (.load false 1 (.t 38)), none⟩ (.fl ⟨(some 40), .v (.bld [(.int .i64 0), .nils, (.bool false), .nils] [(0, 2, (.t 34)), (2, 1, (.t 39))]), none⟩ (.nx ⟨(some 41), .call 62 [(.t 29), (.t 40)], none⟩ (.nx ⟨none, .m (.store 4 (.t 6) (.t 41)), none⟩ .done))))) (.nx ⟨(some 39), .v (.load false 1 (.t 38)), none⟩ (.nx ⟨(some 34), .v (.load true 2 (.t 33)), none⟩ (.fl ⟨(some 40), .v (.bld [(.int .i64 0), .nils, (.bool false), .nils] [(0, 2, (.t 34)), (2, 1, (.t 39))]), none⟩ (.nx ⟨(some 41), .call 62 [(.t 29), (.t 40)], none⟩ (.nx ⟨none, .m (.store 4 (.t 6) (.t 41)), none⟩ .done)))))))))) (.both (.nx ⟨(some 34), .v (.load true 2 (.t 33)), none⟩ (.both (.nx ⟨(some 29), .v (.load true 4 (.t 6)), none⟩ (.nx ⟨(some 36), .v (.load false 1 (.t 35)), none⟩ (.fl ⟨(some 38), .v (.iaddr 1 (.t 36) (.t 37)), none⟩ (.nx ⟨(some 39), .v (.load false 1 (.t 38)), none⟩ (.fl ⟨(some 40), .v (.bld [(.int .i64 0), .nils, (.bool false), .nils] [(0, 2, (.t 34)), (2, 1, (.t 39))]), none⟩ (.nx ⟨(some 41), .call 62 [(.t 29), (.t 40)], none⟩ (.nx ⟨none, .m (.store 4 (.t 6) (.t 41)), none⟩ .done))))))) (.nx ⟨(some 36), .v (.load false 1 (.t 35)), none⟩ (.fl ⟨(some 38), .v (.iaddr 1 (.t 36) (.t 37)), none⟩ (.both (.nx ⟨(some 29), .v (.load true 4 (.t 6)), none⟩ (.nx ⟨(some 39), .v (.load false 1 (.t 38)), none⟩ (.fl ⟨(some 40), .v (.bld [(.int .i64 0), .nils, (.bool false), .nils] [(0, 2, (.t 34)), (2, 1, (.t 39))]), none⟩ (.nx ⟨(some 41), .call 62 [(.t 29), (.t 40)], none⟩ (.nx ⟨none, .m (.store 4 (.t 6) (.t 41)), none⟩ .done))))) (.nx ⟨(some 39), .v (.load false 1 (.t 38)), none⟩ (.fl ⟨(some 40), .v (.bld [(.int .i64 0), .nils, (.bool false), .nils] [(0, 2, (.t 34)), (2, 1, (.t 39))]), none⟩ (.nx ⟨(some 29), .v (.load true 4 (.t 6)), none⟩ (.nx ⟨(some 41), .call 62 [(.t 29), (.t 40)], none⟩ (.nx ⟨none, .m (.store 4 (.t 6) (.t 41)), none⟩ .done)))))))))) (.nx ⟨(some 36), .v (.load false 1 (.t 35)), none⟩ (.fl ⟨(some 38), .v (.iaddr 1 (.t 36) (.t 37)), none⟩ (.both (.nx ⟨(some 29), .v (.load true 4 (.t 6)), none⟩ (.both (.nx ⟨(some 34), .v (.load true 2 (.t 33)), none⟩ (.nx ⟨(some 39), .v (.load false 1 (.t 38)), none⟩ (.fl ⟨(some 40), .v (.bld [(.int .i64 0), .nils, (.bool false), .nils] [(0, 2, (.t 34)), (2, 1, (.t 39))]), none⟩ (.nx ⟨(some 41), .call 62 [(.t 29), (.t 40)], none⟩ (.nx ⟨none, .m (.store 4 (.t 6) (.t 41)), none⟩ .done))))) (.nx ⟨(some 39), .v (.load false 1 (.t 38)), none⟩ (.nx ⟨(some 34), .v (.load true 2 (.t 33)), none⟩ (.fl ⟨(some 40), .v (.bld [(.int .i64 0), .nils, (.bool false), .nils] [(0, 2, (.t 34)), (2, 1, (.t 39))]), none⟩ (.nx ⟨(some 41), .call 62 [(.t 29), (.t 40)], none⟩ (.nx ⟨none, .m (.store 4 (.t 6) (.t 41)), none⟩ .done))))))) (.both (.nx ⟨(some 34), .v (.load true 2 (.t 33)), none⟩ (.both (.nx ⟨(some 29), .v (.load true 4 (.t 6)), none⟩ (.nx ⟨(some 39), .v (.load false 1 (.t 38)), none⟩ (.fl ⟨(some 40), .v (.bld [(.int .i64 0), .nils, (.bool false), .nils] [(0, 2, (.t 34)), (2, 1, (.t 39))]), none⟩ (.nx ⟨(some 41), .call 62 [(.t 29), (.t 40)], none⟩ (.nx ⟨none, .m (.store 4 (.t 6) (.t 41)), none⟩ .done))))) (.nx ⟨(some 39), .v (.load false 1 (.t 38)), none⟩ (.fl ⟨(some 40), .v (.bld [(.int .i64 0), .nils, (.bool false), .nils] [(0, 2, (.t 34)), (2, 1, (.t 39))]), none⟩ (.nx ⟨(some 29), .v (.load true 4 (.t 6)), none⟩ (.nx ⟨(some 41), .call 62 [(.t 29), (.t 40)], none⟩ (.nx ⟨none, .m (.store 4 (.t 6) (.t 41)), none⟩ .done))))))) (.nx ⟨(some 39), .v (.load false 1 (.t 38)), none⟩ (.both (.nx ⟨(some 29), .v (.load true 4 (.t 6)), none⟩ (.nx ⟨(some 34), .v (.load true 2 (.t 33)), none⟩ (.fl ⟨(some 40), .v (.bld [(.int .i64 0), .nils, (.bool false), .nils] [(0, 2, (.t 34)), (2, 1, (.t 39))]), none⟩ (.nx ⟨(some 41), .call 62 [(.t 29), (.t 40)], none⟩ (.nx ⟨none, .m (.store 4 (.t 6) (.t 41)), none⟩ .done))))) (.nx ⟨(some 34), .v (.load true 2 (.t 33)), none⟩ (.fl ⟨(some 40), .v (.bld [(.int .i64 0), .nils, (.bool false), .nils] [(0, 2, (.t 34)), (2, 1, (.t 39))]), none⟩ (.nx ⟨(some 29), .v (.load true 4 (.t 6)), none⟩ (.nx ⟨(some 41), .call 62 [(.t 29), (.t 40)], none⟩ (.nx ⟨none, .m (.store 4 (.t 6) (.t 41)), none⟩ .done))))))))))))))) (.nx ⟨(some 36), .v (.load false 1 (.t 35)), none⟩ (.fl ⟨(some 38), .v (.iaddr 1 (.t 36) (.t 37)), none⟩ (.both (.nx ⟨(some 29), .v (.load true 4 (.t 6)), none⟩ (.both (.nx ⟨(some 31), .v (.load false 1 (.t 30)), none⟩ (.fl ⟨(some 33), .v (.iaddr 2 (.t 31) (.t 32)), none⟩ (.both (.nx ⟨(some 34), .v (.load true 2 (.t 33)), none⟩ (.nx ⟨(some 39), .v (.load false 1 (.t 38)), none⟩ (.fl ⟨(some 40), .v (.bld [(.int .i64 0), .nils, (.bool false), .nils] [(0, 2, (.t 34)), (2, 1, (.t 39))]), none⟩ (.nx ⟨(some 41), .call 62 [(.t 29), (.t 40)], none⟩ (.nx ⟨none, .m (.store 4 (.t 6) (.t 41)), none⟩ .done))))) (.nx ⟨(some 39), .v (.load false 1 (.t 38)), none⟩ (.nx ⟨(some 34), .v (.load true 2 (.t 33)), none⟩ (.fl ⟨(some 40), .v (.bld [(.int .i64 0), .nils, (.bool false), .nils] [(0, 2, (.t 34)), (2, 1, (.t 39))]), none⟩ (.nx ⟨(some 41), .call 62 [(.t 29), (.t 40)], none⟩ (.nx ⟨none, .m (.store 4 (.t 6) (.t 41)), none⟩ .done)))))))) (.nx ⟨(some 39), .v (.load false 1 (.t 38)), none⟩ (.nx ⟨(some 31), .v (.load false 1 (.t 30)), none⟩ (.fl ⟨(some 33), .v (.iaddr 2 (.t 31) (.t 32)), none⟩ (.nx ⟨(some 34), .v (.load true 2 (.t 33)), none⟩ (.fl ⟨(some 40), .v (.bld [(.int .i64 0), .nils, (.bool false), .nils] [(0, 2, (.t 34)), (2, 1, (.t 39))]), none⟩ (.nx ⟨(some 41), .call 62 [(.t 29), (.t 40)], none⟩ (.nx ⟨none, .m (.store 4 (.t 6) (.t 41)), none⟩ .done))))))))) (.both (.nx ⟨(some 31), .v (.load false 1 (.t 30)), none⟩ (.fl ⟨(some 33), .v (.iaddr 2 (.t 31) (.t 32)), none⟩ (.both (.nx ⟨(some 29), .v (.load true 4 (.t 6)), none⟩ (.both (.nx ⟨(some 34), .v (.load true 2 (.t 33)), none⟩ (.nx ⟨(some 39), .v (.load false 1 (.t 38)), none⟩ (.fl ⟨(some 40), .v (.bld [(.int .i64 0), .nils, (.bool false), .nils] [(0, 2, (.t 34)), (2, 1, (.t 39))]), none⟩ (.nx ⟨(some 41), .call 62 [(.t 29), (.t 40)], none⟩ (.nx ⟨none, .m (.store 4 (.t 6) (.t 41)), none⟩ .done))))) (.nx ⟨(some 39), .v (.load false 1 (.t 38)), none⟩ (.nx ⟨(some 34), .v (.load true 2 (.t 33)), none⟩ (.fl ⟨(some 40), .v (.bld [(.int .i64 0), .nils, (.bool false), .nils] [(0, 2, (.t 34)), (2, 1, (.t 39))]), none⟩ (.nx ⟨(some 41), .call 62 [(.t 29), (.t 40)], none⟩ (.nx ⟨none, .m (.store 4 (.t 6) (.t 41)), none⟩ .done))))))) (.both (.nx ⟨(some 34), .v (.load true 2 (.t 33)), none⟩ (.both (.nx ⟨(some 29), .v (.load true 4 (.t 6)), none⟩ (.nx ⟨(some 39), .v (.load false 1 (.t 38)), none⟩ (.fl ⟨(some 40), .v (.bld [(.int .i64 0), .nils, (.bool false), .nils] [(0, 2, (.t 34)), (2, 1, (.t 39))]), none⟩ (.nx ⟨(some 41), .call 62 [(.t 29), (.t 40)], none⟩ (.nx ⟨none, .m (.store 4 (.t 6) (.t 41)), none⟩ .done))))) (.nx ⟨(some 39), .v (.load false 1 (.t 38)), none⟩ (.fl ⟨(some 40), .v (.bld [(.int .i64 0), .nils, (.bool false), .nils] [(0, 2, (.t 34)), (2, 1, (.t 39))]), none⟩ (.nx ⟨(some 29), .v (.load true 4 (.t 6)), none⟩ (.nx ⟨(some 41), .call 62 [(.t 29), (.t 40)], none⟩ (.nx ⟨none, .m (.store 4 (.t 6) (.t 41)), none⟩ .done))))))) (.nx ⟨(some 39), .v (.load false 1 (.t 38)), none⟩ (.both (.nx ⟨(some 29), .v (.load true 4 (.t 6)), none⟩ (.nx ⟨(some 34), .v (.load true 2 (.t 33)), none⟩ (.fl ⟨(some 40), .v (.bld [(.int .i64 0), .nils, (.bool false), .nils] [(0, 2, (.t 34)), (2, 1, (.t 39))]), none⟩ (.nx ⟨(some 41), .call 62 [(.t 29), (.t 40)], none⟩ (.nx ⟨none, .m (.store 4 (.t 6) (.t 41)), none⟩ .done))))) (.nx ⟨(some 34), .v (.load true 2 (.t 33)), none⟩ (.fl ⟨(some 40), .v (.bld [(.int .i64 0), .nils, (.bool false), .nils] [(0, 2, (.t 34)), (2, 1, (.t 39))]), none⟩ (.nx ⟨(some 29), .v (.load true 4 (.t 6)), none⟩ (.nx ⟨(some 41), .call 62 [(.t 29), (.t 40)], none⟩ (.nx ⟨none, .m (.store 4 (.t 6) (.t 41)), none⟩ .done))))))))))) (.nx ⟨(some 39), .v (.load false 1 (.t 38)), none⟩ (.both (.nx ⟨(some 29), .v (.load true 4 (.t 6)), none⟩ (.nx ⟨(some 31), .v (.load false 1 (.t 30)), none⟩ (.fl ⟨(some 33), .v (.iaddr 2 (.t 31) (.t 32)), none⟩ (.nx ⟨(some 34), .v (.load true 2 (.t 33)), none⟩ (.fl ⟨(some 40), .v (.bld [(.int .i64 0), .nils, (.bool false), .nils] [(0, 2, (.t 34)), (2, 1, (.t 39))]), none⟩ (.nx ⟨(some 41), .call 62 [(.t 29), (.t 40)], none⟩ (.nx ⟨none, .m (.store 4 (.t 6) (.t 41)), none⟩ .done))))))) (.nx ⟨(some 31), .v (.load false 1 (.t 30)), none⟩ (.fl ⟨(some 33), .v (.iaddr 2 (.t 31) (.t 32)), none⟩ (.both (.nx ⟨(some 29), .v (.load true 4 (.t 6)), none⟩ (.nx ⟨(some 34), .v (.load true 2 (.t 33)), none⟩ (.fl ⟨(some 40), .v (.bld [(.int .i64 0), .nils, (.bool false), .nils] [(0, 2, (.t 34)), (2, 1, (.t 39))]), none⟩ (.nx ⟨(some 41), .call 62 [(.t 29), (.t 40)], none⟩ (.nx ⟨none, .m (.store 4 (.t 6) (.t 41)), none⟩ .done))))) (.nx ⟨(some 34), .v (.load true 2 (.t 33)), none⟩ (.fl ⟨(some 40), .v (.bld [(.int .i64 0), .nils, (.bool false), .nils] [(0, 2, (.t 34)), (2, 1, (.t 39))]), none⟩ (.nx ⟨(some 29), .v (.load true 4 (.t 6)), none⟩ (.nx ⟨(some 41), .call 62 [(.t 29), (.t 40)], none⟩ (.nx ⟨none, .m (.store 4 (.t 6) (.t 41)), none⟩ .done)))))))))))))))))))))))
            (.reg [⟨(some 42), .v (.bin .add (.t 25) (.c (.int .i64 1))), none⟩, ⟨(some 25), .v (.mov (.t 42)), none⟩])))))))
      (.seq
       (.reg [⟨(some 43), .v (.faddr 0 (.t 6)), none⟩, ⟨(some 44), .v (.load true 2 (.t 43)), none⟩, ⟨(some 45), .call 63 [(.t 44)], none⟩, ⟨(some 46), .v (.bin .lss (.t 45) (.c (.int .i64 0))), none⟩, ⟨(some 47), .v (.mov (.t 46)), none⟩, ⟨(some 48), .v (.faddr 2 (.t 6)), (some (47, true))⟩, ⟨(some 49), .v (.load false 1 (.t 48)), (some (47, true))⟩, ⟨(some 50), .v (.pick (.t 47) (.t 49) (.c (.bool false))), none⟩, ⟨(some 4), .v (.mov (.t 50)), none⟩, ⟨(some 5), .v (.mov (.c (.bool true))), none⟩])
       .ret))))))⟩
theorem e18 : rFunc Try.prog Try.f18 = some r18 := by kernel_rfl
def r11 : RFunc := ⟨185, [.t 4],
 (.seq
  (.reg [⟨(some 4), .v (.mov (.c (.bool false))), none⟩])
  (.seq
   (.seq
    (.reg [⟨(some 34), .v (.mov (.t 0)), none⟩, ⟨(some 35), .v (.mov (.t 1)), none⟩, ⟨(some 36), .call 43 [(.t 34), (.t 35)], none⟩])
    (.cond (.t 36)
     (.seq
      (.reg [⟨(some 4), .v (.mov (.c (.bool true))), none⟩])
      .ret)
     .skip))
   (.seq
    (.reg [⟨(some 37), .v (.mov (.t 0)), none⟩, ⟨(some 38), .call 44 [(.t 37)], none⟩, ⟨(some 5), .m (.alloc [(.int .i64 0), .nils, .nils]), none⟩, ⟨none, .m (.store 3 (.t 5) (.t 38)), none⟩])
    (.seq
     (.reg [⟨(some 40), .v (.load true 3 (.t 5)), none⟩, ⟨(some 41), .call 34 [(.t 40)], none⟩, ⟨(some 39), .v (.mov (.t 41)), none⟩, ⟨(some 42), .v (.ext (.t 39) 0), none⟩, ⟨(some 43), .v (.ext (.t 39) 1), none⟩, ⟨(some 6), .m (.alloc [(.int .i64 0), .nils]), none⟩, ⟨none, .m (.store 2 (.t 6) (.t 42)), none⟩, ⟨(some 7), .v (.mov (.t 43)), none⟩])
     (.seq
      (.reg [⟨(some 45), .v (.load true 3 (.t 5)), none⟩, ⟨(some 46), .call 33 [(.t 45)], none⟩, ⟨(some 44), .v (.mov (.t 46)), none⟩, ⟨(some 47), .v (.ext (.t 44) 0), none⟩, ⟨(some 48), .v (.ext (.t 44) 1), none⟩, ⟨(some 8), .m (.alloc [(.int .i64 0), .nils]), none⟩, ⟨none, .m (.store 2 (.t 8) (.t 47)), none⟩, ⟨(some 9), .v (.mov (.t 48)), none⟩])
      (.seq
       (.reg [⟨(some 50), .v (.load true 3 (.t 5)), none⟩, ⟨(some 51), .call 27 [(.t 50)], none⟩, ⟨(some 49), .v (.mov (.t 51)), none⟩, ⟨(some 52), .v (.ext (.t 49) 0), none⟩, ⟨(some 53), .v (.ext (.t 49) 1), none⟩, ⟨(some 10), .v (.mov (.t 52)), none⟩, ⟨(some 11), .v (.mov (.t 53)), none⟩])
       (.seq
        (.reg [⟨(some 55), .v (.load true 3 (.t 5)), none⟩, ⟨(some 56), .call 26 [(.t 55)], none⟩, ⟨(some 54), .v (.mov (.t 56)), none⟩, ⟨(some 57), .v (.ext (.t 54) 0), none⟩, ⟨(some 58), .v (.ext (.t 54) 1), none⟩, ⟨(some 12), .v (.mov (.t 57)), none⟩, ⟨(some 13), .v (.mov (.t 58)), none⟩])
        (.seq
         (.seq
          (.reg [⟨(some 59), .v (.mov (.t 7)), none⟩, ⟨(some 60), .v (.mov (.t 9)), none⟩, ⟨(some 61), .v (.beq true (.t 59) (.t 60)), none⟩, ⟨(some 62), .v (.mov (.t 61)), none⟩, ⟨(some 63), .v (.load true 2 (.t 6)), (some (62, false))⟩, ⟨(some 64), .v (.load true 2 (.t 8)), (some (62, false))⟩, ⟨(some 65), .call 46 [(.t 63), (.t 64)], (some (62, false))⟩, ⟨(some 66), .v (.un .not (.t 65)), (some (62, false))⟩, ⟨(some 67), .v (.pick (.t 62) (.c (.bool true)) (.t 66)), none⟩, ⟨(some 68), .v (.mov (.t 67)), none⟩, ⟨(some 69), .v (.mov (.t 11)), (some (68, false))⟩, ⟨(some 70), .v (.mov (.t 13)), (some (68, false))⟩, ⟨(some 71), .v (.beq true (.t 69) (.t 70)), (some (68, false))⟩, ⟨(some 72), .v (.pick (.t 68) (.c (.bool true)) (.t 71)), none⟩, ⟨(some 73), .v (.mov (.t 72)), none⟩, ⟨(some 74), .v (.mov (.t 10)), (some (73, false))⟩, ⟨(some 75), .v (.mov (.t 12)), (some (73, false))⟩, ⟨(some 76), .call 45 [(.t 74), (.t 75)], (some (73, false))⟩, ⟨(some 77), .v (.un .not (.t 76)), (some (73, false))⟩, ⟨(some 78), .v (.pick (.t 73) (.c (.bool true)) (.t 77)), none⟩, ⟨(some 79), .v (.mov (.t 78)), none⟩, ⟨(some 80), .v (.mov (.t 7)), (some (79, false))⟩, ⟨(some 81), .v (.mov (.t 80)), (some (79, false))⟩, ⟨(some 82), .v (.mov (.t 11)), (some (81, true))⟩, ⟨(some 83), .v (.pick (.t 81) (.t 82) (.c (.bool false))), (some (79, false))⟩, ⟨(some 84), .v (.pick (.t 79) (.c (.bool true)) (.t 83)), none⟩, ⟨(some 85), .v (.mov (.t 84)), none⟩, ⟨(some 86), .v (.load true 3 (.t 5)), (some (85, false))⟩, ⟨(some 87), .call 50 [(.t 86)], (some (85, false))⟩, ⟨(some 88), .v (.mov (.t 7)), (some (85, false))⟩, ⟨(some 89), .v (.mov (.t 88)), (some (85, false))⟩, ⟨(some 90), .v (.mov (.t 11)), (some (89, false))⟩, ⟨(some 91), .v (.pick (.t 89) (.c (.bool true)) (.t 90)), (some (85, false))⟩, ⟨(some 92), .v (.beq true (.t 87) (.t 91)), (some (85, false))⟩, ⟨(some 93), .v (.pick (.t 85) (.c (.bool true)) (.t 92)), none⟩])
          (.cond (.t 93)
           (.seq
            (.reg [⟨(some 4), .v (.mov (.c (.bool false))), none⟩])
            .ret)
           .skip))
         (.seq
          (.seq
           (.reg [⟨(some 94), .v (.mov (.t 7)), none⟩])
           (.cond (.t 94)
            (.seq
             (.reg [⟨(some 96), .v (.load true 3 (.t 5)), none⟩, ⟨(some 97), .v (.load true 2 (.t 6)), none⟩, ⟨(some 98), .call 49 [(.t 96), (.t 97)], none⟩, ⟨(some 95), .v (.mov (.t 98)), none⟩, ⟨(some 99), .v (.ext (.t 95) 0), none⟩, ⟨(some 100), .v (.ext (.t 95) 1), none⟩, ⟨(some 14), .v (.mov (.t 99)), none⟩, ⟨(some 15), .v (.mov (.t 100)), none⟩])
             (.seq
              (.reg [⟨(some 101), .v (.mov (.t 15)), none⟩, ⟨(some 102), .v (.un .not (.t 101)), none⟩, ⟨(some 103), .v (.mov (.t 102)), none⟩, ⟨(some 104), .v (.mov (.t 14)), (some (103, false))⟩, ⟨(some 105), .v (.un .not (.t 104)), (some (103, false))⟩, ⟨(some 106), .v (.pick (.t 103) (.c (.bool true)) (.t 105)), none⟩])
              (.cond (.t 106)
               (.seq
                (.reg [⟨(some 4), .v (.mov (.c (.bool false))), none⟩])
                .ret)
               .skip)))
            .skip))
          (.seq
           (.seq
            (.reg [⟨(some 107), .v (.mov (.t 11)), none⟩])
            (.cond (.t 107)
             (.seq
              (.reg [⟨(some 109), .v (.load true 3 (.t 5)), none⟩, ⟨(some 110), .v (.mov (.t 10)), none⟩, ⟨(some 111), .call 21 [(.t 109), (.t 110)], none⟩, ⟨(some 108), .v (.mov (.t 111)), none⟩, ⟨(some 112), .v (.ext (.t 108) 0), none⟩, ⟨(some 113), .v (.ext (.t 108) 1), none⟩, ⟨(some 16), .v (.mov (.t 112)), none⟩, ⟨(some 17), .v (.mov (.t 113)), none⟩])
              (.seq
               (.reg [⟨(some 114), .v (.mov (.t 17)), none⟩, ⟨(some 115), .v (.un .not (.t 114)), none⟩, ⟨(some 116), .v (.mov (.t 115)), none⟩, ⟨(some 117), .v (.mov (.t 16)), (some (116, false))⟩, ⟨(some 118), .v (.un .not (.t 117)), (some (116, false))⟩, ⟨(some 119), .v (.pick (.t 116) (.c (.bool true)) (.t 118)), none⟩])
               (.cond (.t 119)
                (.seq
                 (.reg [⟨(some 4), .v (.mov (.c (.bool false))), none⟩])
                 .ret)
                .skip)))
             .skip))
           (.seq
            (.reg [⟨(some 121), .v (.mov (.t 1)), none⟩, ⟨(some 122), .call 51 [(.t 121)], none⟩, ⟨(some 120), .v (.mov (.t 122)), none⟩, ⟨(some 123), .v (.ext (.t 120) 0), none⟩, ⟨(some 124), .v (.ext (.t 120) 1), none⟩, ⟨(some 18), .m (.alloc [(.int .i64 0), .nils, .nils]), none⟩, ⟨(some 19), .m (.alloc [(.int .i64 0), .nils]), none⟩, ⟨none, .m (.store 3 (.t 18) (.t 123)), none⟩, ⟨none, .m (.store 2 (.t 19) (.t 124)), none⟩])
            (.seq
             (.reg [⟨(some 126), .v (.load true 3 (.t 18)), none⟩, ⟨(some 127), .v (.load true 2 (.t 19)), none⟩, ⟨(some 128), .call 49 [(.t 126), (.t 127)], none⟩, ⟨(some 125), .v (.mov (.t 128)), none⟩, ⟨(some 129), .v (.ext (.t 125) 0), none⟩, ⟨(some 130), .v (.ext (.t 125) 1), none⟩, ⟨(some 20), .v (.mov (.t 129)), none⟩, ⟨(some 21), .v (.mov (.t 130)), none⟩])
             (.seq
              (.reg [⟨(some 132), .v (.load true 3 (.t 18)), none⟩, ⟨(some 133), .v (.load true 2 (.t 19)), none⟩, ⟨(some 134), .call 52 [(.t 132), (.t 133)], none⟩, ⟨(some 131), .v (.mov (.t 134)), none⟩, ⟨(some 135), .v (.ext (.t 131) 0), none⟩, ⟨(some 136), .v (.ext (.t 131) 1), none⟩, ⟨(some 22), .v (.mov (.t 135)), none⟩, ⟨(some 23), .v (.mov (.t 136)), none⟩])
              (.seq
               (.seq
                (.reg [⟨(some 137), .v (.mov (.t 21)), none⟩, ⟨(some 138), .v (.mov (.t 23)), none⟩, ⟨(some 139), .v (.beq true (.t 137) (.t 138)), none⟩, ⟨(some 140), .v (.mov (.t 139)), none⟩, ⟨(some 141), .v (.mov (.t 20)), (some (140, false))⟩, ⟨(some 142), .v (.mov (.t 22)), (some (140, false))⟩, ⟨(some 143), .v (.beq true (.t 141) (.t 142)), (some (140, false))⟩, ⟨(some 144), .v (.pick (.t 140) (.c (.bool true)) (.t 143)), none⟩])
                (.cond (.t 144)
                 (.seq
                  (.reg [⟨(some 4), .v (.mov (.c (.bool false))), none⟩])
                  .ret)
                 .skip))
               (.seq
                (.seq
                 (.reg [⟨(some 145), .v (.mov (.t 20)), none⟩])
                 (.cond (.t 145)
                  (.seq
                   (.reg [⟨(some 147), .v (.load true 3 (.t 18)), none⟩, ⟨(some 148), .call 27 [(.t 147)], none⟩, ⟨(some 146), .v (.mov (.t 148)), none⟩, ⟨(some 149), .v (.ext (.t 146) 0), none⟩, ⟨(some 150), .v (.ext (.t 146) 1), none⟩, ⟨(some 24), .v (.mov (.t 149)), none⟩, ⟨(some 25), .v (.mov (.t 150)), none⟩])
                   (.seq
                    (.reg [⟨(some 151), .v (.mov (.t 25)), none⟩])
                    (.cond (.t 151)
                     (.seq
                      (.reg [⟨(some 4), .v (.mov (.c (.bool false))), none⟩])
                      .ret)
                     .skip)))
                  .skip))
                (.seq
                 (.reg [⟨(some 153), .v (.mov (.t 1)), none⟩, ⟨(some 154), .call 53 [(.t 153)], none⟩, ⟨(some 152), .v (.mov (.t 154)), none⟩, ⟨(some 155), .v (.ext (.t 152) 0), none⟩, ⟨(some 156), .v (.ext (.t 152) 1), none⟩, ⟨(some 26), .m (.alloc [(.int .i64 0), .nils, .nils]), none⟩, ⟨none, .m (.store 3 (.t 26) (.t 155)), none⟩, ⟨(some 27), .v (.mov (.t 156)), none⟩])
                 (.seq
                  (.reg [⟨(some 158), .v (.load true 3 (.t 26)), none⟩, ⟨(some 159), .v (.mov (.t 27)), none⟩, ⟨(some 160), .call 21 [(.t 158), (.t 159)], none⟩, ⟨(some 157), .v (.mov (.t 160)), none⟩, ⟨(some 161), .v (.ext (.t 157) 0), none⟩, ⟨(some 162), .v (.ext (.t 157) 1), none⟩, ⟨(some 28), .v (.mov (.t 161)), none⟩, ⟨(some 29), .v (.mov (.t 162)), none⟩])
                  (.seq
                   (.reg [⟨(some 164), .v (.load true 3 (.t 26)), none⟩, ⟨(some 165), .v (.mov (.t 27)), none⟩, ⟨(some 166), .call 18 [(.t 164), (.t 165)], none⟩, ⟨(some 163), .v (.mov (.t 166)), none⟩, ⟨(some 167), .v (.ext (.t 163) 0), none⟩, ⟨(some 168), .v (.ext (.t 163) 1), none⟩, ⟨(some 30), .v (.mov (.t 167)), none⟩, ⟨(some 31), .v (.mov (.t 168)), none⟩])
                   (.seq
                    (.seq
                     (.reg [⟨(some 169), .v (.mov (.t 29)), none⟩, ⟨(some 170), .v (.mov (.t 31)), none⟩, ⟨(some 171), .v (.beq true (.t 169) (.t 170)), none⟩, ⟨(some 172), .v (.mov (.t 171)), none⟩, ⟨(some 173), .v (.mov (.t 28)), (some (172, false))⟩, ⟨(some 174), .v (.mov (.t 30)), (some (172, false))⟩, ⟨(some 175), .v (.beq true (.t 173) (.t 174)), (some (172, false))⟩, ⟨(some 176), .v (.pick (.t 172) (.c (.bool true)) (.t 175)), none⟩])
                     (.cond (.t 176)
                      (.seq
                       (.reg [⟨(some 4), .v (.mov (.c (.bool false))), none⟩])
                       .ret)
                      .skip))
                    (.seq
                     (.seq
                      (.reg [⟨(some 177), .v (.mov (.t 28)), none⟩])
                      (.cond (.t 177)
                       (.seq
                        (.reg [⟨(some 179), .v (.load true 3 (.t 26)), none⟩, ⟨(some 180), .call 34 [(.t 179)], none⟩, ⟨(some 178), .v (.mov (.t 180)), none⟩, ⟨(some 181), .v (.ext (.t 178) 0), none⟩, ⟨(some 182), .v (.ext (.t 178) 1), none⟩, ⟨(some 32), .m (.alloc [(.int .i64 0), .nils]), none⟩, ⟨none, .m (.store 2 (.t 32) (.t 181)), none⟩, ⟨(some 33), .v (.mov (.t 182)), none⟩])
                        (.seq
                         (.reg [⟨(some 183), .v (.mov (.t 33)), none⟩, ⟨(some 184), .v (.un .not (.t 183)), none⟩, ⟨(some 4), .v (.mov (.t 184)), none⟩])
                         .ret))
                       .skip))
                     (.seq
                      (.reg [⟨(some 4), .v (.mov (.c (.bool true))), none⟩])
                      .ret)))))))))))))))))))))⟩
theorem e11 : rFunc Try.prog Try.f11 = some r11 := by kernel_rfl
end Go.Proofs.Ytgkdnpigbpkehaa.M
