/-
  The resolved text of the functions, each tied to the program's own by the kernel.
-/
import Derived.Test.YtgkdnpigbpkehaaProg
import Derived.Test.YtgkdnpigbpkehaaM14
namespace Go.Proofs.Ytgkdnpigbpkehaa.M
open Go Go.RowKit
set_option maxRecDepth 100000

def r12 : RFunc := ⟨2, [.cell true 3 0],
 (.seq
  (.reg [⟨(some 0), .m (.alloc [(.int .i64 0), (.int .i64 0), .nils]), none⟩])
  (.seq
   (.reg [⟨(some 1), .v (.bld [(.int .i64 0), (.int .i64 0), .nils] [(0, 1, (.c (.int .i64 1))), (1, 1, (.c (.int .i64 8)))]), none⟩, ⟨none, .m (.store 3 (.t 0) (.t 1)), none⟩])
   .ret))⟩
theorem e12 : rFunc Try.prog Try.f12 = some r12 := by kernel_rfl
def r13 : RFunc := ⟨2, [.cell true 3 0],
 (.seq
  (.reg [⟨(some 0), .m (.alloc [(.int .i64 0), (.int .i64 0), .nils]), none⟩])
  (.seq
   (.reg [⟨(some 1), .v (.bld [(.int .i64 0), (.int .i64 0), .nils] [(0, 1, (.c (.int .i64 1))), (1, 1, (.c (.int .i64 8)))]), none⟩, ⟨none, .m (.store 3 (.t 0) (.t 1)), none⟩])
   .ret))⟩
theorem e13 : rFunc Try.prog Try.f13 = some r13 := by kernel_rfl
def r54 : RFunc := ⟨26, [.t 4],
 (.seq
  (.reg [⟨(some 4), .v (.mov (.c (.bool false))), none⟩])
  (.seq
   (.seq
    (.reg [⟨(some 6), .v (.mov (.t 0)), none⟩, ⟨(some 7), .v (.len (.t 6)), none⟩, ⟨(some 8), .v (.mov (.t 1)), none⟩, ⟨(some 9), .v (.len (.t 8)), none⟩, ⟨(some 10), .v (.bin .neq (.t 7) (.t 9)), none⟩])
    (.cond (.t 10)
     (.seq
      (.reg [⟨(some 4), .v (.mov (.c (.bool false))), none⟩])
      .ret)
     .skip))
   (.seq
    (.seq
     (.reg [⟨(some 5), .v (.mov (.c (.int .i64 0))), none⟩])
     (.block 0
      (.loop
       (.seq
        (.seq
         (.reg [⟨(some 11), .v (.mov (.t 5)), none⟩, ⟨(some 12), .v (.mov (.t 0)), none⟩, ⟨(some 13), .v (.len (.t 12)), none⟩, ⟨(some 14), .v (.bin .lss (.t 11) (.t 13)), none⟩])
         (.cond (.t 14)
          .skip
          (.exit 0)))
        (.seq
         (.block 1
          (.seq
           (.dreg (.fl ⟨(some 17), .v (.mov (.t 0)), none⟩ (.fl ⟨(some 18), .v (.mov (.t 5)), none⟩ (.fl ⟨(some 19), .v (.iaddr 1 (.t 17) (.t 18)), none⟩ (.fl ⟨(some 20), .v (.load false 1 (.t 19)), none⟩ (.fl ⟨(some 21), .v (.mov (.t 1)), none⟩ (.fl ⟨(some 22), .v (.mov (.t 5)), none⟩ (.fl ⟨(some 23), .v (.iaddr 1 (.t 21) (.t 22)), none⟩ (.fl ⟨(some 24), .v (.load false 1 (.t 23)), none⟩ (.fl ⟨(some 25), .v (.bin .neq (.t 20) (.t 24)), none⟩ .done))))))))))
           (.cond (.t 25)
            (.seq
             (.reg [⟨(some 4), .v (.mov (.c (.bool false))), none⟩])
             .ret)
            .skip)))
         (.reg [⟨(some 15), .v (.mov (.t 5)), none⟩, ⟨(some 16), .v (.bin .add (.t 15) (.c (.int .i64 1))), none⟩, ⟨(some 5), .v (.mov (.t 16)), none⟩]))))))
    (.seq
     (.reg [⟨(some 4), .v (.mov (.c (.bool true))), none⟩])
     .ret))))⟩
theorem e54 : rFunc Try.prog Try.f54 = some r54 := by kernel_rfl
def r14 : RFunc := ⟨21, [.t 4],
 (.seq
  (.reg [⟨(some 2), .m (.box (.t 0)), none⟩, ⟨(some 3), .m (.box (.t 1)), none⟩, ⟨(some 4), .v (.mov (.c (.bool false))), none⟩])
  (.seq
   (.seq
    (.reg [⟨(some 5), .v (.faddr 0 (.t 2)), none⟩, ⟨(some 6), .v (.load false 1 (.t 5)), none⟩, ⟨(some 7), .v (.faddr 0 (.t 3)), none⟩, ⟨(some 8), .v (.load false 1 (.t 7)), none⟩, ⟨(some 9), .v (.bin .neq (.t 6) (.t 8)), none⟩])
    (.cond (.t 9)
     (.seq
      (.reg [⟨(some 4), .v (.mov (.c (.bool false))), none⟩])
      .ret)
     .skip))
   (.seq
    (.seq
     (.reg [⟨(some 10), .v (.faddr 1 (.t 2)), none⟩, ⟨(some 11), .v (.load false 1 (.t 10)), none⟩, ⟨(some 12), .v (.faddr 1 (.t 3)), none⟩, ⟨(some 13), .v (.load false 1 (.t 12)), none⟩, ⟨(some 14), .v (.bin .neq (.t 11) (.t 13)), none⟩])
     (.cond (.t 14)
      (.seq
       (.reg [⟨(some 4), .v (.mov (.c (.bool false))), none⟩])
       .ret)
      .skip))
    (.seq
     (.seq
      (.reg [⟨(some 15), .v (.faddr 2 (.t 2)), none⟩, ⟨(some 16), .v (.load false 1 (.t 15)), none⟩, ⟨(some 17), .v (.faddr 2 (.t 3)), none⟩, ⟨(some 18), .v (.load false 1 (.t 17)), none⟩, ⟨(some 19), .call 54 [(.t 16), (.t 18)], none⟩, ⟨(some 20), .v (.un .not (.t 19)), none⟩])
      (.cond (.t 20)
       (.seq
        (.reg [⟨(some 4), .v (.mov (.c (.bool false))), none⟩])
        .ret)
       .skip))
     (.seq
      (.reg [⟨(some 4), .v (.mov (.c (.bool true))), none⟩])
      .ret)))))⟩
theorem e14 : rFunc Try.prog Try.f14 = some r14 := by kernel_rfl
def r96 : RFunc := ⟨20, [.t 2],
 (.seq
  (.reg [⟨(some 2), .v (.mov (.c (.str []))), none⟩])
  (.seq
   (.seq
    (.reg [⟨(some 4), .v (.mov (.t 0)), none⟩, ⟨(some 5), .v (.bin .leq (.t 4) (.c (.int .i64 0))), none⟩])
    (.cond (.t 5)
     (.seq
      (.reg [⟨(some 2), .v (.mov (.c (.str [109, 48]))), none⟩])
      .ret)
     .skip))
   (.seq
    (.reg [⟨(some 3), .v (.mov (.c (.str []))), none⟩])
    (.seq
     (.block 0
      (.loop
       (.seq
        (.seq
         (.reg [⟨(some 6), .v (.mov (.t 0)), none⟩, ⟨(some 7), .v (.bin .gtr (.t 6) (.c (.int .i64 0))), none⟩])
         (.cond (.t 7)
          .skip
          (.exit 0)))
        (.block 1
         (.seq
          (.reg [⟨(some 8), .v (.mov (.t 0)), none⟩, ⟨(some 9), .v (.bin .rem (.t 8) (.c (.int .i64 10))), none⟩, ⟨(some 10), .v (.bin .add (.c (.int .i64 48)) (.t 9)), none⟩, ⟨(some 11), .v (.conv .u8 (.t 10)), none⟩, ⟨(some 12), .m (.bsl 1 1 [(.int .u8 0)] [(0, 1, (.t 11))]), none⟩, ⟨(some 13), .v (.cbs (.t 12)), none⟩, ⟨(some 14), .v (.mov (.t 3)), none⟩, ⟨(some 15), .v (.bin .add (.t 13) (.t 14)), none⟩, ⟨(some 3), .v (.mov (.t 15)), none⟩])
          (.reg [⟨(some 16), .v (.mov (.t 0)), none⟩, ⟨(some 17), .v (.bin .quo (.t 16) (.c (.int .i64 10))), none⟩, ⟨(some 0), .v (.mov (.t 17)), none⟩]))))))
     (.seq
      (.reg [⟨(some 18), .v (.mov (.t 3)), none⟩, ⟨(some 19), .v (.bin .add (.c (.str [109])) (.t 18)), none⟩, ⟨(some 2), .v (.mov (.t 19)), none⟩])
      .ret)))))⟩
theorem e96 : rFunc Try.prog Try.f96 = some r96 := by kernel_rfl
def r55 : RFunc := ⟨20, [.t 4],
 (.seq
  (.reg [⟨(some 4), .v (.mov (.c (.int .i64 0))), none⟩])
  (.seq
   (.seq
    (.reg [⟨(some 5), .v (.mov (.c (.int .i64 0))), none⟩])
    (.block 0
     (.loop
      (.seq
       (.seq
        (.reg [⟨(some 6), .v (.mov (.t 5)), none⟩, ⟨(some 7), .v (.mov (.t 0)), none⟩, ⟨(some 8), .v (.len (.t 7)), none⟩, ⟨(some 9), .v (.bin .lss (.t 6) (.t 8)), none⟩])
        (.cond (.t 9)
         .skip
         (.exit 0)))
       (.seq
        (.block 1
         (.seq
          (.reg [⟨(some 12), .v (.mov (.t 0)), none⟩, ⟨(some 13), .v (.mov (.t 5)), none⟩, ⟨(some 14), .v (.mov (.t 1)), none⟩, ⟨(some 15), .call 96 [(.t 14)], none⟩, ⟨(some 16), .v (.iaddr 1 (.t 12) (.t 13)), none⟩, ⟨none, .m (.store 1 (.t 16) (.t 15)), none⟩])
          (.reg [⟨(some 17), .v (.mov (.t 1)), none⟩, ⟨(some 18), .v (.bin .add (.t 17) (.c (.int .i64 1))), none⟩, ⟨(some 1), .v (.mov (.t 18)), none⟩])))
        (.reg [⟨(some 10), .v (.mov (.t 5)), none⟩, ⟨(some 11), .v (.bin .add (.t 10) (.c (.int .i64 1))), none⟩, ⟨(some 5), .v (.mov (.t 11)), none⟩]))))))
   (.seq
    (.reg [⟨(some 19), .v (.mov (.t 1)), none⟩, ⟨(some 4), .v (.mov (.t 19)), none⟩])
    .ret)))⟩
theorem e55 : rFunc Try.prog Try.f55 = some r55 := by kernel_rfl
def r15 : RFunc := ⟨10, [.t 4],
 (.seq
  (.reg [⟨(some 2), .m (.box (.t 0)), none⟩, ⟨(some 4), .v (.mov (.c (.int .i64 0))), none⟩])
  (.seq
   (.reg [⟨(some 5), .v (.faddr 2 (.t 2)), none⟩, ⟨(some 6), .v (.load false 1 (.t 5)), none⟩, ⟨(some 7), .v (.mov (.t 1)), none⟩, ⟨(some 8), .call 55 [(.t 6), (.t 7)], none⟩, ⟨(some 1), .v (.mov (.t 8)), none⟩])
   (.seq
    (.reg [⟨(some 9), .v (.mov (.t 1)), none⟩, ⟨(some 4), .v (.mov (.t 9)), none⟩])
    .ret)))⟩
theorem e15 : rFunc Try.prog Try.f15 = some r15 := by kernel_rfl
def r56 : RFunc := ⟨22, [.t 4],
 (.seq
  (.reg [⟨(some 4), .v (.mov (.c (.int .i64 0))), none⟩])
  (.seq
   (.seq
    (.reg [⟨(some 5), .v (.mov (.c (.int .i64 0))), none⟩])
    (.block 0
     (.loop
      (.seq
       (.seq
        (.reg [⟨(some 6), .v (.mov (.t 5)), none⟩, ⟨(some 7), .v (.mov (.t 0)), none⟩, ⟨(some 8), .v (.len (.t 7)), none⟩, ⟨(some 9), .v (.bin .lss (.t 6) (.t 8)), none⟩])
        (.cond (.t 9)
         .skip
         (.exit 0)))
       (.seq
        (.block 1
         (.seq
          (.seq
           (.dreg (.fl ⟨(some 12), .v (.mov (.t 0)), none⟩ (.fl ⟨(some 13), .v (.mov (.t 5)), none⟩ (.fl ⟨(some 14), .v (.iaddr 1 (.t 12) (.t 13)), none⟩ (.fl ⟨(some 15), .v (.load false 1 (.t 14)), none⟩ (.fl ⟨(some 16), .v (.mov (.t 1)), none⟩ (.nx ⟨(some 17), .call 96 [(.t 16)], none⟩ (.fl ⟨(some 18), .v (.bin .neq (.t 15) (.t 17)), none⟩ .done))))))))
           (.cond (.t 18)
            (.seq
             (.reg [⟨(some 4), .v (.mov (.c (.int .i64 (-1)))), none⟩])
             .ret)
            .skip))
          (.reg [⟨(some 19), .v (.mov (.t 1)), none⟩, ⟨(some 20), .v (.bin .add (.t 19) (.c (.int .i64 1))), none⟩, ⟨(some 1), .v (.mov (.t 20)), none⟩])))
        (.reg [⟨(some 10), .v (.mov (.t 5)), none⟩, ⟨(some 11), .v (.bin .add (.t 10) (.c (.int .i64 1))), none⟩, ⟨(some 5), .v (.mov (.t 11)), none⟩]))))))
   (.seq
    (.reg [⟨(some 21), .v (.mov (.t 1)), none⟩, ⟨(some 4), .v (.mov (.t 21)), none⟩])
    .ret)))⟩
theorem e56 : rFunc Try.prog Try.f56 = some r56 := by kernel_rfl
def r16 : RFunc := ⟨12, [.t 4],
 (.seq
  (.reg [⟨(some 2), .m (.box (.t 0)), none⟩, ⟨(some 4), .v (.mov (.c (.int .i64 0))), none⟩])
  (.seq
   (.reg [⟨(some 5), .v (.faddr 2 (.t 2)), none⟩, ⟨(some 6), .v (.load false 1 (.t 5)), none⟩, ⟨(some 7), .v (.mov (.t 1)), none⟩, ⟨(some 8), .call 56 [(.t 6), (.t 7)], none⟩, ⟨(some 1), .v (.mov (.t 8)), none⟩])
   (.seq
    (.seq
     (.reg [⟨(some 9), .v (.mov (.t 1)), none⟩, ⟨(some 10), .v (.bin .lss (.t 9) (.c (.int .i64 0))), none⟩])
     (.cond (.t 10)
      (.seq
       (.reg [⟨(some 4), .v (.mov (.c (.int .i64 (-1)))), none⟩])
       .ret)
      .skip))
    (.seq
     (.reg [⟨(some 11), .v (.mov (.t 1)), none⟩, ⟨(some 4), .v (.mov (.t 11)), none⟩])
     .ret))))⟩
theorem e16 : rFunc Try.prog Try.f16 = some r16 := by kernel_rfl
def r3 : RFunc := ⟨36, [.t 0],
 (.seq
  (.reg [⟨(some 0), .v (.mov (.c (.bool false))), none⟩])
  (.seq
   (.reg [⟨(some 6), .call 12 [], none⟩, ⟨(some 1), .m (.alloc [(.int .i64 0), (.int .i64 0), .nils]), none⟩, ⟨none, .m (.store 3 (.t 1) (.t 6)), none⟩])
   (.seq
    (.reg [⟨(some 7), .call 13 [], none⟩, ⟨(some 2), .m (.alloc [(.int .i64 0), (.int .i64 0), .nils]), none⟩, ⟨none, .m (.store 3 (.t 2) (.t 7)), none⟩])
    (.seq
     (.seq
      (.reg [⟨(some 8), .v (.load true 3 (.t 2)), none⟩, ⟨(some 9), .v (.load true 3 (.t 1)), none⟩, ⟨(some 10), .call 14 [(.t 8), (.t 9)], none⟩, ⟨(some 11), .v (.un .not (.t 10)), none⟩])
      (.cond (.t 11)
       (.seq
        (.reg [⟨(some 0), .v (.mov (.c (.bool false))), none⟩])
        .ret)
       .skip))
     (.seq
      (.reg [⟨(some 3), .v (.mov (.c (.int .i64 1))), none⟩])
      (.seq
       (.reg [⟨(some 12), .v (.load true 3 (.t 2)), none⟩, ⟨(some 13), .v (.mov (.t 3)), none⟩, ⟨(some 14), .call 15 [(.t 12), (.t 13)], none⟩, ⟨(some 3), .v (.mov (.t 14)), none⟩])
       (.seq
        (.reg [⟨(some 4), .v (.mov (.c (.int .i64 1))), none⟩])
        (.seq
         (.reg [⟨(some 15), .v (.load true 3 (.t 2)), none⟩, ⟨(some 16), .v (.mov (.t 4)), none⟩, ⟨(some 17), .call 16 [(.t 15), (.t 16)], none⟩, ⟨(some 4), .v (.mov (.t 17)), none⟩])
         (.seq
          (.seq
           (.reg [⟨(some 18), .v (.mov (.t 4)), none⟩, ⟨(some 19), .v (.bin .lss (.t 18) (.c (.int .i64 0))), none⟩])
           (.cond (.t 19)
            (.seq
             (.reg [⟨(some 0), .v (.mov (.c (.bool false))), none⟩])
             .ret)
            .skip))
          (.seq
           (.seq
            (.reg [⟨(some 20), .v (.mov (.t 4)), none⟩, ⟨(some 21), .v (.mov (.t 3)), none⟩, ⟨(some 22), .v (.bin .neq (.t 20) (.t 21)), none⟩])
            (.cond (.t 22)
             (.seq
              (.reg [⟨(some 0), .v (.mov (.c (.bool false))), none⟩])
              .ret)
             .skip))
           (.seq
            (.reg [⟨(some 23), .call 13 [], none⟩, ⟨(some 5), .m (.alloc [(.int .i64 0), (.int .i64 0), .nils]), none⟩, ⟨none, .m (.store 3 (.t 5) (.t 23)), none⟩])
            (.seq
             (.seq
              (.reg [⟨(some 24), .v (.load true 3 (.t 5)), none⟩, ⟨(some 25), .v (.load true 3 (.t 1)), none⟩, ⟨(some 26), .call 14 [(.t 24), (.t 25)], none⟩, ⟨(some 27), .v (.un .not (.t 26)), none⟩])
              (.cond (.t 27)
               (.seq
                (.reg [⟨(some 0), .v (.mov (.c (.bool false))), none⟩])
                .ret)
               .skip))
             (.seq
              (.reg [⟨(some 4), .v (.mov (.c (.int .i64 1))), none⟩])
              (.seq
               (.reg [⟨(some 28), .v (.load true 3 (.t 2)), none⟩, ⟨(some 29), .v (.mov (.t 4)), none⟩, ⟨(some 30), .call 16 [(.t 28), (.t 29)], none⟩, ⟨(some 4), .v (.mov (.t 30)), none⟩])
               (.seq
                (.seq
                 (.reg [⟨(some 31), .v (.mov (.t 4)), none⟩, ⟨(some 32), .v (.bin .lss (.t 31) (.c (.int .i64 0))), none⟩])
                 (.cond (.t 32)
                  (.seq
                   (.reg [⟨(some 0), .v (.mov (.c (.bool false))), none⟩])
                   .ret)
                  .skip))
                (.seq
                 (.seq
                  (.reg [⟨(some 33), .v (.mov (.t 4)), none⟩, ⟨(some 34), .v (.mov (.t 3)), none⟩, ⟨(some 35), .v (.bin .neq (.t 33) (.t 34)), none⟩])
                  (.cond (.t 35)
                   (.seq
                    (.reg [⟨(some 0), .v (.mov (.c (.bool false))), none⟩])
                    .ret)
                   .skip))
                 (.seq
                  (.reg [⟨(some 0), .v (.mov (.c (.bool true))), none⟩])
                  .ret)))))))))))))))))⟩
theorem e3 : rFunc Try.prog Try.f3 = some r3 := by kernel_rfl
end Go.Proofs.Ytgkdnpigbpkehaa.M
