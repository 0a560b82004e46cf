/-
  The resolved text of the functions, each tied to the program's own by the kernel.
-/
import Derived.Test.YtjfgmimgmapeeaaGreatProg
import Derived.Test.YtjfgmimgmapeeaaGreatFyc
namespace Go.Proofs.YtjfgmimgmapeeaaGreat.M
open Go Go.RowKit
set_option maxRecDepth 100000

def r92 : RFunc := ⟨5, [.t 2],
 (.seq
  (.reg [⟨(some 2), .v (.mov (.c (.bool false))), none⟩])
  (.seq
   (.reg [⟨(some 3), .v (.mov (.t 0)), none⟩, ⟨(some 4), .call 63 [(.t 3), (.c (.int .i64 0)), (.c (.int .i64 9999))], none⟩, ⟨(some 2), .v (.mov (.t 4)), none⟩])
   .ret))⟩
theorem e92 : rFunc Tryz.prog Tryz.f92 = some r92 := by kernel_rfl
def r93 : RFunc := ⟨5, [.t 2],
 (.seq
  (.reg [⟨(some 2), .v (.mov (.c (.bool false))), none⟩])
  (.seq
   (.reg [⟨(some 3), .v (.mov (.t 0)), none⟩, ⟨(some 4), .call 63 [(.t 3), (.c (.int .i64 1)), (.c (.int .i64 24))], none⟩, ⟨(some 2), .v (.mov (.t 4)), none⟩])
   .ret))⟩
theorem e93 : rFunc Tryz.prog Tryz.f93 = some r93 := by kernel_rfl
def r94 : RFunc := ⟨5, [.t 2],
 (.seq
  (.reg [⟨(some 2), .v (.mov (.c (.bool false))), none⟩])
  (.seq
   (.reg [⟨(some 3), .v (.mov (.t 0)), none⟩, ⟨(some 4), .call 63 [(.t 3), (.c (.int .i64 1)), (.c (.int .i64 8))], none⟩, ⟨(some 2), .v (.mov (.t 4)), none⟩])
   .ret))⟩
theorem e94 : rFunc Tryz.prog Tryz.f94 = some r94 := by kernel_rfl
def r146 : RFunc := ⟨19, [.t 4],
 (.seq
  (.reg [⟨(some 4), .v (.mov (.c (.int .i64 0))), none⟩])
  (.seq
   (.seq
    (.reg [⟨(some 6), .v (.mov (.t 0)), none⟩, ⟨(some 7), .v (.len (.t 6)), none⟩, ⟨(some 8), .v (.mov (.c (.int .i64 0))), none⟩])
    (.block 0
     (.loop
      (.seq
       (.reg [⟨(some 9), .v (.bin .lss (.t 8) (.t 7)), none⟩])
       (.seq
        (.cond (.t 9)
         .skip
         (.exit 0))
        (.seq
         (.block 1
          (.seq
           (.reg [⟨(some 10), .v (.mov (.t 8)), none⟩, ⟨(some 5), .v (.mov (.t 10)), none⟩])
           (.seq
            (.reg [⟨(some 11), .v (.mov (.t 1)), none⟩, ⟨(some 12), .v (.mov (.t 0)), none⟩, ⟨(some 13), .v (.mov (.t 5)), none⟩, ⟨(some 14), .v (.iaddr 1 (.t 12) (.t 13)), none⟩, ⟨(some 15), .v (.load false 1 (.t 14)), none⟩, ⟨(some 16), .callv (.t 11) [(.t 15)], none⟩])
            (.cond (.t 16)
             (.seq
              (.reg [⟨(some 17), .v (.mov (.t 5)), none⟩, ⟨(some 4), .v (.mov (.t 17)), none⟩])
              .ret)
             .skip))))
         (.reg [⟨(some 18), .v (.bin .add (.t 8) (.c (.int .i64 1))), none⟩, ⟨(some 8), .v (.mov (.t 18)), none⟩])))))))
   (.seq
    (.reg [⟨(some 4), .v (.mov (.c (.int .i64 (-1)))), none⟩])
    .ret)))⟩
theorem e146 : rFunc Tryz.prog Tryz.f146 = some r146 := by kernel_rfl
def r95 : RFunc := ⟨9, [.t 4],
 (.seq
  (.reg [⟨(some 4), .v (.mov (.c (.bool false))), none⟩])
  (.seq
   (.reg [⟨(some 5), .v (.mov (.t 0)), none⟩, ⟨(some 6), .v (.mov (.t 1)), none⟩, ⟨(some 7), .call 146 [(.t 5), (.t 6)], none⟩, ⟨(some 8), .v (.bin .geq (.t 7) (.c (.int .i64 0))), none⟩, ⟨(some 4), .v (.mov (.t 8)), none⟩])
   .ret))⟩
theorem e95 : rFunc Tryz.prog Tryz.f95 = some r95 := by kernel_rfl
def r139 : RFunc := ⟨10, [.t 3],
 (.seq
  (.reg [⟨(some 3), .v (.mov (.c (.bool false))), none⟩])
  (.seq
   (.reg [⟨(some 4), .v (.mov (.t 0)), none⟩, ⟨(some 5), .v (.load false 1 (.t 1)), none⟩, ⟨(some 6), .v (.bin .shl (.c (.int .i64 1)) (.t 5)), none⟩, ⟨(some 7), .v (.bin .sub (.t 6) (.c (.int .i64 1))), none⟩, ⟨(some 8), .call 63 [(.t 4), (.c (.int .i64 0)), (.t 7)], none⟩, ⟨(some 9), .v (.un .not (.t 8)), none⟩, ⟨(some 3), .v (.mov (.t 9)), none⟩])
   .ret))⟩
theorem e139 : rFunc Tryz.prog Tryz.f139 = some r139 := by kernel_rfl
def r80 : RFunc := ⟨40, [.t 10],
 (.seq
  (.reg [⟨(some 9), .m (.box (.t 4)), none⟩, ⟨(some 10), .v (.mov (.c (.bool false))), none⟩])
  (.seq
   (.seq
    (.reg [⟨(some 11), .v (.mov (.t 0)), none⟩, ⟨(some 12), .call 92 [(.t 11)], none⟩, ⟨(some 13), .v (.un .not (.t 12)), none⟩, ⟨(some 14), .v (.mov (.t 13)), none⟩, ⟨(some 15), .v (.mov (.t 1)), (some (14, false))⟩, ⟨(some 16), .call 62 [(.t 15)], (some (14, false))⟩, ⟨(some 17), .v (.un .not (.t 16)), (some (14, false))⟩, ⟨(some 18), .v (.pick (.t 14) (.c (.bool true)) (.t 17)), none⟩, ⟨(some 19), .v (.mov (.t 18)), none⟩, ⟨(some 20), .v (.mov (.t 3)), (some (19, false))⟩, ⟨(some 21), .call 93 [(.t 20)], (some (19, false))⟩, ⟨(some 22), .v (.un .not (.t 21)), (some (19, false))⟩, ⟨(some 23), .v (.pick (.t 19) (.c (.bool true)) (.t 22)), none⟩, ⟨(some 24), .v (.mov (.t 23)), none⟩, ⟨(some 25), .v (.load false 1 (.t 9)), (some (24, false))⟩, ⟨(some 26), .call 94 [(.t 25)], (some (24, false))⟩, ⟨(some 27), .v (.un .not (.t 26)), (some (24, false))⟩, ⟨(some 28), .v (.pick (.t 24) (.c (.bool true)) (.t 27)), none⟩, ⟨(some 29), .v (.mov (.t 28)), none⟩, ⟨(some 30), .v (.mov (.t 2)), (some (29, false))⟩, ⟨(some 31), .v (.len (.t 30)), (some (29, false))⟩, ⟨(some 32), .v (.mov (.t 1)), (some (29, false))⟩, ⟨(some 33), .v (.len (.t 32)), (some (29, false))⟩, ⟨(some 34), .v (.bin .neq (.t 31) (.t 33)), (some (29, false))⟩, ⟨(some 35), .v (.pick (.t 29) (.c (.bool true)) (.t 34)), none⟩])
    (.cond (.t 35)
     (.seq
      (.reg [⟨(some 10), .v (.mov (.c (.bool false))), none⟩])
      .ret)
     .skip))
   (.seq
    (.reg [⟨(some 36), .v (.mov (.t 2)), none⟩, ⟨(some 37), .v (.mkfn 139 [(.t 9)]), none⟩, ⟨(some 38), .call 95 [(.t 36), (.t 37)], none⟩, ⟨(some 39), .v (.un .not (.t 38)), none⟩, ⟨(some 10), .v (.mov (.t 39)), none⟩])
    .ret)))⟩
theorem e80 : rFunc Tryz.prog Tryz.f80 = some r80 := by kernel_rfl
def r125 : RFunc := ⟨5, [.t 2],
 (.seq
  (.reg [⟨(some 2), .v (.mov (.c (.bool false))), none⟩])
  (.seq
   (.reg [⟨(some 3), .v (.mov (.t 0)), none⟩, ⟨(some 4), .call 57 [(.t 3), (.c (.int .i64 1)), (.c (.int .i64 8))], none⟩, ⟨(some 2), .v (.mov (.t 4)), none⟩])
   .ret))⟩
theorem e125 : rFunc Tryz.prog Tryz.f125 = some r125 := by kernel_rfl
def r58 : RFunc := ⟨5, [.t 2],
 (.seq
  (.reg [⟨(some 2), .v (.mov (.c (.int .i64 0))), none⟩])
  (.seq
   (.reg [⟨(some 3), .v (.mov (.t 0)), none⟩, ⟨(some 4), .v (.bin .shl (.c (.int .i64 1)) (.t 3)), none⟩, ⟨(some 2), .v (.mov (.t 4)), none⟩])
   .ret))⟩
theorem e58 : rFunc Tryz.prog Tryz.f58 = some r58 := by kernel_rfl
def r122 : RFunc := ⟨45, [.cell true 3 4],
 (.seq
  (.reg [⟨(some 2), .m (.box (.t 0)), none⟩, ⟨(some 4), .m (.alloc [(.int .i64 0), .nils, .nils]), none⟩])
  (.seq
   (.dreg (.fl ⟨(some 11), .v (.faddr 0 (.t 2)), none⟩ (.fl ⟨(some 12), .v (.load false 1 (.t 11)), none⟩ (.fl ⟨(some 14), .v (.mov (.t 1)), none⟩ (.both (.nx ⟨(some 13), .m (.bsl 1 0 [(.bool false)] []), none⟩ (.both (.nx ⟨(some 15), .m (.app false 1 1 (.t 13) (.t 14)), none⟩ (.fl ⟨(some 16), .v (.bld [(.int .i64 0), .nils, .nils] [(0, 1, (.t 12)), (2, 1, (.t 15))]), none⟩ (.nx ⟨(some 5), .m (.alloc [(.int .i64 0), .nils, .nils]), none⟩ (.nx ⟨none, .m (.store 3 (.t 5) (.t 16)), none⟩ .done)))) (.nx ⟨(some 5), .m (.alloc [(.int .i64 0), .nils, .nils]), none⟩ (.nx ⟨(some 15), .m (.app false 1 1 (.t 13) (.t 14)), none⟩ (.fl ⟨(some 16), .v (.bld [(.int .i64 0), .nils, .nils] [(0, 1, (.t 12)), (2, 1, (.t 15))]), none⟩ (.nx ⟨none, .m (.store 3 (.t 5) (.t 16)), none⟩ .done)))))) (.nx ⟨(some 5), .m (.alloc [(.int .i64 0), .nils, .nils]), none⟩ (.nx ⟨(some 13), .m (.bsl 1 0 [(.bool false)] []), none⟩ (.nx ⟨(some 15), .m (.app false 1 1 (.t 13) (.t 14)), none⟩ (.fl ⟨(some 16), .v (.bld [(.int .i64 0), .nils, .nils] [(0, 1, (.t 12)), (2, 1, (.t 15))]), none⟩ (.nx ⟨none, .m (.store 3 (.t 5) (.t 16)), none⟩ .done))))))))))
   (.seq
    (.seq
     (.reg [⟨(some 17), .v (.faddr 1 (.t 2)), none⟩, ⟨(some 18), .v (.load false 1 (.t 17)), none⟩, ⟨(some 19), .v (.len (.t 18)), none⟩, ⟨(some 20), .v (.mov (.c (.int .i64 0))), none⟩])
     (.block 0
      (.loop
       (.seq
        (.reg [⟨(some 21), .v (.bin .lss (.t 20) (.t 19)), none⟩])
        (.seq
         (.cond (.t 21)
          .skip
          (.exit 0))
         (.seq
          (.block 1
           (.seq
            (.reg [⟨(some 22), .v (.iaddr 1 (.t 18) (.t 20)), none⟩, ⟨(some 23), .v (.load false 1 (.t 22)), none⟩, ⟨(some 7), .v (.mov (.t 23)), none⟩])
            (.seq
             (.reg [⟨(some 24), .v (.faddr 0 (.t 2)), none⟩, ⟨(some 25), .v (.load false 1 (.t 24)), none⟩, ⟨(some 26), .call 109 [(.t 25)], none⟩, ⟨(some 8), .m (.alloc [(.int .i64 0), .nils]), none⟩, ⟨none, .m (.store 2 (.t 8) (.t 26)), none⟩])
             (.seq
              (.seq
               (.reg [⟨(some 27), .v (.mov (.t 7)), none⟩, ⟨(some 28), .v (.len (.t 27)), none⟩, ⟨(some 29), .v (.mov (.c (.int .i64 0))), none⟩])
               (.block 2
                (.loop
                 (.seq
                  (.reg [⟨(some 30), .v (.bin .lss (.t 29) (.t 28)), none⟩])
                  (.seq
                   (.cond (.t 30)
                    .skip
                    (.exit 2))
                   (.seq
                    (.block 3
                     (.seq
                      (.reg [⟨(some 31), .v (.iaddr 1 (.t 27) (.t 29)), none⟩, ⟨(some 32), .v (.load false 1 (.t 31)), none⟩, ⟨(some 10), .v (.mov (.t 32)), none⟩])
                      (.reg [⟨(some 33), .v (.load true 2 (.t 8)), none⟩, ⟨(some 34), .v (.mov (.t 10)), none⟩, ⟨(some 35), .call 112 [(.t 33), (.t 34)], none⟩])))
                    (.reg [⟨(some 36), .v (.bin .add (.t 29) (.c (.int .i64 1))), none⟩, ⟨(some 29), .v (.mov (.t 36)), none⟩])))))))
              (.reg [⟨(some 37), .v (.faddr 1 (.t 5)), none⟩, ⟨(some 38), .v (.load false 1 (.t 37)), none⟩, ⟨(some 39), .v (.load true 2 (.t 8)), none⟩, ⟨(some 40), .m (.bsl 2 1 [(.int .i64 0), .nils] [(0, 2, (.t 39))]), none⟩, ⟨(some 41), .m (.app false 2 32 (.t 38) (.t 40)), none⟩, ⟨(some 42), .v (.faddr 1 (.t 5)), none⟩, ⟨none, .m (.store 1 (.t 42) (.t 41)), none⟩])))))
          (.reg [⟨(some 43), .v (.bin .add (.t 20) (.c (.int .i64 1))), none⟩, ⟨(some 20), .v (.mov (.t 43)), none⟩])))))))
    (.seq
     (.reg [⟨(some 44), .v (.load true 3 (.t 5)), none⟩, ⟨none, .m (.store 3 (.t 4) (.t 44)), none⟩])
     .ret))))⟩
theorem e122 : rFunc Tryz.prog Tryz.f122 = some r122 := by kernel_rfl
def r99 : RFunc := ⟨28, [.cell true 3 6],
 (.seq
  (.reg [⟨(some 3), .m (.box (.t 0)), none⟩, ⟨(some 6), .m (.alloc [(.int .i64 0), .nils, .nils]), none⟩])
  (.seq
   (.reg [⟨(some 7), .v (.mov (.c .nils)), none⟩])
   (.seq
    (.seq
     (.reg [⟨(some 10), .v (.mov (.t 1)), none⟩, ⟨(some 11), .v (.len (.t 10)), none⟩, ⟨(some 12), .v (.mov (.c (.int .i64 0))), none⟩])
     (.block 0
      (.loop
       (.seq
        (.reg [⟨(some 13), .v (.bin .lss (.t 12) (.t 11)), none⟩])
        (.seq
         (.cond (.t 13)
          .skip
          (.exit 0))
         (.seq
          (.block 1
           (.seq
            (.reg [⟨(some 14), .v (.iaddr 1 (.t 10) (.t 12)), none⟩, ⟨(some 15), .v (.load false 1 (.t 14)), none⟩, ⟨(some 9), .v (.mov (.t 15)), none⟩])
            (.reg [⟨(some 16), .v (.mov (.t 7)), none⟩, ⟨(some 17), .v (.mov (.t 9)), none⟩, ⟨(some 18), .v (.mov (.t 2)), none⟩, ⟨(some 19), .v (.bin .shr (.t 17) (.t 18)), none⟩, ⟨(some 20), .v (.bin .and (.t 19) (.c (.int .i64 1))), none⟩, ⟨(some 21), .v (.bin .eql (.t 20) (.c (.int .i64 1))), none⟩, ⟨(some 22), .m (.bsl 1 1 [(.bool false)] [(0, 1, (.t 21))]), none⟩, ⟨(some 23), .m (.app false 1 1 (.t 16) (.t 22)), none⟩, ⟨(some 7), .v (.mov (.t 23)), none⟩])))
          (.reg [⟨(some 24), .v (.bin .add (.t 12) (.c (.int .i64 1))), none⟩, ⟨(some 12), .v (.mov (.t 24)), none⟩])))))))
    (.seq
     (.reg [⟨(some 25), .v (.load true 2 (.t 3)), none⟩, ⟨(some 26), .v (.mov (.t 7)), none⟩, ⟨(some 27), .call 122 [(.t 25), (.t 26)], none⟩, ⟨none, .m (.store 3 (.t 6) (.t 27)), none⟩])
     .ret))))⟩
theorem e99 : rFunc Tryz.prog Tryz.f99 = some r99 := by kernel_rfl
def r101 : RFunc := ⟨31, [.cell true 3 4],
 (.seq
  (.reg [⟨(some 2), .m (.box (.t 0)), none⟩, ⟨(some 4), .m (.alloc [(.int .i64 0), .nils, .nils]), none⟩])
  (.seq
   (.dreg (.fl ⟨(some 8), .v (.faddr 0 (.t 2)), none⟩ (.fl ⟨(some 9), .v (.load false 1 (.t 8)), none⟩ (.fl ⟨(some 10), .v (.mov (.t 1)), none⟩ (.both (.nx ⟨(some 11), .call 151 [(.t 10)], none⟩ (.fl ⟨(some 12), .v (.bld [(.int .i64 0), .nils, .nils] [(0, 1, (.t 9)), (2, 1, (.t 11))]), none⟩ (.nx ⟨(some 5), .m (.alloc [(.int .i64 0), .nils, .nils]), none⟩ (.nx ⟨none, .m (.store 3 (.t 5) (.t 12)), none⟩ .done)))) (.nx ⟨(some 5), .m (.alloc [(.int .i64 0), .nils, .nils]), none⟩ (.nx ⟨(some 11), .call 151 [(.t 10)], none⟩ (.fl ⟨(some 12), .v (.bld [(.int .i64 0), .nils, .nils] [(0, 1, (.t 9)), (2, 1, (.t 11))]), none⟩ (.nx ⟨none, .m (.store 3 (.t 5) (.t 12)), none⟩ .done)))))))))
   (.seq
    (.seq
     (.reg [⟨(some 13), .v (.faddr 1 (.t 2)), none⟩, ⟨(some 14), .v (.load false 1 (.t 13)), none⟩, ⟨(some 15), .v (.len (.t 14)), none⟩, ⟨(some 16), .v (.mov (.c (.int .i64 0))), none⟩])
     (.block 0
      (.loop
       (.seq
        (.reg [⟨(some 17), .v (.bin .lss (.t 16) (.t 15)), none⟩])
        (.seq
         (.cond (.t 17)
          .skip
          (.exit 0))
         (.seq
          (.block 1
           (.seq
            (.reg [⟨(some 18), .v (.iaddr 1 (.t 14) (.t 16)), none⟩, ⟨(some 19), .v (.load false 1 (.t 18)), none⟩, ⟨(some 7), .m (.alloc [.nils]), none⟩, ⟨none, .m (.store 1 (.t 7) (.t 19)), none⟩])
            (.dreg (.fl ⟨(some 20), .v (.faddr 1 (.t 5)), none⟩ (.fl ⟨(some 22), .v (.faddr 0 (.t 2)), none⟩ (.fl ⟨(some 24), .v (.mkfn 153 [(.t 7)]), none⟩ (.both (.nx ⟨(some 21), .v (.load false 1 (.t 20)), none⟩ (.nx ⟨(some 23), .v (.load false 1 (.t 22)), none⟩ (.nx ⟨(some 25), .call 152 [(.t 23), (.t 24)], none⟩ (.nx ⟨(some 26), .m (.bsl 2 1 [(.int .i64 0), .nils] [(0, 2, (.t 25))]), none⟩ (.nx ⟨(some 27), .m (.app false 2 32 (.t 21) (.t 26)), none⟩ (.fl ⟨(some 28), .v (.faddr 1 (.t 5)), none⟩ (.nx ⟨none, .m (.store 1 (.t 28) (.t 27)), none⟩ .done))))))) (.nx ⟨(some 23), .v (.load false 1 (.t 22)), none⟩ (.both (.nx ⟨(some 21), .v (.load false 1 (.t 20)), none⟩ (.nx ⟨(some 25), .call 152 [(.t 23), (.t 24)], none⟩ (.nx ⟨(some 26), .m (.bsl 2 1 [(.int .i64 0), .nils] [(0, 2, (.t 25))]), none⟩ (.nx ⟨(some 27), .m (.app false 2 32 (.t 21) (.t 26)), none⟩ (.fl ⟨(some 28), .v (.faddr 1 (.t 5)), none⟩ (.nx ⟨none, .m (.store 1 (.t 28) (.t 27)), none⟩ .done)))))) (.nx ⟨(some 25), .call 152 [(.t 23), (.t 24)], none⟩ (.both (.nx ⟨(some 21), .v (.load false 1 (.t 20)), none⟩ (.nx ⟨(some 26), .m (.bsl 2 1 [(.int .i64 0), .nils] [(0, 2, (.t 25))]), none⟩ (.nx ⟨(some 27), .m (.app false 2 32 (.t 21) (.t 26)), none⟩ (.fl ⟨(some 28), .v (.faddr 1 (.t 5)), none⟩ (.nx ⟨none, .m (.store 1 (.t 28) (.t 27)), none⟩ .done))))) (.nx ⟨(some 26), .m (.bsl 2 1 [(.int .i64 0), .nils] [(0, 2, (.t 25))]), none⟩ (.nx ⟨(some 21), .v (.load false 1 (.t 20)), none⟩ (.nx ⟨(some 27), .m (.app false 2 32 (.t 21) (.t 26)), none⟩ (.fl ⟨(some 28), .v (.faddr 1 (.t 5)), none⟩ (.nx ⟨none, .m (.store 1 (.t 28) (.t 27)), none⟩ .done))))))))))))))))
          (.reg [⟨(some 29), .v (.bin .add (.t 16) (.c (.int .i64 1))), none⟩, ⟨(some 16), .v (.mov (.t 29)), none⟩])))))))
    (.seq
     (.reg [⟨(some 30), .v (.load true 3 (.t 5)), none⟩, ⟨none, .m (.store 3 (.t 4) (.t 30)), none⟩])
     .ret))))⟩
theorem e101 : rFunc Tryz.prog Tryz.f101 = some r101 := by kernel_rfl
def r88 : RFunc := ⟨29, [.cell true 3 6],
 (.seq
  (.reg [⟨(some 3), .m (.box (.t 0)), none⟩, ⟨(some 6), .m (.alloc [(.int .i64 0), .nils, .nils]), none⟩])
  (.seq
   (.reg [⟨(some 10), .m (.bsl 1 0 [(.bool false)] []), none⟩, ⟨(some 7), .v (.mov (.t 10)), none⟩])
   (.seq
    (.seq
     (.reg [⟨(some 11), .v (.mov (.t 1)), none⟩, ⟨(some 12), .v (.len (.t 11)), none⟩, ⟨(some 13), .v (.mov (.c (.int .i64 0))), none⟩])
     (.block 0
      (.loop
       (.seq
        (.reg [⟨(some 14), .v (.bin .lss (.t 13) (.t 12)), none⟩])
        (.seq
         (.cond (.t 14)
          .skip
          (.exit 0))
         (.seq
          (.block 1
           (.seq
            (.reg [⟨(some 15), .v (.iaddr 1 (.t 11) (.t 13)), none⟩, ⟨(some 16), .v (.load false 1 (.t 15)), none⟩, ⟨(some 9), .v (.mov (.t 16)), none⟩])
            (.reg [⟨(some 17), .v (.mov (.t 7)), none⟩, ⟨(some 18), .v (.mov (.t 9)), none⟩, ⟨(some 19), .v (.mov (.t 2)), none⟩, ⟨(some 20), .v (.bin .shr (.t 18) (.t 19)), none⟩, ⟨(some 21), .v (.bin .and (.t 20) (.c (.int .i64 1))), none⟩, ⟨(some 22), .v (.bin .eql (.t 21) (.c (.int .i64 1))), none⟩, ⟨(some 23), .m (.bsl 1 1 [(.bool false)] [(0, 1, (.t 22))]), none⟩, ⟨(some 24), .m (.app false 1 1 (.t 17) (.t 23)), none⟩, ⟨(some 7), .v (.mov (.t 24)), none⟩])))
          (.reg [⟨(some 25), .v (.bin .add (.t 13) (.c (.int .i64 1))), none⟩, ⟨(some 13), .v (.mov (.t 25)), none⟩])))))))
    (.seq
     (.reg [⟨(some 26), .v (.load true 2 (.t 3)), none⟩, ⟨(some 27), .v (.mov (.t 7)), none⟩, ⟨(some 28), .call 101 [(.t 26), (.t 27)], none⟩, ⟨none, .m (.store 3 (.t 6) (.t 28)), none⟩])
     .ret))))⟩
theorem e88 : rFunc Tryz.prog Tryz.f88 = some r88 := by kernel_rfl
end Go.Proofs.YtjfgmimgmapeeaaGreat.M
