/-
  The resolved text of the functions, each tied to the program's own by the kernel.
-/
import Derived.Test.YtjfgmimgmapeeaaGreatProg
import Derived.Test.YtjfgmimgmapeeaaGreatFys
namespace Go.Proofs.YtjfgmimgmapeeaaGreat.M
open Go Go.RowKit
set_option maxRecDepth 100000

def r150 : RFunc := ⟨39, [.t 4],
 (.seq
  (.reg [⟨(some 4), .v (.mov (.c (.bool false))), none⟩])
  (.seq
   (.dreg (.fl ⟨(some 5), .v (.mov (.t 0)), none⟩ (.fl ⟨(some 6), .v (.len (.t 5)), none⟩ (.fl ⟨(some 7), .v (.bin .eql (.t 6) (.c (.int .i64 3))), none⟩ (.fl ⟨(some 8), .v (.mov (.t 7)), none⟩ (.fl ⟨(some 9), .v (.mov (.t 0)), (some (8, true))⟩ (.fl ⟨(some 10), .v (.iaddr 1 (.t 9) (.c (.int .i64 0))), (some (8, true))⟩ (.fl ⟨(some 11), .v (.load false 1 (.t 10)), (some (8, true))⟩ (.fl ⟨(some 12), .v (.bin .geq (.t 11) (.c (.int .i64 0))), (some (8, true))⟩ (.fl ⟨(some 13), .v (.pick (.t 8) (.t 12) (.c (.bool false))), none⟩ (.fl ⟨(some 14), .v (.mov (.t 13)), none⟩ (.fl ⟨(some 15), .v (.mov (.t 0)), (some (14, true))⟩ (.fl ⟨(some 16), .v (.iaddr 1 (.t 15) (.c (.int .i64 0))), (some (14, true))⟩ (.fl ⟨(some 17), .v (.load false 1 (.t 16)), (some (14, true))⟩ (.fl ⟨(some 18), .v (.mov (.t 0)), (some (14, true))⟩ (.fl ⟨(some 19), .v (.iaddr 1 (.t 18) (.c (.int .i64 1))), (some (14, true))⟩ (.fl ⟨(some 20), .v (.load false 1 (.t 19)), (some (14, true))⟩ (.fl ⟨(some 21), .v (.bin .lss (.t 17) (.t 20)), (some (14, true))⟩ (.fl ⟨(some 22), .v (.pick (.t 14) (.t 21) (.c (.bool false))), none⟩ (.fl ⟨(some 23), .v (.mov (.t 22)), none⟩ (.fl ⟨(some 24), .v (.mov (.t 0)), (some (23, true))⟩ (.fl ⟨(some 25), .v (.iaddr 1 (.t 24) (.c (.int .i64 1))), (some (23, true))⟩ (.fl ⟨(some 26), .v (.load false 1 (.t 25)), (some (23, true))⟩ (.fl ⟨(some 27), .v (.mov (.t 0)), (some (23, true))⟩ (.fl ⟨(some 28), .v (.iaddr 1 (.t 27) (.c (.int .i64 2))), (some (23, true))⟩ (.fl ⟨(some 29), .v (.load false 1 (.t 28)), (some (23, true))⟩ (.fl ⟨(some 30), .v (.bin .lss (.t 26) (.t 29)), (some (23, true))⟩ (.fl ⟨(some 31), .v (.pick (.t 23) (.t 30) (.c (.bool false))), none⟩ (.fl ⟨(some 32), .v (.mov (.t 31)), none⟩ (.fl ⟨(some 33), .v (.mov (.t 0)), (some (32, true))⟩ (.fl ⟨(some 34), .v (.iaddr 1 (.t 33) (.c (.int .i64 2))), (some (32, true))⟩ (.fl ⟨(some 35), .v (.load false 1 (.t 34)), (some (32, true))⟩ (.fl ⟨(some 36), .v (.mov (.t 1)), (some (32, true))⟩ (.fl ⟨(some 37), .v (.bin .lss (.t 35) (.t 36)), (some (32, true))⟩ (.fl ⟨(some 38), .v (.pick (.t 32) (.t 37) (.c (.bool false))), none⟩ (.fl ⟨(some 4), .v (.mov (.t 38)), none⟩ .done))))))))))))))))))))))))))))))))))))
   .ret))⟩
theorem e150 : rFunc Tryz.prog Tryz.f150 = some r150 := by kernel_rfl
def r149 : RFunc := ⟨9, [.t 3],
 (.seq
  (.reg [⟨(some 3), .v (.mov (.c (.bool false))), none⟩])
  (.seq
   (.reg [⟨(some 4), .v (.mov (.t 0)), none⟩, ⟨(some 5), .v (.faddr 0 (.t 1)), none⟩, ⟨(some 6), .v (.load false 1 (.t 5)), none⟩, ⟨(some 7), .call 150 [(.t 4), (.t 6)], none⟩, ⟨(some 8), .v (.un .not (.t 7)), none⟩, ⟨(some 3), .v (.mov (.t 8)), none⟩])
   .ret))⟩
theorem e149 : rFunc Tryz.prog Tryz.f149 = some r149 := by kernel_rfl
def r181 : RFunc := ⟨19, [.t 4],
 (.seq
  (.reg [⟨(some 4), .v (.mov (.c (.int .i64 0))), none⟩])
  (.seq
   (.seq
    (.reg [⟨(some 6), .v (.mov (.t 0)), none⟩, ⟨(some 7), .v (.len (.t 6)), none⟩, ⟨(some 8), .v (.mov (.c (.int .i64 0))), none⟩])
    (.block 0
     (.loop
      (.seq
       (.reg [⟨(some 9), .v (.bin .lss (.t 8) (.t 7)), none⟩])
       (.seq
        (.cond (.t 9)
         .skip
         (.exit 0))
        (.seq
         (.block 1
          (.seq
           (.reg [⟨(some 10), .v (.mov (.t 8)), none⟩, ⟨(some 5), .v (.mov (.t 10)), none⟩])
           (.seq
            (.reg [⟨(some 11), .v (.mov (.t 1)), none⟩, ⟨(some 12), .v (.mov (.t 0)), none⟩, ⟨(some 13), .v (.mov (.t 5)), none⟩, ⟨(some 14), .v (.iaddr 1 (.t 12) (.t 13)), none⟩, ⟨(some 15), .v (.load false 1 (.t 14)), none⟩, ⟨(some 16), .callv (.t 11) [(.t 15)], none⟩])
            (.cond (.t 16)
             (.seq
              (.reg [⟨(some 17), .v (.mov (.t 5)), none⟩, ⟨(some 4), .v (.mov (.t 17)), none⟩])
              .ret)
             .skip))))
         (.reg [⟨(some 18), .v (.bin .add (.t 8) (.c (.int .i64 1))), none⟩, ⟨(some 8), .v (.mov (.t 18)), none⟩])))))))
   (.seq
    (.reg [⟨(some 4), .v (.mov (.c (.int .i64 (-1)))), none⟩])
    .ret)))⟩
theorem e181 : rFunc Tryz.prog Tryz.f181 = some r181 := by kernel_rfl
def r148 : RFunc := ⟨9, [.t 4],
 (.seq
  (.reg [⟨(some 4), .v (.mov (.c (.bool false))), none⟩])
  (.seq
   (.reg [⟨(some 5), .v (.mov (.t 0)), none⟩, ⟨(some 6), .v (.mov (.t 1)), none⟩, ⟨(some 7), .call 181 [(.t 5), (.t 6)], none⟩, ⟨(some 8), .v (.bin .geq (.t 7) (.c (.int .i64 0))), none⟩, ⟨(some 4), .v (.mov (.t 8)), none⟩])
   .ret))⟩
theorem e148 : rFunc Tryz.prog Tryz.f148 = some r148 := by kernel_rfl
def r100 : RFunc := ⟨21, [.t 2],
 (.seq
  (.reg [⟨(some 1), .m (.box (.t 0)), none⟩, ⟨(some 2), .v (.mov (.c (.bool false))), none⟩])
  (.seq
   (.reg [⟨(some 4), .v (.faddr 1 (.t 1)), none⟩, ⟨(some 5), .v (.load false 1 (.t 4)), none⟩, ⟨(some 6), .v (.mkfn 149 [(.t 1)]), none⟩, ⟨(some 7), .call 148 [(.t 5), (.t 6)], none⟩, ⟨(some 3), .v (.mov (.t 7)), none⟩])
   (.seq
    (.reg [⟨(some 8), .v (.mov (.t 3)), none⟩, ⟨(some 9), .v (.un .not (.t 8)), none⟩, ⟨(some 10), .v (.mov (.t 9)), none⟩, ⟨(some 11), .v (.faddr 0 (.t 1)), (some (10, true))⟩, ⟨(some 12), .v (.load false 1 (.t 11)), (some (10, true))⟩, ⟨(some 13), .call 63 [(.t 12), (.c (.int .i64 1)), (.c (.int .i64 72))], (some (10, true))⟩, ⟨(some 14), .v (.pick (.t 10) (.t 13) (.c (.bool false))), none⟩, ⟨(some 15), .v (.mov (.t 14)), none⟩, ⟨(some 16), .v (.faddr 1 (.t 1)), (some (15, true))⟩, ⟨(some 17), .v (.load false 1 (.t 16)), (some (15, true))⟩, ⟨(some 18), .v (.len (.t 17)), (some (15, true))⟩, ⟨(some 19), .v (.bin .leq (.t 18) (.c (.int .i64 40))), (some (15, true))⟩, ⟨(some 20), .v (.pick (.t 15) (.t 19) (.c (.bool false))), none⟩, ⟨(some 2), .v (.mov (.t 20)), none⟩])
    .ret)))⟩
theorem e100 : rFunc Tryz.prog Tryz.f100 = some r100 := by kernel_rfl
def r39 : RFunc := ⟨26, [.cell true 2 6, .t 7],
 (.seq
  (.reg [⟨(some 6), .m (.alloc [(.int .i64 0), .nils]), none⟩, ⟨(some 7), .v (.mov (.c (.bool false))), none⟩])
  (.seq
   (.seq
    (.reg [⟨(some 8), .v (.mov (.t 0)), none⟩, ⟨(some 9), .call 92 [(.t 8)], none⟩, ⟨(some 10), .v (.un .not (.t 9)), none⟩, ⟨(some 11), .v (.mov (.t 10)), none⟩, ⟨(some 12), .v (.mov (.t 1)), (some (11, false))⟩, ⟨(some 13), .call 62 [(.t 12)], (some (11, false))⟩, ⟨(some 14), .v (.un .not (.t 13)), (some (11, false))⟩, ⟨(some 15), .v (.pick (.t 11) (.c (.bool true)) (.t 14)), none⟩, ⟨(some 16), .v (.mov (.t 15)), none⟩, ⟨(some 17), .v (.mov (.t 2)), (some (16, false))⟩, ⟨(some 18), .call 93 [(.t 17)], (some (16, false))⟩, ⟨(some 19), .v (.un .not (.t 18)), (some (16, false))⟩, ⟨(some 20), .v (.pick (.t 16) (.c (.bool true)) (.t 19)), none⟩])
    (.cond (.t 20)
     (.seq
      (.reg [⟨(some 21), .v (.bld [(.int .i64 0), .nils] []), none⟩, ⟨none, .m (.store 2 (.t 6) (.t 21)), none⟩, ⟨(some 7), .v (.mov (.c (.bool false))), none⟩])
      .ret)
     .skip))
   (.seq
    (.reg [⟨(some 22), .v (.mov (.t 0)), none⟩, ⟨(some 23), .v (.mov (.t 1)), none⟩, ⟨(some 24), .v (.mov (.t 2)), none⟩, ⟨(some 25), .call 81 [(.t 22), (.t 23), (.t 24)], none⟩, ⟨none, .m (.store 2 (.t 6) (.t 25)), none⟩, ⟨(some 7), .v (.mov (.c (.bool true))), none⟩])
    .ret)))⟩
theorem e39 : rFunc Tryz.prog Tryz.f39 = some r39 := by kernel_rfl
def r40 : RFunc := ⟨21, [.cell true 3 4, .t 5],
 (.seq
  (.reg [⟨(some 2), .m (.box (.t 0)), none⟩, ⟨(some 4), .m (.alloc [(.int .i64 0), .nils, .nils]), none⟩, ⟨(some 5), .v (.mov (.c (.bool false))), none⟩])
  (.seq
   (.seq
    (.reg [⟨(some 6), .v (.load true 2 (.t 2)), none⟩, ⟨(some 7), .call 100 [(.t 6)], none⟩, ⟨(some 8), .v (.un .not (.t 7)), none⟩, ⟨(some 9), .v (.mov (.t 8)), none⟩, ⟨(some 10), .v (.mov (.t 1)), (some (9, false))⟩, ⟨(some 11), .v (.len (.t 10)), (some (9, false))⟩, ⟨(some 12), .v (.faddr 1 (.t 2)), (some (9, false))⟩, ⟨(some 13), .v (.load false 1 (.t 12)), (some (9, false))⟩, ⟨(some 14), .v (.len (.t 13)), (some (9, false))⟩, ⟨(some 15), .v (.bin .neq (.t 11) (.t 14)), (some (9, false))⟩, ⟨(some 16), .v (.pick (.t 9) (.c (.bool true)) (.t 15)), none⟩])
    (.cond (.t 16)
     (.seq
      (.reg [⟨(some 17), .v (.bld [(.int .i64 0), .nils, .nils] []), none⟩, ⟨none, .m (.store 3 (.t 4) (.t 17)), none⟩, ⟨(some 5), .v (.mov (.c (.bool false))), none⟩])
      .ret)
     .skip))
   (.seq
    (.reg [⟨(some 18), .v (.load true 2 (.t 2)), none⟩, ⟨(some 19), .v (.mov (.t 1)), none⟩, ⟨(some 20), .call 101 [(.t 18), (.t 19)], none⟩, ⟨none, .m (.store 3 (.t 4) (.t 20)), none⟩, ⟨(some 5), .v (.mov (.c (.bool true))), none⟩])
    .ret)))⟩
theorem e40 : rFunc Tryz.prog Tryz.f40 = some r40 := by kernel_rfl
def r82 : RFunc := ⟨15, [.t 2, .t 3],
 (.seq
  (.reg [⟨(some 2), .v (.mov (.c .nils)), none⟩, ⟨(some 3), .v (.mov (.c (.bool false))), none⟩])
  (.seq
   (.reg [⟨(some 7), .v (.mov (.t 0)), none⟩, ⟨(some 8), .call 140 [(.t 7)], none⟩, ⟨(some 6), .v (.mov (.t 8)), none⟩, ⟨(some 9), .v (.ext (.t 6) 0), none⟩, ⟨(some 10), .v (.ext (.t 6) 1), none⟩, ⟨(some 4), .v (.mov (.t 9)), none⟩, ⟨(some 5), .v (.mov (.t 10)), none⟩])
   (.seq
    (.reg [⟨(some 11), .v (.mov (.t 4)), none⟩, ⟨(some 12), .v (.mov (.t 5)), none⟩, ⟨(some 13), .v (.len (.t 12)), none⟩, ⟨(some 14), .v (.bin .eql (.t 13) (.c (.int .i64 0))), none⟩, ⟨(some 2), .v (.mov (.t 11)), none⟩, ⟨(some 3), .v (.mov (.t 14)), none⟩])
    .ret)))⟩
theorem e82 : rFunc Tryz.prog Tryz.f82 = some r82 := by kernel_rfl
def r42 : RFunc := ⟨16, [.t 2, .t 3],
 (.seq
  (.reg [⟨(some 1), .m (.box (.t 0)), none⟩, ⟨(some 2), .v (.mov (.c .nils)), none⟩, ⟨(some 3), .v (.mov (.c (.bool false))), none⟩])
  (.seq
   (.seq
    (.reg [⟨(some 6), .v (.load true 2 (.t 1)), none⟩, ⟨(some 7), .call 100 [(.t 6)], none⟩, ⟨(some 8), .v (.un .not (.t 7)), none⟩])
    (.cond (.t 8)
     (.seq
      (.reg [⟨(some 2), .v (.mov (.c .nils)), none⟩, ⟨(some 3), .v (.mov (.c (.bool false))), none⟩])
      .ret)
     .skip))
   (.seq
    (.reg [⟨(some 10), .call 82 [(.t 1)], none⟩, ⟨(some 9), .v (.mov (.t 10)), none⟩, ⟨(some 11), .v (.ext (.t 9) 0), none⟩, ⟨(some 12), .v (.ext (.t 9) 1), none⟩, ⟨(some 4), .v (.mov (.t 11)), none⟩, ⟨(some 5), .v (.mov (.t 12)), none⟩])
    (.seq
     (.seq
      (.reg [⟨(some 13), .v (.mov (.t 5)), none⟩, ⟨(some 14), .v (.un .not (.t 13)), none⟩])
      (.cond (.t 14)
       (.seq
        (.reg [⟨(some 2), .v (.mov (.c .nils)), none⟩, ⟨(some 3), .v (.mov (.c (.bool false))), none⟩])
        .ret)
       .skip))
     (.seq
      (.reg [⟨(some 15), .v (.mov (.t 4)), none⟩, ⟨(some 2), .v (.mov (.t 15)), none⟩, ⟨(some 3), .v (.mov (.c (.bool true))), none⟩])
      .ret)))))⟩
theorem e42 : rFunc Tryz.prog Tryz.f42 = some r42 := by kernel_rfl
end Go.Proofs.YtjfgmimgmapeeaaGreat.M
