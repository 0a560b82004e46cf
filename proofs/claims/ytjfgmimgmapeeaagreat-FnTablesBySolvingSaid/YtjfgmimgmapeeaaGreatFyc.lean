/-
  The resolved text of the functions, each tied to the program's own by the kernel.
-/
import Derived.Test.YtjfgmimgmapeeaaGreatProg
import Derived.Test.YtjfgmimgmapeeaaGreatFyb
namespace Go.Proofs.YtjfgmimgmapeeaaGreat.M
open Go Go.RowKit
set_option maxRecDepth 100000

def r72 : RFunc := ⟨8, [.t 2],
 (.seq
  (.reg [⟨(some 2), .v (.mov (.c .nils)), none⟩])
  (.seq
   (.seq
    (.reg [⟨(some 3), .v (.mov (.t 0)), none⟩, ⟨(some 4), .v (.seq false (.t 3) (.c .nils)), none⟩])
    (.cond (.t 4)
     (.seq
      (.reg [⟨(some 2), .v (.mov (.c .nils)), none⟩])
      .ret)
     .skip))
   (.seq
    (.reg [⟨(some 5), .m (.bsl 1 0 [(.int .i64 0)] []), none⟩, ⟨(some 6), .v (.mov (.t 0)), none⟩, ⟨(some 7), .m (.app false 1 8 (.t 5) (.t 6)), none⟩, ⟨(some 2), .v (.mov (.t 7)), none⟩])
    .ret)))⟩
theorem e72 : rFunc Tryz.prog Tryz.f72 = some r72 := by kernel_rfl
def r115 : RFunc := ⟨9, [.cell true 2 2],
 (.seq
  (.reg [⟨(some 1), .m (.box (.t 0)), none⟩, ⟨(some 2), .m (.alloc [(.int .i64 0), .nils]), none⟩])
  (.seq
   (.dreg (.fl ⟨(some 3), .v (.faddr 0 (.t 1)), none⟩ (.fl ⟨(some 5), .v (.faddr 1 (.t 1)), none⟩ (.both (.nx ⟨(some 4), .v (.load false 1 (.t 3)), none⟩ (.nx ⟨(some 6), .v (.load false 1 (.t 5)), none⟩ (.nx ⟨(some 7), .call 72 [(.t 6)], none⟩ (.fl ⟨(some 8), .v (.bld [(.int .i64 0), .nils] [(0, 1, (.t 4)), (1, 1, (.t 7))]), none⟩ (.nx ⟨none, .m (.store 2 (.t 2) (.t 8)), none⟩ .done))))) (.nx ⟨(some 6), .v (.load false 1 (.t 5)), none⟩ (.both (.nx ⟨(some 4), .v (.load false 1 (.t 3)), none⟩ (.nx ⟨(some 7), .call 72 [(.t 6)], none⟩ (.fl ⟨(some 8), .v (.bld [(.int .i64 0), .nils] [(0, 1, (.t 4)), (1, 1, (.t 7))]), none⟩ (.nx ⟨none, .m (.store 2 (.t 2) (.t 8)), none⟩ .done)))) (.nx ⟨(some 7), .call 72 [(.t 6)], none⟩ (.nx ⟨(some 4), .v (.load false 1 (.t 3)), none⟩ (.fl ⟨(some 8), .v (.bld [(.int .i64 0), .nils] [(0, 1, (.t 4)), (1, 1, (.t 7))]), none⟩ (.nx ⟨none, .m (.store 2 (.t 2) (.t 8)), none⟩ .done))))))))))
   .ret))⟩
theorem e115 : rFunc Tryz.prog Tryz.f115 = some r115 := by kernel_rfl
def r89 : RFunc := ⟨18, [.t 4],
 (.seq
  (.reg [⟨(some 4), .v (.mov (.c (.bool false))), none⟩])
  (.seq
   (.reg [⟨(some 5), .v (.mov (.t 0)), none⟩, ⟨(some 6), .v (.nchk (.t 5)), none⟩, ⟨(some 7), .v (.faddr 1 (.t 6)), none⟩, ⟨(some 8), .v (.load false 1 (.t 7)), none⟩, ⟨(some 9), .v (.mov (.t 1)), none⟩, ⟨(some 10), .v (.bin .quo (.t 9) (.c (.int .i64 16))), none⟩, ⟨(some 11), .v (.iaddr 1 (.t 8) (.t 10)), none⟩, ⟨(some 12), .v (.load false 1 (.t 11)), none⟩, ⟨(some 13), .v (.mov (.t 1)), none⟩, ⟨(some 14), .v (.bin .rem (.t 13) (.c (.int .i64 16))), none⟩, ⟨(some 15), .v (.bin .shr (.t 12) (.t 14)), none⟩, ⟨(some 16), .v (.bin .and (.t 15) (.c (.int .i64 1))), none⟩, ⟨(some 17), .v (.bin .eql (.t 16) (.c (.int .i64 1))), none⟩, ⟨(some 4), .v (.mov (.t 17)), none⟩])
   .ret))⟩
theorem e89 : rFunc Tryz.prog Tryz.f89 = some r89 := by kernel_rfl
def r106 : RFunc := ⟨23, [.t 6],
 (.seq
  (.reg [⟨(some 6), .v (.mov (.c (.int .i64 0))), none⟩])
  (.seq
   (.block 0
    (.loop
     (.seq
      (.seq
       (.reg [⟨(some 7), .v (.mov (.t 1)), none⟩, ⟨(some 8), .v (.mov (.t 0)), none⟩, ⟨(some 9), .v (.nchk (.t 8)), none⟩, ⟨(some 10), .v (.faddr 0 (.t 9)), none⟩, ⟨(some 11), .v (.load false 1 (.t 10)), none⟩, ⟨(some 12), .v (.bin .lss (.t 7) (.t 11)), none⟩, ⟨(some 13), .v (.mov (.t 12)), none⟩, ⟨(some 14), .v (.mov (.t 0)), (some (13, true))⟩, ⟨(some 15), .v (.mov (.t 1)), (some (13, true))⟩, ⟨(some 16), .call 89 [(.t 14), (.t 15)], (some (13, true))⟩, ⟨(some 17), .v (.mov (.t 2)), (some (13, true))⟩, ⟨(some 18), .v (.beq true (.t 16) (.t 17)), (some (13, true))⟩, ⟨(some 19), .v (.pick (.t 13) (.t 18) (.c (.bool false))), none⟩])
       (.cond (.t 19)
        .skip
        (.exit 0)))
      (.block 1
       (.reg [⟨(some 20), .v (.mov (.t 1)), none⟩, ⟨(some 21), .v (.bin .add (.t 20) (.c (.int .i64 1))), none⟩, ⟨(some 1), .v (.mov (.t 21)), none⟩])))))
   (.seq
    (.reg [⟨(some 22), .v (.mov (.t 1)), none⟩, ⟨(some 6), .v (.mov (.t 22)), none⟩])
    .ret)))⟩
theorem e106 : rFunc Tryz.prog Tryz.f106 = some r106 := by kernel_rfl
def r105 : RFunc := ⟨52, [],
 (.seq
  (.seq
   (.reg [⟨(some 6), .v (.mov (.t 1)), none⟩, ⟨(some 7), .v (.nchk (.t 6)), none⟩, ⟨(some 8), .v (.faddr 0 (.t 7)), none⟩, ⟨(some 9), .v (.faddr 1 (.t 8)), none⟩, ⟨(some 10), .v (.load false 1 (.t 9)), none⟩, ⟨(some 11), .v (.len (.t 10)), none⟩, ⟨(some 12), .v (.mov (.c (.int .i64 0))), none⟩])
   (.block 0
    (.loop
     (.seq
      (.reg [⟨(some 13), .v (.bin .lss (.t 12) (.t 11)), none⟩])
      (.seq
       (.cond (.t 13)
        .skip
        (.exit 0))
       (.seq
        (.block 1
         (.seq
          (.reg [⟨(some 14), .v (.mov (.t 12)), none⟩, ⟨(some 15), .v (.iaddr 1 (.t 10) (.t 12)), none⟩, ⟨(some 16), .v (.load false 1 (.t 15)), none⟩, ⟨(some 4), .v (.mov (.t 14)), none⟩, ⟨(some 5), .v (.mov (.t 16)), none⟩])
          (.reg [⟨(some 17), .v (.mov (.t 0)), none⟩, ⟨(some 18), .v (.nchk (.t 17)), none⟩, ⟨(some 19), .v (.faddr 0 (.t 18)), none⟩, ⟨(some 20), .v (.faddr 1 (.t 19)), none⟩, ⟨(some 21), .v (.load false 1 (.t 20)), none⟩, ⟨(some 22), .v (.mov (.t 4)), none⟩, ⟨(some 23), .v (.iaddr 1 (.t 21) (.t 22)), none⟩, ⟨(some 24), .v (.load false 1 (.t 23)), none⟩, ⟨(some 25), .v (.mov (.t 5)), none⟩, ⟨(some 26), .v (.bin .xor (.t 24) (.t 25)), none⟩, ⟨(some 27), .v (.iaddr 1 (.t 21) (.t 22)), none⟩, ⟨none, .m (.store 1 (.t 27) (.t 26)), none⟩])))
        (.reg [⟨(some 28), .v (.bin .add (.t 12) (.c (.int .i64 1))), none⟩, ⟨(some 12), .v (.mov (.t 28)), none⟩])))))))
  (.seq
   (.dreg (.fl ⟨(some 29), .v (.mov (.t 0)), none⟩ (.fl ⟨(some 30), .v (.mov (.t 0)), none⟩ (.fl ⟨(some 31), .v (.nchk (.t 30)), none⟩ (.fl ⟨(some 32), .v (.faddr 2 (.t 31)), none⟩ (.fl ⟨(some 34), .v (.mov (.t 1)), none⟩ (.fl ⟨(some 35), .v (.nchk (.t 34)), none⟩ (.fl ⟨(some 36), .v (.faddr 2 (.t 35)), none⟩ (.both (.nx ⟨(some 33), .v (.load false 1 (.t 32)), none⟩ (.nx ⟨(some 37), .v (.load false 1 (.t 36)), none⟩ (.fl ⟨(some 38), .v (.beq true (.t 33) (.t 37)), none⟩ (.fl ⟨(some 39), .v (.nchk (.t 29)), none⟩ (.fl ⟨(some 40), .v (.faddr 2 (.t 39)), none⟩ (.nx ⟨none, .m (.store 1 (.t 40) (.t 38)), none⟩ .done)))))) (.nx ⟨(some 37), .v (.load false 1 (.t 36)), none⟩ (.nx ⟨(some 33), .v (.load false 1 (.t 32)), none⟩ (.fl ⟨(some 38), .v (.beq true (.t 33) (.t 37)), none⟩ (.fl ⟨(some 39), .v (.nchk (.t 29)), none⟩ (.fl ⟨(some 40), .v (.faddr 2 (.t 39)), none⟩ (.nx ⟨none, .m (.store 1 (.t 40) (.t 38)), none⟩ .done)))))))))))))))
   (.dreg (.fl ⟨(some 41), .v (.mov (.t 0)), none⟩ (.fl ⟨(some 42), .v (.nchk (.t 41)), none⟩ (.fl ⟨(some 43), .v (.faddr 3 (.t 42)), none⟩ (.fl ⟨(some 45), .v (.mov (.t 1)), none⟩ (.fl ⟨(some 46), .v (.nchk (.t 45)), none⟩ (.fl ⟨(some 47), .v (.faddr 3 (.t 46)), none⟩ (.both (.nx ⟨(some 44), .v (.load false 1 (.t 43)), none⟩ (.nx ⟨(some 48), .v (.load false 1 (.t 47)), none⟩ (.fl ⟨(some 49), .v (.bin .xor (.t 44) (.t 48)), none⟩ (.fl ⟨(some 50), .v (.nchk (.t 41)), none⟩ (.fl ⟨(some 51), .v (.faddr 3 (.t 50)), none⟩ (.nx ⟨none, .m (.store 1 (.t 51) (.t 49)), none⟩ .done)))))) (.nx ⟨(some 48), .v (.load false 1 (.t 47)), none⟩ (.nx ⟨(some 44), .v (.load false 1 (.t 43)), none⟩ (.fl ⟨(some 49), .v (.bin .xor (.t 44) (.t 48)), none⟩ (.fl ⟨(some 50), .v (.nchk (.t 41)), none⟩ (.fl ⟨(some 51), .v (.faddr 3 (.t 50)), none⟩ (.nx ⟨none, .m (.store 1 (.t 51) (.t 49)), none⟩ .done))))))))))))))))⟩
theorem e105 : rFunc Tryz.prog Tryz.f105 = some r105 := by kernel_rfl
def r145 : RFunc := ⟨10, [.t 4],
 (.seq
  (.reg [⟨(some 2), .m (.box (.t 0)), none⟩, ⟨(some 3), .m (.box (.t 1)), none⟩, ⟨(some 4), .v (.mov (.c (.int .i64 0))), none⟩])
  (.seq
   (.reg [⟨(some 5), .v (.faddr 0 (.t 2)), none⟩, ⟨(some 6), .call 106 [(.t 5), (.c (.int .i64 0)), (.c (.bool true))], none⟩, ⟨(some 7), .v (.faddr 0 (.t 3)), none⟩, ⟨(some 8), .call 106 [(.t 7), (.c (.int .i64 0)), (.c (.bool true))], none⟩, ⟨(some 9), .v (.bin .sub (.t 6) (.t 8)), none⟩, ⟨(some 4), .v (.mov (.t 9)), none⟩])
   .ret))⟩
theorem e145 : rFunc Tryz.prog Tryz.f145 = some r145 := by kernel_rfl
def r90 : RFunc := ⟨84, [.t 2, .t 3],
 (.seq
  (.reg [⟨(some 1), .m (.box (.t 0)), none⟩, ⟨(some 2), .v (.mov (.c .nils)), none⟩, ⟨(some 3), .v (.mov (.c (.int .u64 0))), none⟩])
  (.seq
   (.seq
    (.reg [⟨(some 10), .v (.faddr 1 (.t 1)), none⟩, ⟨(some 11), .v (.load false 1 (.t 10)), none⟩, ⟨(some 12), .v (.len (.t 11)), none⟩, ⟨(some 13), .v (.mov (.c (.int .i64 0))), none⟩])
    (.block 0
     (.loop
      (.seq
       (.reg [⟨(some 14), .v (.bin .lss (.t 13) (.t 12)), none⟩])
       (.seq
        (.cond (.t 14)
         .skip
         (.exit 0))
        (.seq
         (.block 1
          (.seq
           (.reg [⟨(some 15), .v (.mov (.t 13)), none⟩, ⟨(some 16), .v (.iaddr 2 (.t 11) (.t 13)), none⟩, ⟨(some 17), .v (.load true 2 (.t 16)), none⟩, ⟨(some 5), .m (.alloc [(.int .i64 0), .nils]), none⟩, ⟨(some 4), .v (.mov (.t 15)), none⟩, ⟨none, .m (.store 2 (.t 5) (.t 17)), none⟩])
           (.seq
            (.dreg (.fl ⟨(some 18), .v (.load true 2 (.t 5)), none⟩ (.fl ⟨(some 20), .v (.faddr 2 (.t 1)), none⟩ (.fl ⟨(some 21), .v (.load false 1 (.t 20)), none⟩ (.fl ⟨(some 22), .v (.mov (.t 4)), none⟩ (.fl ⟨(some 23), .v (.iaddr 1 (.t 21) (.t 22)), none⟩ (.fl ⟨(some 24), .v (.load false 1 (.t 23)), none⟩ (.fl ⟨(some 25), .v (.mov (.t 4)), none⟩ (.fl ⟨(some 26), .v (.bin .shl (.c (.int .u64 1)) (.t 25)), none⟩ (.both (.nx ⟨(some 19), .call 115 [(.t 18)], none⟩ (.fl ⟨(some 27), .v (.bld [(.int .i64 0), .nils, (.bool false), (.int .u64 0)] [(0, 2, (.t 19)), (2, 1, (.t 24)), (3, 1, (.t 26))]), none⟩ (.nx ⟨(some 6), .m (.alloc [(.int .i64 0), .nils, (.bool false), (.int .u64 0)]), none⟩ (.nx ⟨none, .m (.store 4 (.t 6) (.t 27)), none⟩ .done)))) (.nx ⟨(some 6), .m (.alloc [(.int .i64 0), .nils, (.bool false), (.int .u64 0)]), none⟩ (.nx ⟨(some 19), .call 115 [(.t 18)], none⟩ (.fl ⟨(some 27), .v (.bld [(.int .i64 0), .nils, (.bool false), (.int .u64 0)] [(0, 2, (.t 19)), (2, 1, (.t 24)), (3, 1, (.t 26))]), none⟩ (.nx ⟨none, .m (.store 4 (.t 6) (.t 27)), none⟩ .done))))))))))))))
            (.seq
             (.seq
              (.reg [⟨(some 28), .v (.mov (.t 2)), none⟩, ⟨(some 29), .v (.len (.t 28)), none⟩, ⟨(some 30), .v (.mov (.c (.int .i64 0))), none⟩])
              (.block 2
               (.loop
                (.seq
                 (.reg [⟨(some 31), .v (.bin .lss (.t 30) (.t 29)), none⟩])
                 (.seq
                  (.cond (.t 31)
                   .skip
                   (.exit 2))
                  (.seq
                   (.block 3
                    (.seq
                     (.reg [⟨(some 32), .v (.mov (.t 30)), none⟩, ⟨(some 7), .v (.mov (.t 32)), none⟩])
                     (.seq
                      (.reg [⟨(some 33), .v (.faddr 0 (.t 6)), none⟩, ⟨(some 34), .v (.mov (.t 2)), none⟩, ⟨(some 35), .v (.mov (.t 7)), none⟩, ⟨(some 36), .v (.iaddr 4 (.t 34) (.t 35)), none⟩, ⟨(some 37), .v (.faddr 0 (.t 36)), none⟩, ⟨(some 38), .call 106 [(.t 37), (.c (.int .i64 0)), (.c (.bool true))], none⟩, ⟨(some 39), .call 89 [(.t 33), (.t 38)], none⟩])
                      (.cond (.t 39)
                       (.reg [⟨(some 40), .v (.mov (.t 2)), none⟩, ⟨(some 41), .v (.mov (.t 7)), none⟩, ⟨(some 42), .v (.iaddr 4 (.t 40) (.t 41)), none⟩, ⟨(some 43), .call 105 [(.t 6), (.t 42)], none⟩])
                       .skip))))
                   (.reg [⟨(some 44), .v (.bin .add (.t 30) (.c (.int .i64 1))), none⟩, ⟨(some 30), .v (.mov (.t 44)), none⟩])))))))
             (.seq
              (.reg [⟨(some 45), .v (.faddr 0 (.t 6)), none⟩, ⟨(some 46), .call 106 [(.t 45), (.c (.int .i64 0)), (.c (.bool true))], none⟩, ⟨(some 8), .v (.mov (.t 46)), none⟩])
              (.seq
               (.seq
                (.reg [⟨(some 47), .v (.mov (.t 8)), none⟩, ⟨(some 48), .v (.faddr 0 (.t 1)), none⟩, ⟨(some 49), .v (.load false 1 (.t 48)), none⟩, ⟨(some 50), .v (.bin .eql (.t 47) (.t 49)), none⟩])
                (.cond (.t 50)
                 (.seq
                  (.seq
                   (.reg [⟨(some 51), .v (.faddr 2 (.t 6)), none⟩, ⟨(some 52), .v (.load false 1 (.t 51)), none⟩, ⟨(some 53), .v (.mov (.t 52)), none⟩, ⟨(some 54), .v (.mov (.t 3)), (some (53, true))⟩, ⟨(some 55), .v (.bin .eql (.t 54) (.c (.int .u64 0))), (some (53, true))⟩, ⟨(some 56), .v (.pick (.t 53) (.t 55) (.c (.bool false))), none⟩])
                   (.cond (.t 56)
                    (.reg [⟨(some 57), .v (.faddr 3 (.t 6)), none⟩, ⟨(some 58), .v (.load false 1 (.t 57)), none⟩, ⟨(some 3), .v (.mov (.t 58)), none⟩])
                    .skip))
                  (.exit 1))
                 .skip))
               (.seq
                (.seq
                 (.reg [⟨(some 59), .v (.mov (.t 2)), none⟩, ⟨(some 60), .v (.len (.t 59)), none⟩, ⟨(some 61), .v (.mov (.c (.int .i64 0))), none⟩])
                 (.block 4
                  (.loop
                   (.seq
                    (.reg [⟨(some 62), .v (.bin .lss (.t 61) (.t 60)), none⟩])
                    (.seq
                     (.cond (.t 62)
                      .skip
                      (.exit 4))
                     (.seq
                      (.block 5
                       (.seq
                        (.reg [⟨(some 63), .v (.mov (.t 61)), none⟩, ⟨(some 9), .v (.mov (.t 63)), none⟩])
                        (.seq
                         (.reg [⟨(some 64), .v (.mov (.t 2)), none⟩, ⟨(some 65), .v (.mov (.t 9)), none⟩, ⟨(some 66), .v (.iaddr 4 (.t 64) (.t 65)), none⟩, ⟨(some 67), .v (.faddr 0 (.t 66)), none⟩, ⟨(some 68), .v (.mov (.t 8)), none⟩, ⟨(some 69), .call 89 [(.t 67), (.t 68)], none⟩])
                         (.cond (.t 69)
                          (.reg [⟨(some 70), .v (.mov (.t 2)), none⟩, ⟨(some 71), .v (.mov (.t 9)), none⟩, ⟨(some 72), .v (.iaddr 4 (.t 70) (.t 71)), none⟩, ⟨(some 73), .call 105 [(.t 72), (.t 6)], none⟩])
                          .skip))))
                      (.reg [⟨(some 74), .v (.bin .add (.t 61) (.c (.int .i64 1))), none⟩, ⟨(some 61), .v (.mov (.t 74)), none⟩])))))))
                (.reg [⟨(some 75), .v (.mov (.t 2)), none⟩, ⟨(some 76), .v (.load true 4 (.t 6)), none⟩, ⟨(some 77), .m (.bsl 4 1 [(.int .i64 0), .nils, (.bool false), (.int .u64 0)] [(0, 4, (.t 76))]), none⟩, ⟨(some 78), .m (.app false 4 48 (.t 75) (.t 77)), none⟩, ⟨(some 2), .v (.mov (.t 78)), none⟩]))))))))
         (.reg [⟨(some 79), .v (.bin .add (.t 13) (.c (.int .i64 1))), none⟩, ⟨(some 13), .v (.mov (.t 79)), none⟩])))))))
   (.seq
    (.reg [⟨(some 80), .v (.mov (.t 2)), none⟩, ⟨(some 81), .call 144 [(.t 80), (.c (.fn 145 []))], none⟩])
    (.seq
     (.reg [⟨(some 82), .v (.mov (.t 2)), none⟩, ⟨(some 83), .v (.mov (.t 3)), none⟩, ⟨(some 2), .v (.mov (.t 82)), none⟩, ⟨(some 3), .v (.mov (.t 83)), none⟩])
     .ret))))⟩
theorem e90 : rFunc Tryz.prog Tryz.f90 = some r90 := by kernel_rfl
def r91 : RFunc := ⟨20, [.t 2],
 (.seq
  (.reg [⟨(some 2), .v (.mov (.c .nils)), none⟩])
  (.seq
   (.reg [⟨(some 5), .m (.bsl 1 0 [(.int .i64 0)] []), none⟩, ⟨(some 3), .v (.mov (.t 5)), none⟩])
   (.seq
    (.seq
     (.reg [⟨(some 6), .v (.mov (.c (.int .i64 0))), none⟩])
     (.block 0
      (.loop
       (.seq
        (.reg [⟨(some 7), .v (.bin .lss (.t 6) (.c (.int .i64 64))), none⟩])
        (.seq
         (.cond (.t 7)
          .skip
          (.exit 0))
         (.seq
          (.block 1
           (.seq
            (.reg [⟨(some 8), .v (.mov (.t 6)), none⟩, ⟨(some 4), .v (.mov (.t 8)), none⟩])
            (.seq
             (.reg [⟨(some 9), .v (.mov (.t 0)), none⟩, ⟨(some 10), .v (.mov (.t 4)), none⟩, ⟨(some 11), .v (.bin .shr (.t 9) (.t 10)), none⟩, ⟨(some 12), .v (.bin .and (.t 11) (.c (.int .u64 1))), none⟩, ⟨(some 13), .v (.bin .eql (.t 12) (.c (.int .u64 1))), none⟩])
             (.cond (.t 13)
              (.reg [⟨(some 14), .v (.mov (.t 3)), none⟩, ⟨(some 15), .v (.mov (.t 4)), none⟩, ⟨(some 16), .m (.bsl 1 1 [(.int .i64 0)] [(0, 1, (.t 15))]), none⟩, ⟨(some 17), .m (.app false 1 8 (.t 14) (.t 16)), none⟩, ⟨(some 3), .v (.mov (.t 17)), none⟩])
              .skip))))
          (.reg [⟨(some 18), .v (.bin .add (.t 6) (.c (.int .i64 1))), none⟩, ⟨(some 6), .v (.mov (.t 18)), none⟩])))))))
    (.seq
     (.reg [⟨(some 19), .v (.mov (.t 3)), none⟩, ⟨(some 2), .v (.mov (.t 19)), none⟩])
     .ret))))⟩
theorem e91 : rFunc Tryz.prog Tryz.f91 = some r91 := by kernel_rfl
def r111 : RFunc := ⟨16, [.t 4],
 (.seq
  (.reg [⟨(some 2), .m (.box (.t 0)), none⟩, ⟨(some 4), .v (.mov (.c (.bool false))), none⟩])
  (.seq
   (.reg [⟨(some 5), .v (.faddr 1 (.t 2)), none⟩, ⟨(some 6), .v (.load false 1 (.t 5)), none⟩, ⟨(some 7), .v (.mov (.t 1)), none⟩, ⟨(some 8), .v (.bin .quo (.t 7) (.c (.int .i64 16))), none⟩, ⟨(some 9), .v (.iaddr 1 (.t 6) (.t 8)), none⟩, ⟨(some 10), .v (.load false 1 (.t 9)), none⟩, ⟨(some 11), .v (.mov (.t 1)), none⟩, ⟨(some 12), .v (.bin .rem (.t 11) (.c (.int .i64 16))), none⟩, ⟨(some 13), .v (.bin .shr (.t 10) (.t 12)), none⟩, ⟨(some 14), .v (.bin .and (.t 13) (.c (.int .i64 1))), none⟩, ⟨(some 15), .v (.bin .eql (.t 14) (.c (.int .i64 1))), none⟩, ⟨(some 4), .v (.mov (.t 15)), none⟩])
   .ret))⟩
theorem e111 : rFunc Tryz.prog Tryz.f111 = some r111 := by kernel_rfl
def r203 : RFunc := ⟨21, [.t 6],
 (.seq
  (.reg [⟨(some 3), .m (.box (.t 0)), none⟩, ⟨(some 6), .v (.mov (.c (.int .i64 0))), none⟩])
  (.seq
   (.seq
    (.reg [⟨(some 8), .v (.mov (.t 1)), none⟩, ⟨(some 7), .v (.mov (.t 8)), none⟩])
    (.block 0
     (.loop
      (.seq
       (.seq
        (.reg [⟨(some 9), .v (.mov (.t 7)), none⟩, ⟨(some 10), .v (.faddr 0 (.t 3)), none⟩, ⟨(some 11), .v (.load false 1 (.t 10)), none⟩, ⟨(some 12), .v (.bin .lss (.t 9) (.t 11)), none⟩])
        (.cond (.t 12)
         .skip
         (.exit 0)))
       (.seq
        (.block 1
         (.seq
          (.reg [⟨(some 15), .v (.load true 2 (.t 3)), none⟩, ⟨(some 16), .v (.mov (.t 7)), none⟩, ⟨(some 17), .call 111 [(.t 15), (.t 16)], none⟩, ⟨(some 18), .v (.mov (.t 2)), none⟩, ⟨(some 19), .v (.beq false (.t 17) (.t 18)), none⟩])
          (.cond (.t 19)
           (.seq
            (.reg [⟨(some 20), .v (.mov (.t 7)), none⟩, ⟨(some 6), .v (.mov (.t 20)), none⟩])
            .ret)
           .skip)))
        (.reg [⟨(some 13), .v (.mov (.t 7)), none⟩, ⟨(some 14), .v (.bin .add (.t 13) (.c (.int .i64 1))), none⟩, ⟨(some 7), .v (.mov (.t 14)), none⟩]))))))
   (.seq
    (.reg [⟨(some 6), .v (.mov (.c (.int .i64 (-1)))), none⟩])
    .ret)))⟩
theorem e203 : rFunc Tryz.prog Tryz.f203 = some r203 := by kernel_rfl
def r180 : RFunc := ⟨5, [.t 2],
 (.seq
  (.reg [⟨(some 1), .m (.box (.t 0)), none⟩, ⟨(some 2), .v (.mov (.c (.int .i64 0))), none⟩])
  (.seq
   (.reg [⟨(some 3), .v (.load true 2 (.t 1)), none⟩, ⟨(some 4), .call 203 [(.t 3), (.c (.int .i64 0)), (.c (.bool true))], none⟩, ⟨(some 2), .v (.mov (.t 4)), none⟩])
   .ret))⟩
theorem e180 : rFunc Tryz.prog Tryz.f180 = some r180 := by kernel_rfl
def r109 : RFunc := ⟨9, [.cell true 2 2],
 (.seq
  (.reg [⟨(some 2), .m (.alloc [(.int .i64 0), .nils]), none⟩])
  (.seq
   (.reg [⟨(some 3), .v (.mov (.t 0)), none⟩, ⟨(some 4), .v (.mov (.t 0)), none⟩, ⟨(some 5), .v (.bin .add (.t 4) (.c (.int .i64 15))), none⟩, ⟨(some 6), .v (.bin .quo (.t 5) (.c (.int .i64 16))), none⟩, ⟨(some 7), .m (.mks 1 8 [(.int .i64 0)] (.t 6) (.t 6)), none⟩, ⟨(some 8), .v (.bld [(.int .i64 0), .nils] [(0, 1, (.t 3)), (1, 1, (.t 7))]), none⟩, ⟨none, .m (.store 2 (.t 2) (.t 8)), none⟩])
   .ret))⟩
theorem e109 : rFunc Tryz.prog Tryz.f109 = some r109 := by kernel_rfl
def r112 : RFunc := ⟨15, [],
 (.seq
  (.reg [⟨(some 2), .m (.box (.t 0)), none⟩])
  (.dreg (.fl ⟨(some 4), .v (.faddr 1 (.t 2)), none⟩ (.fl ⟨(some 6), .v (.mov (.t 1)), none⟩ (.fl ⟨(some 7), .v (.bin .quo (.t 6) (.c (.int .i64 16))), none⟩ (.fl ⟨(some 10), .v (.mov (.t 1)), none⟩ (.fl ⟨(some 11), .v (.bin .rem (.t 10) (.c (.int .i64 16))), none⟩ (.fl ⟨(some 12), .v (.bin .shl (.c (.int .i64 1)) (.t 11)), none⟩ (.nx ⟨(some 5), .v (.load false 1 (.t 4)), none⟩ (.fl ⟨(some 8), .v (.iaddr 1 (.t 5) (.t 7)), none⟩ (.nx ⟨(some 9), .v (.load false 1 (.t 8)), none⟩ (.fl ⟨(some 13), .v (.bin .or (.t 9) (.t 12)), none⟩ (.fl ⟨(some 14), .v (.iaddr 1 (.t 5) (.t 7)), none⟩ (.nx ⟨none, .m (.store 1 (.t 14) (.t 13)), none⟩ .done))))))))))))))⟩
theorem e112 : rFunc Tryz.prog Tryz.f112 = some r112 := by kernel_rfl
def r158 : RFunc := ⟨27, [.cell true 2 4],
 (.seq
  (.reg [⟨(some 2), .m (.box (.t 0)), none⟩, ⟨(some 3), .m (.box (.t 1)), none⟩, ⟨(some 4), .m (.alloc [(.int .i64 0), .nils]), none⟩])
  (.seq
   (.reg [⟨(some 7), .v (.faddr 0 (.t 2)), none⟩, ⟨(some 8), .v (.load false 1 (.t 7)), none⟩, ⟨(some 9), .call 109 [(.t 8)], none⟩, ⟨(some 5), .m (.alloc [(.int .i64 0), .nils]), none⟩, ⟨none, .m (.store 2 (.t 5) (.t 9)), none⟩])
   (.seq
    (.seq
     (.reg [⟨(some 6), .v (.mov (.c (.int .i64 0))), none⟩])
     (.block 0
      (.loop
       (.seq
        (.seq
         (.reg [⟨(some 10), .v (.mov (.t 6)), none⟩, ⟨(some 11), .v (.faddr 0 (.t 2)), none⟩, ⟨(some 12), .v (.load false 1 (.t 11)), none⟩, ⟨(some 13), .v (.bin .lss (.t 10) (.t 12)), none⟩])
         (.cond (.t 13)
          .skip
          (.exit 0)))
        (.seq
         (.block 1
          (.seq
           (.dreg (.fl ⟨(some 16), .v (.load true 2 (.t 2)), none⟩ (.fl ⟨(some 17), .v (.mov (.t 6)), none⟩ (.fl ⟨(some 19), .v (.load true 2 (.t 3)), none⟩ (.fl ⟨(some 20), .v (.mov (.t 6)), none⟩ (.nx ⟨(some 18), .call 111 [(.t 16), (.t 17)], none⟩ (.nx ⟨(some 21), .call 111 [(.t 19), (.t 20)], none⟩ (.fl ⟨(some 22), .v (.beq true (.t 18) (.t 21)), none⟩ .done))))))))
           (.cond (.t 22)
            (.reg [⟨(some 23), .v (.load true 2 (.t 5)), none⟩, ⟨(some 24), .v (.mov (.t 6)), none⟩, ⟨(some 25), .call 112 [(.t 23), (.t 24)], none⟩])
            .skip)))
         (.reg [⟨(some 14), .v (.mov (.t 6)), none⟩, ⟨(some 15), .v (.bin .add (.t 14) (.c (.int .i64 1))), none⟩, ⟨(some 6), .v (.mov (.t 15)), none⟩]))))))
    (.seq
     (.reg [⟨(some 26), .v (.load true 2 (.t 5)), none⟩, ⟨none, .m (.store 2 (.t 4) (.t 26)), none⟩])
     .ret))))⟩
theorem e158 : rFunc Tryz.prog Tryz.f158 = some r158 := by kernel_rfl
def r191 : RFunc := ⟨17, [.t 4],
 (.seq
  (.reg [⟨(some 4), .v (.mov (.c (.bool false))), none⟩])
  (.seq
   (.seq
    (.reg [⟨(some 7), .v (.mov (.t 0)), none⟩, ⟨(some 8), .v (.len (.t 7)), none⟩, ⟨(some 9), .v (.mov (.c (.int .i64 0))), none⟩])
    (.block 0
     (.loop
      (.seq
       (.reg [⟨(some 10), .v (.bin .lss (.t 9) (.t 8)), none⟩])
       (.seq
        (.cond (.t 10)
         .skip
         (.exit 0))
        (.seq
         (.block 1
          (.seq
           (.reg [⟨(some 11), .v (.iaddr 1 (.t 7) (.t 9)), none⟩, ⟨(some 12), .v (.load false 1 (.t 11)), none⟩, ⟨(some 6), .v (.mov (.t 12)), none⟩])
           (.seq
            (.reg [⟨(some 13), .v (.mov (.t 6)), none⟩, ⟨(some 14), .v (.mov (.t 1)), none⟩, ⟨(some 15), .v (.bin .eql (.t 13) (.t 14)), none⟩])
            (.cond (.t 15)
             (.seq
              (.reg [⟨(some 4), .v (.mov (.c (.bool true))), none⟩])
              .ret)
             .skip))))
         (.reg [⟨(some 16), .v (.bin .add (.t 9) (.c (.int .i64 1))), none⟩, ⟨(some 9), .v (.mov (.t 16)), none⟩])))))))
   (.seq
    (.reg [⟨(some 4), .v (.mov (.c (.bool false))), none⟩])
    .ret)))⟩
theorem e191 : rFunc Tryz.prog Tryz.f191 = some r191 := by kernel_rfl
def r210 : RFunc := ⟨48, [.t 4],
 (.seq
  (.reg [⟨(some 4), .v (.mov (.c .nils)), none⟩])
  (.seq
   (.reg [⟨(some 5), .v (.mov (.c (.int .i64 0))), none⟩])
   (.seq
    (.block 0
     (.loop
      (.seq
       (.seq
        (.reg [⟨(some 7), .v (.mov (.t 5)), none⟩, ⟨(some 8), .v (.mov (.t 0)), none⟩, ⟨(some 9), .v (.len (.t 8)), none⟩, ⟨(some 10), .v (.bin .lss (.t 7) (.t 9)), none⟩, ⟨(some 11), .v (.mov (.t 10)), none⟩, ⟨(some 12), .v (.mov (.t 0)), (some (11, true))⟩, ⟨(some 13), .v (.mov (.t 5)), (some (11, true))⟩, ⟨(some 14), .v (.iaddr 1 (.t 12) (.t 13)), (some (11, true))⟩, ⟨(some 15), .v (.load false 1 (.t 14)), (some (11, true))⟩, ⟨(some 16), .v (.mov (.t 1)), (some (11, true))⟩, ⟨(some 17), .v (.bin .lss (.t 15) (.t 16)), (some (11, true))⟩, ⟨(some 18), .v (.pick (.t 11) (.t 17) (.c (.bool false))), none⟩])
        (.cond (.t 18)
         .skip
         (.exit 0)))
       (.block 1
        (.reg [⟨(some 19), .v (.mov (.t 5)), none⟩, ⟨(some 20), .v (.bin .add (.t 19) (.c (.int .i64 1))), none⟩, ⟨(some 5), .v (.mov (.t 20)), none⟩])))))
    (.seq
     (.seq
      (.reg [⟨(some 21), .v (.mov (.t 5)), none⟩, ⟨(some 22), .v (.mov (.t 0)), none⟩, ⟨(some 23), .v (.len (.t 22)), none⟩, ⟨(some 24), .v (.bin .lss (.t 21) (.t 23)), none⟩, ⟨(some 25), .v (.mov (.t 24)), none⟩, ⟨(some 26), .v (.mov (.t 0)), (some (25, true))⟩, ⟨(some 27), .v (.mov (.t 5)), (some (25, true))⟩, ⟨(some 28), .v (.iaddr 1 (.t 26) (.t 27)), (some (25, true))⟩, ⟨(some 29), .v (.load false 1 (.t 28)), (some (25, true))⟩, ⟨(some 30), .v (.mov (.t 1)), (some (25, true))⟩, ⟨(some 31), .v (.bin .eql (.t 29) (.t 30)), (some (25, true))⟩, ⟨(some 32), .v (.pick (.t 25) (.t 31) (.c (.bool false))), none⟩])
      (.cond (.t 32)
       (.seq
        (.reg [⟨(some 33), .v (.mov (.t 0)), none⟩, ⟨(some 4), .v (.mov (.t 33)), none⟩])
        .ret)
       .skip))
     (.seq
      (.reg [⟨(some 34), .m (.bsl 1 0 [(.int .i64 0)] []), none⟩, ⟨(some 35), .v (.mov (.t 0)), none⟩, ⟨(some 36), .v (.mov (.t 5)), none⟩, ⟨(some 37), .v (.slc 1 (.t 35) none (some (.t 36))), none⟩, ⟨(some 38), .m (.app false 1 8 (.t 34) (.t 37)), none⟩, ⟨(some 6), .v (.mov (.t 38)), none⟩])
      (.seq
       (.reg [⟨(some 39), .v (.mov (.t 6)), none⟩, ⟨(some 40), .v (.mov (.t 1)), none⟩, ⟨(some 41), .m (.bsl 1 1 [(.int .i64 0)] [(0, 1, (.t 40))]), none⟩, ⟨(some 42), .m (.app false 1 8 (.t 39) (.t 41)), none⟩, ⟨(some 6), .v (.mov (.t 42)), none⟩])
       (.seq
        (.reg [⟨(some 43), .v (.mov (.t 6)), none⟩, ⟨(some 44), .v (.mov (.t 0)), none⟩, ⟨(some 45), .v (.mov (.t 5)), none⟩, ⟨(some 46), .v (.slc 1 (.t 44) (some (.t 45)) none), none⟩, ⟨(some 47), .m (.app false 1 8 (.t 43) (.t 46)), none⟩, ⟨(some 4), .v (.mov (.t 47)), none⟩])
        .ret)))))))⟩
theorem e210 : rFunc Tryz.prog Tryz.f210 = some r210 := by kernel_rfl
def r202 : RFunc := ⟨58, [.cell true 4 4],
 (.seq
  (.reg [⟨(some 2), .m (.box (.t 0)), none⟩, ⟨(some 3), .m (.box (.t 1)), none⟩, ⟨(some 4), .m (.alloc [(.int .i64 0), .nils, (.bool false), .nils]), none⟩])
  (.seq
   (.dreg (.fl ⟨(some 10), .v (.faddr 0 (.t 2)), none⟩ (.fl ⟨(some 11), .v (.load true 2 (.t 10)), none⟩ (.fl ⟨(some 12), .v (.faddr 0 (.t 3)), none⟩ (.fl ⟨(some 13), .v (.load true 2 (.t 12)), none⟩ (.fl ⟨(some 15), .v (.faddr 2 (.t 2)), none⟩ (.fl ⟨(some 16), .v (.load false 1 (.t 15)), none⟩ (.fl ⟨(some 17), .v (.faddr 2 (.t 3)), none⟩ (.fl ⟨(some 18), .v (.load false 1 (.t 17)), none⟩ (.fl ⟨(some 19), .v (.beq true (.t 16) (.t 18)), none⟩ (.both (.nx ⟨(some 14), .call 158 [(.t 11), (.t 13)], none⟩ (.fl ⟨(some 20), .v (.bld [(.int .i64 0), .nils, (.bool false), .nils] [(0, 2, (.t 14)), (2, 1, (.t 19))]), none⟩ (.nx ⟨(some 5), .m (.alloc [(.int .i64 0), .nils, (.bool false), .nils]), none⟩ (.nx ⟨none, .m (.store 4 (.t 5) (.t 20)), none⟩ .done)))) (.nx ⟨(some 5), .m (.alloc [(.int .i64 0), .nils, (.bool false), .nils]), none⟩ (.nx ⟨(some 14), .call 158 [(.t 11), (.t 13)], none⟩ (.fl ⟨(some 20), .v (.bld [(.int .i64 0), .nils, (.bool false), .nils] [(0, 2, (.t 14)), (2, 1, (.t 19))]), none⟩ (.nx ⟨none, .m (.store 4 (.t 5) (.t 20)), none⟩ .done)))))))))))))))
   (.seq
    (.seq
     (.reg [⟨(some 21), .v (.faddr 3 (.t 2)), none⟩, ⟨(some 22), .v (.load false 1 (.t 21)), none⟩, ⟨(some 23), .v (.len (.t 22)), none⟩, ⟨(some 24), .v (.mov (.c (.int .i64 0))), none⟩])
     (.block 0
      (.loop
       (.seq
        (.reg [⟨(some 25), .v (.bin .lss (.t 24) (.t 23)), none⟩])
        (.seq
         (.cond (.t 25)
          .skip
          (.exit 0))
         (.seq
          (.block 1
           (.seq
            (.reg [⟨(some 26), .v (.iaddr 1 (.t 22) (.t 24)), none⟩, ⟨(some 27), .v (.load false 1 (.t 26)), none⟩, ⟨(some 7), .v (.mov (.t 27)), none⟩])
            (.seq
             (.reg [⟨(some 28), .v (.faddr 3 (.t 3)), none⟩, ⟨(some 29), .v (.load false 1 (.t 28)), none⟩, ⟨(some 30), .v (.mov (.t 7)), none⟩, ⟨(some 31), .call 191 [(.t 29), (.t 30)], none⟩, ⟨(some 32), .v (.un .not (.t 31)), none⟩])
             (.cond (.t 32)
              (.reg [⟨(some 33), .v (.faddr 3 (.t 5)), none⟩, ⟨(some 34), .v (.load false 1 (.t 33)), none⟩, ⟨(some 35), .v (.mov (.t 7)), none⟩, ⟨(some 36), .call 210 [(.t 34), (.t 35)], none⟩, ⟨(some 37), .v (.faddr 3 (.t 5)), none⟩, ⟨none, .m (.store 1 (.t 37) (.t 36)), none⟩])
              .skip))))
          (.reg [⟨(some 38), .v (.bin .add (.t 24) (.c (.int .i64 1))), none⟩, ⟨(some 24), .v (.mov (.t 38)), none⟩])))))))
    (.seq
     (.seq
      (.reg [⟨(some 39), .v (.faddr 3 (.t 3)), none⟩, ⟨(some 40), .v (.load false 1 (.t 39)), none⟩, ⟨(some 41), .v (.len (.t 40)), none⟩, ⟨(some 42), .v (.mov (.c (.int .i64 0))), none⟩])
      (.block 2
       (.loop
        (.seq
         (.reg [⟨(some 43), .v (.bin .lss (.t 42) (.t 41)), none⟩])
         (.seq
          (.cond (.t 43)
           .skip
           (.exit 2))
          (.seq
           (.block 3
            (.seq
             (.reg [⟨(some 44), .v (.iaddr 1 (.t 40) (.t 42)), none⟩, ⟨(some 45), .v (.load false 1 (.t 44)), none⟩, ⟨(some 9), .v (.mov (.t 45)), none⟩])
             (.seq
              (.reg [⟨(some 46), .v (.faddr 3 (.t 2)), none⟩, ⟨(some 47), .v (.load false 1 (.t 46)), none⟩, ⟨(some 48), .v (.mov (.t 9)), none⟩, ⟨(some 49), .call 191 [(.t 47), (.t 48)], none⟩, ⟨(some 50), .v (.un .not (.t 49)), none⟩])
              (.cond (.t 50)
               (.reg [⟨(some 51), .v (.faddr 3 (.t 5)), none⟩, ⟨(some 52), .v (.load false 1 (.t 51)), none⟩, ⟨(some 53), .v (.mov (.t 9)), none⟩, ⟨(some 54), .call 210 [(.t 52), (.t 53)], none⟩, ⟨(some 55), .v (.faddr 3 (.t 5)), none⟩, ⟨none, .m (.store 1 (.t 55) (.t 54)), none⟩])
               .skip))))
           (.reg [⟨(some 56), .v (.bin .add (.t 42) (.c (.int .i64 1))), none⟩, ⟨(some 42), .v (.mov (.t 56)), none⟩])))))))
     (.seq
      (.reg [⟨(some 57), .v (.load true 4 (.t 5)), none⟩, ⟨none, .m (.store 4 (.t 4) (.t 57)), none⟩])
      .ret)))))⟩
theorem e202 : rFunc Tryz.prog Tryz.f202 = some r202 := by kernel_rfl
def r179 : RFunc := ⟨37, [.cell true 4 4],
 (.seq
  (.reg [⟨(some 3), .m (.box (.t 1)), none⟩, ⟨(some 4), .m (.alloc [(.int .i64 0), .nils, (.bool false), .nils]), none⟩])
  (.seq
   (.seq
    (.reg [⟨(some 5), .v (.mov (.c (.int .i64 0))), none⟩])
    (.block 0
     (.loop
      (.seq
       (.seq
        (.reg [⟨(some 8), .v (.mov (.t 5)), none⟩, ⟨(some 9), .v (.faddr 0 (.t 3)), none⟩, ⟨(some 10), .v (.faddr 0 (.t 9)), none⟩, ⟨(some 11), .v (.load false 1 (.t 10)), none⟩, ⟨(some 12), .v (.bin .lss (.t 8) (.t 11)), none⟩])
        (.cond (.t 12)
         .skip
         (.exit 0)))
       (.seq
        (.block 1
         (.seq
          (.reg [⟨(some 15), .v (.mov (.t 0)), none⟩, ⟨(some 16), .v (.len (.t 15)), none⟩, ⟨(some 17), .v (.mov (.c (.int .i64 0))), none⟩])
          (.block 2
           (.loop
            (.seq
             (.reg [⟨(some 18), .v (.bin .lss (.t 17) (.t 16)), none⟩])
             (.seq
              (.cond (.t 18)
               .skip
               (.exit 2))
              (.seq
               (.block 3
                (.seq
                 (.reg [⟨(some 19), .v (.iaddr 4 (.t 15) (.t 17)), none⟩, ⟨(some 20), .v (.load true 4 (.t 19)), none⟩, ⟨(some 7), .m (.alloc [(.int .i64 0), .nils, (.bool false), .nils]), none⟩, ⟨none, .m (.store 4 (.t 7) (.t 20)), none⟩])
                 (.seq
                  (.reg [⟨(some 21), .v (.faddr 0 (.t 7)), none⟩, ⟨(some 22), .v (.load true 2 (.t 21)), none⟩, ⟨(some 23), .call 180 [(.t 22)], none⟩, ⟨(some 24), .v (.mov (.t 5)), none⟩, ⟨(some 25), .v (.bin .eql (.t 23) (.t 24)), none⟩, ⟨(some 26), .v (.mov (.t 25)), none⟩, ⟨(some 27), .v (.faddr 0 (.t 3)), (some (26, true))⟩, ⟨(some 28), .v (.load true 2 (.t 27)), (some (26, true))⟩, ⟨(some 29), .v (.mov (.t 5)), (some (26, true))⟩, ⟨(some 30), .call 111 [(.t 28), (.t 29)], (some (26, true))⟩, ⟨(some 31), .v (.pick (.t 26) (.t 30) (.c (.bool false))), none⟩])
                  (.cond (.t 31)
                   (.reg [⟨(some 32), .v (.load true 4 (.t 3)), none⟩, ⟨(some 33), .v (.load true 4 (.t 7)), none⟩, ⟨(some 34), .call 202 [(.t 32), (.t 33)], none⟩, ⟨none, .m (.store 4 (.t 3) (.t 34)), none⟩])
                   .skip))))
               (.reg [⟨(some 35), .v (.bin .add (.t 17) (.c (.int .i64 1))), none⟩, ⟨(some 17), .v (.mov (.t 35)), none⟩]))))))))
        (.reg [⟨(some 13), .v (.mov (.t 5)), none⟩, ⟨(some 14), .v (.bin .add (.t 13) (.c (.int .i64 1))), none⟩, ⟨(some 5), .v (.mov (.t 14)), none⟩]))))))
   (.seq
    (.reg [⟨(some 36), .v (.load true 4 (.t 3)), none⟩, ⟨none, .m (.store 4 (.t 4) (.t 36)), none⟩])
    .ret)))⟩
theorem e179 : rFunc Tryz.prog Tryz.f179 = some r179 := by kernel_rfl
def r147 : RFunc := ⟨50, [.t 2, .t 3],
 (.seq
  (.reg [⟨(some 1), .m (.box (.t 0)), none⟩, ⟨(some 2), .v (.mov (.c .nils)), none⟩, ⟨(some 3), .v (.mov (.c .nils)), none⟩])
  (.seq
   (.reg [⟨(some 4), .v (.mov (.c .nils)), none⟩])
   (.seq
    (.reg [⟨(some 5), .v (.mov (.c .nils)), none⟩])
    (.seq
     (.seq
      (.reg [⟨(some 9), .v (.faddr 1 (.t 1)), none⟩, ⟨(some 10), .v (.load false 1 (.t 9)), none⟩, ⟨(some 11), .v (.len (.t 10)), none⟩, ⟨(some 12), .v (.mov (.c (.int .i64 0))), none⟩])
      (.block 0
       (.loop
        (.seq
         (.reg [⟨(some 13), .v (.bin .lss (.t 12) (.t 11)), none⟩])
         (.seq
          (.cond (.t 13)
           .skip
           (.exit 0))
          (.seq
           (.block 1
            (.seq
             (.reg [⟨(some 14), .v (.mov (.t 12)), none⟩, ⟨(some 15), .v (.iaddr 2 (.t 10) (.t 12)), none⟩, ⟨(some 16), .v (.load true 2 (.t 15)), none⟩, ⟨(some 7), .m (.alloc [(.int .i64 0), .nils]), none⟩, ⟨(some 6), .v (.mov (.t 14)), none⟩, ⟨none, .m (.store 2 (.t 7) (.t 16)), none⟩])
             (.seq
              (.dreg (.fl ⟨(some 17), .v (.mov (.t 4)), none⟩ (.fl ⟨(some 18), .v (.load true 2 (.t 7)), none⟩ (.fl ⟨(some 19), .v (.faddr 2 (.t 1)), none⟩ (.fl ⟨(some 20), .v (.load false 1 (.t 19)), none⟩ (.fl ⟨(some 21), .v (.mov (.t 6)), none⟩ (.fl ⟨(some 22), .v (.iaddr 1 (.t 20) (.t 21)), none⟩ (.fl ⟨(some 23), .v (.load false 1 (.t 22)), none⟩ (.fl ⟨(some 24), .v (.mov (.t 6)), none⟩ (.both (.nx ⟨(some 25), .m (.bsl 1 1 [(.int .i64 0)] [(0, 1, (.t 24))]), none⟩ (.fl ⟨(some 26), .v (.bld [(.int .i64 0), .nils, (.bool false), .nils] [(0, 2, (.t 18)), (2, 1, (.t 23)), (3, 1, (.t 25))]), none⟩ (.both (.nx ⟨(some 27), .call 179 [(.t 17), (.t 26)], none⟩ (.nx ⟨(some 8), .m (.alloc [(.int .i64 0), .nils, (.bool false), .nils]), none⟩ (.nx ⟨none, .m (.store 4 (.t 8) (.t 27)), none⟩ .done))) (.nx ⟨(some 8), .m (.alloc [(.int .i64 0), .nils, (.bool false), .nils]), none⟩ (.nx ⟨(some 27), .call 179 [(.t 17), (.t 26)], none⟩ (.nx ⟨none, .m (.store 4 (.t 8) (.t 27)), none⟩ .done)))))) (.nx ⟨(some 8), .m (.alloc [(.int .i64 0), .nils, (.bool false), .nils]), none⟩ (.nx ⟨(some 25), .m (.bsl 1 1 [(.int .i64 0)] [(0, 1, (.t 24))]), none⟩ (.fl ⟨(some 26), .v (.bld [(.int .i64 0), .nils, (.bool false), .nils] [(0, 2, (.t 18)), (2, 1, (.t 23)), (3, 1, (.t 25))]), none⟩ (.nx ⟨(some 27), .call 179 [(.t 17), (.t 26)], none⟩ (.nx ⟨none, .m (.store 4 (.t 8) (.t 27)), none⟩ .done)))))))))))))))
              (.block 2
               (.seq
                (.reg [⟨(some 29), .v (.faddr 0 (.t 8)), none⟩, ⟨(some 30), .v (.load true 2 (.t 29)), none⟩, ⟨(some 31), .call 180 [(.t 30)], none⟩, ⟨(some 32), .v (.bin .geq (.t 31) (.c (.int .i64 0))), none⟩, ⟨(some 28), .v (.mov (.t 32)), none⟩])
                (.cond (.t 28)
                 (.reg [⟨(some 33), .v (.mov (.t 4)), none⟩, ⟨(some 34), .v (.load true 4 (.t 8)), none⟩, ⟨(some 35), .m (.bsl 4 1 [(.int .i64 0), .nils, (.bool false), .nils] [(0, 4, (.t 34))]), none⟩, ⟨(some 36), .m (.app false 4 64 (.t 33) (.t 35)), none⟩, ⟨(some 4), .v (.mov (.t 36)), none⟩])
                 (.seq
                  (.reg [⟨(some 38), .v (.faddr 2 (.t 8)), none⟩, ⟨(some 39), .v (.load false 1 (.t 38)), none⟩, ⟨(some 40), .v (.mov (.t 39)), none⟩, ⟨(some 41), .v (.mov (.t 5)), (some (40, true))⟩, ⟨(some 42), .v (.len (.t 41)), (some (40, true))⟩, ⟨(some 43), .v (.bin .eql (.t 42) (.c (.int .i64 0))), (some (40, true))⟩, ⟨(some 44), .v (.pick (.t 40) (.t 43) (.c (.bool false))), none⟩, ⟨(some 37), .v (.mov (.t 44)), none⟩])
                  (.cond (.t 37)
                   (.reg [⟨(some 45), .v (.faddr 3 (.t 8)), none⟩, ⟨(some 46), .v (.load false 1 (.t 45)), none⟩, ⟨(some 5), .v (.mov (.t 46)), none⟩])
                   .skip))))))))
           (.reg [⟨(some 47), .v (.bin .add (.t 12) (.c (.int .i64 1))), none⟩, ⟨(some 12), .v (.mov (.t 47)), none⟩])))))))
     (.seq
      (.reg [⟨(some 48), .v (.mov (.t 4)), none⟩, ⟨(some 49), .v (.mov (.t 5)), none⟩, ⟨(some 2), .v (.mov (.t 48)), none⟩, ⟨(some 3), .v (.mov (.t 49)), none⟩])
      .ret)))))⟩
theorem e147 : rFunc Tryz.prog Tryz.f147 = some r147 := by kernel_rfl
def r187 : RFunc := ⟨24, [.t 4],
 (.seq
  (.reg [⟨(some 2), .m (.box (.t 0)), none⟩, ⟨(some 3), .m (.box (.t 1)), none⟩, ⟨(some 4), .v (.mov (.c (.bool false))), none⟩])
  (.seq
   (.reg [⟨(some 5), .v (.mov (.c (.bool false))), none⟩])
   (.seq
    (.seq
     (.reg [⟨(some 6), .v (.mov (.c (.int .i64 0))), none⟩])
     (.block 0
      (.loop
       (.seq
        (.seq
         (.reg [⟨(some 7), .v (.mov (.t 6)), none⟩, ⟨(some 8), .v (.faddr 0 (.t 2)), none⟩, ⟨(some 9), .v (.load false 1 (.t 8)), none⟩, ⟨(some 10), .v (.bin .lss (.t 7) (.t 9)), none⟩])
         (.cond (.t 10)
          .skip
          (.exit 0)))
        (.seq
         (.block 1
          (.reg [⟨(some 13), .v (.mov (.t 5)), none⟩, ⟨(some 14), .v (.load true 2 (.t 2)), none⟩, ⟨(some 15), .v (.mov (.t 6)), none⟩, ⟨(some 16), .call 111 [(.t 14), (.t 15)], none⟩, ⟨(some 17), .v (.mov (.t 16)), none⟩, ⟨(some 18), .v (.load true 2 (.t 3)), (some (17, true))⟩, ⟨(some 19), .v (.mov (.t 6)), (some (17, true))⟩, ⟨(some 20), .call 111 [(.t 18), (.t 19)], (some (17, true))⟩, ⟨(some 21), .v (.pick (.t 17) (.t 20) (.c (.bool false))), none⟩, ⟨(some 22), .v (.beq true (.t 13) (.t 21)), none⟩, ⟨(some 5), .v (.mov (.t 22)), none⟩]))
         (.reg [⟨(some 11), .v (.mov (.t 6)), none⟩, ⟨(some 12), .v (.bin .add (.t 11) (.c (.int .i64 1))), none⟩, ⟨(some 6), .v (.mov (.t 12)), none⟩]))))))
    (.seq
     (.reg [⟨(some 23), .v (.mov (.t 5)), none⟩, ⟨(some 4), .v (.mov (.t 23)), none⟩])
     .ret))))⟩
theorem e187 : rFunc Tryz.prog Tryz.f187 = some r187 := by kernel_rfl
def r166 : RFunc := ⟨45, [.cell true 2 6],
 (.seq
  (.reg [⟨(some 4), .m (.box (.t 1)), none⟩, ⟨(some 6), .m (.alloc [(.int .i64 0), .nils]), none⟩])
  (.seq
   (.seq
    (.reg [⟨(some 10), .v (.faddr 0 (.t 4)), none⟩, ⟨(some 11), .v (.load false 1 (.t 10)), none⟩, ⟨(some 12), .v (.bin .sub (.t 11) (.c (.int .i64 1))), none⟩, ⟨(some 7), .v (.mov (.t 12)), none⟩])
    (.block 0
     (.loop
      (.seq
       (.seq
        (.reg [⟨(some 13), .v (.mov (.t 7)), none⟩, ⟨(some 14), .v (.bin .geq (.t 13) (.c (.int .i64 0))), none⟩])
        (.cond (.t 14)
         .skip
         (.exit 0)))
       (.seq
        (.block 1
         (.seq
          (.reg [⟨(some 17), .v (.mov (.t 0)), none⟩, ⟨(some 18), .v (.len (.t 17)), none⟩, ⟨(some 19), .v (.mov (.c (.int .i64 0))), none⟩])
          (.block 2
           (.loop
            (.seq
             (.reg [⟨(some 20), .v (.bin .lss (.t 19) (.t 18)), none⟩])
             (.seq
              (.cond (.t 20)
               .skip
               (.exit 2))
              (.seq
               (.block 3
                (.seq
                 (.reg [⟨(some 21), .v (.iaddr 4 (.t 17) (.t 19)), none⟩, ⟨(some 22), .v (.load true 4 (.t 21)), none⟩, ⟨(some 9), .m (.alloc [(.int .i64 0), .nils, (.bool false), .nils]), none⟩, ⟨none, .m (.store 4 (.t 9) (.t 22)), none⟩])
                 (.seq
                  (.reg [⟨(some 23), .v (.faddr 0 (.t 9)), none⟩, ⟨(some 24), .v (.load true 2 (.t 23)), none⟩, ⟨(some 25), .call 180 [(.t 24)], none⟩, ⟨(some 26), .v (.mov (.t 7)), none⟩, ⟨(some 27), .v (.bin .eql (.t 25) (.t 26)), none⟩, ⟨(some 28), .v (.mov (.t 27)), none⟩, ⟨(some 29), .v (.faddr 0 (.t 9)), (some (28, true))⟩, ⟨(some 30), .v (.load true 2 (.t 29)), (some (28, true))⟩, ⟨(some 31), .v (.load true 2 (.t 4)), (some (28, true))⟩, ⟨(some 32), .call 187 [(.t 30), (.t 31)], (some (28, true))⟩, ⟨(some 33), .v (.mov (.t 2)), (some (28, true))⟩, ⟨(some 34), .v (.mov (.t 33)), (some (28, true))⟩, ⟨(some 35), .v (.faddr 2 (.t 9)), (some (34, true))⟩, ⟨(some 36), .v (.load false 1 (.t 35)), (some (34, true))⟩, ⟨(some 37), .v (.pick (.t 34) (.t 36) (.c (.bool false))), (some (28, true))⟩, ⟨(some 38), .v (.beq true (.t 32) (.t 37)), (some (28, true))⟩, ⟨(some 39), .v (.pick (.t 28) (.t 38) (.c (.bool false))), none⟩])
                  (.cond (.t 39)
                   (.reg [⟨(some 40), .v (.load true 2 (.t 4)), none⟩, ⟨(some 41), .v (.mov (.t 7)), none⟩, ⟨(some 42), .call 112 [(.t 40), (.t 41)], none⟩])
                   .skip))))
               (.reg [⟨(some 43), .v (.bin .add (.t 19) (.c (.int .i64 1))), none⟩, ⟨(some 19), .v (.mov (.t 43)), none⟩]))))))))
        (.reg [⟨(some 15), .v (.mov (.t 7)), none⟩, ⟨(some 16), .v (.bin .sub (.t 15) (.c (.int .i64 1))), none⟩, ⟨(some 7), .v (.mov (.t 16)), none⟩]))))))
   (.seq
    (.reg [⟨(some 44), .v (.load true 2 (.t 4)), none⟩, ⟨none, .m (.store 2 (.t 6) (.t 44)), none⟩])
    .ret)))⟩
theorem e166 : rFunc Tryz.prog Tryz.f166 = some r166 := by kernel_rfl
def r128 : RFunc := ⟨20, [.cell true 2 2, .t 3],
 (.seq
  (.reg [⟨(some 1), .m (.box (.t 0)), none⟩, ⟨(some 2), .m (.alloc [(.int .i64 0), .nils]), none⟩, ⟨(some 3), .v (.mov (.c (.bool false))), none⟩])
  (.seq
   (.reg [⟨(some 7), .v (.load true 3 (.t 1)), none⟩, ⟨(some 8), .call 147 [(.t 7)], none⟩, ⟨(some 6), .v (.mov (.t 8)), none⟩, ⟨(some 9), .v (.ext (.t 6) 0), none⟩, ⟨(some 10), .v (.ext (.t 6) 1), none⟩, ⟨(some 4), .v (.mov (.t 9)), none⟩, ⟨(some 5), .v (.mov (.t 10)), none⟩])
   (.seq
    (.seq
     (.reg [⟨(some 11), .v (.mov (.t 5)), none⟩, ⟨(some 12), .v (.len (.t 11)), none⟩, ⟨(some 13), .v (.bin .gtr (.t 12) (.c (.int .i64 0))), none⟩])
     (.cond (.t 13)
      (.seq
       (.reg [⟨(some 14), .v (.bld [(.int .i64 0), .nils] []), none⟩, ⟨none, .m (.store 2 (.t 2) (.t 14)), none⟩, ⟨(some 3), .v (.mov (.c (.bool false))), none⟩])
       .ret)
      .skip))
    (.seq
     (.reg [⟨(some 15), .v (.mov (.t 4)), none⟩, ⟨(some 16), .v (.faddr 0 (.t 1)), none⟩, ⟨(some 17), .v (.load false 1 (.t 16)), none⟩, ⟨(some 18), .call 109 [(.t 17)], none⟩, ⟨(some 19), .call 166 [(.t 15), (.t 18), (.c (.bool true))], none⟩, ⟨none, .m (.store 2 (.t 2) (.t 19)), none⟩, ⟨(some 3), .v (.mov (.c (.bool true))), none⟩])
     .ret))))⟩
theorem e128 : rFunc Tryz.prog Tryz.f128 = some r128 := by kernel_rfl
def r87 : RFunc := ⟨32, [.cell true 2 2, .t 3],
 (.seq
  (.reg [⟨(some 1), .m (.box (.t 0)), none⟩, ⟨(some 2), .m (.alloc [(.int .i64 0), .nils]), none⟩, ⟨(some 3), .v (.mov (.c (.bool false))), none⟩])
  (.seq
   (.reg [⟨(some 10), .v (.load true 3 (.t 1)), none⟩, ⟨(some 11), .call 90 [(.t 10)], none⟩, ⟨(some 9), .v (.mov (.t 11)), none⟩, ⟨(some 12), .v (.ext (.t 9) 0), none⟩, ⟨(some 13), .v (.ext (.t 9) 1), none⟩, ⟨(some 4), .v (.mov (.t 12)), none⟩, ⟨(some 5), .v (.mov (.t 13)), none⟩])
   (.seq
    (.reg [⟨(some 14), .v (.faddr 0 (.t 1)), none⟩, ⟨(some 15), .v (.load false 1 (.t 14)), none⟩, ⟨(some 16), .call 104 [(.t 15)], none⟩, ⟨(some 6), .m (.alloc [(.int .i64 0), .nils]), none⟩, ⟨none, .m (.store 2 (.t 6) (.t 16)), none⟩])
    (.seq
     (.seq
      (.reg [⟨(some 17), .v (.mov (.t 4)), none⟩, ⟨(some 18), .v (.len (.t 17)), none⟩, ⟨(some 19), .v (.mov (.c (.int .i64 0))), none⟩])
      (.block 0
       (.loop
        (.seq
         (.reg [⟨(some 20), .v (.bin .lss (.t 19) (.t 18)), none⟩])
         (.seq
          (.cond (.t 20)
           .skip
           (.exit 0))
          (.seq
           (.block 1
            (.seq
             (.reg [⟨(some 21), .v (.iaddr 4 (.t 17) (.t 19)), none⟩, ⟨(some 22), .v (.load true 4 (.t 21)), none⟩, ⟨(some 8), .m (.alloc [(.int .i64 0), .nils, (.bool false), (.int .u64 0)]), none⟩, ⟨none, .m (.store 4 (.t 8) (.t 22)), none⟩])
             (.dreg (.fl ⟨(some 23), .v (.faddr 0 (.t 8)), none⟩ (.fl ⟨(some 25), .v (.faddr 2 (.t 8)), none⟩ (.fl ⟨(some 26), .v (.load false 1 (.t 25)), none⟩ (.nx ⟨(some 24), .call 106 [(.t 23), (.c (.int .i64 0)), (.c (.bool true))], none⟩ (.nx ⟨(some 27), .call 143 [(.t 6), (.t 24), (.t 26)], none⟩ .done))))))))
           (.reg [⟨(some 28), .v (.bin .add (.t 19) (.c (.int .i64 1))), none⟩, ⟨(some 19), .v (.mov (.t 28)), none⟩])))))))
     (.seq
      (.reg [⟨(some 29), .v (.load true 2 (.t 6)), none⟩, ⟨(some 30), .v (.mov (.t 5)), none⟩, ⟨(some 31), .v (.bin .eql (.t 30) (.c (.int .u64 0))), none⟩, ⟨none, .m (.store 2 (.t 2) (.t 29)), none⟩, ⟨(some 3), .v (.mov (.t 31)), none⟩])
      .ret)))))⟩
theorem e87 : rFunc Tryz.prog Tryz.f87 = some r87 := by kernel_rfl
def r126 : RFunc := ⟨21, [.t 6],
 (.seq
  (.reg [⟨(some 6), .v (.mov (.c (.bool false))), none⟩])
  (.seq
   (.seq
    (.reg [⟨(some 9), .v (.mov (.t 0)), none⟩, ⟨(some 10), .v (.len (.t 9)), none⟩, ⟨(some 11), .v (.mov (.c (.int .i64 0))), none⟩])
    (.block 0
     (.loop
      (.seq
       (.reg [⟨(some 12), .v (.bin .lss (.t 11) (.t 10)), none⟩])
       (.seq
        (.cond (.t 12)
         .skip
         (.exit 0))
        (.seq
         (.block 1
          (.seq
           (.reg [⟨(some 13), .v (.iaddr 1 (.t 9) (.t 11)), none⟩, ⟨(some 14), .v (.load false 1 (.t 13)), none⟩, ⟨(some 8), .v (.mov (.t 14)), none⟩])
           (.seq
            (.reg [⟨(some 15), .v (.mov (.t 8)), none⟩, ⟨(some 16), .v (.mov (.t 1)), none⟩, ⟨(some 17), .v (.mov (.t 2)), none⟩, ⟨(some 18), .call 57 [(.t 15), (.t 16), (.t 17)], none⟩, ⟨(some 19), .v (.un .not (.t 18)), none⟩])
            (.cond (.t 19)
             (.seq
              (.reg [⟨(some 6), .v (.mov (.c (.bool false))), none⟩])
              .ret)
             .skip))))
         (.reg [⟨(some 20), .v (.bin .add (.t 11) (.c (.int .i64 1))), none⟩, ⟨(some 11), .v (.mov (.t 20)), none⟩])))))))
   (.seq
    (.reg [⟨(some 6), .v (.mov (.c (.bool true))), none⟩])
    .ret)))⟩
theorem e126 : rFunc Tryz.prog Tryz.f126 = some r126 := by kernel_rfl
def r160 : RFunc := ⟨42, [.t 2],
 (.seq
  (.reg [⟨(some 1), .m (.box (.t 0)), none⟩, ⟨(some 2), .v (.mov (.c (.bool false))), none⟩])
  (.seq
   (.seq
    (.reg [⟨(some 3), .v (.faddr 0 (.t 1)), none⟩, ⟨(some 4), .v (.load false 1 (.t 3)), none⟩, ⟨(some 5), .call 57 [(.t 4), (.c (.int .i64 0)), (.c (.int .i64 4096))], none⟩, ⟨(some 6), .v (.un .not (.t 5)), none⟩, ⟨(some 7), .v (.mov (.t 6)), none⟩, ⟨(some 8), .v (.faddr 1 (.t 1)), (some (7, false))⟩, ⟨(some 9), .v (.load false 1 (.t 8)), (some (7, false))⟩, ⟨(some 10), .v (.len (.t 9)), (some (7, false))⟩, ⟨(some 11), .v (.faddr 0 (.t 1)), (some (7, false))⟩, ⟨(some 12), .v (.load false 1 (.t 11)), (some (7, false))⟩, ⟨(some 13), .v (.bin .add (.t 12) (.c (.int .i64 15))), (some (7, false))⟩, ⟨(some 14), .v (.bin .quo (.t 13) (.c (.int .i64 16))), (some (7, false))⟩, ⟨(some 15), .v (.bin .neq (.t 10) (.t 14)), (some (7, false))⟩, ⟨(some 16), .v (.pick (.t 7) (.c (.bool true)) (.t 15)), none⟩, ⟨(some 17), .v (.mov (.t 16)), none⟩, ⟨(some 18), .v (.faddr 1 (.t 1)), (some (17, false))⟩, ⟨(some 19), .v (.load false 1 (.t 18)), (some (17, false))⟩, ⟨(some 20), .call 126 [(.t 19), (.c (.int .i64 0)), (.c (.int .i64 65535))], (some (17, false))⟩, ⟨(some 21), .v (.un .not (.t 20)), (some (17, false))⟩, ⟨(some 22), .v (.pick (.t 17) (.c (.bool true)) (.t 21)), none⟩])
    (.cond (.t 22)
     (.seq
      (.reg [⟨(some 2), .v (.mov (.c (.bool false))), none⟩])
      .ret)
     .skip))
   (.seq
    (.dreg (.fl ⟨(some 23), .v (.faddr 0 (.t 1)), none⟩ (.fl ⟨(some 24), .v (.load false 1 (.t 23)), none⟩ (.fl ⟨(some 25), .v (.bin .rem (.t 24) (.c (.int .i64 16))), none⟩ (.fl ⟨(some 26), .v (.bin .eql (.t 25) (.c (.int .i64 0))), none⟩ (.fl ⟨(some 27), .v (.mov (.t 26)), none⟩ (.fl ⟨(some 28), .v (.faddr 1 (.t 1)), (some (27, false))⟩ (.fl ⟨(some 29), .v (.load false 1 (.t 28)), (some (27, false))⟩ (.fl ⟨(some 30), .v (.faddr 1 (.t 1)), (some (27, false))⟩ (.fl ⟨(some 31), .v (.load false 1 (.t 30)), (some (27, false))⟩ (.fl ⟨(some 32), .v (.len (.t 31)), (some (27, false))⟩ (.fl ⟨(some 33), .v (.bin .sub (.t 32) (.c (.int .i64 1))), (some (27, false))⟩ (.fl ⟨(some 34), .v (.iaddr 1 (.t 29) (.t 33)), (some (27, false))⟩ (.fl ⟨(some 35), .v (.load false 1 (.t 34)), (some (27, false))⟩ (.fl ⟨(some 36), .v (.faddr 0 (.t 1)), (some (27, false))⟩ (.fl ⟨(some 37), .v (.load false 1 (.t 36)), (some (27, false))⟩ (.fl ⟨(some 38), .v (.bin .rem (.t 37) (.c (.int .i64 16))), (some (27, false))⟩ (.fl ⟨(some 39), .v (.bin .shr (.t 35) (.t 38)), (some (27, false))⟩ (.fl ⟨(some 40), .v (.bin .eql (.t 39) (.c (.int .i64 0))), (some (27, false))⟩ (.fl ⟨(some 41), .v (.pick (.t 27) (.c (.bool true)) (.t 40)), none⟩ (.fl ⟨(some 2), .v (.mov (.t 41)), none⟩ .done)))))))))))))))))))))
    .ret)))⟩
theorem e160 : rFunc Tryz.prog Tryz.f160 = some r160 := by kernel_rfl
def r108 : RFunc := ⟨42, [.t 2],
 (.seq
  (.reg [⟨(some 1), .m (.box (.t 0)), none⟩, ⟨(some 2), .v (.mov (.c (.bool false))), none⟩])
  (.seq
   (.seq
    (.reg [⟨(some 5), .v (.faddr 0 (.t 1)), none⟩, ⟨(some 6), .v (.load false 1 (.t 5)), none⟩, ⟨(some 7), .call 57 [(.t 6), (.c (.int .i64 1)), (.c (.int .i64 72))], none⟩, ⟨(some 8), .v (.un .not (.t 7)), none⟩, ⟨(some 9), .v (.mov (.t 8)), none⟩, ⟨(some 10), .v (.faddr 1 (.t 1)), (some (9, false))⟩, ⟨(some 11), .v (.load false 1 (.t 10)), (some (9, false))⟩, ⟨(some 12), .v (.len (.t 11)), (some (9, false))⟩, ⟨(some 13), .v (.bin .gtr (.t 12) (.c (.int .i64 40))), (some (9, false))⟩, ⟨(some 14), .v (.pick (.t 9) (.c (.bool true)) (.t 13)), none⟩, ⟨(some 15), .v (.mov (.t 14)), none⟩, ⟨(some 16), .v (.faddr 2 (.t 1)), (some (15, false))⟩, ⟨(some 17), .v (.load false 1 (.t 16)), (some (15, false))⟩, ⟨(some 18), .v (.len (.t 17)), (some (15, false))⟩, ⟨(some 19), .v (.faddr 1 (.t 1)), (some (15, false))⟩, ⟨(some 20), .v (.load false 1 (.t 19)), (some (15, false))⟩, ⟨(some 21), .v (.len (.t 20)), (some (15, false))⟩, ⟨(some 22), .v (.bin .neq (.t 18) (.t 21)), (some (15, false))⟩, ⟨(some 23), .v (.pick (.t 15) (.c (.bool true)) (.t 22)), none⟩])
    (.cond (.t 23)
     (.seq
      (.reg [⟨(some 2), .v (.mov (.c (.bool false))), none⟩])
      .ret)
     .skip))
   (.seq
    (.seq
     (.reg [⟨(some 24), .v (.faddr 1 (.t 1)), none⟩, ⟨(some 25), .v (.load false 1 (.t 24)), none⟩, ⟨(some 26), .v (.len (.t 25)), none⟩, ⟨(some 27), .v (.mov (.c (.int .i64 0))), none⟩])
     (.block 0
      (.loop
       (.seq
        (.reg [⟨(some 28), .v (.bin .lss (.t 27) (.t 26)), none⟩])
        (.seq
         (.cond (.t 28)
          .skip
          (.exit 0))
         (.seq
          (.block 1
           (.seq
            (.reg [⟨(some 29), .v (.iaddr 2 (.t 25) (.t 27)), none⟩, ⟨(some 30), .v (.load true 2 (.t 29)), none⟩, ⟨(some 4), .m (.alloc [(.int .i64 0), .nils]), none⟩, ⟨none, .m (.store 2 (.t 4) (.t 30)), none⟩])
            (.seq
             (.reg [⟨(some 31), .v (.load true 2 (.t 4)), none⟩, ⟨(some 32), .call 160 [(.t 31)], none⟩, ⟨(some 33), .v (.un .not (.t 32)), none⟩, ⟨(some 34), .v (.mov (.t 33)), none⟩, ⟨(some 35), .v (.faddr 0 (.t 4)), (some (34, false))⟩, ⟨(some 36), .v (.load false 1 (.t 35)), (some (34, false))⟩, ⟨(some 37), .v (.faddr 0 (.t 1)), (some (34, false))⟩, ⟨(some 38), .v (.load false 1 (.t 37)), (some (34, false))⟩, ⟨(some 39), .v (.bin .neq (.t 36) (.t 38)), (some (34, false))⟩, ⟨(some 40), .v (.pick (.t 34) (.c (.bool true)) (.t 39)), none⟩])
             (.cond (.t 40)
              (.seq
               (.reg [⟨(some 2), .v (.mov (.c (.bool false))), none⟩])
               .ret)
              .skip))))
          (.reg [⟨(some 41), .v (.bin .add (.t 27) (.c (.int .i64 1))), none⟩, ⟨(some 27), .v (.mov (.t 41)), none⟩])))))))
    (.seq
     (.reg [⟨(some 2), .v (.mov (.c (.bool true))), none⟩])
     .ret))))⟩
theorem e108 : rFunc Tryz.prog Tryz.f108 = some r108 := by kernel_rfl
def r183 : RFunc := ⟨19, [.t 4],
 (.seq
  (.reg [⟨(some 4), .v (.mov (.c (.int .i64 0))), none⟩])
  (.seq
   (.seq
    (.reg [⟨(some 6), .v (.mov (.t 0)), none⟩, ⟨(some 7), .v (.len (.t 6)), none⟩, ⟨(some 8), .v (.mov (.c (.int .i64 0))), none⟩])
    (.block 0
     (.loop
      (.seq
       (.reg [⟨(some 9), .v (.bin .lss (.t 8) (.t 7)), none⟩])
       (.seq
        (.cond (.t 9)
         .skip
         (.exit 0))
        (.seq
         (.block 1
          (.seq
           (.reg [⟨(some 10), .v (.mov (.t 8)), none⟩, ⟨(some 5), .v (.mov (.t 10)), none⟩])
           (.seq
            (.reg [⟨(some 11), .v (.mov (.t 1)), none⟩, ⟨(some 12), .v (.mov (.t 0)), none⟩, ⟨(some 13), .v (.mov (.t 5)), none⟩, ⟨(some 14), .v (.iaddr 2 (.t 12) (.t 13)), none⟩, ⟨(some 15), .v (.load true 2 (.t 14)), none⟩, ⟨(some 16), .callv (.t 11) [(.t 15)], none⟩])
            (.cond (.t 16)
             (.seq
              (.reg [⟨(some 17), .v (.mov (.t 5)), none⟩, ⟨(some 4), .v (.mov (.t 17)), none⟩])
              .ret)
             .skip))))
         (.reg [⟨(some 18), .v (.bin .add (.t 8) (.c (.int .i64 1))), none⟩, ⟨(some 8), .v (.mov (.t 18)), none⟩])))))))
   (.seq
    (.reg [⟨(some 4), .v (.mov (.c (.int .i64 (-1)))), none⟩])
    .ret)))⟩
theorem e183 : rFunc Tryz.prog Tryz.f183 = some r183 := by kernel_rfl
def r155 : RFunc := ⟨9, [.t 4],
 (.seq
  (.reg [⟨(some 4), .v (.mov (.c (.bool false))), none⟩])
  (.seq
   (.reg [⟨(some 5), .v (.mov (.t 0)), none⟩, ⟨(some 6), .v (.mov (.t 1)), none⟩, ⟨(some 7), .call 183 [(.t 5), (.t 6)], none⟩, ⟨(some 8), .v (.bin .geq (.t 7) (.c (.int .i64 0))), none⟩, ⟨(some 4), .v (.mov (.t 8)), none⟩])
   .ret))⟩
theorem e155 : rFunc Tryz.prog Tryz.f155 = some r155 := by kernel_rfl
def r118 : RFunc := ⟨48, [.t 2],
 (.seq
  (.reg [⟨(some 1), .m (.box (.t 0)), none⟩, ⟨(some 2), .v (.mov (.c (.bool false))), none⟩])
  (.seq
   (.seq
    (.dreg (.fl ⟨(some 6), .v (.faddr 0 (.t 1)), none⟩ (.fl ⟨(some 7), .v (.load false 1 (.t 6)), none⟩ (.nx ⟨(some 8), .call 63 [(.t 7), (.c (.int .i64 0)), (.c (.int .i64 4096))], none⟩ (.fl ⟨(some 9), .v (.un .not (.t 8)), none⟩ (.fl ⟨(some 10), .v (.mov (.t 9)), none⟩ (.fl ⟨(some 11), .v (.faddr 1 (.t 1)), (some (10, false))⟩ (.fl ⟨(some 12), .v (.load false 1 (.t 11)), (some (10, false))⟩ (.fl ⟨(some 13), .v (.len (.t 12)), (some (10, false))⟩ (.fl ⟨(some 14), .v (.faddr 0 (.t 1)), (some (10, false))⟩ (.fl ⟨(some 15), .v (.load false 1 (.t 14)), (some (10, false))⟩ (.nx ⟨(some 16), .call 157 [(.t 15)], (some (10, false))⟩ (.fl ⟨(some 17), .v (.bin .neq (.t 13) (.t 16)), (some (10, false))⟩ (.fl ⟨(some 18), .v (.pick (.t 10) (.c (.bool true)) (.t 17)), none⟩ .done))))))))))))))
    (.cond (.t 18)
     (.seq
      (.reg [⟨(some 2), .v (.mov (.c (.bool false))), none⟩])
      .ret)
     .skip))
   (.seq
    (.seq
     (.reg [⟨(some 19), .v (.faddr 1 (.t 1)), none⟩, ⟨(some 20), .v (.load false 1 (.t 19)), none⟩, ⟨(some 21), .v (.len (.t 20)), none⟩, ⟨(some 22), .v (.mov (.c (.int .i64 0))), none⟩])
     (.block 0
      (.loop
       (.seq
        (.reg [⟨(some 23), .v (.bin .lss (.t 22) (.t 21)), none⟩])
        (.seq
         (.cond (.t 23)
          .skip
          (.exit 0))
         (.seq
          (.block 1
           (.seq
            (.reg [⟨(some 24), .v (.iaddr 1 (.t 20) (.t 22)), none⟩, ⟨(some 25), .v (.load false 1 (.t 24)), none⟩, ⟨(some 4), .v (.mov (.t 25)), none⟩])
            (.seq
             (.reg [⟨(some 26), .v (.mov (.t 4)), none⟩, ⟨(some 27), .call 63 [(.t 26), (.c (.int .i64 0)), (.c (.int .i64 65535))], none⟩, ⟨(some 28), .v (.un .not (.t 27)), none⟩])
             (.cond (.t 28)
              (.seq
               (.reg [⟨(some 2), .v (.mov (.c (.bool false))), none⟩])
               .ret)
              .skip))))
          (.reg [⟨(some 29), .v (.bin .add (.t 22) (.c (.int .i64 1))), none⟩, ⟨(some 22), .v (.mov (.t 29)), none⟩])))))))
    (.seq
     (.reg [⟨(some 30), .v (.faddr 0 (.t 1)), none⟩, ⟨(some 31), .v (.load false 1 (.t 30)), none⟩, ⟨(some 32), .v (.bin .rem (.t 31) (.c (.int .i64 16))), none⟩, ⟨(some 5), .v (.mov (.t 32)), none⟩])
     (.seq
      (.reg [⟨(some 33), .v (.mov (.t 5)), none⟩, ⟨(some 34), .v (.bin .eql (.t 33) (.c (.int .i64 0))), none⟩, ⟨(some 35), .v (.mov (.t 34)), none⟩, ⟨(some 36), .v (.faddr 1 (.t 1)), (some (35, false))⟩, ⟨(some 37), .v (.load false 1 (.t 36)), (some (35, false))⟩, ⟨(some 38), .v (.faddr 1 (.t 1)), (some (35, false))⟩, ⟨(some 39), .v (.load false 1 (.t 38)), (some (35, false))⟩, ⟨(some 40), .v (.len (.t 39)), (some (35, false))⟩, ⟨(some 41), .v (.bin .sub (.t 40) (.c (.int .i64 1))), (some (35, false))⟩, ⟨(some 42), .v (.iaddr 1 (.t 37) (.t 41)), (some (35, false))⟩, ⟨(some 43), .v (.load false 1 (.t 42)), (some (35, false))⟩, ⟨(some 44), .v (.mov (.t 5)), (some (35, false))⟩, ⟨(some 45), .v (.bin .shr (.t 43) (.t 44)), (some (35, false))⟩, ⟨(some 46), .v (.bin .eql (.t 45) (.c (.int .i64 0))), (some (35, false))⟩, ⟨(some 47), .v (.pick (.t 35) (.c (.bool true)) (.t 46)), none⟩, ⟨(some 2), .v (.mov (.t 47)), none⟩])
      .ret)))))⟩
theorem e118 : rFunc Tryz.prog Tryz.f118 = some r118 := by kernel_rfl
def r156 : RFunc := ⟨14, [.t 3],
 (.seq
  (.reg [⟨(some 2), .m (.box (.t 0)), none⟩, ⟨(some 3), .v (.mov (.c (.bool false))), none⟩])
  (.seq
   (.reg [⟨(some 4), .v (.load true 2 (.t 2)), none⟩, ⟨(some 5), .call 118 [(.t 4)], none⟩, ⟨(some 6), .v (.un .not (.t 5)), none⟩, ⟨(some 7), .v (.mov (.t 6)), none⟩, ⟨(some 8), .v (.faddr 0 (.t 2)), (some (7, false))⟩, ⟨(some 9), .v (.load false 1 (.t 8)), (some (7, false))⟩, ⟨(some 10), .v (.faddr 0 (.t 1)), (some (7, false))⟩, ⟨(some 11), .v (.load false 1 (.t 10)), (some (7, false))⟩, ⟨(some 12), .v (.bin .neq (.t 9) (.t 11)), (some (7, false))⟩, ⟨(some 13), .v (.pick (.t 7) (.c (.bool true)) (.t 12)), none⟩, ⟨(some 3), .v (.mov (.t 13)), none⟩])
   .ret))⟩
theorem e156 : rFunc Tryz.prog Tryz.f156 = some r156 := by kernel_rfl
def r102 : RFunc := ⟨30, [.t 2],
 (.seq
  (.reg [⟨(some 1), .m (.box (.t 0)), none⟩, ⟨(some 2), .v (.mov (.c (.bool false))), none⟩])
  (.seq
   (.reg [⟨(some 4), .v (.faddr 1 (.t 1)), none⟩, ⟨(some 5), .v (.load false 1 (.t 4)), none⟩, ⟨(some 6), .v (.mkfn 156 [(.t 1)]), none⟩, ⟨(some 7), .call 155 [(.t 5), (.t 6)], none⟩, ⟨(some 3), .v (.mov (.t 7)), none⟩])
   (.seq
    (.reg [⟨(some 8), .v (.mov (.t 3)), none⟩, ⟨(some 9), .v (.un .not (.t 8)), none⟩, ⟨(some 10), .v (.mov (.t 9)), none⟩, ⟨(some 11), .v (.faddr 0 (.t 1)), (some (10, true))⟩, ⟨(some 12), .v (.load false 1 (.t 11)), (some (10, true))⟩, ⟨(some 13), .call 63 [(.t 12), (.c (.int .i64 1)), (.c (.int .i64 72))], (some (10, true))⟩, ⟨(some 14), .v (.pick (.t 10) (.t 13) (.c (.bool false))), none⟩, ⟨(some 15), .v (.mov (.t 14)), none⟩, ⟨(some 16), .v (.faddr 1 (.t 1)), (some (15, true))⟩, ⟨(some 17), .v (.load false 1 (.t 16)), (some (15, true))⟩, ⟨(some 18), .v (.len (.t 17)), (some (15, true))⟩, ⟨(some 19), .v (.bin .leq (.t 18) (.c (.int .i64 40))), (some (15, true))⟩, ⟨(some 20), .v (.pick (.t 15) (.t 19) (.c (.bool false))), none⟩, ⟨(some 21), .v (.mov (.t 20)), none⟩, ⟨(some 22), .v (.faddr 2 (.t 1)), (some (21, true))⟩, ⟨(some 23), .v (.load false 1 (.t 22)), (some (21, true))⟩, ⟨(some 24), .v (.len (.t 23)), (some (21, true))⟩, ⟨(some 25), .v (.faddr 1 (.t 1)), (some (21, true))⟩, ⟨(some 26), .v (.load false 1 (.t 25)), (some (21, true))⟩, ⟨(some 27), .v (.len (.t 26)), (some (21, true))⟩, ⟨(some 28), .v (.bin .eql (.t 24) (.t 27)), (some (21, true))⟩, ⟨(some 29), .v (.pick (.t 21) (.t 28) (.c (.bool false))), none⟩, ⟨(some 2), .v (.mov (.t 29)), none⟩])
    .ret)))⟩
theorem e102 : rFunc Tryz.prog Tryz.f102 = some r102 := by kernel_rfl
end Go.Proofs.YtjfgmimgmapeeaaGreat.M
