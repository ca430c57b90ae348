/- A part of the engine: a machine over abstract values, and the proof that the program does what it does; no condition. -/
import Derived.Test.YtiomljbaolopiaaE4
import Derived.KernelRfl
set_option linter.unusedSectionVars false
set_option linter.unusedVariables false
set_option linter.unusedSimpArgs false
set_option linter.unnecessarySimpa false
/- The machine's code of what the four laws on the line reach. -/
namespace Go.Eng.Line
open Go Go.Eng

/-- vagabond/vagabondlaw27.LineFull -/
def c3 : AFunc := ⟨2, 94, [.tmp 4],
  ACode.seq (ACode.ops [⟨(some 4), (.move (.c (.bool false))), none, []⟩])
  (ACode.seq (ACode.seq (ACode.ops [⟨(some 12), (.call (.c (.fn (.func 11) [] [])) []), none, []⟩,
       ⟨(some 13), (.un .not (.t 12)), none, []⟩])
    (ACode.cond (.t 13) (ACode.seq (ACode.ops [⟨(some 4), (.move (.c (.bool false))), none, []⟩])
      (ACode.ret))
     (ACode.skip)))
   (ACode.seq (ACode.seq (ACode.ops [⟨(some 14), (.move (.t 0)), none, []⟩,
        ⟨(some 15), (.len false (.t 14)), none, []⟩,
        ⟨(some 16), (.bin .gtr (.t 15) (.c (.int .i64 300))), none, []⟩])
     (ACode.cond (.t 16) (ACode.seq (ACode.ops [⟨(some 4), (.move (.c (.bool true))), none, []⟩])
       (ACode.ret))
      (ACode.skip)))
    (ACode.seq (ACode.ops [⟨(some 5), (.alloc [.nils]), none, []⟩])
     (ACode.seq (ACode.seq (ACode.ops [⟨(some 17), (.move (.t 0)), none, []⟩,
          ⟨(some 18), (.len false (.t 17)), none, []⟩,
          ⟨(some 19), (.move (.c (.int .i64 0))), none, []⟩])
       (ACode.block 0 (ACode.loop (ACode.seq (ACode.ops [⟨(some 20), (.bin .lss (.t 19) (.t 18)), none, []⟩])
          (ACode.seq (ACode.cond (.t 20) (ACode.skip)
            (ACode.exit 0))
           (ACode.seq (ACode.block 1 (ACode.seq (ACode.ops [⟨(some 21), (.move (.t 19)), none, []⟩,
                 ⟨(some 22), (.iaddr 1 (.t 17) (.t 19)), none, []⟩,
                 ⟨(some 23), (.load false 1 (.t 22)), none, []⟩,
                 ⟨(some 6), (.move (.t 21)), none, []⟩,
                 ⟨(some 7), (.move (.t 23)), none, []⟩])
              (ACode.ops [⟨(some 24), (.load true 1 (.t 5)), none, []⟩,
                 ⟨(some 25), (.move (.t 6)), none, []⟩,
                 ⟨(some 26), (.conv (.int .u32) (.t 25)), none, []⟩,
                 ⟨(some 27), (.build [(.int .u32 0), (.int .u16 0)] [((0, 1), (.t 26))]), none, []⟩,
                 ⟨(some 28), (.move (.t 7)), none, []⟩,
                 ⟨(some 29), (.build [(.int .u32 0), (.int .u16 0), (.int .u32 0), (.int .u16 0), (.str []), (.int .u64 0)] [((0, 2), (.t 27)), ((5, 1), (.t 28))]), none, []⟩,
                 ⟨(some 30), (.call (.c (.fn (.func 12) [] [])) [(.t 24), (.t 29)]), none, []⟩,
                 ⟨none, (.store 1 (.t 5) (.t 30)), none, []⟩])))
            (ACode.ops [⟨(some 31), (.bin .add (.t 19) (.c (.int .i64 1))), none, []⟩,
               ⟨(some 19), (.move (.t 31)), none, []⟩])))))))
      (ACode.seq (ACode.ops [⟨(some 32), (.move (.t 0)), none, []⟩,
          ⟨(some 33), (.len false (.t 32)), none, []⟩,
          ⟨(some 34), (.bin .sub (.t 33) (.c (.int .i64 256))), none, []⟩,
          ⟨(some 35), (.maxI [(.t 34), (.c (.int .i64 0))]), none, []⟩,
          ⟨(some 8), (.move (.t 35)), none, []⟩])
       (ACode.seq (ACode.ops [⟨(some 9), (.move (.c .nils)), none, []⟩])
        (ACode.seq (ACode.seq (ACode.ops [⟨(some 36), (.load true 1 (.t 5)), none, []⟩,
             ⟨(some 37), (.call (.c (.fn (.func 13) [] [])) [(.t 36)]), none, []⟩,
             ⟨(some 38), (.len false (.t 37)), none, []⟩,
             ⟨(some 39), (.move (.c (.int .i64 0))), none, []⟩])
          (ACode.block 2 (ACode.loop (ACode.seq (ACode.ops [⟨(some 40), (.bin .lss (.t 39) (.t 38)), none, []⟩])
             (ACode.seq (ACode.cond (.t 40) (ACode.skip)
               (ACode.exit 2))
              (ACode.seq (ACode.block 3 (ACode.seq (ACode.ops [⟨(some 41), (.move (.t 39)), none, []⟩,
                    ⟨(some 42), (.iaddr 6 (.t 37) (.t 39)), none, []⟩,
                    ⟨(some 43), (.load true 6 (.t 42)), none, []⟩,
                    ⟨(some 11), (.alloc [(.int .u32 0), (.int .u16 0), (.int .u32 0), (.int .u16 0), (.str []), (.int .u64 0)]), none, []⟩,
                    ⟨(some 10), (.move (.t 41)), none, []⟩,
                    ⟨none, (.store 6 (.t 11) (.t 43)), none, []⟩])
                 (ACode.seq (ACode.seq (ACode.draw [⟨(some 44), (.move (.t 8)), none, []⟩,
                      ⟨(some 45), (.move (.t 10)), none, [0]⟩,
                      ⟨(some 46), (.bin .add (.t 44) (.t 45)), none, []⟩,
                      ⟨(some 47), (.move (.t 0)), none, [0, 1, 2]⟩,
                      ⟨(some 48), (.len false (.t 47)), none, [0, 1, 2]⟩,
                      ⟨(some 49), (.bin .geq (.t 46) (.t 48)), none, []⟩,
                      ⟨(some 50), (.move (.t 49)), none, []⟩,
                      ⟨(some 51), (.faddr 0 (.t 11)), some (50, false), []⟩,
                      ⟨(some 52), (.faddr 0 (.t 51)), some (50, false), []⟩,
                      ⟨(some 53), (.load false 1 (.t 52)), some (50, false), []⟩,
                      ⟨(some 54), (.move (.t 8)), some (50, false), [7, 8, 9]⟩,
                      ⟨(some 55), (.move (.t 10)), some (50, false), [7, 8, 9, 10]⟩,
                      ⟨(some 56), (.bin .add (.t 54) (.t 55)), some (50, false), [7, 8, 9]⟩,
                      ⟨(some 57), (.conv (.int .u32) (.t 56)), some (50, false), [7, 8, 9]⟩,
                      ⟨(some 58), (.bin .neq (.t 53) (.t 57)), some (50, false), []⟩,
                      ⟨(some 59), (.pick (.t 50) (.c (.bool true)) (.t 58)), none, []⟩,
                      ⟨(some 60), (.move (.t 59)), none, []⟩,
                      ⟨(some 61), (.faddr 5 (.t 11)), some (60, false), []⟩,
                      ⟨(some 62), (.load false 1 (.t 61)), some (60, false), []⟩,
                      ⟨(some 63), (.move (.t 0)), some (60, false), [17, 18]⟩,
                      ⟨(some 64), (.move (.t 8)), some (60, false), [17, 18, 19]⟩,
                      ⟨(some 65), (.move (.t 10)), some (60, false), [17, 18, 19, 20]⟩,
                      ⟨(some 66), (.bin .add (.t 64) (.t 65)), some (60, false), [17, 18, 19]⟩,
                      ⟨(some 67), (.iaddr 1 (.t 63) (.t 66)), some (60, false), [17, 18]⟩,
                      ⟨(some 68), (.load false 1 (.t 67)), some (60, false), [17, 18]⟩,
                      ⟨(some 69), (.bin .neq (.t 62) (.t 68)), some (60, false), []⟩,
                      ⟨(some 70), (.pick (.t 60) (.c (.bool true)) (.t 69)), none, []⟩])
                   (ACode.cond (.t 70) (ACode.seq (ACode.ops [⟨(some 4), (.move (.c (.bool false))), none, []⟩])
                     (ACode.ret))
                    (ACode.skip)))
                  (ACode.seq (ACode.ops [⟨(some 71), (.faddr 5 (.t 11)), none, []⟩,
                      ⟨(some 72), (.load false 1 (.t 71)), none, []⟩,
                      ⟨(some 73), (.move (.t 1)), none, []⟩,
                      ⟨(some 74), (.bin .leq (.t 72) (.t 73)), none, []⟩])
                   (ACode.cond (.t 74) (ACode.ops [⟨(some 75), (.move (.t 9)), none, []⟩,
                       ⟨(some 76), (.move (.t 10)), none, []⟩,
                       ⟨(some 77), (.buildSlice [(.int .i64 0)] 1 1 [(0, (.t 76))]), none, []⟩,
                       ⟨(some 78), (.append 1 8 (.t 75) (.t 77)), none, []⟩,
                       ⟨(some 9), (.move (.t 78)), none, []⟩])
                    (ACode.skip))))))
               (ACode.ops [⟨(some 79), (.bin .add (.t 39) (.c (.int .i64 1))), none, []⟩,
                  ⟨(some 39), (.move (.t 79)), none, []⟩])))))))
         (ACode.seq (ACode.ops [⟨(some 80), (.load true 1 (.t 5)), none, []⟩,
             ⟨(some 81), (.call (.c (.fn (.func 14) [] [])) [(.t 80)]), none, []⟩,
             ⟨(some 82), (.move (.t 0)), none, []⟩,
             ⟨(some 83), (.len false (.t 82)), none, []⟩,
             ⟨(some 84), (.move (.t 8)), none, []⟩,
             ⟨(some 85), (.bin .sub (.t 83) (.t 84)), none, []⟩,
             ⟨(some 86), (.bin .eql (.t 81) (.t 85)), none, []⟩,
             ⟨(some 87), (.move (.t 86)), none, []⟩,
             ⟨(some 88), (.load true 1 (.t 5)), some (87, true), []⟩,
             ⟨(some 89), (.move (.t 1)), some (87, true), []⟩,
             ⟨(some 90), (.call (.c (.fn (.func 16) [] [])) [(.t 88), (.t 89)]), some (87, true), []⟩,
             ⟨(some 91), (.move (.t 9)), some (87, true), []⟩,
             ⟨(some 92), (.call (.c (.fn (.func 15) [] [])) [(.t 90), (.t 91)]), some (87, true), []⟩,
             ⟨(some 93), (.pick (.t 87) (.t 92) (.c (.bool false))), none, []⟩,
             ⟨(some 4), (.move (.t 93)), none, []⟩])
          (ACode.ret)))))))))⟩

/-- vagabond/vagabondlaw27.LineDelays -/
def c4 : AFunc := ⟨3, 129, [.tmp 6],
  ACode.seq (ACode.ops [⟨(some 6), (.move (.c (.bool false))), none, []⟩])
  (ACode.seq (ACode.seq (ACode.ops [⟨(some 14), (.call (.c (.fn (.func 11) [] [])) []), none, []⟩,
       ⟨(some 15), (.un .not (.t 14)), none, []⟩])
    (ACode.cond (.t 15) (ACode.seq (ACode.ops [⟨(some 6), (.move (.c (.bool false))), none, []⟩])
      (ACode.ret))
     (ACode.skip)))
   (ACode.seq (ACode.seq (ACode.ops [⟨(some 16), (.move (.t 0)), none, []⟩,
        ⟨(some 17), (.len false (.t 16)), none, []⟩,
        ⟨(some 18), (.bin .gtr (.t 17) (.c (.int .i64 60))), none, []⟩,
        ⟨(some 19), (.move (.t 18)), none, []⟩,
        ⟨(some 20), (.move (.t 1)), some (19, false), []⟩,
        ⟨(some 21), (.len false (.t 20)), some (19, false), []⟩,
        ⟨(some 22), (.bin .gtr (.t 21) (.c (.int .i64 60))), some (19, false), []⟩,
        ⟨(some 23), (.pick (.t 19) (.c (.bool true)) (.t 22)), none, []⟩])
     (ACode.cond (.t 23) (ACode.seq (ACode.ops [⟨(some 6), (.move (.c (.bool true))), none, []⟩])
       (ACode.ret))
      (ACode.skip)))
    (ACode.seq (ACode.ops [⟨(some 7), (.alloc [.nils]), none, []⟩])
     (ACode.seq (ACode.seq (ACode.ops [⟨(some 24), (.move (.t 0)), none, []⟩,
          ⟨(some 25), (.len false (.t 24)), none, []⟩,
          ⟨(some 26), (.move (.c (.int .i64 0))), none, []⟩])
       (ACode.block 0 (ACode.loop (ACode.seq (ACode.ops [⟨(some 27), (.bin .lss (.t 26) (.t 25)), none, []⟩])
          (ACode.seq (ACode.cond (.t 27) (ACode.skip)
            (ACode.exit 0))
           (ACode.seq (ACode.block 1 (ACode.seq (ACode.ops [⟨(some 28), (.move (.t 26)), none, []⟩,
                 ⟨(some 29), (.iaddr 1 (.t 24) (.t 26)), none, []⟩,
                 ⟨(some 30), (.load false 1 (.t 29)), none, []⟩,
                 ⟨(some 8), (.move (.t 28)), none, []⟩,
                 ⟨(some 9), (.move (.t 30)), none, []⟩])
              (ACode.seq (ACode.ops [⟨(some 31), (.load true 1 (.t 7)), none, []⟩,
                  ⟨(some 32), (.move (.t 9)), none, []⟩,
                  ⟨(some 33), (.build [(.int .u32 0), (.int .u16 0), (.int .u32 0), (.int .u16 0), (.str []), (.int .u64 0)] [((4, 1), (.t 32))]), none, []⟩,
                  ⟨(some 34), (.call (.c (.fn (.func 12) [] [])) [(.t 31), (.t 33)]), none, []⟩,
                  ⟨none, (.store 1 (.t 7) (.t 34)), none, []⟩])
               (ACode.seq (ACode.ops [⟨(some 35), (.move (.t 8)), none, []⟩,
                   ⟨(some 36), (.move (.t 1)), none, []⟩,
                   ⟨(some 37), (.len false (.t 36)), none, []⟩,
                   ⟨(some 38), (.bin .lss (.t 35) (.t 37)), none, []⟩])
                (ACode.cond (.t 38) (ACode.draw [⟨(some 40), (.load true 1 (.t 7)), none, []⟩,
                    ⟨(some 41), (.move (.t 8)), none, [0]⟩,
                    ⟨(some 42), (.move (.t 1)), none, [0, 1]⟩,
                    ⟨(some 43), (.move (.t 8)), none, [0, 1, 2]⟩,
                    ⟨(some 44), (.iaddr 1 (.t 42) (.t 43)), none, [0, 1]⟩,
                    ⟨(some 45), (.load false 1 (.t 44)), none, [0, 1]⟩,
                    ⟨(some 46), (.conv (.int .u64) (.t 45)), none, [0, 1]⟩,
                    ⟨(some 47), (.call (.c (.fn (.func 17) [] [])) [(.t 40), (.t 41), (.t 46)]), none, []⟩,
                    ⟨(some 39), (.move (.t 47)), none, []⟩,
                    ⟨(some 48), (.extract (.t 39) 0), none, []⟩,
                    ⟨(some 49), (.extract (.t 39) 1), none, [9]⟩,
                    ⟨none, (.store 1 (.t 7) (.t 48)), none, [10]⟩])
                 (ACode.skip))))))
            (ACode.ops [⟨(some 50), (.bin .add (.t 26) (.c (.int .i64 1))), none, []⟩,
               ⟨(some 26), (.move (.t 50)), none, []⟩])))))))
      (ACode.seq (ACode.ops [⟨(some 10), (.move (.c .nils)), none, []⟩])
       (ACode.seq (ACode.seq (ACode.ops [⟨(some 51), (.load true 1 (.t 7)), none, []⟩,
            ⟨(some 52), (.call (.c (.fn (.func 13) [] [])) [(.t 51)]), none, []⟩,
            ⟨(some 53), (.len false (.t 52)), none, []⟩,
            ⟨(some 54), (.move (.c (.int .i64 0))), none, []⟩])
         (ACode.block 2 (ACode.loop (ACode.seq (ACode.ops [⟨(some 55), (.bin .lss (.t 54) (.t 53)), none, []⟩])
            (ACode.seq (ACode.cond (.t 55) (ACode.skip)
              (ACode.exit 2))
             (ACode.seq (ACode.block 3 (ACode.seq (ACode.ops [⟨(some 56), (.move (.t 54)), none, []⟩,
                   ⟨(some 57), (.iaddr 6 (.t 52) (.t 54)), none, []⟩,
                   ⟨(some 58), (.load true 6 (.t 57)), none, []⟩,
                   ⟨(some 12), (.alloc [(.int .u32 0), (.int .u16 0), (.int .u32 0), (.int .u16 0), (.str []), (.int .u64 0)]), none, []⟩,
                   ⟨(some 11), (.move (.t 56)), none, []⟩,
                   ⟨none, (.store 6 (.t 12) (.t 58)), none, []⟩])
                (ACode.seq (ACode.seq (ACode.draw [⟨(some 59), (.move (.t 11)), none, []⟩,
                     ⟨(some 60), (.move (.t 1)), none, [0]⟩,
                     ⟨(some 61), (.len false (.t 60)), none, [0]⟩,
                     ⟨(some 62), (.bin .lss (.t 59) (.t 61)), none, []⟩,
                     ⟨(some 63), (.move (.t 62)), none, []⟩,
                     ⟨(some 64), (.faddr 5 (.t 12)), some (63, true), []⟩,
                     ⟨(some 65), (.load false 1 (.t 64)), some (63, true), []⟩,
                     ⟨(some 66), (.move (.t 1)), some (63, true), [5, 6]⟩,
                     ⟨(some 67), (.move (.t 11)), some (63, true), [5, 6, 7]⟩,
                     ⟨(some 68), (.iaddr 1 (.t 66) (.t 67)), some (63, true), [5, 6]⟩,
                     ⟨(some 69), (.load false 1 (.t 68)), some (63, true), [5, 6]⟩,
                     ⟨(some 70), (.conv (.int .u64) (.t 69)), some (63, true), [5, 6]⟩,
                     ⟨(some 71), (.bin .neq (.t 65) (.t 70)), some (63, true), []⟩,
                     ⟨(some 72), (.pick (.t 63) (.t 71) (.c (.bool false))), none, []⟩,
                     ⟨(some 73), (.move (.t 72)), none, []⟩,
                     ⟨(some 74), (.faddr 4 (.t 12)), some (73, false), []⟩,
                     ⟨(some 75), (.load false 1 (.t 74)), some (73, false), []⟩,
                     ⟨(some 76), (.move (.t 0)), some (73, false), [15, 16]⟩,
                     ⟨(some 77), (.move (.t 11)), some (73, false), [15, 16, 17]⟩,
                     ⟨(some 78), (.iaddr 1 (.t 76) (.t 77)), some (73, false), [15, 16]⟩,
                     ⟨(some 79), (.load false 1 (.t 78)), some (73, false), [15, 16]⟩,
                     ⟨(some 80), (.bin .neq (.t 75) (.t 79)), some (73, false), []⟩,
                     ⟨(some 81), (.pick (.t 73) (.c (.bool true)) (.t 80)), none, []⟩])
                  (ACode.cond (.t 81) (ACode.seq (ACode.ops [⟨(some 6), (.move (.c (.bool false))), none, []⟩])
                    (ACode.ret))
                   (ACode.skip)))
                 (ACode.seq (ACode.ops [⟨(some 82), (.move (.t 2)), none, []⟩,
                     ⟨(some 83), (.move (.t 11)), none, []⟩,
                     ⟨(some 84), (.bin .shr (.t 82) (.t 83)), none, []⟩,
                     ⟨(some 85), (.bin .and (.t 84) (.c (.int .u64 1))), none, []⟩,
                     ⟨(some 86), (.bin .eql (.t 85) (.c (.int .u64 0))), none, []⟩])
                  (ACode.cond (.t 86) (ACode.ops [⟨(some 87), (.move (.t 10)), none, []⟩,
                      ⟨(some 88), (.load true 6 (.t 12)), none, []⟩,
                      ⟨(some 89), (.buildSlice [(.int .u32 0), (.int .u16 0), (.int .u32 0), (.int .u16 0), (.str []), (.int .u64 0)] 6 1 [(0, (.t 88))]), none, []⟩,
                      ⟨(some 90), (.append 6 40 (.t 87) (.t 89)), none, []⟩,
                      ⟨(some 10), (.move (.t 90)), none, []⟩])
                   (ACode.skip))))))
              (ACode.ops [⟨(some 91), (.bin .add (.t 54) (.c (.int .i64 1))), none, []⟩,
                 ⟨(some 54), (.move (.t 91)), none, []⟩])))))))
        (ACode.seq (ACode.seq (ACode.ops [⟨(some 92), (.move (.t 0)), none, []⟩,
             ⟨(some 93), (.len false (.t 92)), none, []⟩,
             ⟨(some 94), (.bin .sub (.t 93) (.c (.int .i64 1))), none, []⟩,
             ⟨(some 13), (.move (.t 94)), none, []⟩])
          (ACode.block 4 (ACode.loop (ACode.seq (ACode.seq (ACode.ops [⟨(some 95), (.move (.t 13)), none, []⟩,
                 ⟨(some 96), (.bin .geq (.t 95) (.c (.int .i64 0))), none, []⟩])
              (ACode.cond (.t 96) (ACode.skip)
               (ACode.exit 4)))
             (ACode.seq (ACode.block 5 (ACode.seq (ACode.ops [⟨(some 99), (.move (.t 2)), none, []⟩,
                   ⟨(some 100), (.move (.t 13)), none, []⟩,
                   ⟨(some 101), (.bin .shr (.t 99) (.t 100)), none, []⟩,
                   ⟨(some 102), (.bin .and (.t 101) (.c (.int .u64 1))), none, []⟩,
                   ⟨(some 103), (.bin .eql (.t 102) (.c (.int .u64 1))), none, []⟩])
                (ACode.cond (.t 103) (ACode.ops [⟨(some 105), (.load true 1 (.t 7)), none, []⟩,
                    ⟨(some 106), (.move (.t 13)), none, []⟩,
                    ⟨(some 107), (.call (.c (.fn (.func 18) [] [])) [(.t 105), (.t 106)]), none, []⟩,
                    ⟨(some 104), (.move (.t 107)), none, []⟩,
                    ⟨(some 108), (.extract (.t 104) 0), none, []⟩,
                    ⟨(some 109), (.extract (.t 104) 1), none, []⟩,
                    ⟨none, (.store 1 (.t 7) (.t 108)), none, []⟩])
                 (ACode.skip))))
              (ACode.ops [⟨(some 97), (.move (.t 13)), none, []⟩,
                 ⟨(some 98), (.bin .sub (.t 97) (.c (.int .i64 1))), none, []⟩,
                 ⟨(some 13), (.move (.t 98)), none, []⟩]))))))
         (ACode.seq (ACode.ops [⟨(some 110), (.load true 1 (.t 7)), none, []⟩,
             ⟨(some 111), (.call (.c (.fn (.func 13) [] [])) [(.t 110)]), none, []⟩,
             ⟨(some 112), (.move (.t 10)), none, []⟩,
             ⟨(some 113), (.call (.c (.fn (.func 19) [] [])) [(.t 111), (.t 112)]), none, []⟩,
             ⟨(some 114), (.move (.t 113)), none, []⟩,
             ⟨(some 115), (.load true 1 (.t 7)), some (114, true), []⟩,
             ⟨(some 116), (.call (.c (.fn (.func 16) [] [])) [(.t 115), (.c (.int .u64 65535))]), some (114, true), []⟩,
             ⟨(some 117), (.len false (.t 116)), some (114, true), []⟩,
             ⟨(some 118), (.move (.t 10)), some (114, true), []⟩,
             ⟨(some 119), (.len false (.t 118)), some (114, true), []⟩,
             ⟨(some 120), (.bin .eql (.t 117) (.t 119)), some (114, true), []⟩,
             ⟨(some 121), (.pick (.t 114) (.t 120) (.c (.bool false))), none, []⟩,
             ⟨(some 122), (.move (.t 121)), none, []⟩,
             ⟨(some 123), (.load true 1 (.t 7)), some (122, true), []⟩,
             ⟨(some 124), (.call (.c (.fn (.func 14) [] [])) [(.t 123)]), some (122, true), []⟩,
             ⟨(some 125), (.move (.t 10)), some (122, true), []⟩,
             ⟨(some 126), (.len false (.t 125)), some (122, true), []⟩,
             ⟨(some 127), (.bin .eql (.t 124) (.t 126)), some (122, true), []⟩,
             ⟨(some 128), (.pick (.t 122) (.t 127) (.c (.bool false))), none, []⟩,
             ⟨(some 6), (.move (.t 128)), none, []⟩])
          (ACode.ret)))))))))⟩

/-- vagabond/vagabondlaw27.LineTurns -/
def c5 : AFunc := ⟨2, 229, [.tmp 4],
  ACode.seq (ACode.ops [⟨(some 4), (.move (.c (.bool false))), none, []⟩])
  (ACode.seq (ACode.seq (ACode.ops [⟨(some 23), (.call (.c (.fn (.func 11) [] [])) []), none, []⟩,
       ⟨(some 24), (.un .not (.t 23)), none, []⟩])
    (ACode.cond (.t 24) (ACode.seq (ACode.ops [⟨(some 4), (.move (.c (.bool false))), none, []⟩])
      (ACode.ret))
     (ACode.skip)))
   (ACode.seq (ACode.seq (ACode.ops [⟨(some 25), (.move (.t 0)), none, []⟩,
        ⟨(some 26), (.len false (.t 25)), none, []⟩,
        ⟨(some 27), (.bin .gtr (.t 26) (.c (.int .i64 300))), none, []⟩])
     (ACode.cond (.t 27) (ACode.seq (ACode.ops [⟨(some 4), (.move (.c (.bool true))), none, []⟩])
       (ACode.ret))
      (ACode.skip)))
    (ACode.seq (ACode.ops [⟨(some 5), (.alloc [.nils]), none, []⟩])
     (ACode.seq (ACode.ops [⟨(some 6), (.move (.c .nils)), none, []⟩])
      (ACode.seq (ACode.seq (ACode.ops [⟨(some 28), (.move (.t 0)), none, []⟩,
           ⟨(some 29), (.len false (.t 28)), none, []⟩,
           ⟨(some 30), (.move (.c (.int .i64 0))), none, []⟩])
        (ACode.block 0 (ACode.loop (ACode.seq (ACode.ops [⟨(some 31), (.bin .lss (.t 30) (.t 29)), none, []⟩])
           (ACode.seq (ACode.cond (.t 31) (ACode.skip)
             (ACode.exit 0))
            (ACode.seq (ACode.block 1 (ACode.seq (ACode.ops [⟨(some 32), (.iaddr 9 (.t 28) (.t 30)), none, []⟩,
                  ⟨(some 33), (.load true 9 (.t 32)), none, []⟩,
                  ⟨(some 8), (.alloc [(.int .u8 0), (.int .u32 0), (.int .u16 0), (.int .u32 0), (.int .u16 0), (.str []), (.int .u64 0), (.int .i64 0), (.int .u64 0)]), none, []⟩,
                  ⟨none, (.store 9 (.t 8) (.t 33)), none, []⟩])
               (ACode.seq (ACode.ops [⟨(some 34), (.faddr 7 (.t 8)), none, []⟩,
                   ⟨(some 35), (.load false 1 (.t 34)), none, []⟩,
                   ⟨(some 36), (.bin .geq (.t 35) (.c (.int .i64 0))), none, []⟩,
                   ⟨(some 37), (.move (.t 36)), none, []⟩,
                   ⟨(some 38), (.faddr 7 (.t 8)), some (37, true), []⟩,
                   ⟨(some 39), (.load false 1 (.t 38)), some (37, true), []⟩,
                   ⟨(some 40), (.move (.t 6)), some (37, true), []⟩,
                   ⟨(some 41), (.len false (.t 40)), some (37, true), []⟩,
                   ⟨(some 42), (.bin .lss (.t 39) (.t 41)), some (37, true), []⟩,
                   ⟨(some 43), (.pick (.t 37) (.t 42) (.c (.bool false))), none, []⟩,
                   ⟨(some 9), (.move (.t 43)), none, []⟩])
                (ACode.seq (ACode.ops [⟨(some 10), (.move (.c (.int .i64 0))), none, []⟩,
                    ⟨(some 11), (.move (.c (.int .i64 0))), none, []⟩])
                 (ACode.seq (ACode.seq (ACode.ops [⟨(some 44), (.move (.t 9)), none, []⟩,
                      ⟨(some 45), (.un .not (.t 44)), none, []⟩])
                   (ACode.cond (.t 45) (ACode.ops [⟨(some 11), (.move (.c (.int .i64 10))), none, []⟩])
                    (ACode.skip)))
                  (ACode.seq (ACode.ops [⟨(some 46), (.load true 1 (.t 5)), none, []⟩,
                      ⟨(some 47), (.move (.t 6)), none, []⟩,
                      ⟨(some 12), (.alloc [.nils]), none, []⟩,
                      ⟨none, (.store 1 (.t 12) (.t 46)), none, []⟩,
                      ⟨(some 13), (.move (.t 47)), none, []⟩])
                   (ACode.seq (ACode.seq (ACode.ops [⟨(some 48), (.faddr 0 (.t 8)), none, []⟩,
                        ⟨(some 49), (.load false 1 (.t 48)), none, []⟩,
                        ⟨(some 50), (.bin .rem (.t 49) (.c (.int .u8 6))), none, []⟩])
                     (ACode.block 2 (ACode.seq (ACode.ops [⟨(some 61), (.bin .eql (.t 50) (.c (.int .u8 2))), none, []⟩,
                          ⟨(some 60), (.move (.t 61)), none, []⟩])
                       (ACode.cond (.t 60) (ACode.seq (ACode.ops [⟨(some 14), (.alloc [(.int .u32 0), (.int .u16 0), (.int .u32 0), (.int .u16 0), (.str []), (.int .u64 0)]), none, []⟩])
                         (ACode.seq (ACode.ops [⟨(some 63), (.load true 1 (.t 5)), none, []⟩,
                             ⟨(some 64), (.faddr 7 (.t 8)), none, []⟩,
                             ⟨(some 65), (.load false 1 (.t 64)), none, []⟩,
                             ⟨(some 66), (.faddr 8 (.t 8)), none, []⟩,
                             ⟨(some 67), (.load false 1 (.t 66)), none, []⟩,
                             ⟨(some 68), (.call (.c (.fn (.func 20) [] [])) [(.t 63), (.t 65), (.t 67)]), none, []⟩,
                             ⟨(some 62), (.move (.t 68)), none, []⟩,
                             ⟨(some 69), (.extract (.t 62) 0), none, []⟩,
                             ⟨(some 70), (.extract (.t 62) 1), none, []⟩,
                             ⟨(some 71), (.extract (.t 62) 2), none, []⟩,
                             ⟨none, (.store 1 (.t 5) (.t 69)), none, []⟩,
                             ⟨none, (.store 6 (.t 14) (.t 70)), none, []⟩,
                             ⟨(some 10), (.move (.t 71)), none, []⟩])
                          (ACode.seq (ACode.seq (ACode.draw [⟨(some 72), (.move (.t 9)), none, []⟩,
                               ⟨(some 73), (.move (.t 72)), none, []⟩,
                               ⟨(some 74), (.move (.t 6)), some (73, true), []⟩,
                               ⟨(some 75), (.faddr 7 (.t 8)), some (73, true), [2]⟩,
                               ⟨(some 76), (.load false 1 (.t 75)), some (73, true), [2]⟩,
                               ⟨(some 77), (.iaddr 4 (.t 74) (.t 76)), some (73, true), []⟩,
                               ⟨(some 78), (.faddr 3 (.t 77)), some (73, true), []⟩,
                               ⟨(some 79), (.load false 1 (.t 78)), some (73, true), []⟩,
                               ⟨(some 80), (.faddr 8 (.t 8)), some (73, true), [2, 3, 4, 5, 6, 7]⟩,
                               ⟨(some 81), (.load false 1 (.t 80)), some (73, true), [2, 3, 4, 5, 6, 7]⟩,
                               ⟨(some 82), (.bin .gtr (.t 79) (.t 81)), some (73, true), []⟩,
                               ⟨(some 83), (.pick (.t 73) (.t 82) (.c (.bool false))), none, []⟩])
                            (ACode.cond (.t 83) (ACode.ops [⟨(some 11), (.move (.c (.int .i64 21))), none, []⟩])
                             (ACode.skip)))
                           (ACode.seq (ACode.ops [⟨(some 84), (.move (.t 11)), none, []⟩,
                               ⟨(some 85), (.bin .eql (.t 84) (.c (.int .i64 0))), none, []⟩])
                            (ACode.cond (.t 85) (ACode.seq (ACode.seq (ACode.draw [⟨(some 86), (.load true 6 (.t 14)), none, []⟩,
                                  ⟨(some 87), (.call (.c (.fn (.func 21) [] [])) [(.t 86)]), none, []⟩,
                                  ⟨(some 88), (.move (.t 6)), none, [0, 1]⟩,
                                  ⟨(some 89), (.faddr 7 (.t 8)), none, [0, 1, 2]⟩,
                                  ⟨(some 90), (.load false 1 (.t 89)), none, [0, 1, 2]⟩,
                                  ⟨(some 91), (.iaddr 4 (.t 88) (.t 90)), none, [0, 1]⟩,
                                  ⟨(some 92), (.load true 4 (.t 91)), none, [0, 1]⟩,
                                  ⟨(some 93), (.eqAgg true [some (.int .u64), some (.int .u64), some .str, some (.int .u64)] (.t 87) (.t 92)), none, []⟩])
                               (ACode.cond (.t 93) (ACode.seq (ACode.ops [⟨(some 4), (.move (.c (.bool false))), none, []⟩])
                                 (ACode.ret))
                                (ACode.skip)))
                              (ACode.ops [⟨(some 94), (.move (.t 6)), none, []⟩,
                                 ⟨(some 95), (.faddr 7 (.t 8)), none, []⟩,
                                 ⟨(some 96), (.load false 1 (.t 95)), none, []⟩,
                                 ⟨(some 97), (.call (.c (.fn (.func 22) [] [])) [(.t 94), (.t 96)]), none, []⟩,
                                 ⟨(some 6), (.move (.t 97)), none, []⟩]))
                             (ACode.seq (ACode.ops [⟨(some 98), (.load true 6 (.t 14)), none, []⟩,
                                 ⟨(some 99), (.build [(.int .u32 0), (.int .u16 0), (.int .u32 0), (.int .u16 0), (.str []), (.int .u64 0)] []), none, []⟩,
                                 ⟨(some 100), (.eqAgg true [some (.int .u32), some (.int .u16), some (.int .u32), some (.int .u16), some .str, some (.int .u64)] (.t 98) (.t 99)), none, []⟩])
                              (ACode.cond (.t 100) (ACode.seq (ACode.ops [⟨(some 4), (.move (.c (.bool false))), none, []⟩])
                                (ACode.ret))
                               (ACode.skip))))))))
                        (ACode.seq (ACode.ops [⟨(some 102), (.bin .eql (.t 50) (.c (.int .u8 3))), none, []⟩,
                            ⟨(some 101), (.move (.t 102)), none, []⟩])
                         (ACode.cond (.t 101) (ACode.seq (ACode.ops [⟨(some 104), (.load true 1 (.t 5)), none, []⟩,
                              ⟨(some 105), (.faddr 7 (.t 8)), none, []⟩,
                              ⟨(some 106), (.load false 1 (.t 105)), none, []⟩,
                              ⟨(some 107), (.call (.c (.fn (.func 18) [] [])) [(.t 104), (.t 106)]), none, []⟩,
                              ⟨(some 103), (.move (.t 107)), none, []⟩,
                              ⟨(some 108), (.extract (.t 103) 0), none, []⟩,
                              ⟨(some 109), (.extract (.t 103) 1), none, []⟩,
                              ⟨none, (.store 1 (.t 5) (.t 108)), none, []⟩,
                              ⟨(some 10), (.move (.t 109)), none, []⟩])
                           (ACode.ops [⟨(some 110), (.move (.t 6)), none, []⟩,
                              ⟨(some 111), (.faddr 7 (.t 8)), none, []⟩,
                              ⟨(some 112), (.load false 1 (.t 111)), none, []⟩,
                              ⟨(some 113), (.call (.c (.fn (.func 22) [] [])) [(.t 110), (.t 112)]), none, []⟩,
                              ⟨(some 6), (.move (.t 113)), none, []⟩]))
                          (ACode.seq (ACode.ops [⟨(some 115), (.bin .eql (.t 50) (.c (.int .u8 4))), none, []⟩,
                              ⟨(some 114), (.move (.t 115)), none, []⟩])
                           (ACode.cond (.t 114) (ACode.seq (ACode.ops [⟨(some 117), (.load true 1 (.t 5)), none, []⟩,
                                ⟨(some 118), (.faddr 7 (.t 8)), none, []⟩,
                                ⟨(some 119), (.load false 1 (.t 118)), none, []⟩,
                                ⟨(some 120), (.faddr 8 (.t 8)), none, []⟩,
                                ⟨(some 121), (.load false 1 (.t 120)), none, []⟩,
                                ⟨(some 122), (.call (.c (.fn (.func 23) [] [])) [(.t 117), (.t 119), (.t 121)]), none, []⟩,
                                ⟨(some 116), (.move (.t 122)), none, []⟩,
                                ⟨(some 123), (.extract (.t 116) 0), none, []⟩,
                                ⟨(some 124), (.extract (.t 116) 1), none, []⟩,
                                ⟨none, (.store 1 (.t 5) (.t 123)), none, []⟩,
                                ⟨(some 10), (.move (.t 124)), none, []⟩])
                             (ACode.seq (ACode.ops [⟨(some 125), (.move (.t 9)), none, []⟩])
                              (ACode.cond (.t 125) (ACode.seq (ACode.ops [⟨(some 126), (.move (.t 6)), none, []⟩,
                                   ⟨(some 127), (.faddr 7 (.t 8)), none, []⟩,
                                   ⟨(some 128), (.load false 1 (.t 127)), none, []⟩,
                                   ⟨(some 129), (.iaddr 4 (.t 126) (.t 128)), none, []⟩,
                                   ⟨(some 130), (.load true 4 (.t 129)), none, []⟩,
                                   ⟨(some 15), (.alloc [(.int .u64 0), (.int .u64 0), (.str []), (.int .u64 0)]), none, []⟩,
                                   ⟨none, (.store 4 (.t 15) (.t 130)), none, []⟩])
                                (ACode.seq (ACode.ops [⟨(some 131), (.faddr 8 (.t 8)), none, []⟩,
                                    ⟨(some 132), (.load false 1 (.t 131)), none, []⟩,
                                    ⟨(some 133), (.faddr 3 (.t 15)), none, []⟩,
                                    ⟨none, (.store 1 (.t 133) (.t 132)), none, []⟩])
                                 (ACode.ops [⟨(some 134), (.move (.t 6)), none, []⟩,
                                    ⟨(some 135), (.load true 4 (.t 15)), none, []⟩,
                                    ⟨(some 136), (.call (.c (.fn (.func 24) [] [])) [(.t 134), (.t 135)]), none, []⟩,
                                    ⟨(some 6), (.move (.t 136)), none, []⟩])))
                               (ACode.skip))))
                            (ACode.seq (ACode.ops [⟨(some 138), (.bin .eql (.t 50) (.c (.int .u8 5))), none, []⟩,
                                ⟨(some 137), (.move (.t 138)), none, []⟩])
                             (ACode.cond (.t 137) (ACode.seq (ACode.ops [⟨(some 140), (.load true 1 (.t 5)), none, []⟩,
                                  ⟨(some 141), (.faddr 7 (.t 8)), none, []⟩,
                                  ⟨(some 142), (.load false 1 (.t 141)), none, []⟩,
                                  ⟨(some 143), (.faddr 8 (.t 8)), none, []⟩,
                                  ⟨(some 144), (.load false 1 (.t 143)), none, []⟩,
                                  ⟨(some 145), (.call (.c (.fn (.func 17) [] [])) [(.t 140), (.t 142), (.t 144)]), none, []⟩,
                                  ⟨(some 139), (.move (.t 145)), none, []⟩,
                                  ⟨(some 146), (.extract (.t 139) 0), none, []⟩,
                                  ⟨(some 147), (.extract (.t 139) 1), none, []⟩,
                                  ⟨none, (.store 1 (.t 5) (.t 146)), none, []⟩,
                                  ⟨(some 10), (.move (.t 147)), none, []⟩])
                               (ACode.seq (ACode.ops [⟨(some 148), (.move (.t 9)), none, []⟩])
                                (ACode.cond (.t 148) (ACode.seq (ACode.ops [⟨(some 149), (.move (.t 6)), none, []⟩,
                                     ⟨(some 150), (.faddr 7 (.t 8)), none, []⟩,
                                     ⟨(some 151), (.load false 1 (.t 150)), none, []⟩,
                                     ⟨(some 152), (.iaddr 4 (.t 149) (.t 151)), none, []⟩,
                                     ⟨(some 153), (.load true 4 (.t 152)), none, []⟩,
                                     ⟨(some 16), (.alloc [(.int .u64 0), (.int .u64 0), (.str []), (.int .u64 0)]), none, []⟩,
                                     ⟨none, (.store 4 (.t 16) (.t 153)), none, []⟩])
                                  (ACode.seq (ACode.ops [⟨(some 154), (.faddr 3 (.t 16)), none, []⟩,
                                      ⟨(some 155), (.load false 1 (.t 154)), none, []⟩,
                                      ⟨(some 156), (.faddr 8 (.t 8)), none, []⟩,
                                      ⟨(some 157), (.load false 1 (.t 156)), none, []⟩,
                                      ⟨(some 158), (.call (.c (.fn (.func 25) [] [])) [(.t 155), (.t 157)]), none, []⟩,
                                      ⟨(some 159), (.faddr 3 (.t 16)), none, []⟩,
                                      ⟨none, (.store 1 (.t 159) (.t 158)), none, []⟩])
                                   (ACode.ops [⟨(some 160), (.move (.t 6)), none, []⟩,
                                      ⟨(some 161), (.faddr 7 (.t 8)), none, []⟩,
                                      ⟨(some 162), (.load false 1 (.t 161)), none, []⟩,
                                      ⟨(some 163), (.load true 4 (.t 16)), none, []⟩,
                                      ⟨(some 164), (.call (.c (.fn (.func 26) [] [])) [(.t 160), (.t 162), (.t 163)]), none, []⟩,
                                      ⟨(some 6), (.move (.t 164)), none, []⟩])))
                                 (ACode.skip))))
                              (ACode.draw [⟨(some 51), (.load true 1 (.t 5)), none, []⟩,
                                 ⟨(some 52), (.faddr 1 (.t 8)), none, [0]⟩,
                                 ⟨(some 53), (.load true 6 (.t 52)), none, [0]⟩,
                                 ⟨(some 54), (.call (.c (.fn (.func 12) [] [])) [(.t 51), (.t 53)]), none, []⟩,
                                 ⟨(some 55), (.move (.t 6)), none, [0, 1, 2, 3]⟩,
                                 ⟨(some 56), (.faddr 1 (.t 8)), none, [0, 1, 2, 3, 4]⟩,
                                 ⟨(some 57), (.load true 6 (.t 56)), none, [0, 1, 2, 3, 4]⟩,
                                 ⟨(some 58), (.call (.c (.fn (.func 21) [] [])) [(.t 57)]), none, [4]⟩,
                                 ⟨(some 59), (.call (.c (.fn (.func 24) [] [])) [(.t 55), (.t 58)]), none, []⟩,
                                 ⟨none, (.store 1 (.t 5) (.t 54)), none, []⟩,
                                 ⟨(some 6), (.move (.t 59)), none, []⟩,
                                 ⟨(some 11), (.move (.c (.int .i64 0))), none, []⟩])))))))))))
                    (ACode.seq (ACode.ops [⟨(some 165), (.move (.t 10)), none, []⟩,
                        ⟨(some 166), (.move (.t 11)), none, []⟩,
                        ⟨(some 167), (.bin .neq (.t 165) (.t 166)), none, []⟩,
                        ⟨(some 168), (.move (.t 167)), none, []⟩,
                        ⟨(some 169), (.load true 1 (.t 5)), some (168, false), []⟩,
                        ⟨(some 170), (.move (.t 6)), some (168, false), []⟩,
                        ⟨(some 171), (.call (.c (.fn (.func 27) [] [])) [(.t 169), (.t 170)]), some (168, false), []⟩,
                        ⟨(some 172), (.un .not (.t 171)), some (168, false), []⟩,
                        ⟨(some 173), (.pick (.t 168) (.c (.bool true)) (.t 172)), none, []⟩,
                        ⟨(some 174), (.move (.t 173)), none, []⟩,
                        ⟨(some 175), (.load true 1 (.t 12)), some (174, false), []⟩,
                        ⟨(some 176), (.move (.t 13)), some (174, false), []⟩,
                        ⟨(some 177), (.call (.c (.fn (.func 27) [] [])) [(.t 175), (.t 176)]), some (174, false), []⟩,
                        ⟨(some 178), (.un .not (.t 177)), some (174, false), []⟩,
                        ⟨(some 179), (.pick (.t 174) (.c (.bool true)) (.t 178)), none, []⟩])
                     (ACode.cond (.t 179) (ACode.seq (ACode.ops [⟨(some 4), (.move (.c (.bool false))), none, []⟩])
                       (ACode.ret))
                      (ACode.skip))))))))))
             (ACode.ops [⟨(some 180), (.bin .add (.t 30) (.c (.int .i64 1))), none, []⟩,
                ⟨(some 30), (.move (.t 180)), none, []⟩])))))))
       (ACode.seq (ACode.ops [⟨(some 17), (.move (.c .nils)), none, []⟩])
        (ACode.seq (ACode.ops [⟨(some 18), (.move (.c (.int .u64 0))), none, []⟩])
         (ACode.seq (ACode.seq (ACode.ops [⟨(some 181), (.move (.t 6)), none, []⟩,
              ⟨(some 182), (.len false (.t 181)), none, []⟩,
              ⟨(some 183), (.move (.c (.int .i64 0))), none, []⟩])
           (ACode.block 3 (ACode.loop (ACode.seq (ACode.ops [⟨(some 184), (.bin .lss (.t 183) (.t 182)), none, []⟩])
              (ACode.seq (ACode.cond (.t 184) (ACode.skip)
                (ACode.exit 3))
               (ACode.seq (ACode.block 4 (ACode.seq (ACode.ops [⟨(some 185), (.move (.t 183)), none, []⟩,
                     ⟨(some 186), (.iaddr 4 (.t 181) (.t 183)), none, []⟩,
                     ⟨(some 187), (.load true 4 (.t 186)), none, []⟩,
                     ⟨(some 20), (.alloc [(.int .u64 0), (.int .u64 0), (.str []), (.int .u64 0)]), none, []⟩,
                     ⟨(some 19), (.move (.t 185)), none, []⟩,
                     ⟨none, (.store 4 (.t 20) (.t 187)), none, []⟩])
                  (ACode.seq (ACode.seq (ACode.ops [⟨(some 188), (.faddr 3 (.t 20)), none, []⟩,
                       ⟨(some 189), (.load false 1 (.t 188)), none, []⟩,
                       ⟨(some 190), (.move (.t 1)), none, []⟩,
                       ⟨(some 191), (.bin .leq (.t 189) (.t 190)), none, []⟩])
                    (ACode.cond (.t 191) (ACode.ops [⟨(some 192), (.move (.t 17)), none, []⟩,
                        ⟨(some 193), (.move (.t 19)), none, []⟩,
                        ⟨(some 194), (.buildSlice [(.int .i64 0)] 1 1 [(0, (.t 193))]), none, []⟩,
                        ⟨(some 195), (.append 1 8 (.t 192) (.t 194)), none, []⟩,
                        ⟨(some 17), (.move (.t 195)), none, []⟩])
                     (ACode.skip)))
                   (ACode.seq (ACode.ops [⟨(some 196), (.move (.t 19)), none, []⟩,
                       ⟨(some 197), (.bin .eql (.t 196) (.c (.int .i64 0))), none, []⟩,
                       ⟨(some 198), (.move (.t 197)), none, []⟩,
                       ⟨(some 199), (.faddr 3 (.t 20)), some (198, false), []⟩,
                       ⟨(some 200), (.load false 1 (.t 199)), some (198, false), []⟩,
                       ⟨(some 201), (.move (.t 18)), some (198, false), []⟩,
                       ⟨(some 202), (.bin .lss (.t 200) (.t 201)), some (198, false), []⟩,
                       ⟨(some 203), (.pick (.t 198) (.c (.bool true)) (.t 202)), none, []⟩])
                    (ACode.cond (.t 203) (ACode.ops [⟨(some 204), (.faddr 3 (.t 20)), none, []⟩,
                        ⟨(some 205), (.load false 1 (.t 204)), none, []⟩,
                        ⟨(some 18), (.move (.t 205)), none, []⟩])
                     (ACode.skip))))))
                (ACode.ops [⟨(some 206), (.bin .add (.t 183) (.c (.int .i64 1))), none, []⟩,
                   ⟨(some 183), (.move (.t 206)), none, []⟩])))))))
          (ACode.seq (ACode.ops [⟨(some 208), (.load true 1 (.t 5)), none, []⟩,
              ⟨(some 209), (.call (.c (.fn (.func 28) [] [])) [(.t 208)]), none, []⟩,
              ⟨(some 207), (.move (.t 209)), none, []⟩,
              ⟨(some 210), (.extract (.t 207) 0), none, []⟩,
              ⟨(some 211), (.extract (.t 207) 1), none, []⟩,
              ⟨(some 21), (.move (.t 210)), none, []⟩,
              ⟨(some 22), (.move (.t 211)), none, []⟩])
           (ACode.seq (ACode.ops [⟨(some 212), (.load true 1 (.t 5)), none, []⟩,
               ⟨(some 213), (.move (.t 1)), none, []⟩,
               ⟨(some 214), (.call (.c (.fn (.func 16) [] [])) [(.t 212), (.t 213)]), none, []⟩,
               ⟨(some 215), (.move (.t 17)), none, []⟩,
               ⟨(some 216), (.call (.c (.fn (.func 15) [] [])) [(.t 214), (.t 215)]), none, []⟩,
               ⟨(some 217), (.move (.t 216)), none, []⟩,
               ⟨(some 218), (.move (.t 21)), some (217, true), []⟩,
               ⟨(some 219), (.move (.t 18)), some (217, true), []⟩,
               ⟨(some 220), (.bin .eql (.t 218) (.t 219)), some (217, true), []⟩,
               ⟨(some 221), (.pick (.t 217) (.t 220) (.c (.bool false))), none, []⟩,
               ⟨(some 222), (.move (.t 221)), none, []⟩,
               ⟨(some 223), (.move (.t 22)), some (222, true), []⟩,
               ⟨(some 224), (.move (.t 6)), some (222, true), []⟩,
               ⟨(some 225), (.len false (.t 224)), some (222, true), []⟩,
               ⟨(some 226), (.bin .gtr (.t 225) (.c (.int .i64 0))), some (222, true), []⟩,
               ⟨(some 227), (.eqB false (.t 223) (.t 226)), some (222, true), []⟩,
               ⟨(some 228), (.pick (.t 222) (.t 227) (.c (.bool false))), none, []⟩,
               ⟨(some 4), (.move (.t 228)), none, []⟩])
            (ACode.ret)))))))))))⟩

/-- vagabond/vagabondlaw27.LineHonest -/
def c6 : AFunc := ⟨1, 104, [.tmp 2],
  ACode.seq (ACode.ops [⟨(some 2), (.move (.c (.bool false))), none, []⟩])
  (ACode.seq (ACode.seq (ACode.ops [⟨(some 13), (.call (.c (.fn (.func 11) [] [])) []), none, []⟩,
       ⟨(some 14), (.un .not (.t 13)), none, []⟩])
    (ACode.cond (.t 14) (ACode.seq (ACode.ops [⟨(some 2), (.move (.c (.bool false))), none, []⟩])
      (ACode.ret))
     (ACode.skip)))
   (ACode.seq (ACode.seq (ACode.ops [⟨(some 15), (.move (.t 0)), none, []⟩,
        ⟨(some 16), (.len false (.t 15)), none, []⟩,
        ⟨(some 17), (.bin .gtr (.t 16) (.c (.int .i64 300))), none, []⟩])
     (ACode.cond (.t 17) (ACode.seq (ACode.ops [⟨(some 2), (.move (.c (.bool true))), none, []⟩])
       (ACode.ret))
      (ACode.skip)))
    (ACode.seq (ACode.ops [⟨(some 3), (.alloc [.nils]), none, []⟩])
     (ACode.seq (ACode.ops [⟨(some 4), (.move (.c .nils)), none, []⟩])
      (ACode.seq (ACode.ops [⟨(some 5), (.move (.c (.int .u64 0))), none, []⟩])
       (ACode.seq (ACode.seq (ACode.ops [⟨(some 18), (.move (.t 0)), none, []⟩,
            ⟨(some 19), (.len false (.t 18)), none, []⟩,
            ⟨(some 20), (.move (.c (.int .i64 0))), none, []⟩])
         (ACode.block 0 (ACode.loop (ACode.seq (ACode.ops [⟨(some 21), (.bin .lss (.t 20) (.t 19)), none, []⟩])
            (ACode.seq (ACode.cond (.t 21) (ACode.skip)
              (ACode.exit 0))
             (ACode.seq (ACode.block 1 (ACode.seq (ACode.ops [⟨(some 22), (.iaddr 9 (.t 18) (.t 20)), none, []⟩,
                   ⟨(some 23), (.load true 9 (.t 22)), none, []⟩,
                   ⟨(some 7), (.alloc [(.int .u8 0), (.int .u32 0), (.int .u16 0), (.int .u32 0), (.int .u16 0), (.str []), (.int .u64 0), (.int .i64 0), (.int .u64 0)]), none, []⟩,
                   ⟨none, (.store 9 (.t 7) (.t 23)), none, []⟩])
                (ACode.seq (ACode.ops [⟨(some 24), (.move (.t 5)), none, []⟩,
                    ⟨(some 25), (.faddr 8 (.t 7)), none, []⟩,
                    ⟨(some 26), (.load false 1 (.t 25)), none, []⟩,
                    ⟨(some 27), (.bin .rem (.t 26) (.c (.int .u64 1099511627776))), none, []⟩,
                    ⟨(some 28), (.maxI [(.t 24), (.t 27)]), none, []⟩,
                    ⟨(some 5), (.move (.t 28)), none, []⟩])
                 (ACode.seq (ACode.seq (ACode.ops [⟨(some 29), (.faddr 0 (.t 7)), none, []⟩,
                      ⟨(some 30), (.load false 1 (.t 29)), none, []⟩,
                      ⟨(some 31), (.bin .rem (.t 30) (.c (.int .u8 6))), none, []⟩])
                   (ACode.block 2 (ACode.seq (ACode.ops [⟨(some 44), (.bin .eql (.t 31) (.c (.int .u8 2))), none, []⟩,
                        ⟨(some 43), (.move (.t 44)), none, []⟩])
                     (ACode.cond (.t 43) (ACode.seq (ACode.ops [⟨(some 46), (.load true 1 (.t 3)), none, []⟩,
                          ⟨(some 47), (.faddr 7 (.t 7)), none, []⟩,
                          ⟨(some 48), (.load false 1 (.t 47)), none, []⟩,
                          ⟨(some 49), (.move (.t 5)), none, []⟩,
                          ⟨(some 50), (.call (.c (.fn (.func 20) [] [])) [(.t 46), (.t 48), (.t 49)]), none, []⟩,
                          ⟨(some 45), (.move (.t 50)), none, []⟩,
                          ⟨(some 51), (.extract (.t 45) 0), none, []⟩,
                          ⟨(some 52), (.extract (.t 45) 1), none, []⟩,
                          ⟨(some 53), (.extract (.t 45) 2), none, []⟩,
                          ⟨(some 8), (.alloc [.nils]), none, []⟩,
                          ⟨(some 9), (.alloc [(.int .u32 0), (.int .u16 0), (.int .u32 0), (.int .u16 0), (.str []), (.int .u64 0)]), none, []⟩,
                          ⟨none, (.store 1 (.t 8) (.t 51)), none, []⟩,
                          ⟨none, (.store 6 (.t 9) (.t 52)), none, []⟩,
                          ⟨(some 10), (.move (.t 53)), none, []⟩])
                       (ACode.seq (ACode.seq (ACode.ops [⟨(some 54), (.move (.t 10)), none, []⟩,
                            ⟨(some 55), (.bin .eql (.t 54) (.c (.int .i64 0))), none, []⟩])
                         (ACode.cond (.t 55) (ACode.seq (ACode.ops [⟨(some 56), (.load true 6 (.t 9)), none, []⟩,
                              ⟨(some 11), (.alloc [(.int .u32 0), (.int .u16 0), (.int .u32 0), (.int .u16 0), (.str []), (.int .u64 0)]), none, []⟩,
                              ⟨none, (.store 6 (.t 11) (.t 56)), none, []⟩])
                           (ACode.seq (ACode.ops [⟨(some 57), (.faddr 5 (.t 11)), none, []⟩,
                               ⟨none, (.store 1 (.t 57) (.c (.int .u64 0))), none, []⟩])
                            (ACode.seq (ACode.ops [⟨(some 58), (.move (.t 4)), none, []⟩,
                                ⟨(some 59), (.load true 6 (.t 11)), none, []⟩,
                                ⟨(some 60), (.call (.c (.fn (.func 29) [] [])) [(.t 58), (.t 59)]), none, []⟩,
                                ⟨(some 61), (.un .not (.t 60)), none, []⟩,
                                ⟨(some 62), (.move (.t 61)), none, []⟩,
                                ⟨(some 63), (.faddr 5 (.t 9)), some (62, false), []⟩,
                                ⟨(some 64), (.load false 1 (.t 63)), some (62, false), []⟩,
                                ⟨(some 65), (.move (.t 5)), some (62, false), []⟩,
                                ⟨(some 66), (.bin .gtr (.t 64) (.t 65)), some (62, false), []⟩,
                                ⟨(some 67), (.pick (.t 62) (.c (.bool true)) (.t 66)), none, []⟩])
                             (ACode.cond (.t 67) (ACode.seq (ACode.ops [⟨(some 2), (.move (.c (.bool false))), none, []⟩])
                               (ACode.ret))
                              (ACode.skip)))))
                          (ACode.skip)))
                        (ACode.ops [⟨(some 68), (.load true 1 (.t 8)), none, []⟩,
                           ⟨none, (.store 1 (.t 3) (.t 68)), none, []⟩])))
                      (ACode.seq (ACode.ops [⟨(some 70), (.bin .eql (.t 31) (.c (.int .u8 3))), none, []⟩,
                          ⟨(some 69), (.move (.t 70)), none, []⟩])
                       (ACode.cond (.t 69) (ACode.ops [⟨(some 72), (.load true 1 (.t 3)), none, []⟩,
                           ⟨(some 73), (.faddr 7 (.t 7)), none, []⟩,
                           ⟨(some 74), (.load false 1 (.t 73)), none, []⟩,
                           ⟨(some 75), (.call (.c (.fn (.func 18) [] [])) [(.t 72), (.t 74)]), none, []⟩,
                           ⟨(some 71), (.move (.t 75)), none, []⟩,
                           ⟨(some 76), (.extract (.t 71) 0), none, []⟩,
                           ⟨(some 77), (.extract (.t 71) 1), none, []⟩,
                           ⟨none, (.store 1 (.t 3) (.t 76)), none, []⟩])
                        (ACode.seq (ACode.ops [⟨(some 79), (.bin .eql (.t 31) (.c (.int .u8 4))), none, []⟩,
                            ⟨(some 78), (.move (.t 79)), none, []⟩])
                         (ACode.cond (.t 78) (ACode.ops [⟨(some 81), (.load true 1 (.t 3)), none, []⟩,
                             ⟨(some 82), (.faddr 7 (.t 7)), none, []⟩,
                             ⟨(some 83), (.load false 1 (.t 82)), none, []⟩,
                             ⟨(some 84), (.faddr 8 (.t 7)), none, []⟩,
                             ⟨(some 85), (.load false 1 (.t 84)), none, []⟩,
                             ⟨(some 86), (.call (.c (.fn (.func 23) [] [])) [(.t 81), (.t 83), (.t 85)]), none, []⟩,
                             ⟨(some 80), (.move (.t 86)), none, []⟩,
                             ⟨(some 87), (.extract (.t 80) 0), none, []⟩,
                             ⟨(some 88), (.extract (.t 80) 1), none, []⟩,
                             ⟨none, (.store 1 (.t 3) (.t 87)), none, []⟩])
                          (ACode.seq (ACode.ops [⟨(some 90), (.bin .eql (.t 31) (.c (.int .u8 5))), none, []⟩,
                              ⟨(some 89), (.move (.t 90)), none, []⟩])
                           (ACode.cond (.t 89) (ACode.ops [⟨(some 92), (.load true 1 (.t 3)), none, []⟩,
                               ⟨(some 93), (.faddr 7 (.t 7)), none, []⟩,
                               ⟨(some 94), (.load false 1 (.t 93)), none, []⟩,
                               ⟨(some 95), (.faddr 8 (.t 7)), none, []⟩,
                               ⟨(some 96), (.load false 1 (.t 95)), none, []⟩,
                               ⟨(some 97), (.call (.c (.fn (.func 17) [] [])) [(.t 92), (.t 94), (.t 96)]), none, []⟩,
                               ⟨(some 91), (.move (.t 97)), none, []⟩,
                               ⟨(some 98), (.extract (.t 91) 0), none, []⟩,
                               ⟨(some 99), (.extract (.t 91) 1), none, []⟩,
                               ⟨none, (.store 1 (.t 3) (.t 98)), none, []⟩])
                            (ACode.seq (ACode.ops [⟨(some 32), (.load true 1 (.t 3)), none, []⟩,
                                ⟨(some 33), (.faddr 1 (.t 7)), none, []⟩,
                                ⟨(some 34), (.load true 6 (.t 33)), none, []⟩,
                                ⟨(some 35), (.call (.c (.fn (.func 12) [] [])) [(.t 32), (.t 34)]), none, []⟩,
                                ⟨none, (.store 1 (.t 3) (.t 35)), none, []⟩])
                             (ACode.seq (ACode.ops [⟨(some 36), (.faddr 1 (.t 7)), none, []⟩,
                                 ⟨(some 37), (.load true 6 (.t 36)), none, []⟩,
                                 ⟨(some 12), (.alloc [(.int .u32 0), (.int .u16 0), (.int .u32 0), (.int .u16 0), (.str []), (.int .u64 0)]), none, []⟩,
                                 ⟨none, (.store 6 (.t 12) (.t 37)), none, []⟩])
                              (ACode.seq (ACode.ops [⟨(some 38), (.faddr 5 (.t 12)), none, []⟩,
                                  ⟨none, (.store 1 (.t 38) (.c (.int .u64 0))), none, []⟩])
                               (ACode.ops [⟨(some 39), (.move (.t 4)), none, []⟩,
                                  ⟨(some 40), (.load true 6 (.t 12)), none, []⟩,
                                  ⟨(some 41), (.buildSlice [(.int .u32 0), (.int .u16 0), (.int .u32 0), (.int .u16 0), (.str []), (.int .u64 0)] 6 1 [(0, (.t 40))]), none, []⟩,
                                  ⟨(some 42), (.append 6 40 (.t 39) (.t 41)), none, []⟩,
                                  ⟨(some 4), (.move (.t 42)), none, []⟩]))))))))))))))
                  (ACode.seq (ACode.ops [⟨(some 100), (.load true 1 (.t 3)), none, []⟩,
                      ⟨(some 101), (.call (.c (.fn (.func 14) [] [])) [(.t 100)]), none, []⟩,
                      ⟨(some 102), (.bin .gtr (.t 101) (.c (.int .i64 256))), none, []⟩])
                   (ACode.cond (.t 102) (ACode.seq (ACode.ops [⟨(some 2), (.move (.c (.bool false))), none, []⟩])
                     (ACode.ret))
                    (ACode.skip)))))))
              (ACode.ops [⟨(some 103), (.bin .add (.t 20) (.c (.int .i64 1))), none, []⟩,
                 ⟨(some 20), (.move (.t 103)), none, []⟩])))))))
        (ACode.seq (ACode.ops [⟨(some 2), (.move (.c (.bool true))), none, []⟩])
         (ACode.ret))))))))⟩

/-- vagabond/vagabondlaw27.awake -/
def c11 : AFunc := ⟨0, 23, [.tmp 0],
  ACode.seq (ACode.ops [⟨(some 0), (.move (.c (.bool false))), none, []⟩])
  (ACode.seq (ACode.ops [⟨(some 2), (.build [.nils] []), none, []⟩,
      ⟨(some 3), (.build [(.int .u32 0), (.int .u16 0), (.int .u32 0), (.int .u16 0), (.str []), (.int .u64 0)] [((5, 1), (.c (.int .u64 5)))]), none, []⟩,
      ⟨(some 4), (.call (.c (.fn (.func 12) [] [])) [(.t 2), (.t 3)]), none, []⟩,
      ⟨(some 1), (.alloc [.nils]), none, []⟩,
      ⟨none, (.store 1 (.t 1) (.t 4)), none, []⟩])
   (ACode.seq (ACode.ops [⟨(some 5), (.call (.c (.fn (.func 40) [] [])) []), none, []⟩,
       ⟨(some 6), (.move (.t 5)), none, []⟩,
       ⟨(some 7), (.load true 1 (.t 1)), some (6, true), []⟩,
       ⟨(some 8), (.call (.c (.fn (.func 16) [] [])) [(.t 7), (.c (.int .u64 4))]), some (6, true), []⟩,
       ⟨(some 9), (.len false (.t 8)), some (6, true), []⟩,
       ⟨(some 10), (.bin .eql (.t 9) (.c (.int .i64 0))), some (6, true), []⟩,
       ⟨(some 11), (.pick (.t 6) (.t 10) (.c (.bool false))), none, []⟩,
       ⟨(some 12), (.move (.t 11)), none, []⟩,
       ⟨(some 13), (.load true 1 (.t 1)), some (12, true), []⟩,
       ⟨(some 14), (.call (.c (.fn (.func 16) [] [])) [(.t 13), (.c (.int .u64 5))]), some (12, true), []⟩,
       ⟨(some 15), (.len false (.t 14)), some (12, true), []⟩,
       ⟨(some 16), (.bin .eql (.t 15) (.c (.int .i64 1))), some (12, true), []⟩,
       ⟨(some 17), (.pick (.t 12) (.t 16) (.c (.bool false))), none, []⟩,
       ⟨(some 18), (.move (.t 17)), none, []⟩,
       ⟨(some 19), (.load true 1 (.t 1)), some (18, true), []⟩,
       ⟨(some 20), (.call (.c (.fn (.func 14) [] [])) [(.t 19)]), some (18, true), []⟩,
       ⟨(some 21), (.bin .eql (.t 20) (.c (.int .i64 1))), some (18, true), []⟩,
       ⟨(some 22), (.pick (.t 18) (.t 21) (.c (.bool false))), none, []⟩,
       ⟨(some 0), (.move (.t 22)), none, []⟩])
    (ACode.ret)))⟩

/-- (vagabond/line.Line).Send -/
def c12 : AFunc := ⟨2, 25, [.cell 4 true 1],
  ACode.seq (ACode.ops [⟨(some 2), (.box 1 (.t 0)), none, []⟩,
     ⟨(some 3), (.box 6 (.t 1)), none, []⟩,
     ⟨(some 4), (.alloc [.nils]), none, []⟩])
  (ACode.seq (ACode.draw [⟨(some 6), (.faddr 0 (.t 2)), none, []⟩,
      ⟨(some 7), (.load false 1 (.t 6)), none, []⟩,
      ⟨(some 8), (.faddr 0 (.t 2)), none, [0, 1]⟩,
      ⟨(some 9), (.load false 1 (.t 8)), none, [0, 1]⟩,
      ⟨(some 10), (.len false (.t 9)), none, [0, 1]⟩,
      ⟨(some 11), (.faddr 0 (.t 2)), none, [0, 1, 2, 3, 4]⟩,
      ⟨(some 12), (.load false 1 (.t 11)), none, [0, 1, 2, 3, 4]⟩,
      ⟨(some 13), (.len false (.t 12)), none, [0, 1, 2, 3, 4]⟩,
      ⟨(some 14), (.slice 6 (.t 7) none (some (.t 10)) (some (.t 13))), none, []⟩,
      ⟨(some 15), (.load true 6 (.t 3)), none, [0, 1, 2, 3, 4, 5, 6, 7, 8]⟩,
      ⟨(some 16), (.buildSlice [(.int .u32 0), (.int .u16 0), (.int .u32 0), (.int .u16 0), (.str []), (.int .u64 0)] 6 1 [(0, (.t 15))]), none, [0, 1, 2, 3, 4, 5, 6, 7, 8]⟩,
      ⟨(some 17), (.append 6 40 (.t 14) (.t 16)), none, []⟩,
      ⟨(some 5), (.move (.t 17)), none, []⟩])
   (ACode.seq (ACode.ops [⟨(some 18), (.move (.t 5)), none, []⟩,
       ⟨(some 19), (.move (.t 5)), none, []⟩,
       ⟨(some 20), (.len false (.t 19)), none, []⟩,
       ⟨(some 21), (.bin .sub (.t 20) (.c (.int .i64 256))), none, []⟩,
       ⟨(some 22), (.maxI [(.t 21), (.c (.int .i64 0))]), none, []⟩,
       ⟨(some 23), (.slice 6 (.t 18) (some (.t 22)) none none), none, []⟩,
       ⟨(some 24), (.build [.nils] [((0, 1), (.t 23))]), none, []⟩,
       ⟨none, (.store 1 (.t 4) (.t 24)), none, []⟩])
    (ACode.ret)))⟩

/-- (vagabond/line.Line).All -/
def c13 : AFunc := ⟨1, 6, [.tmp 2],
  ACode.seq (ACode.ops [⟨(some 1), (.box 1 (.t 0)), none, []⟩,
     ⟨(some 2), (.move (.c .nils)), none, []⟩])
  (ACode.seq (ACode.ops [⟨(some 3), (.faddr 0 (.t 1)), none, []⟩,
      ⟨(some 4), (.load false 1 (.t 3)), none, []⟩,
      ⟨(some 5), (.call (.c (.fn (.func 41) [] [])) [(.t 4)]), none, []⟩,
      ⟨(some 2), (.move (.t 5)), none, []⟩])
   (ACode.ret))⟩

/-- (vagabond/line.Line).Len -/
def c14 : AFunc := ⟨1, 6, [.tmp 2],
  ACode.seq (ACode.ops [⟨(some 1), (.box 1 (.t 0)), none, []⟩,
     ⟨(some 2), (.move (.c (.int .i64 0))), none, []⟩])
  (ACode.seq (ACode.ops [⟨(some 3), (.faddr 0 (.t 1)), none, []⟩,
      ⟨(some 4), (.load false 1 (.t 3)), none, []⟩,
      ⟨(some 5), (.len false (.t 4)), none, []⟩,
      ⟨(some 2), (.move (.t 5)), none, []⟩])
   (ACode.ret))⟩

/-- (vagabond/line.Line).Ready -/
def c16 : AFunc := ⟨2, 26, [.tmp 4],
  ACode.seq (ACode.ops [⟨(some 2), (.box 1 (.t 0)), none, []⟩,
     ⟨(some 4), (.move (.c .nils)), none, []⟩])
  (ACode.seq (ACode.ops [⟨(some 5), (.move (.c .nils)), none, []⟩])
   (ACode.seq (ACode.skip)
    (ACode.seq (ACode.seq (ACode.ops [⟨(some 8), (.faddr 0 (.t 2)), none, []⟩,
         ⟨(some 9), (.load false 1 (.t 8)), none, []⟩,
         ⟨(some 10), (.len false (.t 9)), none, []⟩,
         ⟨(some 11), (.move (.c (.int .i64 0))), none, []⟩])
      (ACode.block 0 (ACode.loop (ACode.seq (ACode.ops [⟨(some 12), (.bin .lss (.t 11) (.t 10)), none, []⟩])
         (ACode.seq (ACode.cond (.t 12) (ACode.skip)
           (ACode.exit 0))
          (ACode.seq (ACode.block 1 (ACode.seq (ACode.ops [⟨(some 13), (.move (.t 11)), none, []⟩,
                ⟨(some 14), (.iaddr 6 (.t 9) (.t 11)), none, []⟩,
                ⟨(some 15), (.load true 6 (.t 14)), none, []⟩,
                ⟨(some 7), (.alloc [(.int .u32 0), (.int .u16 0), (.int .u32 0), (.int .u16 0), (.str []), (.int .u64 0)]), none, []⟩,
                ⟨(some 6), (.move (.t 13)), none, []⟩,
                ⟨none, (.store 6 (.t 7) (.t 15)), none, []⟩])
             (ACode.seq (ACode.seq (ACode.ops [⟨(some 16), (.faddr 5 (.t 7)), none, []⟩,
                  ⟨(some 17), (.load false 1 (.t 16)), none, []⟩,
                  ⟨(some 18), (.move (.t 1)), none, []⟩,
                  ⟨(some 19), (.bin .gtr (.t 17) (.t 18)), none, []⟩])
               (ACode.cond (.t 19) (ACode.exit 1)
                (ACode.skip)))
              (ACode.ops [⟨(some 20), (.move (.t 5)), none, []⟩,
                 ⟨(some 21), (.move (.t 6)), none, []⟩,
                 ⟨(some 22), (.buildSlice [(.int .i64 0)] 1 1 [(0, (.t 21))]), none, []⟩,
                 ⟨(some 23), (.append 1 8 (.t 20) (.t 22)), none, []⟩,
                 ⟨(some 5), (.move (.t 23)), none, []⟩]))))
           (ACode.ops [⟨(some 24), (.bin .add (.t 11) (.c (.int .i64 1))), none, []⟩,
              ⟨(some 11), (.move (.t 24)), none, []⟩])))))))
     (ACode.seq (ACode.ops [⟨(some 25), (.move (.t 5)), none, []⟩,
         ⟨(some 4), (.move (.t 25)), none, []⟩])
      (ACode.ret)))))⟩

/-- slices.Equal[[]int,int] -/
def c15 : AFunc := ⟨2, 26, [.tmp 4],
  ACode.seq (ACode.ops [⟨(some 4), (.move (.c (.bool false))), none, []⟩])
  (ACode.seq (ACode.seq (ACode.ops [⟨(some 6), (.move (.t 0)), none, []⟩,
       ⟨(some 7), (.len false (.t 6)), none, []⟩,
       ⟨(some 8), (.move (.t 1)), none, []⟩,
       ⟨(some 9), (.len false (.t 8)), none, []⟩,
       ⟨(some 10), (.bin .neq (.t 7) (.t 9)), none, []⟩])
    (ACode.cond (.t 10) (ACode.seq (ACode.ops [⟨(some 4), (.move (.c (.bool false))), none, []⟩])
      (ACode.ret))
     (ACode.skip)))
   (ACode.seq (ACode.seq (ACode.ops [⟨(some 11), (.move (.t 0)), none, []⟩,
        ⟨(some 12), (.len false (.t 11)), none, []⟩,
        ⟨(some 13), (.move (.c (.int .i64 0))), none, []⟩])
     (ACode.block 0 (ACode.loop (ACode.seq (ACode.ops [⟨(some 14), (.bin .lss (.t 13) (.t 12)), none, []⟩])
        (ACode.seq (ACode.cond (.t 14) (ACode.skip)
          (ACode.exit 0))
         (ACode.seq (ACode.block 1 (ACode.seq (ACode.ops [⟨(some 15), (.move (.t 13)), none, []⟩,
               ⟨(some 5), (.move (.t 15)), none, []⟩])
            (ACode.seq (ACode.draw [⟨(some 16), (.move (.t 0)), none, []⟩,
                ⟨(some 17), (.move (.t 5)), none, [0]⟩,
                ⟨(some 18), (.iaddr 1 (.t 16) (.t 17)), none, []⟩,
                ⟨(some 19), (.load false 1 (.t 18)), none, []⟩,
                ⟨(some 20), (.move (.t 1)), none, [0, 1, 2, 3]⟩,
                ⟨(some 21), (.move (.t 5)), none, [0, 1, 2, 3, 4]⟩,
                ⟨(some 22), (.iaddr 1 (.t 20) (.t 21)), none, [0, 1, 2, 3]⟩,
                ⟨(some 23), (.load false 1 (.t 22)), none, [0, 1, 2, 3]⟩,
                ⟨(some 24), (.bin .neq (.t 19) (.t 23)), none, []⟩])
             (ACode.cond (.t 24) (ACode.seq (ACode.ops [⟨(some 4), (.move (.c (.bool false))), none, []⟩])
               (ACode.ret))
              (ACode.skip)))))
          (ACode.ops [⟨(some 25), (.bin .add (.t 13) (.c (.int .i64 1))), none, []⟩,
             ⟨(some 13), (.move (.t 25)), none, []⟩])))))))
    (ACode.seq (ACode.ops [⟨(some 4), (.move (.c (.bool true))), none, []⟩])
     (ACode.ret))))⟩

/-- (vagabond/line.Line).Delay -/
def c17 : AFunc := ⟨3, 33, [.cell 6 true 1, .tmp 7],
  ACode.seq (ACode.ops [⟨(some 3), (.box 1 (.t 0)), none, []⟩,
     ⟨(some 6), (.alloc [.nils]), none, []⟩,
     ⟨(some 7), (.move (.c (.int .i64 0))), none, []⟩])
  (ACode.seq (ACode.seq (ACode.ops [⟨(some 10), (.load true 1 (.t 3)), none, []⟩,
       ⟨(some 11), (.move (.t 1)), none, []⟩,
       ⟨(some 12), (.call (.c (.fn (.func 42) [] [])) [(.t 10), (.t 11)]), none, []⟩,
       ⟨(some 8), (.move (.t 12)), none, []⟩])
    (ACode.seq (ACode.ops [⟨(some 13), (.move (.t 8)), none, []⟩,
        ⟨(some 14), (.bin .neq (.t 13) (.c (.int .i64 0))), none, []⟩])
     (ACode.cond (.t 14) (ACode.seq (ACode.ops [⟨(some 15), (.load true 1 (.t 3)), none, []⟩,
          ⟨(some 16), (.move (.t 8)), none, []⟩,
          ⟨none, (.store 1 (.t 6) (.t 15)), none, []⟩,
          ⟨(some 7), (.move (.t 16)), none, []⟩])
       (ACode.ret))
      (ACode.skip))))
   (ACode.seq (ACode.ops [⟨(some 17), (.faddr 0 (.t 3)), none, []⟩,
       ⟨(some 18), (.load false 1 (.t 17)), none, []⟩,
       ⟨(some 19), (.call (.c (.fn (.func 41) [] [])) [(.t 18)]), none, []⟩,
       ⟨(some 9), (.move (.t 19)), none, []⟩])
    (ACode.seq (ACode.ops [⟨(some 20), (.move (.t 9)), none, []⟩,
        ⟨(some 21), (.move (.t 1)), none, []⟩,
        ⟨(some 22), (.move (.t 9)), none, []⟩,
        ⟨(some 23), (.move (.t 1)), none, []⟩,
        ⟨(some 24), (.iaddr 6 (.t 22) (.t 23)), none, []⟩,
        ⟨(some 25), (.faddr 5 (.t 24)), none, []⟩,
        ⟨(some 26), (.load false 1 (.t 25)), none, []⟩,
        ⟨(some 27), (.move (.t 2)), none, []⟩,
        ⟨(some 28), (.call (.c (.fn (.func 43) [] [])) [(.t 26), (.t 27)]), none, []⟩,
        ⟨(some 29), (.iaddr 6 (.t 20) (.t 21)), none, []⟩,
        ⟨(some 30), (.faddr 5 (.t 29)), none, []⟩,
        ⟨none, (.store 1 (.t 30) (.t 28)), none, []⟩])
     (ACode.seq (ACode.ops [⟨(some 31), (.move (.t 9)), none, []⟩,
         ⟨(some 32), (.build [.nils] [((0, 1), (.t 31))]), none, []⟩,
         ⟨none, (.store 1 (.t 6) (.t 32)), none, []⟩,
         ⟨(some 7), (.move (.c (.int .i64 0))), none, []⟩])
      (ACode.ret)))))⟩

/-- (vagabond/line.Line).Lose -/
def c18 : AFunc := ⟨2, 22, [.cell 4 true 1, .tmp 5],
  ACode.seq (ACode.ops [⟨(some 2), (.box 1 (.t 0)), none, []⟩,
     ⟨(some 4), (.alloc [.nils]), none, []⟩,
     ⟨(some 5), (.move (.c (.int .i64 0))), none, []⟩])
  (ACode.seq (ACode.seq (ACode.ops [⟨(some 7), (.load true 1 (.t 2)), none, []⟩,
       ⟨(some 8), (.move (.t 1)), none, []⟩,
       ⟨(some 9), (.call (.c (.fn (.func 42) [] [])) [(.t 7), (.t 8)]), none, []⟩,
       ⟨(some 6), (.move (.t 9)), none, []⟩])
    (ACode.seq (ACode.ops [⟨(some 10), (.move (.t 6)), none, []⟩,
        ⟨(some 11), (.bin .neq (.t 10) (.c (.int .i64 0))), none, []⟩])
     (ACode.cond (.t 11) (ACode.seq (ACode.ops [⟨(some 12), (.load true 1 (.t 2)), none, []⟩,
          ⟨(some 13), (.move (.t 6)), none, []⟩,
          ⟨none, (.store 1 (.t 4) (.t 12)), none, []⟩,
          ⟨(some 5), (.move (.t 13)), none, []⟩])
       (ACode.ret))
      (ACode.skip))))
   (ACode.seq (ACode.ops [⟨(some 14), (.faddr 0 (.t 2)), none, []⟩,
       ⟨(some 15), (.load false 1 (.t 14)), none, []⟩,
       ⟨(some 16), (.call (.c (.fn (.func 41) [] [])) [(.t 15)]), none, []⟩,
       ⟨(some 17), (.move (.t 1)), none, []⟩,
       ⟨(some 18), (.move (.t 1)), none, []⟩,
       ⟨(some 19), (.bin .add (.t 18) (.c (.int .i64 1))), none, []⟩,
       ⟨(some 20), (.call (.c (.fn (.func 44) [] [])) [(.t 16), (.t 17), (.t 19)]), none, []⟩,
       ⟨(some 21), (.build [.nils] [((0, 1), (.t 20))]), none, []⟩,
       ⟨none, (.store 1 (.t 4) (.t 21)), none, []⟩,
       ⟨(some 5), (.move (.c (.int .i64 0))), none, []⟩])
    (ACode.ret)))⟩

/-- slices.Equal[[]vagabond/line.Item,vagabond/line.Item] -/
def c19 : AFunc := ⟨2, 26, [.tmp 4],
  ACode.seq (ACode.ops [⟨(some 4), (.move (.c (.bool false))), none, []⟩])
  (ACode.seq (ACode.seq (ACode.ops [⟨(some 6), (.move (.t 0)), none, []⟩,
       ⟨(some 7), (.len false (.t 6)), none, []⟩,
       ⟨(some 8), (.move (.t 1)), none, []⟩,
       ⟨(some 9), (.len false (.t 8)), none, []⟩,
       ⟨(some 10), (.bin .neq (.t 7) (.t 9)), none, []⟩])
    (ACode.cond (.t 10) (ACode.seq (ACode.ops [⟨(some 4), (.move (.c (.bool false))), none, []⟩])
      (ACode.ret))
     (ACode.skip)))
   (ACode.seq (ACode.seq (ACode.ops [⟨(some 11), (.move (.t 0)), none, []⟩,
        ⟨(some 12), (.len false (.t 11)), none, []⟩,
        ⟨(some 13), (.move (.c (.int .i64 0))), none, []⟩])
     (ACode.block 0 (ACode.loop (ACode.seq (ACode.ops [⟨(some 14), (.bin .lss (.t 13) (.t 12)), none, []⟩])
        (ACode.seq (ACode.cond (.t 14) (ACode.skip)
          (ACode.exit 0))
         (ACode.seq (ACode.block 1 (ACode.seq (ACode.ops [⟨(some 15), (.move (.t 13)), none, []⟩,
               ⟨(some 5), (.move (.t 15)), none, []⟩])
            (ACode.seq (ACode.draw [⟨(some 16), (.move (.t 0)), none, []⟩,
                ⟨(some 17), (.move (.t 5)), none, [0]⟩,
                ⟨(some 18), (.iaddr 6 (.t 16) (.t 17)), none, []⟩,
                ⟨(some 19), (.load true 6 (.t 18)), none, []⟩,
                ⟨(some 20), (.move (.t 1)), none, [0, 1, 2, 3]⟩,
                ⟨(some 21), (.move (.t 5)), none, [0, 1, 2, 3, 4]⟩,
                ⟨(some 22), (.iaddr 6 (.t 20) (.t 21)), none, [0, 1, 2, 3]⟩,
                ⟨(some 23), (.load true 6 (.t 22)), none, [0, 1, 2, 3]⟩,
                ⟨(some 24), (.eqAgg true [some (.int .u32), some (.int .u16), some (.int .u32), some (.int .u16), some .str, some (.int .u64)] (.t 19) (.t 23)), none, []⟩])
             (ACode.cond (.t 24) (ACode.seq (ACode.ops [⟨(some 4), (.move (.c (.bool false))), none, []⟩])
               (ACode.ret))
              (ACode.skip)))))
          (ACode.ops [⟨(some 25), (.bin .add (.t 13) (.c (.int .i64 1))), none, []⟩,
             ⟨(some 13), (.move (.t 25)), none, []⟩])))))))
    (ACode.seq (ACode.ops [⟨(some 4), (.move (.c (.bool true))), none, []⟩])
     (ACode.ret))))⟩

/-- (vagabond/line.Line).Take -/
def c20 : AFunc := ⟨3, 42, [.cell 6 true 1, .cell 7 true 6, .tmp 8],
  ACode.seq (ACode.ops [⟨(some 3), (.box 1 (.t 0)), none, []⟩,
     ⟨(some 6), (.alloc [.nils]), none, []⟩,
     ⟨(some 7), (.alloc [(.int .u32 0), (.int .u16 0), (.int .u32 0), (.int .u16 0), (.str []), (.int .u64 0)]), none, []⟩,
     ⟨(some 8), (.move (.c (.int .i64 0))), none, []⟩])
  (ACode.seq (ACode.block 0 (ACode.seq (ACode.ops [⟨(some 12), (.load true 1 (.t 3)), none, []⟩,
        ⟨(some 13), (.move (.t 1)), none, []⟩,
        ⟨(some 14), (.call (.c (.fn (.func 42) [] [])) [(.t 12), (.t 13)]), none, []⟩,
        ⟨(some 15), (.bin .neq (.t 14) (.c (.int .i64 0))), none, []⟩,
        ⟨(some 11), (.move (.t 15)), none, []⟩])
     (ACode.cond (.t 11) (ACode.seq (ACode.ops [⟨(some 16), (.load true 1 (.t 3)), none, []⟩,
          ⟨(some 17), (.build [(.int .u32 0), (.int .u16 0), (.int .u32 0), (.int .u16 0), (.str []), (.int .u64 0)] []), none, []⟩,
          ⟨none, (.store 1 (.t 6) (.t 16)), none, []⟩,
          ⟨none, (.store 6 (.t 7) (.t 17)), none, []⟩,
          ⟨(some 8), (.move (.c (.int .i64 10))), none, []⟩])
       (ACode.ret))
      (ACode.seq (ACode.ops [⟨(some 19), (.faddr 0 (.t 3)), none, []⟩,
          ⟨(some 20), (.load false 1 (.t 19)), none, []⟩,
          ⟨(some 21), (.move (.t 1)), none, []⟩,
          ⟨(some 22), (.iaddr 6 (.t 20) (.t 21)), none, []⟩,
          ⟨(some 23), (.faddr 5 (.t 22)), none, []⟩,
          ⟨(some 24), (.load false 1 (.t 23)), none, []⟩,
          ⟨(some 25), (.move (.t 2)), none, []⟩,
          ⟨(some 26), (.bin .gtr (.t 24) (.t 25)), none, []⟩,
          ⟨(some 18), (.move (.t 26)), none, []⟩])
       (ACode.cond (.t 18) (ACode.seq (ACode.ops [⟨(some 27), (.load true 1 (.t 3)), none, []⟩,
            ⟨(some 28), (.build [(.int .u32 0), (.int .u16 0), (.int .u32 0), (.int .u16 0), (.str []), (.int .u64 0)] []), none, []⟩,
            ⟨none, (.store 1 (.t 6) (.t 27)), none, []⟩,
            ⟨none, (.store 6 (.t 7) (.t 28)), none, []⟩,
            ⟨(some 8), (.move (.c (.int .i64 21))), none, []⟩])
         (ACode.ret))
        (ACode.skip))))))
   (ACode.seq (ACode.ops [⟨(some 30), (.load true 1 (.t 3)), none, []⟩,
       ⟨(some 31), (.move (.t 1)), none, []⟩,
       ⟨(some 32), (.call (.c (.fn (.func 18) [] [])) [(.t 30), (.t 31)]), none, []⟩,
       ⟨(some 29), (.move (.t 32)), none, []⟩,
       ⟨(some 33), (.extract (.t 29) 0), none, []⟩,
       ⟨(some 34), (.extract (.t 29) 1), none, []⟩,
       ⟨(some 9), (.alloc [.nils]), none, []⟩,
       ⟨none, (.store 1 (.t 9) (.t 33)), none, []⟩,
       ⟨(some 10), (.move (.t 34)), none, []⟩])
    (ACode.seq (ACode.draw [⟨(some 35), (.load true 1 (.t 9)), none, []⟩,
        ⟨(some 36), (.faddr 0 (.t 3)), none, [0]⟩,
        ⟨(some 37), (.load false 1 (.t 36)), none, [0]⟩,
        ⟨(some 38), (.move (.t 1)), none, [0, 1, 2]⟩,
        ⟨(some 39), (.iaddr 6 (.t 37) (.t 38)), none, [0]⟩,
        ⟨(some 40), (.load true 6 (.t 39)), none, [0]⟩,
        ⟨(some 41), (.move (.t 10)), none, [0, 1, 2, 3, 4, 5]⟩,
        ⟨none, (.store 1 (.t 6) (.t 35)), none, [1, 2, 3, 4, 5, 6]⟩,
        ⟨none, (.store 6 (.t 7) (.t 40)), none, [6]⟩,
        ⟨(some 8), (.move (.t 41)), none, []⟩])
     (ACode.ret))))⟩

/-- vagabond/vagabondlaw27.to -/
def c21 : AFunc := ⟨1, 14, [.cell 2 true 4],
  ACode.seq (ACode.ops [⟨(some 1), (.box 6 (.t 0)), none, []⟩,
     ⟨(some 2), (.alloc [(.int .u64 0), (.int .u64 0), (.str []), (.int .u64 0)]), none, []⟩])
  (ACode.seq (ACode.draw [⟨(some 3), (.faddr 0 (.t 1)), none, []⟩,
      ⟨(some 4), (.load true 2 (.t 3)), none, []⟩,
      ⟨(some 5), (.call (.c (.fn (.func 45) [] [])) [(.t 4)]), none, []⟩,
      ⟨(some 6), (.faddr 2 (.t 1)), none, [0, 1, 2]⟩,
      ⟨(some 7), (.load true 2 (.t 6)), none, [0, 1, 2]⟩,
      ⟨(some 8), (.call (.c (.fn (.func 45) [] [])) [(.t 7)]), none, []⟩,
      ⟨(some 9), (.faddr 4 (.t 1)), none, [0, 1, 2, 3, 4, 5]⟩,
      ⟨(some 10), (.load false 1 (.t 9)), none, [0, 1, 2, 3, 4, 5]⟩,
      ⟨(some 11), (.faddr 5 (.t 1)), none, [0, 1, 2, 3, 4, 5, 6, 7]⟩,
      ⟨(some 12), (.load false 1 (.t 11)), none, [0, 1, 2, 3, 4, 5, 6, 7]⟩,
      ⟨(some 13), (.build [(.int .u64 0), (.int .u64 0), (.str []), (.int .u64 0)] [((0, 1), (.t 5)), ((1, 1), (.t 8)), ((2, 1), (.t 10)), ((3, 1), (.t 12))]), none, []⟩,
      ⟨none, (.store 4 (.t 2) (.t 13)), none, []⟩])
   (ACode.ret))⟩

/-- vagabond/vagabondref27.Drop -/
def c22 : AFunc := ⟨2, 24, [.tmp 4],
  ACode.seq (ACode.ops [⟨(some 4), (.move (.c .nils)), none, []⟩])
  (ACode.seq (ACode.ops [⟨(some 5), (.move (.c .nils)), none, []⟩])
   (ACode.seq (ACode.seq (ACode.ops [⟨(some 8), (.move (.t 0)), none, []⟩,
        ⟨(some 9), (.len false (.t 8)), none, []⟩,
        ⟨(some 10), (.move (.c (.int .i64 0))), none, []⟩])
     (ACode.block 0 (ACode.loop (ACode.seq (ACode.ops [⟨(some 11), (.bin .lss (.t 10) (.t 9)), none, []⟩])
        (ACode.seq (ACode.cond (.t 11) (ACode.skip)
          (ACode.exit 0))
         (ACode.seq (ACode.block 1 (ACode.seq (ACode.ops [⟨(some 12), (.move (.t 10)), none, []⟩,
               ⟨(some 13), (.iaddr 4 (.t 8) (.t 10)), none, []⟩,
               ⟨(some 14), (.load true 4 (.t 13)), none, []⟩,
               ⟨(some 7), (.alloc [(.int .u64 0), (.int .u64 0), (.str []), (.int .u64 0)]), none, []⟩,
               ⟨(some 6), (.move (.t 12)), none, []⟩,
               ⟨none, (.store 4 (.t 7) (.t 14)), none, []⟩])
            (ACode.seq (ACode.ops [⟨(some 15), (.move (.t 6)), none, []⟩,
                ⟨(some 16), (.move (.t 1)), none, []⟩,
                ⟨(some 17), (.bin .neq (.t 15) (.t 16)), none, []⟩])
             (ACode.cond (.t 17) (ACode.ops [⟨(some 18), (.move (.t 5)), none, []⟩,
                 ⟨(some 19), (.load true 4 (.t 7)), none, []⟩,
                 ⟨(some 20), (.buildSlice [(.int .u64 0), (.int .u64 0), (.str []), (.int .u64 0)] 4 1 [(0, (.t 19))]), none, []⟩,
                 ⟨(some 21), (.append 4 40 (.t 18) (.t 20)), none, []⟩,
                 ⟨(some 5), (.move (.t 21)), none, []⟩])
              (ACode.skip)))))
          (ACode.ops [⟨(some 22), (.bin .add (.t 10) (.c (.int .i64 1))), none, []⟩,
             ⟨(some 10), (.move (.t 22)), none, []⟩])))))))
    (ACode.seq (ACode.ops [⟨(some 23), (.move (.t 5)), none, []⟩,
        ⟨(some 4), (.move (.t 23)), none, []⟩])
     (ACode.ret))))⟩

/-- (vagabond/line.Line).Double -/
def c23 : AFunc := ⟨3, 27, [.cell 6 true 1, .tmp 7],
  ACode.seq (ACode.ops [⟨(some 3), (.box 1 (.t 0)), none, []⟩,
     ⟨(some 6), (.alloc [.nils]), none, []⟩,
     ⟨(some 7), (.move (.c (.int .i64 0))), none, []⟩])
  (ACode.seq (ACode.seq (ACode.ops [⟨(some 10), (.load true 1 (.t 3)), none, []⟩,
       ⟨(some 11), (.move (.t 1)), none, []⟩,
       ⟨(some 12), (.call (.c (.fn (.func 42) [] [])) [(.t 10), (.t 11)]), none, []⟩,
       ⟨(some 8), (.move (.t 12)), none, []⟩])
    (ACode.seq (ACode.ops [⟨(some 13), (.move (.t 8)), none, []⟩,
        ⟨(some 14), (.bin .neq (.t 13) (.c (.int .i64 0))), none, []⟩])
     (ACode.cond (.t 14) (ACode.seq (ACode.ops [⟨(some 15), (.load true 1 (.t 3)), none, []⟩,
          ⟨(some 16), (.move (.t 8)), none, []⟩,
          ⟨none, (.store 1 (.t 6) (.t 15)), none, []⟩,
          ⟨(some 7), (.move (.t 16)), none, []⟩])
       (ACode.ret))
      (ACode.skip))))
   (ACode.seq (ACode.ops [⟨(some 17), (.faddr 0 (.t 3)), none, []⟩,
       ⟨(some 18), (.load false 1 (.t 17)), none, []⟩,
       ⟨(some 19), (.move (.t 1)), none, []⟩,
       ⟨(some 20), (.iaddr 6 (.t 18) (.t 19)), none, []⟩,
       ⟨(some 21), (.load true 6 (.t 20)), none, []⟩,
       ⟨(some 9), (.alloc [(.int .u32 0), (.int .u16 0), (.int .u32 0), (.int .u16 0), (.str []), (.int .u64 0)]), none, []⟩,
       ⟨none, (.store 6 (.t 9) (.t 21)), none, []⟩])
    (ACode.seq (ACode.ops [⟨(some 22), (.move (.t 2)), none, []⟩,
        ⟨(some 23), (.faddr 5 (.t 9)), none, []⟩,
        ⟨none, (.store 1 (.t 23) (.t 22)), none, []⟩])
     (ACode.seq (ACode.ops [⟨(some 24), (.load true 1 (.t 3)), none, []⟩,
         ⟨(some 25), (.load true 6 (.t 9)), none, []⟩,
         ⟨(some 26), (.call (.c (.fn (.func 12) [] [])) [(.t 24), (.t 25)]), none, []⟩,
         ⟨none, (.store 1 (.t 6) (.t 26)), none, []⟩,
         ⟨(some 7), (.move (.c (.int .i64 0))), none, []⟩])
      (ACode.ret)))))⟩

/-- vagabond/vagabondref27.Send -/
def c24 : AFunc := ⟨2, 31, [.tmp 4],
  ACode.seq (ACode.ops [⟨(some 3), (.box 4 (.t 1)), none, []⟩,
     ⟨(some 4), (.move (.c .nils)), none, []⟩])
  (ACode.seq (ACode.ops [⟨(some 5), (.move (.c .nils)), none, []⟩])
   (ACode.seq (ACode.seq (ACode.ops [⟨(some 8), (.move (.t 0)), none, []⟩,
        ⟨(some 9), (.len false (.t 8)), none, []⟩,
        ⟨(some 10), (.move (.c (.int .i64 0))), none, []⟩])
     (ACode.block 0 (ACode.loop (ACode.seq (ACode.ops [⟨(some 11), (.bin .lss (.t 10) (.t 9)), none, []⟩])
        (ACode.seq (ACode.cond (.t 11) (ACode.skip)
          (ACode.exit 0))
         (ACode.seq (ACode.block 1 (ACode.seq (ACode.ops [⟨(some 12), (.move (.t 10)), none, []⟩,
               ⟨(some 13), (.iaddr 4 (.t 8) (.t 10)), none, []⟩,
               ⟨(some 14), (.load true 4 (.t 13)), none, []⟩,
               ⟨(some 7), (.alloc [(.int .u64 0), (.int .u64 0), (.str []), (.int .u64 0)]), none, []⟩,
               ⟨(some 6), (.move (.t 12)), none, []⟩,
               ⟨none, (.store 4 (.t 7) (.t 14)), none, []⟩])
            (ACode.seq (ACode.ops [⟨(some 15), (.move (.t 0)), none, []⟩,
                ⟨(some 16), (.len false (.t 15)), none, []⟩,
                ⟨(some 17), (.bin .lss (.t 16) (.c (.int .i64 256))), none, []⟩,
                ⟨(some 18), (.move (.t 17)), none, []⟩,
                ⟨(some 19), (.move (.t 6)), some (18, false), []⟩,
                ⟨(some 20), (.bin .gtr (.t 19) (.c (.int .i64 0))), some (18, false), []⟩,
                ⟨(some 21), (.pick (.t 18) (.c (.bool true)) (.t 20)), none, []⟩])
             (ACode.cond (.t 21) (ACode.ops [⟨(some 22), (.move (.t 5)), none, []⟩,
                 ⟨(some 23), (.load true 4 (.t 7)), none, []⟩,
                 ⟨(some 24), (.buildSlice [(.int .u64 0), (.int .u64 0), (.str []), (.int .u64 0)] 4 1 [(0, (.t 23))]), none, []⟩,
                 ⟨(some 25), (.append 4 40 (.t 22) (.t 24)), none, []⟩,
                 ⟨(some 5), (.move (.t 25)), none, []⟩])
              (ACode.skip)))))
          (ACode.ops [⟨(some 26), (.bin .add (.t 10) (.c (.int .i64 1))), none, []⟩,
             ⟨(some 10), (.move (.t 26)), none, []⟩])))))))
    (ACode.seq (ACode.ops [⟨(some 27), (.move (.t 5)), none, []⟩,
        ⟨(some 28), (.load true 4 (.t 3)), none, []⟩,
        ⟨(some 29), (.buildSlice [(.int .u64 0), (.int .u64 0), (.str []), (.int .u64 0)] 4 1 [(0, (.t 28))]), none, []⟩,
        ⟨(some 30), (.append 4 40 (.t 27) (.t 29)), none, []⟩,
        ⟨(some 4), (.move (.t 30)), none, []⟩])
     (ACode.ret))))⟩

/-- vagabond/vagabondref01.Later -/
def c25 : AFunc := ⟨2, 13, [.tmp 4],
  ACode.seq (ACode.ops [⟨(some 4), (.move (.c (.int .u64 0))), none, []⟩])
  (ACode.seq (ACode.seq (ACode.ops [⟨(some 5), (.move (.t 0)), none, []⟩,
       ⟨(some 6), (.move (.t 1)), none, []⟩,
       ⟨(some 7), (.bin .add (.t 5) (.t 6)), none, []⟩,
       ⟨(some 8), (.move (.t 0)), none, []⟩,
       ⟨(some 9), (.bin .lss (.t 7) (.t 8)), none, []⟩])
    (ACode.cond (.t 9) (ACode.seq (ACode.ops [⟨(some 4), (.move (.c (.int .u64 18446744073709551615))), none, []⟩])
      (ACode.ret))
     (ACode.skip)))
   (ACode.seq (ACode.ops [⟨(some 10), (.move (.t 0)), none, []⟩,
       ⟨(some 11), (.move (.t 1)), none, []⟩,
       ⟨(some 12), (.bin .add (.t 10) (.t 11)), none, []⟩,
       ⟨(some 4), (.move (.t 12)), none, []⟩])
    (ACode.ret)))⟩

/-- vagabond/vagabondref27.Set -/
def c26 : AFunc := ⟨3, 16, [.tmp 6],
  ACode.seq (ACode.ops [⟨(some 5), (.box 4 (.t 2)), none, []⟩,
     ⟨(some 6), (.move (.c .nils)), none, []⟩])
  (ACode.seq (ACode.ops [⟨(some 7), (.move (.c .nils)), none, []⟩])
   (ACode.seq (ACode.ops [⟨(some 8), (.move (.t 7)), none, []⟩,
       ⟨(some 9), (.move (.t 0)), none, []⟩,
       ⟨(some 10), (.append 4 40 (.t 8) (.t 9)), none, []⟩,
       ⟨(some 7), (.move (.t 10)), none, []⟩])
    (ACode.seq (ACode.ops [⟨(some 11), (.move (.t 7)), none, []⟩,
        ⟨(some 12), (.move (.t 1)), none, []⟩,
        ⟨(some 13), (.load true 4 (.t 5)), none, []⟩,
        ⟨(some 14), (.iaddr 4 (.t 11) (.t 12)), none, []⟩,
        ⟨none, (.store 4 (.t 14) (.t 13)), none, []⟩])
     (ACode.seq (ACode.ops [⟨(some 15), (.move (.t 7)), none, []⟩,
         ⟨(some 6), (.move (.t 15)), none, []⟩])
      (ACode.ret)))))⟩

/-- vagabond/vagabondlaw27.is -/
def c27 : AFunc := ⟨2, 37, [.tmp 4],
  ACode.seq (ACode.ops [⟨(some 2), (.box 1 (.t 0)), none, []⟩,
     ⟨(some 4), (.move (.c (.bool false))), none, []⟩])
  (ACode.seq (ACode.ops [⟨(some 7), (.load true 1 (.t 2)), none, []⟩,
      ⟨(some 8), (.call (.c (.fn (.func 13) [] [])) [(.t 7)]), none, []⟩,
      ⟨(some 5), (.move (.t 8)), none, []⟩])
   (ACode.seq (ACode.seq (ACode.ops [⟨(some 9), (.move (.t 5)), none, []⟩,
        ⟨(some 10), (.len false (.t 9)), none, []⟩,
        ⟨(some 11), (.move (.t 1)), none, []⟩,
        ⟨(some 12), (.len false (.t 11)), none, []⟩,
        ⟨(some 13), (.bin .neq (.t 10) (.t 12)), none, []⟩,
        ⟨(some 14), (.move (.t 13)), none, []⟩,
        ⟨(some 15), (.load true 1 (.t 2)), some (14, false), []⟩,
        ⟨(some 16), (.call (.c (.fn (.func 14) [] [])) [(.t 15)]), some (14, false), []⟩,
        ⟨(some 17), (.move (.t 1)), some (14, false), []⟩,
        ⟨(some 18), (.len false (.t 17)), some (14, false), []⟩,
        ⟨(some 19), (.bin .neq (.t 16) (.t 18)), some (14, false), []⟩,
        ⟨(some 20), (.pick (.t 14) (.c (.bool true)) (.t 19)), none, []⟩])
     (ACode.cond (.t 20) (ACode.seq (ACode.ops [⟨(some 4), (.move (.c (.bool false))), none, []⟩])
       (ACode.ret))
      (ACode.skip)))
    (ACode.seq (ACode.seq (ACode.ops [⟨(some 21), (.move (.t 5)), none, []⟩,
         ⟨(some 22), (.len false (.t 21)), none, []⟩,
         ⟨(some 23), (.move (.c (.int .i64 0))), none, []⟩])
      (ACode.block 0 (ACode.loop (ACode.seq (ACode.ops [⟨(some 24), (.bin .lss (.t 23) (.t 22)), none, []⟩])
         (ACode.seq (ACode.cond (.t 24) (ACode.skip)
           (ACode.exit 0))
          (ACode.seq (ACode.block 1 (ACode.seq (ACode.ops [⟨(some 25), (.move (.t 23)), none, []⟩,
                ⟨(some 6), (.move (.t 25)), none, []⟩])
             (ACode.seq (ACode.draw [⟨(some 26), (.move (.t 5)), none, []⟩,
                 ⟨(some 27), (.move (.t 6)), none, [0]⟩,
                 ⟨(some 28), (.iaddr 6 (.t 26) (.t 27)), none, []⟩,
                 ⟨(some 29), (.load true 6 (.t 28)), none, []⟩,
                 ⟨(some 30), (.call (.c (.fn (.func 21) [] [])) [(.t 29)]), none, []⟩,
                 ⟨(some 31), (.move (.t 1)), none, [0, 1, 2, 3, 4]⟩,
                 ⟨(some 32), (.move (.t 6)), none, [0, 1, 2, 3, 4, 5]⟩,
                 ⟨(some 33), (.iaddr 4 (.t 31) (.t 32)), none, [0, 1, 2, 3, 4]⟩,
                 ⟨(some 34), (.load true 4 (.t 33)), none, [0, 1, 2, 3, 4]⟩,
                 ⟨(some 35), (.eqAgg true [some (.int .u64), some (.int .u64), some .str, some (.int .u64)] (.t 30) (.t 34)), none, []⟩])
              (ACode.cond (.t 35) (ACode.seq (ACode.ops [⟨(some 4), (.move (.c (.bool false))), none, []⟩])
                (ACode.ret))
               (ACode.skip)))))
           (ACode.ops [⟨(some 36), (.bin .add (.t 23) (.c (.int .i64 1))), none, []⟩,
              ⟨(some 23), (.move (.t 36)), none, []⟩])))))))
     (ACode.seq (ACode.ops [⟨(some 4), (.move (.c (.bool true))), none, []⟩])
      (ACode.ret)))))⟩

/-- (vagabond/line.Line).Next -/
def c28 : AFunc := ⟨1, 28, [.tmp 2, .tmp 3],
  ACode.seq (ACode.ops [⟨(some 1), (.box 1 (.t 0)), none, []⟩,
     ⟨(some 2), (.move (.c (.int .u64 0))), none, []⟩,
     ⟨(some 3), (.move (.c (.bool false))), none, []⟩])
  (ACode.seq (ACode.ops [⟨(some 4), (.move (.c (.int .u64 0))), none, []⟩,
      ⟨(some 5), (.move (.c (.bool false))), none, []⟩])
   (ACode.seq (ACode.seq (ACode.ops [⟨(some 8), (.faddr 0 (.t 1)), none, []⟩,
        ⟨(some 9), (.load false 1 (.t 8)), none, []⟩,
        ⟨(some 10), (.len false (.t 9)), none, []⟩,
        ⟨(some 11), (.move (.c (.int .i64 0))), none, []⟩])
     (ACode.block 0 (ACode.loop (ACode.seq (ACode.ops [⟨(some 12), (.bin .lss (.t 11) (.t 10)), none, []⟩])
        (ACode.seq (ACode.cond (.t 12) (ACode.skip)
          (ACode.exit 0))
         (ACode.seq (ACode.block 1 (ACode.seq (ACode.ops [⟨(some 13), (.iaddr 6 (.t 9) (.t 11)), none, []⟩,
               ⟨(some 14), (.load true 6 (.t 13)), none, []⟩,
               ⟨(some 7), (.alloc [(.int .u32 0), (.int .u16 0), (.int .u32 0), (.int .u16 0), (.str []), (.int .u64 0)]), none, []⟩,
               ⟨none, (.store 6 (.t 7) (.t 14)), none, []⟩])
            (ACode.seq (ACode.ops [⟨(some 15), (.move (.t 5)), none, []⟩,
                ⟨(some 16), (.un .not (.t 15)), none, []⟩,
                ⟨(some 17), (.move (.t 16)), none, []⟩,
                ⟨(some 18), (.faddr 5 (.t 7)), some (17, false), []⟩,
                ⟨(some 19), (.load false 1 (.t 18)), some (17, false), []⟩,
                ⟨(some 20), (.move (.t 4)), some (17, false), []⟩,
                ⟨(some 21), (.bin .lss (.t 19) (.t 20)), some (17, false), []⟩,
                ⟨(some 22), (.pick (.t 17) (.c (.bool true)) (.t 21)), none, []⟩])
             (ACode.cond (.t 22) (ACode.ops [⟨(some 23), (.faddr 5 (.t 7)), none, []⟩,
                 ⟨(some 24), (.load false 1 (.t 23)), none, []⟩,
                 ⟨(some 4), (.move (.t 24)), none, []⟩,
                 ⟨(some 5), (.move (.c (.bool true))), none, []⟩])
              (ACode.skip)))))
          (ACode.ops [⟨(some 25), (.bin .add (.t 11) (.c (.int .i64 1))), none, []⟩,
             ⟨(some 11), (.move (.t 25)), none, []⟩])))))))
    (ACode.seq (ACode.ops [⟨(some 26), (.move (.t 4)), none, []⟩,
        ⟨(some 27), (.move (.t 5)), none, []⟩,
        ⟨(some 2), (.move (.t 26)), none, []⟩,
        ⟨(some 3), (.move (.t 27)), none, []⟩])
     (ACode.ret))))⟩

/-- slices.Contains[[]vagabond/line.Item,vagabond/line.Item] -/
def c29 : AFunc := ⟨2, 9, [.tmp 4],
  ACode.seq (ACode.ops [⟨(some 3), (.box 6 (.t 1)), none, []⟩,
     ⟨(some 4), (.move (.c (.bool false))), none, []⟩])
  (ACode.seq (ACode.ops [⟨(some 5), (.move (.t 0)), none, []⟩,
      ⟨(some 6), (.load true 6 (.t 3)), none, []⟩,
      ⟨(some 7), (.call (.c (.fn (.func 46) [] [])) [(.t 5), (.t 6)]), none, []⟩,
      ⟨(some 8), (.bin .geq (.t 7) (.c (.int .i64 0))), none, []⟩,
      ⟨(some 4), (.move (.t 8)), none, []⟩])
   (ACode.ret))⟩

/-- vagabond/vagabondlaw01.Awake -/
def c40 : AFunc := ⟨0, 2, [.tmp 0],
  ACode.seq (ACode.ops [⟨(some 0), (.move (.c (.bool false))), none, []⟩])
  (ACode.seq (ACode.ops [⟨(some 1), (.call (.c (.fn (.func 53) [] [])) []), none, []⟩,
      ⟨(some 0), (.move (.t 1)), none, []⟩])
   (ACode.ret))⟩

/-- slices.Clone[[]vagabond/line.Item,vagabond/line.Item] -/
def c41 : AFunc := ⟨1, 8, [.tmp 2],
  ACode.seq (ACode.ops [⟨(some 2), (.move (.c .nils)), none, []⟩])
  (ACode.seq (ACode.seq (ACode.ops [⟨(some 3), (.move (.t 0)), none, []⟩,
       ⟨(some 4), (.isNil .slice false (.t 3)), none, []⟩])
    (ACode.cond (.t 4) (ACode.seq (ACode.ops [⟨(some 2), (.move (.c .nils)), none, []⟩])
      (ACode.ret))
     (ACode.skip)))
   (ACode.seq (ACode.ops [⟨(some 5), (.buildSlice [(.int .u32 0), (.int .u16 0), (.int .u32 0), (.int .u16 0), (.str []), (.int .u64 0)] 6 0 []), none, []⟩,
       ⟨(some 6), (.move (.t 0)), none, []⟩,
       ⟨(some 7), (.append 6 40 (.t 5) (.t 6)), none, []⟩,
       ⟨(some 2), (.move (.t 7)), none, []⟩])
    (ACode.ret)))⟩

/-- (vagabond/line.Line).one -/
def c42 : AFunc := ⟨2, 14, [.tmp 4],
  ACode.seq (ACode.ops [⟨(some 2), (.box 1 (.t 0)), none, []⟩,
     ⟨(some 4), (.move (.c (.int .i64 0))), none, []⟩])
  (ACode.seq (ACode.seq (ACode.ops [⟨(some 5), (.move (.t 1)), none, []⟩,
       ⟨(some 6), (.bin .lss (.t 5) (.c (.int .i64 0))), none, []⟩,
       ⟨(some 7), (.move (.t 6)), none, []⟩,
       ⟨(some 8), (.move (.t 1)), some (7, false), []⟩,
       ⟨(some 9), (.faddr 0 (.t 2)), some (7, false), []⟩,
       ⟨(some 10), (.load false 1 (.t 9)), some (7, false), []⟩,
       ⟨(some 11), (.len false (.t 10)), some (7, false), []⟩,
       ⟨(some 12), (.bin .geq (.t 8) (.t 11)), some (7, false), []⟩,
       ⟨(some 13), (.pick (.t 7) (.c (.bool true)) (.t 12)), none, []⟩])
    (ACode.cond (.t 13) (ACode.seq (ACode.ops [⟨(some 4), (.move (.c (.int .i64 10))), none, []⟩])
      (ACode.ret))
     (ACode.skip)))
   (ACode.seq (ACode.ops [⟨(some 4), (.move (.c (.int .i64 0))), none, []⟩])
    (ACode.ret)))⟩

/-- vagabond/word.Add -/
def c43 : AFunc := ⟨2, 12, [.tmp 4],
  ACode.seq (ACode.ops [⟨(some 4), (.move (.c (.int .u64 0))), none, []⟩])
  (ACode.seq (ACode.seq (ACode.ops [⟨(some 5), (.move (.t 1)), none, []⟩,
       ⟨(some 6), (.move (.t 0)), none, []⟩,
       ⟨(some 7), (.bin .sub (.c (.int .u64 18446744073709551615)) (.t 6)), none, []⟩,
       ⟨(some 8), (.bin .gtr (.t 5) (.t 7)), none, []⟩])
    (ACode.cond (.t 8) (ACode.seq (ACode.ops [⟨(some 4), (.move (.c (.int .u64 18446744073709551615))), none, []⟩])
      (ACode.ret))
     (ACode.skip)))
   (ACode.seq (ACode.ops [⟨(some 9), (.move (.t 0)), none, []⟩,
       ⟨(some 10), (.move (.t 1)), none, []⟩,
       ⟨(some 11), (.bin .add (.t 9) (.t 10)), none, []⟩,
       ⟨(some 4), (.move (.t 11)), none, []⟩])
    (ACode.ret)))⟩

/-- slices.Delete[[]vagabond/line.Item,vagabond/line.Item] -/
def c44 : AFunc := ⟨3, 33, [.tmp 6],
  ACode.seq (ACode.ops [⟨(some 6), (.move (.c .nils)), none, []⟩])
  (ACode.seq (ACode.ops [⟨(some 8), (.move (.t 0)), none, []⟩,
      ⟨(some 9), (.move (.t 1)), none, []⟩,
      ⟨(some 10), (.move (.t 2)), none, []⟩,
      ⟨(some 11), (.move (.t 0)), none, []⟩,
      ⟨(some 12), (.len false (.t 11)), none, []⟩,
      ⟨(some 13), (.slice 6 (.t 8) (some (.t 9)) (some (.t 10)) (some (.t 12))), none, []⟩])
   (ACode.seq (ACode.seq (ACode.ops [⟨(some 14), (.move (.t 1)), none, []⟩,
        ⟨(some 15), (.move (.t 2)), none, []⟩,
        ⟨(some 16), (.bin .eql (.t 14) (.t 15)), none, []⟩])
     (ACode.cond (.t 16) (ACode.seq (ACode.ops [⟨(some 17), (.move (.t 0)), none, []⟩,
          ⟨(some 6), (.move (.t 17)), none, []⟩])
       (ACode.ret))
      (ACode.skip)))
    (ACode.seq (ACode.ops [⟨(some 18), (.move (.t 0)), none, []⟩,
        ⟨(some 19), (.len false (.t 18)), none, []⟩,
        ⟨(some 7), (.move (.t 19)), none, []⟩])
     (ACode.seq (ACode.draw [⟨(some 20), (.move (.t 0)), none, []⟩,
         ⟨(some 21), (.move (.t 1)), none, [0]⟩,
         ⟨(some 22), (.slice 6 (.t 20) none (some (.t 21)) none), none, []⟩,
         ⟨(some 23), (.move (.t 0)), none, [0, 1, 2]⟩,
         ⟨(some 24), (.move (.t 2)), none, [0, 1, 2, 3]⟩,
         ⟨(some 25), (.slice 6 (.t 23) (some (.t 24)) none none), none, [0, 1, 2]⟩,
         ⟨(some 26), (.append 6 40 (.t 22) (.t 25)), none, []⟩,
         ⟨(some 0), (.move (.t 26)), none, []⟩])
      (ACode.seq (ACode.ops [⟨(some 27), (.move (.t 0)), none, []⟩,
          ⟨(some 28), (.move (.t 0)), none, []⟩,
          ⟨(some 29), (.len false (.t 28)), none, []⟩,
          ⟨(some 30), (.move (.t 7)), none, []⟩,
          ⟨(some 31), (.slice 6 (.t 27) (some (.t 29)) (some (.t 30)) none), none, []⟩,
          ⟨none, (.clear [(.int .u32 0), (.int .u16 0), (.int .u32 0), (.int .u16 0), (.str []), (.int .u64 0)] 6 (.t 31)), none, []⟩])
       (ACode.seq (ACode.ops [⟨(some 32), (.move (.t 0)), none, []⟩,
           ⟨(some 6), (.move (.t 32)), none, []⟩])
        (ACode.ret)))))))⟩

/-- vagabond/vagabondlaw27.num -/
def c45 : AFunc := ⟨1, 11, [.tmp 2],
  ACode.seq (ACode.ops [⟨(some 1), (.box 2 (.t 0)), none, []⟩,
     ⟨(some 2), (.move (.c (.int .u64 0))), none, []⟩])
  (ACode.seq (ACode.ops [⟨(some 3), (.faddr 0 (.t 1)), none, []⟩,
      ⟨(some 4), (.load false 1 (.t 3)), none, []⟩,
      ⟨(some 5), (.conv (.int .u64) (.t 4)), none, []⟩,
      ⟨(some 6), (.bin .shl (.t 5) (.c (.int .u64 16))), none, []⟩,
      ⟨(some 7), (.faddr 1 (.t 1)), none, []⟩,
      ⟨(some 8), (.load false 1 (.t 7)), none, []⟩,
      ⟨(some 9), (.conv (.int .u64) (.t 8)), none, []⟩,
      ⟨(some 10), (.bin .or (.t 6) (.t 9)), none, []⟩,
      ⟨(some 2), (.move (.t 10)), none, []⟩])
   (ACode.ret))⟩

/-- slices.Index[[]vagabond/line.Item,vagabond/line.Item] -/
def c46 : AFunc := ⟨2, 19, [.tmp 4],
  ACode.seq (ACode.ops [⟨(some 3), (.box 6 (.t 1)), none, []⟩,
     ⟨(some 4), (.move (.c (.int .i64 0))), none, []⟩])
  (ACode.seq (ACode.seq (ACode.ops [⟨(some 6), (.move (.t 0)), none, []⟩,
       ⟨(some 7), (.len false (.t 6)), none, []⟩,
       ⟨(some 8), (.move (.c (.int .i64 0))), none, []⟩])
    (ACode.block 0 (ACode.loop (ACode.seq (ACode.ops [⟨(some 9), (.bin .lss (.t 8) (.t 7)), none, []⟩])
       (ACode.seq (ACode.cond (.t 9) (ACode.skip)
         (ACode.exit 0))
        (ACode.seq (ACode.block 1 (ACode.seq (ACode.ops [⟨(some 10), (.move (.t 8)), none, []⟩,
              ⟨(some 5), (.move (.t 10)), none, []⟩])
           (ACode.seq (ACode.draw [⟨(some 11), (.load true 6 (.t 3)), none, []⟩,
               ⟨(some 12), (.move (.t 0)), none, [0]⟩,
               ⟨(some 13), (.move (.t 5)), none, [0, 1]⟩,
               ⟨(some 14), (.iaddr 6 (.t 12) (.t 13)), none, [0]⟩,
               ⟨(some 15), (.load true 6 (.t 14)), none, [0]⟩,
               ⟨(some 16), (.eqAgg false [some (.int .u32), some (.int .u16), some (.int .u32), some (.int .u16), some .str, some (.int .u64)] (.t 11) (.t 15)), none, []⟩])
            (ACode.cond (.t 16) (ACode.seq (ACode.ops [⟨(some 17), (.move (.t 5)), none, []⟩,
                 ⟨(some 4), (.move (.t 17)), none, []⟩])
              (ACode.ret))
             (ACode.skip)))))
         (ACode.ops [⟨(some 18), (.bin .add (.t 8) (.c (.int .i64 1))), none, []⟩,
            ⟨(some 8), (.move (.t 18)), none, []⟩])))))))
   (ACode.seq (ACode.ops [⟨(some 4), (.move (.c (.int .i64 (-1)))), none, []⟩])
    (ACode.ret)))⟩

/-- vagabond/vagabondlaw01.awake -/
def c53 : AFunc := ⟨0, 19, [.tmp 0],
  ACode.seq (ACode.ops [⟨(some 0), (.move (.c (.bool false))), none, []⟩])
  (ACode.seq (ACode.ops [⟨(some 4), (.buildSlice [(.int .i64 0)] 1 2 [(0, (.c (.int .i64 1))), (1, (.c (.int .i64 2)))]), none, []⟩,
      ⟨(some 5), (.call (.c (.fn (.func 60) [] [])) [(.c (.str [97, 98, 99, 100])), (.t 4)]), none, []⟩,
      ⟨(some 3), (.move (.t 5)), none, []⟩,
      ⟨(some 6), (.extract (.t 3) 0), none, []⟩,
      ⟨(some 7), (.extract (.t 3) 1), none, []⟩,
      ⟨(some 1), (.move (.t 6)), none, []⟩,
      ⟨(some 2), (.move (.t 7)), none, []⟩])
   (ACode.seq (ACode.ops [⟨(some 8), (.move (.t 2)), none, []⟩,
       ⟨(some 9), (.bin .eql (.t 8) (.c (.int .i64 0))), none, []⟩,
       ⟨(some 10), (.move (.t 9)), none, []⟩,
       ⟨(some 11), (.move (.t 1)), some (10, true), []⟩,
       ⟨(some 12), (.buildSlice [(.str [])] 1 3 [(0, (.c (.str [97]))), (1, (.c (.str [98, 99]))), (2, (.c (.str [100])))]), some (10, true), []⟩,
       ⟨(some 13), (.call (.c (.fn (.func 61) [] [])) [(.t 11), (.t 12)]), some (10, true), []⟩,
       ⟨(some 14), (.pick (.t 10) (.t 13) (.c (.bool false))), none, []⟩,
       ⟨(some 15), (.move (.t 14)), none, []⟩,
       ⟨(some 16), (.call (.c (.fn (.func 62) [] [])) [(.c (.int .u64 258)), (.c (.int .i64 2))]), some (15, true), []⟩,
       ⟨(some 17), (.bin .eql (.t 16) (.c (.str [1, 2]))), some (15, true), []⟩,
       ⟨(some 18), (.pick (.t 15) (.t 17) (.c (.bool false))), none, []⟩,
       ⟨(some 0), (.move (.t 18)), none, []⟩])
    (ACode.ret)))⟩

/-- vagabond/word.Cut -/
def c60 : AFunc := ⟨2, 37, [.tmp 4, .tmp 5],
  ACode.seq (ACode.ops [⟨(some 4), (.move (.c .nils)), none, []⟩,
     ⟨(some 5), (.move (.c (.int .i64 0))), none, []⟩])
  (ACode.seq (ACode.ops [⟨(some 6), (.move (.c .nils)), none, []⟩])
   (ACode.seq (ACode.seq (ACode.ops [⟨(some 9), (.move (.t 1)), none, []⟩,
        ⟨(some 10), (.len false (.t 9)), none, []⟩,
        ⟨(some 11), (.move (.c (.int .i64 0))), none, []⟩])
     (ACode.block 0 (ACode.loop (ACode.seq (ACode.ops [⟨(some 12), (.bin .lss (.t 11) (.t 10)), none, []⟩])
        (ACode.seq (ACode.cond (.t 12) (ACode.skip)
          (ACode.exit 0))
         (ACode.seq (ACode.block 1 (ACode.seq (ACode.ops [⟨(some 13), (.iaddr 1 (.t 9) (.t 11)), none, []⟩,
               ⟨(some 14), (.load false 1 (.t 13)), none, []⟩,
               ⟨(some 8), (.move (.t 14)), none, []⟩])
            (ACode.seq (ACode.block 2 (ACode.seq (ACode.ops [⟨(some 16), (.move (.t 8)), none, []⟩,
                  ⟨(some 17), (.bin .lss (.t 16) (.c (.int .i64 0))), none, []⟩,
                  ⟨(some 15), (.move (.t 17)), none, []⟩])
               (ACode.cond (.t 15) (ACode.seq (ACode.ops [⟨(some 4), (.move (.c .nils)), none, []⟩,
                    ⟨(some 5), (.move (.c (.int .i64 2))), none, []⟩])
                 (ACode.ret))
                (ACode.seq (ACode.ops [⟨(some 19), (.move (.t 8)), none, []⟩,
                    ⟨(some 20), (.move (.t 0)), none, []⟩,
                    ⟨(some 21), (.len true (.t 20)), none, []⟩,
                    ⟨(some 22), (.bin .gtr (.t 19) (.t 21)), none, []⟩,
                    ⟨(some 18), (.move (.t 22)), none, []⟩])
                 (ACode.cond (.t 18) (ACode.seq (ACode.ops [⟨(some 4), (.move (.c .nils)), none, []⟩,
                      ⟨(some 5), (.move (.c (.int .i64 3))), none, []⟩])
                   (ACode.ret))
                  (ACode.skip))))))
             (ACode.seq (ACode.ops [⟨(some 23), (.move (.t 6)), none, []⟩,
                 ⟨(some 24), (.move (.t 0)), none, []⟩,
                 ⟨(some 25), (.move (.t 8)), none, []⟩,
                 ⟨(some 26), (.sliceStr (.t 24) none (some (.t 25))), none, []⟩,
                 ⟨(some 27), (.buildSlice [(.str [])] 1 1 [(0, (.t 26))]), none, []⟩,
                 ⟨(some 28), (.append 1 16 (.t 23) (.t 27)), none, []⟩,
                 ⟨(some 6), (.move (.t 28)), none, []⟩])
              (ACode.ops [⟨(some 29), (.move (.t 0)), none, []⟩,
                 ⟨(some 30), (.move (.t 8)), none, []⟩,
                 ⟨(some 31), (.sliceStr (.t 29) (some (.t 30)) none), none, []⟩,
                 ⟨(some 0), (.move (.t 31)), none, []⟩])))))
          (ACode.ops [⟨(some 32), (.bin .add (.t 11) (.c (.int .i64 1))), none, []⟩,
             ⟨(some 11), (.move (.t 32)), none, []⟩])))))))
    (ACode.seq (ACode.ops [⟨(some 33), (.move (.t 6)), none, []⟩,
        ⟨(some 34), (.move (.t 0)), none, []⟩,
        ⟨(some 35), (.buildSlice [(.str [])] 1 1 [(0, (.t 34))]), none, []⟩,
        ⟨(some 36), (.append 1 16 (.t 33) (.t 35)), none, []⟩,
        ⟨(some 4), (.move (.t 36)), none, []⟩,
        ⟨(some 5), (.move (.c (.int .i64 0))), none, []⟩])
     (ACode.ret))))⟩

/-- slices.Equal[[]string,string] -/
def c61 : AFunc := ⟨2, 26, [.tmp 4],
  ACode.seq (ACode.ops [⟨(some 4), (.move (.c (.bool false))), none, []⟩])
  (ACode.seq (ACode.seq (ACode.ops [⟨(some 6), (.move (.t 0)), none, []⟩,
       ⟨(some 7), (.len false (.t 6)), none, []⟩,
       ⟨(some 8), (.move (.t 1)), none, []⟩,
       ⟨(some 9), (.len false (.t 8)), none, []⟩,
       ⟨(some 10), (.bin .neq (.t 7) (.t 9)), none, []⟩])
    (ACode.cond (.t 10) (ACode.seq (ACode.ops [⟨(some 4), (.move (.c (.bool false))), none, []⟩])
      (ACode.ret))
     (ACode.skip)))
   (ACode.seq (ACode.seq (ACode.ops [⟨(some 11), (.move (.t 0)), none, []⟩,
        ⟨(some 12), (.len false (.t 11)), none, []⟩,
        ⟨(some 13), (.move (.c (.int .i64 0))), none, []⟩])
     (ACode.block 0 (ACode.loop (ACode.seq (ACode.ops [⟨(some 14), (.bin .lss (.t 13) (.t 12)), none, []⟩])
        (ACode.seq (ACode.cond (.t 14) (ACode.skip)
          (ACode.exit 0))
         (ACode.seq (ACode.block 1 (ACode.seq (ACode.ops [⟨(some 15), (.move (.t 13)), none, []⟩,
               ⟨(some 5), (.move (.t 15)), none, []⟩])
            (ACode.seq (ACode.draw [⟨(some 16), (.move (.t 0)), none, []⟩,
                ⟨(some 17), (.move (.t 5)), none, [0]⟩,
                ⟨(some 18), (.iaddr 1 (.t 16) (.t 17)), none, []⟩,
                ⟨(some 19), (.load false 1 (.t 18)), none, []⟩,
                ⟨(some 20), (.move (.t 1)), none, [0, 1, 2, 3]⟩,
                ⟨(some 21), (.move (.t 5)), none, [0, 1, 2, 3, 4]⟩,
                ⟨(some 22), (.iaddr 1 (.t 20) (.t 21)), none, [0, 1, 2, 3]⟩,
                ⟨(some 23), (.load false 1 (.t 22)), none, [0, 1, 2, 3]⟩,
                ⟨(some 24), (.bin .neq (.t 19) (.t 23)), none, []⟩])
             (ACode.cond (.t 24) (ACode.seq (ACode.ops [⟨(some 4), (.move (.c (.bool false))), none, []⟩])
               (ACode.ret))
              (ACode.skip)))))
          (ACode.ops [⟨(some 25), (.bin .add (.t 13) (.c (.int .i64 1))), none, []⟩,
             ⟨(some 13), (.move (.t 25)), none, []⟩])))))))
    (ACode.seq (ACode.ops [⟨(some 4), (.move (.c (.bool true))), none, []⟩])
     (ACode.ret))))⟩

/-- vagabond/word.Put -/
def c62 : AFunc := ⟨2, 27, [.tmp 4],
  ACode.seq (ACode.ops [⟨(some 4), (.move (.c (.str []))), none, []⟩])
  (ACode.seq (ACode.ops [⟨(some 7), (.move (.t 1)), none, []⟩,
      ⟨(some 8), (.maxI [(.t 7), (.c (.int .i64 0))]), none, []⟩,
      ⟨(some 9), (.minI [(.t 8), (.c (.int .i64 8))]), none, []⟩,
      ⟨(some 10), (.makeSlice [(.int .u8 0)] 1 1 (.t 9) (.t 9)), none, []⟩,
      ⟨(some 5), (.move (.t 10)), none, []⟩])
   (ACode.seq (ACode.seq (ACode.ops [⟨(some 11), (.move (.t 5)), none, []⟩,
        ⟨(some 12), (.len false (.t 11)), none, []⟩,
        ⟨(some 13), (.bin .sub (.t 12) (.c (.int .i64 1))), none, []⟩,
        ⟨(some 6), (.move (.t 13)), none, []⟩])
     (ACode.block 0 (ACode.loop (ACode.seq (ACode.seq (ACode.ops [⟨(some 14), (.move (.t 6)), none, []⟩,
            ⟨(some 15), (.bin .geq (.t 14) (.c (.int .i64 0))), none, []⟩])
         (ACode.cond (.t 15) (ACode.skip)
          (ACode.exit 0)))
        (ACode.seq (ACode.block 1 (ACode.seq (ACode.ops [⟨(some 18), (.move (.t 5)), none, []⟩,
              ⟨(some 19), (.move (.t 6)), none, []⟩,
              ⟨(some 20), (.move (.t 0)), none, []⟩,
              ⟨(some 21), (.conv (.int .u8) (.t 20)), none, []⟩,
              ⟨(some 22), (.iaddr 1 (.t 18) (.t 19)), none, []⟩,
              ⟨none, (.store 1 (.t 22) (.t 21)), none, []⟩])
           (ACode.ops [⟨(some 23), (.move (.t 0)), none, []⟩,
              ⟨(some 24), (.bin .shr (.t 23) (.c (.int .u64 8))), none, []⟩,
              ⟨(some 0), (.move (.t 24)), none, []⟩])))
         (ACode.ops [⟨(some 16), (.move (.t 6)), none, []⟩,
            ⟨(some 17), (.bin .sub (.t 16) (.c (.int .i64 1))), none, []⟩,
            ⟨(some 6), (.move (.t 17)), none, []⟩]))))))
    (ACode.seq (ACode.ops [⟨(some 25), (.move (.t 5)), none, []⟩,
        ⟨(some 26), (.conv .str (.t 25)), none, []⟩,
        ⟨(some 4), (.move (.t 26)), none, []⟩])
     (ACode.ret))))⟩


def fn : Nat → Option AFunc
  | 3 => some c3
  | 4 => some c4
  | 5 => some c5
  | 6 => some c6
  | 11 => some c11
  | 12 => some c12
  | 13 => some c13
  | 14 => some c14
  | 15 => some c15
  | 16 => some c16
  | 17 => some c17
  | 18 => some c18
  | 19 => some c19
  | 20 => some c20
  | 21 => some c21
  | 22 => some c22
  | 23 => some c23
  | 24 => some c24
  | 25 => some c25
  | 26 => some c26
  | 27 => some c27
  | 28 => some c28
  | 29 => some c29
  | 40 => some c40
  | 41 => some c41
  | 42 => some c42
  | 43 => some c43
  | 44 => some c44
  | 45 => some c45
  | 46 => some c46
  | 53 => some c53
  | 60 => some c60
  | 61 => some c61
  | 62 => some c62
  | _ => none

def AP : AProg := ⟨fn, fun f => Nat.beq f 41 || Nat.beq f 44, fun _ => none, fun f => Nat.beq f 41⟩

end Go.Eng.Line

/- The chapter's example. -/
namespace Go.Eng.Line
open Go Go.Eng

theorem awake_ok : CallR AP 11 [] (.bool true) := callR_at 60 (by kernel_rfl)

end Go.Eng.Line

/- What the line's functions answer. -/
namespace Go.Eng.Line
open Go Go.Eng
attribute [local irreducible] OpR TL TD TC CallR

structure It where
  fh : Int
  fp : Int
  th : Int
  tp : Int
  tx : List UInt8
  at_ : Int

def It.row (x : It) : List AVal := [.int .u32 x.fh, .int .u16 x.fp, .int .u32 x.th, .int .u16 x.tp, .str x.tx, .int .u64 x.at_]
def enc (l : List It) : List (List AVal) := l.map It.row
def encI (l : List Int) : List (List AVal) := l.map fun n => [.int .i64 n]
def encU (l : List Int) : List (List AVal) := l.map fun n => [.int .u64 n]

theorem closed_map {α : Type} {f : α → List AVal} (h : ∀ x, closedL (f x) = true) : ∀ (l : List α), closedLL (l.map f) = true
  | [] => rfl
  | x :: l => by simp only [List.map_cons, closedLL, h x, closed_map h l, Bool.and_self]
theorem noref_map {α : Type} {f : α → List AVal} (h : ∀ x, norefL (f x) = true) : ∀ (l : List α), norefLL (l.map f) = true
  | [] => rfl
  | x :: l => by simp only [List.map_cons, norefLL, h x, noref_map h l, Bool.and_self]
@[simp] theorem enc_closed (l : List It) : closedLL (enc l) = true := closed_map (fun _ => rfl) l
@[simp] theorem enc_noref (l : List It) : norefLL (enc l) = true := noref_map (fun _ => rfl) l
@[simp] theorem encI_closed (l : List Int) : closedLL (encI l) = true := closed_map (fun _ => rfl) l
@[simp] theorem encI_noref (l : List Int) : norefLL (encI l) = true := noref_map (fun _ => rfl) l
@[simp] theorem encU_closed (l : List Int) : closedLL (encU l) = true := closed_map (fun _ => rfl) l
@[simp] theorem encU_noref (l : List Int) : norefLL (encU l) = true := noref_map (fun _ => rfl) l
@[simp] theorem enc_len (l : List It) : (enc l).length = l.length := by simp [enc]
@[simp] theorem encI_len (l : List Int) : (encI l).length = l.length := by simp [encI]
@[simp] theorem encU_len (l : List Int) : (encU l).length = l.length := by simp [encU]

theorem enc_rowOk (l : List It) (i : Nat) : rowOk 6 (enc l)[i]? = true := by
  simp only [rowOk, enc, List.getElem?_map]
  cases l[i]? <;> rfl
theorem enc_head (l : List It) : rowOk 6 (enc l).head? = true := by
  cases l <;> rfl

/-- Len -/
theorem len_ok (l : List It) : CallR AP 14 [.agg [.imm (enc l)]] (.int .i64 l.length) := by
  refine callR_of (af := c14) rfl rfl ?_
  refine tc_seq (tc_ops ?_)
  refine tl_opn (o_box rfl rfl rfl rfl) rfl rfl rfl rfl ?_; refine tl_opo (o_move rfl) rfl rfl rfl rfl ?_; refine tl_nil ?_
  refine tc_seq (tc_ops ?_)
  refine tl_opo (o_faddr rfl) rfl rfl rfl rfl ?_; refine tl_opo (o_load rfl rfl rfl (Nat.le_of_ble_eq_true rfl) rfl) rfl rfl rfl rfl ?_; refine tl_opo (o_len_imm rfl) rfl rfl rfl rfl ?_; refine tl_opo (o_move rfl) rfl rfl rfl rfl ?_; refine tl_nil ?_
  refine tc_fin rfl ?_
  rw [enc_len]
  exact ⟨_, frz_ok rfl⟩

def send (l : List It) (x : It) : List It := (l ++ [x]).drop (l.length + 1 - 256)

theorem send_ok (l : List It) (x : It) (hl : l.length ≤ 1000000) : CallR AP 12 [.agg [.imm (enc l)], .agg x.row] (.agg [.imm (enc (send l x))]) := by
  refine callR_of (af := c12) rfl rfl ?_
  refine tc_seq (tc_ops ?_)
  refine tl_opn (o_box rfl rfl rfl rfl) rfl rfl rfl rfl ?_; refine tl_opn (o_box rfl rfl rfl rfl) rfl rfl rfl rfl ?_; refine tl_opn o_alloc rfl rfl rfl rfl ?_; refine tl_nil ?_
  refine tc_seq (tc_drawR [none] rfl ?_)
  refine td_op rfl rfl (o_faddr rfl) ?_; refine td_op rfl rfl (o_load rfl rfl rfl (Nat.le_of_ble_eq_true rfl) rfl) ?_; refine td_op rfl rfl (o_faddr rfl) ?_; refine td_op rfl rfl (o_load rfl rfl rfl (Nat.le_of_ble_eq_true rfl) rfl) ?_; refine td_op rfl rfl (o_len_imm rfl) ?_; refine td_op rfl rfl (o_faddr rfl) ?_; refine td_op rfl rfl (o_load rfl rfl rfl (Nat.le_of_ble_eq_true rfl) rfl) ?_; refine td_op rfl rfl (o_len_imm rfl) ?_
  refine td_op rfl rfl (o_slice_full rfl rfl rfl (enc_rowOk l 0)) ?_
  refine td_op rfl rfl (o_load rfl rfl rfl (Nat.le_of_ble_eq_true rfl) rfl) ?_; refine td_op rfl rfl (o_buildSlice rfl rfl) ?_
  refine td_op rfl rfl (o_append_lim rfl rfl (rows := [x.row]) rfl (by simp) (by simp; omega) (enc_head l)) ?_
  refine td_op rfl rfl (o_move rfl) ?_; refine td_nil ?_
  dsimp only [putM, initM, acells, effS, List.nil_append, List.cons_append, List.length_nil, List.length_cons, List.set_cons_zero, List.set_cons_succ, List.set_nil, List.append_nil, Nat.zero_add, Nat.add_zero, Nat.reduceAdd, List.replicate, nslots]
  refine ⟨rfl, ?_⟩
  refine tc_seq (tc_ops ?_)
  refine tl_opo (o_move rfl) rfl rfl rfl rfl ?_; refine tl_opo (o_move rfl) rfl rfl rfl rfl ?_; refine tl_opo (o_len_view rfl) rfl rfl rfl rfl ?_
  have hsub : ((enc l).length : Int) + 1 - 256 = (l.length : Int) + 1 - 256 := by rw [enc_len]
  refine tl_opo (o_sub rfl rfl (c := (l.length : Int) + 1 - 256) (by simp [enc_len]) (by omega) (by omega)) rfl rfl rfl rfl ?_
  refine tl_opo (o_maxI rfl (v := .int .i64 ((l.length + 1 - 256 : Nat) : Int)) ?_) rfl rfl rfl rfl ?_
  · simp only [aext, foldI, if_true, Option.map_some]
    congr 2
    split <;> omega
  refine tl_opo (o_slice_tail rfl rfl rfl (by simp) (by simp; omega)) rfl rfl rfl rfl ?_
  dsimp only [putM, initM, acells, effS, List.nil_append, List.cons_append, List.length_nil, List.length_cons, List.set_cons_zero, List.set_cons_succ, List.set_nil, List.append_nil, Nat.zero_add, Nat.add_zero, Nat.reduceAdd, List.replicate, nslots]
  refine tl_opo (o_build rfl rfl) rfl rfl rfl rfl ?_; refine tl_opo (o_store rfl rfl rfl rfl rfl rfl rfl (Nat.le_of_ble_eq_true rfl) rfl) rfl rfl rfl rfl ?_; refine tl_nil ?_
  dsimp only [putM, initM, acells, effS, List.nil_append, List.cons_append, List.length_nil, List.length_cons, List.set_cons_zero, List.set_cons_succ, List.set_nil, List.append_nil, Nat.zero_add, Nat.add_zero, Nat.reduceAdd, List.replicate, nslots]
  refine tc_fin rfl ?_
  refine frz_agg1 (n := 5) ⟨_, frz_view rfl (by simp; omega) ?_ (enc_closed _)⟩
  rw [List.take_of_length_le (by simp)]
  simp [enc, send]

theorem clone_none : givesNone AP (exec AP 20) 41 .nils = true := by kernel_rfl
theorem clone_none' : givesNone AP (exec AP 20) 41 .enil = true := by kernel_rfl

theorem clone_some (x : It) (l : List It) (hl : l.length ≤ 1000000) : ∃ v S1, CallSR AP 41 [.imm (enc (x :: l))] [] v S1 ∧ ∃ j, v = .view j 0 (enc (x :: l)).length false ∧ S1[j]? = some (some ⟨6, enc (x :: l)⟩) := by
  refine callSR_of (af := c41) rfl rfl ?_
  refine tc_seq (tc_ops ?_)
  refine tl_opo (o_move rfl) rfl rfl rfl rfl ?_; refine tl_nil ?_
  refine tc_seq (tc_seq (tc_ops ?_))
  refine tl_opo (o_move rfl) rfl rfl rfl rfl ?_
  refine tl_opo (o_isNil_f (r := x.row) (rs := enc l) rfl) rfl rfl rfl rfl ?_
  refine tl_nil ?_
  refine tc_cond rfl (fun h => nomatch h) (fun _ => tc_skip ?_)
  refine tc_seq (tc_ops ?_)
  refine tl_opo (o_buildSlice rfl rfl) rfl rfl rfl rfl ?_; refine tl_opo (o_move rfl) rfl rfl rfl rfl ?_
  refine tl_opn (o_append_lim rfl rfl (rows := enc (x :: l)) rfl (by simp [enc]) (by simp; omega) rfl) rfl rfl rfl rfl ?_
  refine tl_opo (o_move rfl) rfl rfl rfl rfl ?_; refine tl_nil ?_
  dsimp only [putM, initM, acells, effS, List.nil_append, List.cons_append, List.length_nil, List.length_cons, List.set_cons_zero, List.set_cons_succ, List.set_nil, List.append_nil, Nat.zero_add, Nat.add_zero, Nat.reduceAdd, List.replicate, nslots]
  refine tc_ret ⟨.inr rfl, _, rfl, 0, ?_, ?_⟩
  · simp [one]
  · simp

/-- All -/
theorem all_ok (l : List It) (hl : l.length ≤ 1000000) : CallR AP 13 [.agg [.imm (enc l)]] (.imm (enc l)) := by
  refine callR_of (af := c13) rfl rfl ?_
  refine tc_seq (tc_ops ?_)
  refine tl_opn (o_box rfl rfl rfl rfl) rfl rfl rfl rfl ?_; refine tl_opo (o_move rfl) rfl rfl rfl rfl ?_; refine tl_nil ?_
  refine tc_seq (tc_ops ?_)
  refine tl_opo (o_faddr rfl) rfl rfl rfl rfl ?_; refine tl_opo (o_load rfl rfl rfl (Nat.le_of_ble_eq_true rfl) rfl) rfl rfl rfl rfl ?_
  cases l with
  | nil =>
    refine tl_opk (o_keep0 rfl rfl rfl rfl clone_none clone_none') rfl rfl rfl rfl ?_
    refine tl_opo (o_move rfl) rfl rfl rfl rfl ?_; refine tl_nil ?_
    refine tc_fin rfl ?_
    exact ⟨_, frz_lim rfl⟩
  | cons x l =>
    obtain ⟨v, S1, h1, j, rfl, h2⟩ := clone_some x l (by simp at hl; omega)
    refine tl_opk (o_keepv rfl rfl rfl (by simp [norefL, AVal.noref]) rfl h1 h2 (enc_noref _)) rfl rfl rfl rfl ?_
    refine tl_opo (o_move rfl) rfl rfl rfl rfl ?_; refine tl_nil ?_
    dsimp only [putM, initM, acells, effS, List.nil_append, List.cons_append, List.length_nil, List.length_cons, List.set_cons_zero, List.set_cons_succ, List.set_nil, List.append_nil, Nat.zero_add, Nat.add_zero, Nat.reduceAdd, List.replicate, nslots]
    refine tc_fin rfl ?_
    exact ⟨_, frz_view rfl (by simp) (by rw [List.drop_zero, List.take_length]) (enc_closed _)⟩

theorem encI_get {l : List Int} {i : Nat} (h : i < l.length) : (encI l)[i]? = some [.int .i64 l[i]] := by simp [encI, h]
theorem enc_get {l : List It} {i : Nat} (h : i < l.length) : (enc l)[i]? = some l[i].row := by simp [enc, h]

theorem equalI_ok (a b : List Int) (ha : a.length ≤ 1000000) : CallR AP 15 [.imm (encI a), .imm (encI b)] (.bool (decide (a = b))) := by
  refine callR_of (af := c15) rfl rfl ?_
  refine tc_seq (tc_ops ?_)
  refine tl_opo (o_move rfl) rfl rfl rfl rfl ?_; refine tl_nil ?_
  refine tc_seq (tc_seq (tc_ops ?_))
  refine tl_opo (o_move rfl) rfl rfl rfl rfl ?_; refine tl_opo (o_len_imm rfl) rfl rfl rfl rfl ?_; refine tl_opo (o_move rfl) rfl rfl rfl rfl ?_; refine tl_opo (o_len_imm rfl) rfl rfl rfl rfl ?_; refine tl_opo (o_neq rfl rfl) rfl rfl rfl rfl ?_; refine tl_nil ?_
  refine tc_cond rfl (fun h => ?_) (fun h => tc_skip ?_)
  · refine tc_seq (tc_ops ?_)
    refine tl_opo (o_move rfl) rfl rfl rfl rfl ?_; refine tl_nil ?_
    refine tc_ret (retd rfl ?_)
    have : a ≠ b := fun e => by subst e; simp at h
    rw [decide_eq_false this]
    exact ⟨_, frz_ok rfl⟩
  · have hl : a.length = b.length := by simp at h; omega
    refine tc_seq (tc_seq (tc_ops ?_))
    refine tl_opo (o_move rfl) rfl rfl rfl rfl ?_; refine tl_opo (o_len_imm rfl) rfl rfl rfl rfl ?_; refine tl_opo (o_move rfl) rfl rfl rfl rfl ?_; refine tl_nil ?_
    dsimp only [putM, initM, acells, effS, List.nil_append, List.cons_append, List.length_nil, List.length_cons, List.set_cons_zero, List.set_cons_succ, List.set_nil, List.append_nil, Nat.zero_add, Nat.add_zero, Nat.reduceAdd, List.replicate, nslots]
    refine tc_block (loop_st (fun i => a.length - i) (fun i : Nat => [(0, .imm (encI a)), (1, .imm (encI b)), (12, .int .i64 (encI a).length), (13, .int .i64 i)])
      (fun i S => i ≤ a.length ∧ a.take i = b.take i) 0 (by (repeat' (first | exact wk_nil | refine wk_cons rfl ?_))) ⟨by omega, by simp⟩ ?_)
    rintro i S ⟨hi, heq⟩
    refine tc_seq (tc_ops ?_)
    refine tl_opo (o_lss rfl rfl) rfl rfl rfl rfl ?_; refine tl_nil ?_
    refine tc_seq (tc_cond rfl (fun h => tc_skip ?_) (fun h => tc_exit ?_))
    · have hi' : i < a.length := by simpa using h
      have hib : i < b.length := by omega
      refine tc_seq (tc_block (tc_seq (tc_ops ?_)))
      refine tl_opo (o_move rfl) rfl rfl rfl rfl ?_; refine tl_opo (o_move rfl) rfl rfl rfl rfl ?_; refine tl_nil ?_
      refine tc_seq (tc_drawR [] rfl ?_)
      refine td_op rfl rfl (o_move rfl) ?_; refine td_op rfl rfl (o_move rfl) ?_
      refine td_op rfl rfl (o_iaddr rfl rfl (encI_get hi') rfl) ?_
      refine td_op rfl rfl (o_loadr rfl (Nat.le_of_ble_eq_true rfl) rfl) ?_; refine td_op rfl rfl (o_move rfl) ?_; refine td_op rfl rfl (o_move rfl) ?_
      refine td_op rfl rfl (o_iaddr rfl rfl (encI_get hib) rfl) ?_
      refine td_op rfl rfl (o_loadr rfl (Nat.le_of_ble_eq_true rfl) rfl) ?_; refine td_op rfl rfl (o_neq rfl rfl) ?_; refine td_nil ?_
      refine ⟨rfl, ?_⟩
      refine tc_cond rfl (fun h => ?_) (fun h => tc_skip ?_)
      · refine tc_seq (tc_ops ?_)
        refine tl_opo (o_move rfl) rfl rfl rfl rfl ?_; refine tl_nil ?_
        refine tc_ret (retd rfl ?_)
        have : a ≠ b := fun e => by subst e; simp at h
        rw [decide_eq_false this]
        exact ⟨_, frz_ok rfl⟩
      · have he : a[i] = b[i] := by simpa using h
        refine tc_ops ?_
        refine tl_opo (o_add rfl rfl (c := ((i + 1 : Nat) : Int)) (by simp) (by omega) (by omega)) rfl rfl rfl rfl ?_
        refine tl_opo (o_move rfl) rfl rfl rfl rfl ?_; refine tl_nil ?_
        refine ⟨i + 1, by omega, by (repeat' (first | exact wk_nil | refine wk_cons rfl ?_)), by omega, ?_⟩
        rw [List.take_add_one, List.take_add_one, heq, List.getElem?_eq_getElem hi', List.getElem?_eq_getElem hib, he]
    · have hi' : a.length ≤ i := by simpa using h
      refine tc_seq (tc_ops ?_)
      refine tl_opo (o_move rfl) rfl rfl rfl rfl ?_; refine tl_nil ?_
      refine tc_ret (retd rfl ?_)
      have : a = b := by
        rw [List.take_of_length_le hi', List.take_of_length_le (by omega)] at heq
        exact heq
      rw [decide_eq_true this]
      exact ⟨_, frz_ok rfl⟩

end Go.Eng.Line

/- Who is ready. -/
namespace Go.Eng.Line
open Go Go.Eng
attribute [local irreducible] OpR TL TD TC CallR

/-- the places of those, of the first i, that may come -/
def readyTo (l : List It) (now : Int) (i : Nat) : List Int := ((l.take i).zipIdx.filter fun p => decide (p.1.at_ ≤ now)).map fun p => (p.2 : Int)
def ready (l : List It) (now : Int) : List Int := readyTo l now l.length

theorem readyTo_zero (l : List It) (now : Int) : readyTo l now 0 = [] := rfl
theorem readyTo_succ {l : List It} {now : Int} {i : Nat} (h : i < l.length) : readyTo l now (i + 1) = readyTo l now i ++ (if l[i].at_ ≤ now then [(i : Int)] else []) := by
  unfold readyTo
  rw [List.take_add_one, List.getElem?_eq_getElem h, List.zipIdx_append, List.filter_append, List.map_append]
  congr 1
  simp only [Option.toList_some, List.zipIdx_cons, List.zipIdx_nil, List.length_take, Nat.min_eq_left (Nat.le_of_lt h), Nat.zero_add]
  by_cases hn : l[i].at_ ≤ now <;> simp [hn]
theorem readyTo_len (l : List It) (now : Int) (i : Nat) : (readyTo l now i).length ≤ i := by
  unfold readyTo
  rw [List.length_map]
  refine Nat.le_trans (List.length_filter_le _ _) ?_
  simp; omega

theorem ready_ok (l : List It) (now : Int) (hl : l.length ≤ 1000000) : CallR AP 16 [.agg [.imm (enc l)], .int .u64 now] (.imm (encI (ready l now))) := by
  refine callR_of (af := c16) rfl rfl ?_
  refine tc_seq (tc_ops ?_)
  refine tl_opn (o_box rfl rfl rfl rfl) rfl rfl rfl rfl ?_; refine tl_opo (o_move rfl) rfl rfl rfl rfl ?_; refine tl_nil ?_
  refine tc_seq (tc_ops ?_)
  refine tl_opo (o_move rfl) rfl rfl rfl rfl ?_; refine tl_nil ?_
  refine tc_seq (tc_skip ?_)
  refine tc_seq (tc_seq (tc_ops ?_))
  refine tl_opo (o_faddr rfl) rfl rfl rfl rfl ?_; refine tl_opo (o_load rfl rfl rfl (Nat.le_of_ble_eq_true rfl) rfl) rfl rfl rfl rfl ?_; refine tl_opo (o_len_imm rfl) rfl rfl rfl rfl ?_; refine tl_opo (o_move rfl) rfl rfl rfl rfl ?_; refine tl_nil ?_
  dsimp only [putM, initM, acells, effS, List.nil_append, List.cons_append, List.length_nil, List.length_cons, List.set_cons_zero, List.set_cons_succ, List.set_nil, List.append_nil, Nat.zero_add, Nat.add_zero, Nat.reduceAdd, List.replicate, nslots]
  refine tc_block (loop_st (σ := Nat × AVal) (fun s => l.length - s.1) (fun s => [(11, .int .i64 s.1), (10, .int .i64 (enc l).length), (9, .imm (enc l)), (5, s.2), (1, .int .u64 now)])
    (fun s S => s.1 ≤ l.length ∧ 1 ≤ S.length ∧ Acc 1 1 S s.2 (encI (readyTo l now s.1))) (0, .nils) (by (repeat' (first | exact wk_nil | refine wk_cons rfl ?_))) ⟨by omega, by simp, acc_nil⟩ ?_)
  rintro ⟨i, out⟩ S ⟨hi, hS, hacc⟩
  simp only at hi hS hacc
  refine tc_seq (tc_ops ?_)
  refine tl_opo (o_lss rfl rfl) rfl rfl rfl rfl ?_; refine tl_nil ?_
  refine tc_seq (tc_cond rfl (fun h => tc_skip ?_) (fun h => tc_exit ?_))
  · have hi' : i < l.length := by simpa using h
    have hrl := readyTo_len l now i
    refine tc_seq (tc_block (tc_seq (tc_ops ?_)))
    refine tl_opo (o_move rfl) rfl rfl rfl rfl ?_
    refine tl_opo (o_iaddr rfl rfl (enc_get hi') rfl) rfl rfl rfl rfl ?_
    refine tl_opo (o_loadr rfl (Nat.le_of_ble_eq_true rfl) rfl) rfl rfl rfl rfl ?_
    refine tl_opn o_alloc rfl rfl rfl rfl ?_
    rw [set_snoc]
    refine tl_opo (o_move rfl) rfl rfl rfl rfl ?_
    refine tl_opo (o_store rfl rfl get_snoc rfl rfl rfl rfl (Nat.le_of_ble_eq_true rfl) rfl) rfl rfl rfl rfl ?_
    rw [set_snoc]
    refine tl_nil ?_
    refine tc_seq (tc_seq (tc_ops ?_))
    refine tl_opo (o_faddr rfl) rfl rfl rfl rfl ?_
    refine tl_opo (o_load rfl get_snoc rfl (Nat.le_of_ble_eq_true rfl) rfl) rfl rfl rfl rfl ?_
    refine tl_opo (o_move rfl) rfl rfl rfl rfl ?_; refine tl_opo (o_gtr rfl rfl) rfl rfl rfl rfl ?_; refine tl_nil ?_
    refine tc_cond rfl (fun h => tc_exit ?_) (fun h => tc_skip ?_)
    · have hgt : ¬ l[i].at_ ≤ now := by simpa using h
      refine tc_ops ?_
      refine tl_opo (o_add rfl rfl (c := ((i + 1 : Nat) : Int)) (by simp) (by omega) (by omega)) rfl rfl rfl rfl ?_
      refine tl_opo (o_move rfl) rfl rfl rfl rfl ?_; refine tl_nil ?_
      refine ⟨(i + 1, out), by simp only; omega, by (repeat' (first | exact wk_nil | refine wk_cons rfl ?_)), by simp only; omega, by simp, ?_⟩
      simp only
      rw [readyTo_succ hi', if_neg hgt, List.append_nil]
      exact hacc.snoc _
    · have hle : l[i].at_ ≤ now := by simpa using h
      refine tc_ops ?_
      refine tl_opo (o_move rfl) rfl rfl rfl rfl ?_; refine tl_opo (o_move rfl) rfl rfl rfl rfl ?_; refine tl_opo (o_buildSlice rfl rfl) rfl rfl rfl rfl ?_
      refine tl_acc rfl rfl (hacc.snoc _) (new := encI [(i : Int)]) rfl (by simp [encI]) rfl (by simp; omega) (by simp) rfl rfl ?_
      intro v' S' hacc' hlen hold
      refine tl_opo (o_move rfl) rfl rfl rfl rfl ?_; refine tl_nil ?_
      refine tc_ops ?_
      refine tl_opo (o_add rfl rfl (c := ((i + 1 : Nat) : Int)) (by simp) (by omega) (by omega)) rfl rfl rfl rfl ?_
      refine tl_opo (o_move rfl) rfl rfl rfl rfl ?_; refine tl_nil ?_
      refine ⟨(i + 1, v'), by simp only; omega, by (repeat' (first | exact wk_nil | refine wk_cons rfl ?_)), by simp only; omega, by omega, ?_⟩
      simp only
      rw [readyTo_succ hi', if_pos hle]
      simpa [encI] using hacc'
  · have hi' : l.length ≤ i := by simpa using h
    have : i = l.length := by omega
    subst this
    refine tc_seq (tc_ops ?_)
    refine tl_opo (o_move rfl) rfl rfl rfl rfl ?_; refine tl_opo (o_move rfl) rfl rfl rfl rfl ?_; refine tl_nil ?_
    exact tc_ret (retd rfl (hacc.frz (n := 5) (encI_closed _)))

end Go.Eng.Line

/- One, Add, Delay. -/
namespace Go.Eng.Line
open Go Go.Eng
attribute [local irreducible] OpR TL TD TC CallR

def has (l : List It) (i : Int) : Prop := 0 ≤ i ∧ i < l.length
instance (l : List It) (i : Int) : Decidable (has l i) := by unfold has; infer_instance

theorem one_ok (l : List It) (i : Int) : CallR AP 42 [.agg [.imm (enc l)], .int .i64 i] (.int .i64 (if has l i then 0 else 10)) := by
  refine callR_of (af := c42) rfl rfl ?_
  refine tc_seq (tc_ops ?_)
  refine tl_opn (o_box rfl rfl rfl rfl) rfl rfl rfl rfl ?_; refine tl_opo (o_move rfl) rfl rfl rfl rfl ?_; refine tl_nil ?_
  refine tc_seq (tc_seq (tc_ops ?_))
  refine tl_opo (o_move rfl) rfl rfl rfl rfl ?_
  by_cases h : i < 0
  · refine tl_opo (o_lss' rfl rfl (t := true) (by simpa using h)) rfl rfl rfl rfl ?_
    refine tl_opo (o_move rfl) rfl rfl rfl rfl ?_; refine tl_off0 rfl rfl rfl ?_; refine tl_off0 rfl rfl rfl ?_; refine tl_off0 rfl rfl rfl ?_; refine tl_off0 rfl rfl rfl ?_; refine tl_off0 rfl rfl rfl ?_; refine tl_opo (o_pick rfl rfl rfl) rfl rfl rfl rfl ?_; refine tl_nil ?_
    refine tc_cond rfl (fun _ => ?_) (fun h => nomatch h)
    refine tc_seq (tc_ops ?_)
    refine tl_opo (o_move rfl) rfl rfl rfl rfl ?_; refine tl_nil ?_
    refine tc_ret (retd rfl ?_)
    rw [show (if has l i then (0 : Int) else 10) = 10 from if_neg (by unfold has; omega)]
    exact ⟨_, frz_ok rfl⟩
  · refine tl_opo (o_lss' rfl rfl (t := false) (by simpa using h)) rfl rfl rfl rfl ?_
    refine tl_opo (o_move rfl) rfl rfl rfl rfl ?_; refine tl_opo (o_move rfl) rfl rfl rfl rfl ?_; refine tl_opo (o_faddr rfl) rfl rfl rfl rfl ?_; refine tl_opo (o_load rfl rfl rfl (Nat.le_of_ble_eq_true rfl) rfl) rfl rfl rfl rfl ?_; refine tl_opo (o_len_imm rfl) rfl rfl rfl rfl ?_
    by_cases h2 : i < l.length
    · refine tl_opo (o_geq' rfl rfl (t := false) (by simp; omega)) rfl rfl rfl rfl ?_
      refine tl_opo (o_pick rfl rfl rfl) rfl rfl rfl rfl ?_; refine tl_nil ?_
      refine tc_cond rfl (fun h => nomatch h) (fun _ => tc_skip ?_)
      refine tc_seq (tc_ops ?_)
      refine tl_opo (o_move rfl) rfl rfl rfl rfl ?_; refine tl_nil ?_
      refine tc_ret (retd rfl ?_)
      rw [show (if has l i then (0 : Int) else 10) = 0 from if_pos (by unfold has; omega)]
      exact ⟨_, frz_ok rfl⟩
    · refine tl_opo (o_geq' rfl rfl (t := true) (by simp; omega)) rfl rfl rfl rfl ?_
      refine tl_opo (o_pick rfl rfl rfl) rfl rfl rfl rfl ?_; refine tl_nil ?_
      refine tc_cond rfl (fun _ => ?_) (fun h => nomatch h)
      refine tc_seq (tc_ops ?_)
      refine tl_opo (o_move rfl) rfl rfl rfl rfl ?_; refine tl_nil ?_
      refine tc_ret (retd rfl ?_)
      rw [show (if has l i then (0 : Int) else 10) = 10 from if_neg (by unfold has; omega)]
      exact ⟨_, frz_ok rfl⟩

/-- word.Add -/
def addU (a b : Int) : Int := if b > IntKind.u64.wrap (18446744073709551615 - a) then 18446744073709551615 else IntKind.u64.wrap (a + b)

theorem add_ok (a b : Int) : CallR AP 43 [.int .u64 a, .int .u64 b] (.int .u64 (addU a b)) := by
  refine callR_of (af := c43) rfl rfl ?_
  refine tc_seq (tc_ops ?_)
  refine tl_opo (o_move rfl) rfl rfl rfl rfl ?_; refine tl_nil ?_
  refine tc_seq (tc_seq (tc_ops ?_))
  refine tl_opo (o_move rfl) rfl rfl rfl rfl ?_; refine tl_opo (o_move rfl) rfl rfl rfl rfl ?_
  refine tl_opo (o_bin rfl rfl (v := .int .u64 (IntKind.u64.wrap (18446744073709551615 - a))) (by simp only [abin, isShift, Bool.false_eq_true, if_false, if_true, aintop])) rfl rfl rfl rfl ?_
  by_cases h : b > IntKind.u64.wrap (18446744073709551615 - a)
  · refine tl_opo (o_gtr' rfl rfl (t := true) (by simpa using h)) rfl rfl rfl rfl ?_
    refine tl_nil ?_
    refine tc_cond rfl (fun _ => ?_) (fun h => nomatch h)
    refine tc_seq (tc_ops ?_)
    refine tl_opo (o_move rfl) rfl rfl rfl rfl ?_; refine tl_nil ?_
    refine tc_ret (retd rfl ?_)
    rw [addU, if_pos h]
    exact ⟨_, frz_ok rfl⟩
  · refine tl_opo (o_gtr' rfl rfl (t := false) (by simpa using h)) rfl rfl rfl rfl ?_
    refine tl_nil ?_
    refine tc_cond rfl (fun h => nomatch h) (fun _ => tc_skip ?_)
    refine tc_seq (tc_ops ?_)
    refine tl_opo (o_move rfl) rfl rfl rfl rfl ?_; refine tl_opo (o_move rfl) rfl rfl rfl rfl ?_
    refine tl_opo (o_bin rfl rfl (v := .int .u64 (IntKind.u64.wrap (a + b))) (by simp only [abin, isShift, Bool.false_eq_true, if_false, if_true, aintop])) rfl rfl rfl rfl ?_
    refine tl_opo (o_move rfl) rfl rfl rfl rfl ?_; refine tl_nil ?_
    refine tc_ret (retd rfl ?_)
    rw [addU, if_neg h]
    exact ⟨_, frz_ok rfl⟩

theorem enc_modify {l : List It} {k : Nat} (hk : k < l.length) (f : It → It) : (enc l).set k (f l[k]).row = enc (l.modify k f) := by
  unfold enc
  apply List.ext_getElem?
  intro j
  rw [set_get, List.getElem?_map, List.getElem?_map, List.getElem?_modify]
  by_cases h : k = j
  · subst h; simp [hk]
  · simp [h]

def It.at' (x : It) (t : Int) : It := { x with at_ := t }
def delay (l : List It) (i : Int) (by_ : Int) : List It := if has l i then l.modify i.toNat fun x => x.at' (addU x.at_ by_) else l

theorem delay_ok (l : List It) (i by_ : Int) (hl : l.length ≤ 1000000) : CallR AP 17 [.agg [.imm (enc l)], .int .i64 i, .int .u64 by_] (.tuple [.agg [.imm (enc (delay l i by_))], .int .i64 (if has l i then 0 else 10)]) := by
  refine callR_of (af := c17) rfl rfl ?_
  refine tc_seq (tc_ops ?_)
  refine tl_opn (o_box rfl rfl rfl rfl) rfl rfl rfl rfl ?_; refine tl_opn o_alloc rfl rfl rfl rfl ?_; refine tl_opo (o_move rfl) rfl rfl rfl rfl ?_; refine tl_nil ?_
  dsimp only [putM, initM, acells, effS, List.nil_append, List.cons_append, List.length_nil, List.length_cons, List.set_cons_zero, List.set_cons_succ, List.set_nil, List.append_nil, Nat.zero_add, Nat.add_zero, Nat.reduceAdd, List.replicate, nslots]
  refine tc_seq (tc_seq (tc_ops ?_))
  refine tl_opo (o_load rfl rfl rfl (Nat.le_of_ble_eq_true rfl) rfl) rfl rfl rfl rfl ?_; refine tl_opo (o_move rfl) rfl rfl rfl rfl ?_
  refine tl_call' (as := [.agg [.imm (enc l)], .int .i64 i]) (as' := [.agg [.imm (enc l)], .int .i64 i]) rfl (frzL_cons (fun n => ⟨_, frz_ok (by simp [AVal.closed, closedL])⟩) (frzL_cons (fun n => ⟨_, frz_ok rfl⟩) frzL_nil)) (one_ok l i) (by simp [norefL, AVal.noref]) rfl rfl rfl rfl ?_
  refine tl_opo (o_move rfl) rfl rfl rfl rfl ?_; refine tl_nil ?_
  dsimp only [putM, initM, acells, effS, List.nil_append, List.cons_append, List.length_nil, List.length_cons, List.set_cons_zero, List.set_cons_succ, List.set_nil, List.append_nil, Nat.zero_add, Nat.add_zero, Nat.reduceAdd, List.replicate, nslots]
  refine tc_seq (tc_ops ?_)
  refine tl_opo (o_move rfl) rfl rfl rfl rfl ?_
  by_cases h : has l i
  · rw [if_pos h]
    refine tl_opo (o_neq' rfl rfl (t := false) rfl) rfl rfl rfl rfl ?_
    refine tl_nil ?_
    refine tc_cond rfl (fun h => nomatch h) (fun _ => tc_skip ?_)
    obtain ⟨k, rfl⟩ : ∃ k : Nat, i = k := ⟨i.toNat, by have := h.1; omega⟩
    have hk : k < l.length := by have := h.2; omega
    refine tc_seq (tc_ops ?_)
    refine tl_opo (o_faddr rfl) rfl rfl rfl rfl ?_; refine tl_opo (o_load rfl rfl rfl (Nat.le_of_ble_eq_true rfl) rfl) rfl rfl rfl rfl ?_
    obtain ⟨x, l', hxl⟩ : ∃ x l', l = x :: l' := by
      cases l with
      | nil => simp at hk
      | cons x l' => exact ⟨x, l', rfl⟩
    obtain ⟨v, S1, h1, j, rfl, h2⟩ := clone_some x l' (by rw [hxl] at hl; simp at hl; omega)
    rw [← hxl] at h1 h2
    refine tl_opk (o_keepv rfl rfl rfl (by simp [norefL, AVal.noref]) (by rw [hxl]; rfl) h1 h2 (enc_noref _)) rfl rfl rfl rfl ?_
    refine tl_opo (o_move rfl) rfl rfl rfl rfl ?_; refine tl_nil ?_
    dsimp only [putM, initM, acells, effS, List.nil_append, List.cons_append, List.length_nil, List.length_cons, List.set_cons_zero, List.set_cons_succ, List.set_nil, List.append_nil, Nat.zero_add, Nat.add_zero, Nat.reduceAdd, List.replicate, nslots]
    refine tc_seq (tc_ops ?_)
    refine tl_opo (o_move rfl) rfl rfl rfl rfl ?_; refine tl_opo (o_move rfl) rfl rfl rfl rfl ?_; refine tl_opo (o_move rfl) rfl rfl rfl rfl ?_; refine tl_opo (o_move rfl) rfl rfl rfl rfl ?_
    refine tl_opo (o_iaddr_view rfl rfl (by simpa using hk) rfl rfl) rfl rfl rfl rfl ?_
    refine tl_opo (o_faddr rfl) rfl rfl rfl rfl ?_
    refine tl_opo (o_load rfl rfl (by simpa using enc_get hk) (Nat.le_of_ble_eq_true rfl) rfl) rfl rfl rfl rfl ?_
    refine tl_opo (o_move rfl) rfl rfl rfl rfl ?_
    refine tl_call' (as := [.int .u64 l[k].at_, .int .u64 by_]) (as' := [.int .u64 l[k].at_, .int .u64 by_]) rfl (frzL_cons (fun n => ⟨_, frz_ok rfl⟩) (frzL_cons (fun n => ⟨_, frz_ok rfl⟩) frzL_nil)) (add_ok _ _) rfl rfl rfl rfl rfl ?_
    refine tl_opo (o_iaddr_view rfl rfl (by simpa using hk) rfl rfl) rfl rfl rfl rfl ?_
    refine tl_opo (o_faddr rfl) rfl rfl rfl rfl ?_
    refine tl_opo (o_store rfl rfl rfl (by simpa using enc_get hk) rfl rfl rfl (Nat.le_of_ble_eq_true rfl) rfl) rfl rfl rfl rfl ?_
    refine tl_nil ?_
    dsimp only [putM, initM, acells, effS, List.nil_append, List.cons_append, List.length_nil, List.length_cons, List.set_cons_zero, List.set_cons_succ, List.set_nil, List.append_nil, Nat.zero_add, Nat.add_zero, Nat.reduceAdd, List.replicate, nslots]
    refine tc_seq (tc_ops ?_)
    refine tl_opo (o_move rfl) rfl rfl rfl rfl ?_; refine tl_opo (o_build rfl rfl) rfl rfl rfl rfl ?_; refine tl_opo (o_store rfl rfl rfl rfl rfl rfl rfl (Nat.le_of_ble_eq_true rfl) rfl) rfl rfl rfl rfl ?_; refine tl_opo (o_move rfl) rfl rfl rfl rfl ?_; refine tl_nil ?_
    dsimp only [putM, initM, acells, effS, List.nil_append, List.cons_append, List.length_nil, List.length_cons, List.set_cons_zero, List.set_cons_succ, List.set_nil, List.append_nil, Nat.zero_add, Nat.add_zero, Nat.reduceAdd, List.replicate, nslots]
    refine tc_ret (retd rfl ?_)
    refine frz_tuple (n := 5) (frzL_cons (fun n => frz_agg1 ⟨_, frz_view rfl (by simp) ?_ (enc_closed _)⟩) (frzL_cons (fun n => ⟨_, frz_ok rfl⟩) frzL_nil) 2)
    rw [delay, if_pos h, Nat.zero_add, Int.toNat_natCast, ← enc_modify hk]
    simp [It.row, It.at']
    exact List.take_of_length_le (by simp)
  · rw [if_neg h]
    refine tl_opo (o_neq' rfl rfl (t := true) rfl) rfl rfl rfl rfl ?_
    refine tl_nil ?_
    refine tc_cond rfl (fun _ => ?_) (fun h => nomatch h)
    refine tc_seq (tc_ops ?_)
    refine tl_opo (o_load rfl rfl rfl (Nat.le_of_ble_eq_true rfl) rfl) rfl rfl rfl rfl ?_; refine tl_opo (o_move rfl) rfl rfl rfl rfl ?_; refine tl_opo (o_store rfl rfl rfl rfl rfl rfl rfl (Nat.le_of_ble_eq_true rfl) rfl) rfl rfl rfl rfl ?_; refine tl_opo (o_move rfl) rfl rfl rfl rfl ?_; refine tl_nil ?_
    dsimp only [putM, initM, acells, effS, List.nil_append, List.cons_append, List.length_nil, List.length_cons, List.set_cons_zero, List.set_cons_succ, List.set_nil, List.append_nil, Nat.zero_add, Nat.add_zero, Nat.reduceAdd, List.replicate, nslots]
    refine tc_ret (retd rfl ?_)
    rw [delay, if_neg h]
    exact ⟨_, frz_ok (by simp [AVal.closed, closedL, one])⟩

end Go.Eng.Line

/- Delete, Lose, Take, Double. -/
namespace Go.Eng.Line
open Go Go.Eng
attribute [local irreducible] OpR TL TD TC CallR

def zeroI : List AVal := [.int .u32 0, .int .u16 0, .int .u32 0, .int .u16 0, .str [], .int .u64 0]

theorem enc_storable (l : List It) : ((enc l).all fun r => r.all storable) = true := by
  simp only [enc, List.all_map, List.all_eq_true]
  intro x _; rfl

theorem delete_ok (l : List It) (k : Nat) (hk : k < l.length) (hl : l.length ≤ 1000000) : ∃ v S1, CallSR AP 44 [.view 0 0 (enc l).length false, .int .i64 k, .int .i64 ((k + 1 : Nat) : Int)] [some ⟨6, enc l⟩] v S1 ∧
    ∃ z, v = .view 0 0 (l.length - 1) false ∧ S1[0]? = some (some ⟨6, enc (l.eraseIdx k) ++ [z]⟩) ∧ norefL z = true := by
  refine callSR_of (af := c44) rfl rfl ?_
  refine tc_seq (tc_ops ?_)
  refine tl_opo (o_move rfl) rfl rfl rfl rfl ?_; refine tl_nil ?_
  refine tc_seq (tc_ops ?_)
  refine tl_opo (o_move rfl) rfl rfl rfl rfl ?_; refine tl_opo (o_move rfl) rfl rfl rfl rfl ?_; refine tl_opo (o_move rfl) rfl rfl rfl rfl ?_; refine tl_opo (o_move rfl) rfl rfl rfl rfl ?_; refine tl_opo (o_len_view rfl) rfl rfl rfl rfl ?_
  refine tl_opo (o_slice_check (n := (enc l).length) rfl rfl rfl rfl rfl (by omega) (by simp; omega) (by simp) (by simp)) rfl rfl rfl rfl ?_
  refine tl_nil ?_
  refine tc_seq (tc_seq (tc_ops ?_))
  refine tl_opo (o_move rfl) rfl rfl rfl rfl ?_; refine tl_opo (o_move rfl) rfl rfl rfl rfl ?_
  refine tl_opo (o_eql' rfl rfl (t := false) (by simp; omega)) rfl rfl rfl rfl ?_
  refine tl_nil ?_
  refine tc_cond rfl (fun h => nomatch h) (fun _ => tc_skip ?_)
  refine tc_seq (tc_ops ?_)
  refine tl_opo (o_move rfl) rfl rfl rfl rfl ?_; refine tl_opo (o_len_view rfl) rfl rfl rfl rfl ?_; refine tl_opo (o_move rfl) rfl rfl rfl rfl ?_; refine tl_nil ?_
  dsimp only [putM, initM, acells, effS, List.nil_append, List.cons_append, List.length_nil, List.length_cons, List.set_cons_zero, List.set_cons_succ, List.set_nil, List.append_nil, Nat.zero_add, Nat.add_zero, Nat.reduceAdd, List.replicate, nslots]
  have herase : enc (l.eraseIdx k) = (enc l).take k ++ (enc l).drop (k + 1) := by
    unfold enc
    rw [List.eraseIdx_eq_take_drop_succ, List.map_append, List.map_take, List.map_drop]
  by_cases hlast : k + 1 = l.length
  · refine tc_seq (tc_drawR [none] rfl ?_)
    refine td_op rfl rfl (o_move rfl) ?_; refine td_op rfl rfl (o_move rfl) ?_
    refine td_op rfl rfl (o_slice_view rfl rfl (by simp) loIs_none (loIs_some rfl) (Nat.zero_le _) (by simp; omega)) ?_
    refine td_op rfl rfl (o_move rfl) ?_; refine td_op rfl rfl (o_move rfl) ?_
    refine td_op rfl rfl (o_slice_view (hi' := (enc l).length) rfl rfl (by simp) (loIs_some rfl) loIs_none (by simp; omega) (by simp)) ?_
    rw [show (enc l).length - (k + 1) = 0 by simp; omega]
    refine td_op rfl rfl (o_append_zero rfl rfl rfl (by simp; omega)) ?_
    refine td_op rfl rfl (o_move rfl) ?_; refine td_nil ?_
    refine ⟨rfl, ?_⟩
    dsimp only [putM, initM, acells, effS, List.nil_append, List.cons_append, List.length_nil, List.length_cons, List.set_cons_zero, List.set_cons_succ, List.set_nil, List.append_nil, Nat.zero_add, Nat.add_zero, Nat.reduceAdd, List.replicate, nslots]
    refine tc_seq (tc_ops ?_)
    refine tl_opo (o_move rfl) rfl rfl rfl rfl ?_; refine tl_opo (o_move rfl) rfl rfl rfl rfl ?_; refine tl_opo (o_len_view rfl) rfl rfl rfl rfl ?_; refine tl_opo (o_move rfl) rfl rfl rfl rfl ?_
    refine tl_opo (o_slice_view (rows := enc l) rfl rfl (by simp; omega) (loIs_some rfl) (loIs_some rfl) (by simp; omega) (by simp)) rfl rfl rfl rfl ?_
    refine tl_opo (o_clear (zero := zeroI) rfl rfl rfl (by simp; omega) rfl) rfl rfl rfl rfl ?_
    refine tl_nil ?_
    dsimp only [putM, initM, acells, effS, List.nil_append, List.cons_append, List.length_nil, List.length_cons, List.set_cons_zero, List.set_cons_succ, List.set_nil, List.append_nil, Nat.zero_add, Nat.add_zero, Nat.reduceAdd, List.replicate, nslots]
    refine tc_seq (tc_ops ?_)
    refine tl_opo (o_move rfl) rfl rfl rfl rfl ?_; refine tl_opo (o_move rfl) rfl rfl rfl rfl ?_; refine tl_nil ?_
    refine tc_ret ⟨.inr rfl, _, rfl, zeroI, ?_, ?_, rfl⟩
    · simp [one]; omega
    · simp only [List.getElem?_cons_zero, Option.some.injEq, ABlock.mk.injEq, true_and]
      rw [herase]
      have e1 : k - 0 = k := by omega
      have e2 : (enc l).length - (k - 0) = 1 := by simp; omega
      rw [e2, e1, List.drop_of_length_le (by simp; omega)]
      simp
  · refine tc_seq (tc_drawR [none] rfl ?_)
    refine td_op rfl rfl (o_move rfl) ?_; refine td_op rfl rfl (o_move rfl) ?_
    refine td_op rfl rfl (o_slice_view rfl rfl (by simp) loIs_none (loIs_some rfl) (Nat.zero_le _) (by simp; omega)) ?_
    refine td_op rfl rfl (o_move rfl) ?_; refine td_op rfl rfl (o_move rfl) ?_
    refine td_op rfl rfl (o_slice_view (hi' := (enc l).length) rfl rfl (by simp) (loIs_some rfl) loIs_none (by simp; omega) (by simp)) ?_
    have hnew : ((enc l).drop (k + 1)).take ((enc l).length - (k + 1)) = enc (l.drop (k + 1)) := by
      rw [List.take_of_length_le (by simp)]; unfold enc; rw [List.map_drop]
    refine td_op rfl rfl (o_append_in rfl rfl rfl hnew (by simp; omega) (by intro h; have := congrArg List.length h; simp at this; omega) (by simp; omega) (by simp; omega) (by simp; omega) (enc_storable _)) ?_
    refine td_op rfl rfl (o_move rfl) ?_; refine td_nil ?_
    refine ⟨rfl, ?_⟩
    dsimp only [putM, initM, acells, effS, List.nil_append, List.cons_append, List.length_nil, List.length_cons, List.set_cons_zero, List.set_cons_succ, List.set_nil, List.append_nil, Nat.zero_add, Nat.add_zero, Nat.reduceAdd, List.replicate, nslots]
    have hA : ∀ r : List (List AVal), (enc l).take (k - 0) ++ enc (l.drop (k + 1)) ++ r = enc (l.eraseIdx k) ++ r := by
      intro r; rw [herase]; unfold enc; rw [List.map_drop, Nat.sub_zero]
    have hlen : k - 0 + (enc (l.drop (k + 1))).length = l.length - 1 := by simp; omega
    rw [hlen]
    refine tc_seq (tc_ops ?_)
    refine tl_opo (o_move rfl) rfl rfl rfl rfl ?_; refine tl_opo (o_move rfl) rfl rfl rfl rfl ?_; refine tl_opo (o_len_view rfl) rfl rfl rfl rfl ?_; refine tl_opo (o_move rfl) rfl rfl rfl rfl ?_
    refine tl_opo (o_slice_view (rows := (enc l).take (k - 0) ++ enc (l.drop (k + 1)) ++ (enc l).drop (l.length - 1)) rfl rfl (by simp; omega) (loIs_some rfl) (loIs_some rfl) (by simp) (by simp; omega)) rfl rfl rfl rfl ?_
    refine tl_opo (o_clear (zero := zeroI) rfl rfl rfl (by simp; omega) rfl) rfl rfl rfl rfl ?_
    refine tl_nil ?_
    dsimp only [putM, initM, acells, effS, List.nil_append, List.cons_append, List.length_nil, List.length_cons, List.set_cons_zero, List.set_cons_succ, List.set_nil, List.append_nil, Nat.zero_add, Nat.add_zero, Nat.reduceAdd, List.replicate, nslots]
    refine tc_seq (tc_ops ?_)
    refine tl_opo (o_move rfl) rfl rfl rfl rfl ?_; refine tl_opo (o_move rfl) rfl rfl rfl rfl ?_; refine tl_nil ?_
    refine tc_ret ⟨.inr rfl, _, rfl, zeroI, ?_, ?_, rfl⟩
    · simp [one]
    · simp only [List.getElem?_cons_zero, Option.some.injEq, ABlock.mk.injEq, true_and]
      have e2 : (enc l).length - (l.length - 1) = 1 := by simp; omega
      have hE : (enc (l.eraseIdx k)).length = l.length - 1 := by rw [enc_len, List.length_eraseIdx_of_lt hk]
      have hD : ((enc l).drop (l.length - 1)).length = 1 := by simp; omega
      have hz : (enc (l.eraseIdx k) ++ (enc l).drop (l.length - 1)).drop (l.length - 1 + 1) = [] := List.drop_of_length_le (by rw [List.length_append, hE, hD]; omega)
      rw [hA, e2, List.take_left' hE, hz]
      simp

def lose (l : List It) (i : Int) : List It := if has l i then l.eraseIdx i.toNat else l

theorem lose_ok (l : List It) (i : Int) (hl : l.length ≤ 1000000) : CallR AP 18 [.agg [.imm (enc l)], .int .i64 i] (.tuple [.agg [.imm (enc (lose l i))], .int .i64 (if has l i then 0 else 10)]) := by
  refine callR_of (af := c18) rfl rfl ?_
  refine tc_seq (tc_ops ?_)
  refine tl_opn (o_box rfl rfl rfl rfl) rfl rfl rfl rfl ?_; refine tl_opn o_alloc rfl rfl rfl rfl ?_; refine tl_opo (o_move rfl) rfl rfl rfl rfl ?_; refine tl_nil ?_
  dsimp only [putM, initM, acells, effS, List.nil_append, List.cons_append, List.length_nil, List.length_cons, List.set_cons_zero, List.set_cons_succ, List.set_nil, List.append_nil, Nat.zero_add, Nat.add_zero, Nat.reduceAdd, List.replicate, nslots]
  refine tc_seq (tc_seq (tc_ops ?_))
  refine tl_opo (o_load rfl rfl rfl (Nat.le_of_ble_eq_true rfl) rfl) rfl rfl rfl rfl ?_; refine tl_opo (o_move rfl) rfl rfl rfl rfl ?_
  refine tl_call' (as := [.agg [.imm (enc l)], .int .i64 i]) (as' := [.agg [.imm (enc l)], .int .i64 i]) rfl (frzL_cons (fun n => ⟨_, frz_ok (by simp [AVal.closed, closedL])⟩) (frzL_cons (fun n => ⟨_, frz_ok rfl⟩) frzL_nil)) (one_ok l i) (by simp [norefL, AVal.noref]) rfl rfl rfl rfl ?_
  refine tl_opo (o_move rfl) rfl rfl rfl rfl ?_; refine tl_nil ?_
  dsimp only [putM, initM, acells, effS, List.nil_append, List.cons_append, List.length_nil, List.length_cons, List.set_cons_zero, List.set_cons_succ, List.set_nil, List.append_nil, Nat.zero_add, Nat.add_zero, Nat.reduceAdd, List.replicate, nslots]
  refine tc_seq (tc_ops ?_)
  refine tl_opo (o_move rfl) rfl rfl rfl rfl ?_
  by_cases h : has l i
  · rw [if_pos h]
    refine tl_opo (o_neq' rfl rfl (t := false) rfl) rfl rfl rfl rfl ?_
    refine tl_nil ?_
    refine tc_cond rfl (fun h => nomatch h) (fun _ => tc_skip ?_)
    obtain ⟨k, rfl⟩ : ∃ k : Nat, i = k := ⟨i.toNat, by have := h.1; omega⟩
    have hk : k < l.length := by have := h.2; omega
    refine tc_seq (tc_ops ?_)
    refine tl_opo (o_faddr rfl) rfl rfl rfl rfl ?_; refine tl_opo (o_load rfl rfl rfl (Nat.le_of_ble_eq_true rfl) rfl) rfl rfl rfl rfl ?_
    obtain ⟨x, l', hxl⟩ : ∃ x l', l = x :: l' := by
      cases l with
      | nil => simp at hk
      | cons x l' => exact ⟨x, l', rfl⟩
    obtain ⟨v, S1, h1, j, rfl, h2⟩ := clone_some x l' (by rw [hxl] at hl; simp at hl; omega)
    rw [← hxl] at h1 h2
    refine tl_opk (o_keepv rfl rfl rfl (by simp [norefL, AVal.noref]) (by rw [hxl]; rfl) h1 h2 (enc_noref _)) rfl rfl rfl rfl ?_
    refine tl_opo (o_move rfl) rfl rfl rfl rfl ?_; refine tl_opo (o_move rfl) rfl rfl rfl rfl ?_
    refine tl_opo (o_add rfl rfl (c := ((k + 1 : Nat) : Int)) (by simp) (by omega) (by omega)) rfl rfl rfl rfl ?_
    dsimp only [putM, initM, acells, effS, List.nil_append, List.cons_append, List.length_nil, List.length_cons, List.set_cons_zero, List.set_cons_succ, List.set_nil, List.append_nil, Nat.zero_add, Nat.add_zero, Nat.reduceAdd, List.replicate, nslots]
    obtain ⟨v2, S2, g1, z, rfl, g2, g3⟩ := delete_ok l k hk hl
    refine tl_opk (o_keepm (rest := [.int .i64 k, .int .i64 ((k + 1 : Nat) : Int)]) rfl rfl rfl rfl rfl (enc_noref _) g1 g2 ?_) rfl rfl rfl rfl ?_
    · have : ∀ (a b : List (List AVal)), norefLL a = true → norefLL b = true → norefLL (a ++ b) = true := by
        intro a b ha hb
        induction a with
        | nil => exact hb
        | cons x a ih => simp only [norefLL, Bool.and_eq_true, List.cons_append] at ha ⊢; exact ⟨ha.1, ih ha.2⟩
      exact this _ _ (enc_noref _) (by simp [norefLL, g3])
    refine tl_opo (o_build rfl rfl) rfl rfl rfl rfl ?_; refine tl_opo (o_store rfl rfl rfl rfl rfl rfl rfl (Nat.le_of_ble_eq_true rfl) rfl) rfl rfl rfl rfl ?_; refine tl_opo (o_move rfl) rfl rfl rfl rfl ?_; refine tl_nil ?_
    dsimp only [putM, initM, acells, effS, List.nil_append, List.cons_append, List.length_nil, List.length_cons, List.set_cons_zero, List.set_cons_succ, List.set_nil, List.append_nil, Nat.zero_add, Nat.add_zero, Nat.reduceAdd, List.replicate, nslots]
    refine tc_ret (retd rfl ?_)
    refine frz_tuple (n := 5) (frzL_cons (fun n => frz_agg1 ⟨_, frz_view rfl ?_ ?_ (enc_closed _)⟩) (frzL_cons (fun n => ⟨_, frz_ok rfl⟩) frzL_nil) 2)
    · simp [List.length_eraseIdx_of_lt hk]
    · rw [lose, if_pos h, Int.toNat_natCast, List.drop_zero, List.take_left' (by simp [List.length_eraseIdx_of_lt hk])]
  · rw [if_neg h]
    refine tl_opo (o_neq' rfl rfl (t := true) rfl) rfl rfl rfl rfl ?_
    refine tl_nil ?_
    refine tc_cond rfl (fun _ => ?_) (fun h => nomatch h)
    refine tc_seq (tc_ops ?_)
    refine tl_opo (o_load rfl rfl rfl (Nat.le_of_ble_eq_true rfl) rfl) rfl rfl rfl rfl ?_; refine tl_opo (o_move rfl) rfl rfl rfl rfl ?_; refine tl_opo (o_store rfl rfl rfl rfl rfl rfl rfl (Nat.le_of_ble_eq_true rfl) rfl) rfl rfl rfl rfl ?_; refine tl_opo (o_move rfl) rfl rfl rfl rfl ?_; refine tl_nil ?_
    dsimp only [putM, initM, acells, effS, List.nil_append, List.cons_append, List.length_nil, List.length_cons, List.set_cons_zero, List.set_cons_succ, List.set_nil, List.append_nil, Nat.zero_add, Nat.add_zero, Nat.reduceAdd, List.replicate, nslots]
    refine tc_ret (retd rfl ?_)
    rw [lose, if_neg h]
    exact ⟨_, frz_ok (by simp [AVal.closed, closedL, one])⟩

def dbl (l : List It) (i : Int) (at_ : Int) : List It := match l[i.toNat]? with
  | some x => if has l i then send l (x.at' at_) else l
  | none => l

theorem double_ok (l : List It) (i at_ : Int) (hl : l.length ≤ 1000000) : CallR AP 23 [.agg [.imm (enc l)], .int .i64 i, .int .u64 at_] (.tuple [.agg [.imm (enc (dbl l i at_))], .int .i64 (if has l i then 0 else 10)]) := by
  refine callR_of (af := c23) rfl rfl ?_
  refine tc_seq (tc_ops ?_)
  refine tl_opn (o_box rfl rfl rfl rfl) rfl rfl rfl rfl ?_; refine tl_opn o_alloc rfl rfl rfl rfl ?_; refine tl_opo (o_move rfl) rfl rfl rfl rfl ?_; refine tl_nil ?_
  dsimp only [putM, initM, acells, effS, List.nil_append, List.cons_append, List.length_nil, List.length_cons, List.set_cons_zero, List.set_cons_succ, List.set_nil, List.append_nil, Nat.zero_add, Nat.add_zero, Nat.reduceAdd, List.replicate, nslots]
  refine tc_seq (tc_seq (tc_ops ?_))
  refine tl_opo (o_load rfl rfl rfl (Nat.le_of_ble_eq_true rfl) rfl) rfl rfl rfl rfl ?_; refine tl_opo (o_move rfl) rfl rfl rfl rfl ?_
  refine tl_call' (as := [.agg [.imm (enc l)], .int .i64 i]) (as' := [.agg [.imm (enc l)], .int .i64 i]) rfl (frzL_cons (fun n => ⟨_, frz_ok (by simp [AVal.closed, closedL])⟩) (frzL_cons (fun n => ⟨_, frz_ok rfl⟩) frzL_nil)) (one_ok l i) (by simp [norefL, AVal.noref]) rfl rfl rfl rfl ?_
  refine tl_opo (o_move rfl) rfl rfl rfl rfl ?_; refine tl_nil ?_
  dsimp only [putM, initM, acells, effS, List.nil_append, List.cons_append, List.length_nil, List.length_cons, List.set_cons_zero, List.set_cons_succ, List.set_nil, List.append_nil, Nat.zero_add, Nat.add_zero, Nat.reduceAdd, List.replicate, nslots]
  refine tc_seq (tc_ops ?_)
  refine tl_opo (o_move rfl) rfl rfl rfl rfl ?_
  by_cases h : has l i
  · rw [if_pos h]
    refine tl_opo (o_neq' rfl rfl (t := false) rfl) rfl rfl rfl rfl ?_
    refine tl_nil ?_
    refine tc_cond rfl (fun h => nomatch h) (fun _ => tc_skip ?_)
    obtain ⟨k, rfl⟩ : ∃ k : Nat, i = k := ⟨i.toNat, by have := h.1; omega⟩
    have hk : k < l.length := by have := h.2; omega
    refine tc_seq (tc_ops ?_)
    refine tl_opo (o_faddr rfl) rfl rfl rfl rfl ?_; refine tl_opo (o_load rfl rfl rfl (Nat.le_of_ble_eq_true rfl) rfl) rfl rfl rfl rfl ?_; refine tl_opo (o_move rfl) rfl rfl rfl rfl ?_
    refine tl_opo (o_iaddr rfl rfl (enc_get hk) rfl) rfl rfl rfl rfl ?_
    refine tl_opo (o_loadr rfl (Nat.le_of_ble_eq_true rfl) rfl) rfl rfl rfl rfl ?_; refine tl_opn o_alloc rfl rfl rfl rfl ?_; refine tl_opo (o_store rfl rfl rfl rfl rfl rfl rfl (Nat.le_of_ble_eq_true rfl) rfl) rfl rfl rfl rfl ?_; refine tl_nil ?_
    dsimp only [putM, initM, acells, effS, List.nil_append, List.cons_append, List.length_nil, List.length_cons, List.set_cons_zero, List.set_cons_succ, List.set_nil, List.append_nil, Nat.zero_add, Nat.add_zero, Nat.reduceAdd, List.replicate, nslots]
    refine tc_seq (tc_ops ?_)
    refine tl_opo (o_move rfl) rfl rfl rfl rfl ?_; refine tl_opo (o_faddr rfl) rfl rfl rfl rfl ?_; refine tl_opo (o_store rfl rfl rfl rfl rfl rfl rfl (Nat.le_of_ble_eq_true rfl) rfl) rfl rfl rfl rfl ?_; refine tl_nil ?_
    dsimp only [putM, initM, acells, effS, List.nil_append, List.cons_append, List.length_nil, List.length_cons, List.set_cons_zero, List.set_cons_succ, List.set_nil, List.append_nil, Nat.zero_add, Nat.add_zero, Nat.reduceAdd, List.replicate, nslots]
    refine tc_seq (tc_ops ?_)
    refine tl_opo (o_load rfl rfl rfl (Nat.le_of_ble_eq_true rfl) rfl) rfl rfl rfl rfl ?_; refine tl_opo (o_load rfl rfl rfl (Nat.le_of_ble_eq_true rfl) rfl) rfl rfl rfl rfl ?_
    refine tl_call' (as := [.agg [.imm (enc l)], .agg (l[k].at' at_).row]) (as' := [.agg [.imm (enc l)], .agg (l[k].at' at_).row]) rfl (frzL_cons (fun n => ⟨_, frz_ok (by simp [AVal.closed, closedL])⟩) (frzL_cons (fun n => ⟨_, frz_ok rfl⟩) frzL_nil)) (send_ok l (l[k].at' at_) hl) (by simp [norefL, AVal.noref, It.row, It.at']) rfl rfl rfl rfl ?_
    refine tl_opo (o_store rfl rfl rfl rfl rfl rfl rfl (Nat.le_of_ble_eq_true rfl) rfl) rfl rfl rfl rfl ?_; refine tl_opo (o_move rfl) rfl rfl rfl rfl ?_; refine tl_nil ?_
    dsimp only [putM, initM, acells, effS, List.nil_append, List.cons_append, List.length_nil, List.length_cons, List.set_cons_zero, List.set_cons_succ, List.set_nil, List.append_nil, Nat.zero_add, Nat.add_zero, Nat.reduceAdd, List.replicate, nslots]
    refine tc_ret (retd rfl ?_)
    rw [dbl, Int.toNat_natCast, List.getElem?_eq_getElem hk]
    simp only [if_pos h]
    exact ⟨_, frz_ok (by simp [AVal.closed, closedL, one])⟩
  · rw [if_neg h]
    refine tl_opo (o_neq' rfl rfl (t := true) rfl) rfl rfl rfl rfl ?_
    refine tl_nil ?_
    refine tc_cond rfl (fun _ => ?_) (fun h => nomatch h)
    refine tc_seq (tc_ops ?_)
    refine tl_opo (o_load rfl rfl rfl (Nat.le_of_ble_eq_true rfl) rfl) rfl rfl rfl rfl ?_; refine tl_opo (o_move rfl) rfl rfl rfl rfl ?_; refine tl_opo (o_store rfl rfl rfl rfl rfl rfl rfl (Nat.le_of_ble_eq_true rfl) rfl) rfl rfl rfl rfl ?_; refine tl_opo (o_move rfl) rfl rfl rfl rfl ?_; refine tl_nil ?_
    dsimp only [putM, initM, acells, effS, List.nil_append, List.cons_append, List.length_nil, List.length_cons, List.set_cons_zero, List.set_cons_succ, List.set_nil, List.append_nil, Nat.zero_add, Nat.add_zero, Nat.reduceAdd, List.replicate, nslots]
    refine tc_ret (retd rfl ?_)
    have : dbl l i at_ = l := by unfold dbl; split <;> simp [h]
    rw [this]
    exact ⟨_, frz_ok (by simp [AVal.closed, closedL, one])⟩

end Go.Eng.Line

/- Take; slices.Equal and slices.Index over items. -/
namespace Go.Eng.Line
open Go Go.Eng
attribute [local irreducible] OpR TL TD TC CallR

def It.zero : It := ⟨0, 0, 0, 0, [], 0⟩
def take (l : List It) (i now : Int) : List It × It × Int :=
  match l[i.toNat]? with
  | some x => if has l i then (if x.at_ > now then (l, .zero, 21) else (lose l i, x, 0)) else (l, .zero, 10)
  | none => (l, .zero, 10)

theorem take_ok (l : List It) (i now : Int) (hl : l.length ≤ 1000000) : CallR AP 20 [.agg [.imm (enc l)], .int .i64 i, .int .u64 now] (.tuple [.agg [.imm (enc (take l i now).1)], .agg (take l i now).2.1.row, .int .i64 (take l i now).2.2]) := by
  refine callR_of (af := c20) rfl rfl ?_
  refine tc_seq (tc_ops ?_)
  refine tl_opn (o_box rfl rfl rfl rfl) rfl rfl rfl rfl ?_; refine tl_opn o_alloc rfl rfl rfl rfl ?_; refine tl_opn o_alloc rfl rfl rfl rfl ?_; refine tl_opo (o_move rfl) rfl rfl rfl rfl ?_; refine tl_nil ?_
  dsimp only [putM, initM, acells, effS, List.nil_append, List.cons_append, List.length_nil, List.length_cons, List.set_cons_zero, List.set_cons_succ, List.set_nil, List.append_nil, Nat.zero_add, Nat.add_zero, Nat.reduceAdd, List.replicate, nslots]
  refine tc_seq (tc_block (tc_seq (tc_ops ?_)))
  refine tl_opo (o_load rfl rfl rfl (Nat.le_of_ble_eq_true rfl) rfl) rfl rfl rfl rfl ?_; refine tl_opo (o_move rfl) rfl rfl rfl rfl ?_
  refine tl_call' (as := [.agg [.imm (enc l)], .int .i64 i]) (as' := [.agg [.imm (enc l)], .int .i64 i]) rfl (frzL_cons (fun n => ⟨_, frz_ok (by simp [AVal.closed, closedL])⟩) (frzL_cons (fun n => ⟨_, frz_ok rfl⟩) frzL_nil)) (one_ok l i) (by simp [norefL, AVal.noref]) rfl rfl rfl rfl ?_
  dsimp only [putM, initM, acells, effS, List.nil_append, List.cons_append, List.length_nil, List.length_cons, List.set_cons_zero, List.set_cons_succ, List.set_nil, List.append_nil, Nat.zero_add, Nat.add_zero, Nat.reduceAdd, List.replicate, nslots]
  by_cases h : has l i
  · rw [if_pos h]
    refine tl_opo (o_neq' rfl rfl (t := false) rfl) rfl rfl rfl rfl ?_
    refine tl_opo (o_move rfl) rfl rfl rfl rfl ?_; refine tl_nil ?_
    refine tc_cond rfl (fun h => nomatch h) (fun _ => ?_)
    obtain ⟨k, rfl⟩ : ∃ k : Nat, i = k := ⟨i.toNat, by have := h.1; omega⟩
    have hk : k < l.length := by have := h.2; omega
    refine tc_seq (tc_ops ?_)
    refine tl_opo (o_faddr rfl) rfl rfl rfl rfl ?_; refine tl_opo (o_load rfl rfl rfl (Nat.le_of_ble_eq_true rfl) rfl) rfl rfl rfl rfl ?_; refine tl_opo (o_move rfl) rfl rfl rfl rfl ?_
    refine tl_opo (o_iaddr rfl rfl (enc_get hk) rfl) rfl rfl rfl rfl ?_
    refine tl_opo (o_faddrr rfl) rfl rfl rfl rfl ?_; refine tl_opo (o_loadr rfl (Nat.le_of_ble_eq_true rfl) rfl) rfl rfl rfl rfl ?_; refine tl_opo (o_move rfl) rfl rfl rfl rfl ?_
    by_cases h2 : l[k].at_ > now
    · have ht : take l k now = (l, .zero, 21) := by
        unfold take; rw [Int.toNat_natCast, List.getElem?_eq_getElem hk]; simp [h, h2]
      rw [ht]
      refine tl_opo (o_gtr' rfl rfl (t := true) (by simpa using h2)) rfl rfl rfl rfl ?_
      refine tl_opo (o_move rfl) rfl rfl rfl rfl ?_; refine tl_nil ?_
      refine tc_cond rfl (fun _ => ?_) (fun h => nomatch h)
      refine tc_seq (tc_ops ?_)
      refine tl_opo (o_load rfl rfl rfl (Nat.le_of_ble_eq_true rfl) rfl) rfl rfl rfl rfl ?_; refine tl_opo (o_build rfl rfl) rfl rfl rfl rfl ?_; refine tl_opo (o_store rfl rfl rfl rfl rfl rfl rfl (Nat.le_of_ble_eq_true rfl) rfl) rfl rfl rfl rfl ?_; refine tl_opo (o_store rfl rfl rfl rfl rfl rfl rfl (Nat.le_of_ble_eq_true rfl) rfl) rfl rfl rfl rfl ?_; refine tl_opo (o_move rfl) rfl rfl rfl rfl ?_; refine tl_nil ?_
      dsimp only [putM, initM, acells, effS, List.nil_append, List.cons_append, List.length_nil, List.length_cons, List.set_cons_zero, List.set_cons_succ, List.set_nil, List.append_nil, Nat.zero_add, Nat.add_zero, Nat.reduceAdd, List.replicate, nslots]
      refine tc_ret (retd rfl ?_)
      exact ⟨_, frz_ok (by simp [AVal.closed, closedL, one])⟩
    · have ht : take l k now = (lose l k, l[k], 0) := by
        unfold take; rw [Int.toNat_natCast, List.getElem?_eq_getElem hk]; simp [h, h2]
      rw [ht]
      refine tl_opo (o_gtr' rfl rfl (t := false) (by simpa using h2)) rfl rfl rfl rfl ?_
      refine tl_opo (o_move rfl) rfl rfl rfl rfl ?_; refine tl_nil ?_
      refine tc_cond rfl (fun h => nomatch h) (fun _ => tc_skip ?_)
      refine tc_seq (tc_ops ?_)
      refine tl_opo (o_load rfl rfl rfl (Nat.le_of_ble_eq_true rfl) rfl) rfl rfl rfl rfl ?_; refine tl_opo (o_move rfl) rfl rfl rfl rfl ?_
      refine tl_call' (as := [.agg [.imm (enc l)], .int .i64 k]) (as' := [.agg [.imm (enc l)], .int .i64 k]) rfl (frzL_cons (fun n => ⟨_, frz_ok (by simp [AVal.closed, closedL])⟩) (frzL_cons (fun n => ⟨_, frz_ok rfl⟩) frzL_nil)) (lose_ok l k hl) (by simp [norefL, AVal.noref]) rfl rfl rfl rfl ?_
      dsimp only [putM, initM, acells, effS, List.nil_append, List.cons_append, List.length_nil, List.length_cons, List.set_cons_zero, List.set_cons_succ, List.set_nil, List.append_nil, Nat.zero_add, Nat.add_zero, Nat.reduceAdd, List.replicate, nslots]
      rw [if_pos h]
      refine tl_opo (o_move rfl) rfl rfl rfl rfl ?_; refine tl_opo (o_extract rfl rfl) rfl rfl rfl rfl ?_; refine tl_opo (o_extract rfl rfl) rfl rfl rfl rfl ?_; refine tl_opn o_alloc rfl rfl rfl rfl ?_; refine tl_opo (o_store rfl rfl rfl rfl rfl rfl rfl (Nat.le_of_ble_eq_true rfl) rfl) rfl rfl rfl rfl ?_; refine tl_opo (o_move rfl) rfl rfl rfl rfl ?_; refine tl_nil ?_
      dsimp only [putM, initM, acells, effS, List.nil_append, List.cons_append, List.length_nil, List.length_cons, List.set_cons_zero, List.set_cons_succ, List.set_nil, List.append_nil, Nat.zero_add, Nat.add_zero, Nat.reduceAdd, List.replicate, nslots]
      refine tc_seq (tc_drawR [] rfl ?_)
      refine td_op rfl rfl (o_load rfl rfl rfl (Nat.le_of_ble_eq_true rfl) rfl) ?_; refine td_op rfl rfl (o_faddr rfl) ?_; refine td_op rfl rfl (o_load rfl rfl rfl (Nat.le_of_ble_eq_true rfl) rfl) ?_; refine td_op rfl rfl (o_move rfl) ?_
      refine td_op rfl rfl (o_iaddr rfl rfl (enc_get hk) rfl) ?_
      refine td_op rfl rfl (o_loadr rfl (Nat.le_of_ble_eq_true rfl) rfl) ?_; refine td_op rfl rfl (o_move rfl) ?_; refine td_op rfl rfl (o_store rfl rfl rfl rfl rfl rfl rfl (Nat.le_of_ble_eq_true rfl) rfl) ?_; refine td_op rfl rfl (o_store rfl rfl rfl rfl rfl rfl rfl (Nat.le_of_ble_eq_true rfl) rfl) ?_; refine td_op rfl rfl (o_move rfl) ?_; refine td_nil ?_
      refine ⟨rfl, ?_⟩
      dsimp only [putM, initM, acells, effS, List.nil_append, List.cons_append, List.length_nil, List.length_cons, List.set_cons_zero, List.set_cons_succ, List.set_nil, List.append_nil, Nat.zero_add, Nat.add_zero, Nat.reduceAdd, List.replicate, nslots]
      refine tc_ret (retd rfl ?_)
      exact ⟨_, frz_ok (by simp [AVal.closed, closedL, one, It.row])⟩
  · have ht : take l i now = (l, .zero, 10) := by
      unfold take; split <;> simp [h]
    rw [ht, if_neg h]
    refine tl_opo (o_neq' rfl rfl (t := true) rfl) rfl rfl rfl rfl ?_
    refine tl_opo (o_move rfl) rfl rfl rfl rfl ?_; refine tl_nil ?_
    refine tc_cond rfl (fun _ => ?_) (fun h => nomatch h)
    refine tc_seq (tc_ops ?_)
    refine tl_opo (o_load rfl rfl rfl (Nat.le_of_ble_eq_true rfl) rfl) rfl rfl rfl rfl ?_; refine tl_opo (o_build rfl rfl) rfl rfl rfl rfl ?_; refine tl_opo (o_store rfl rfl rfl rfl rfl rfl rfl (Nat.le_of_ble_eq_true rfl) rfl) rfl rfl rfl rfl ?_; refine tl_opo (o_store rfl rfl rfl rfl rfl rfl rfl (Nat.le_of_ble_eq_true rfl) rfl) rfl rfl rfl rfl ?_; refine tl_opo (o_move rfl) rfl rfl rfl rfl ?_; refine tl_nil ?_
    dsimp only [putM, initM, acells, effS, List.nil_append, List.cons_append, List.length_nil, List.length_cons, List.set_cons_zero, List.set_cons_succ, List.set_nil, List.append_nil, Nat.zero_add, Nat.add_zero, Nat.reduceAdd, List.replicate, nslots]
    refine tc_ret (retd rfl ?_)
    exact ⟨_, frz_ok (by simp [AVal.closed, closedL, one])⟩

def Leafs : List (Option Leaf) := [some (.int .u32), some (.int .u16), some (.int .u32), some (.int .u16), some .str, some (.int .u64)]

theorem row_inj {x y : It} : x.row = y.row ↔ x = y := by
  cases x; cases y; simp [It.row]

instance : DecidableEq It := fun x y => by
  cases x; cases y; simp only [It.mk.injEq]; infer_instance

theorem row_eq (x y : It) : aeqL [some (.int .u32), some (.int .u16), some (.int .u32), some (.int .u16), some .str, some (.int .u64)] x.row y.row = some (decide (x = y)) := by
  cases x; cases y
  simp only [It.row, aeqL, aleaf, and_self, if_true, It.mk.injEq]
  congr 1
  rw [Bool.eq_iff_iff]
  simp

/-- slices.Equal over items -/
theorem equal_ok (a b : List It) (ha : a.length ≤ 1000000) : CallR AP 19 [.imm (enc a), .imm (enc b)] (.bool (decide (a = b))) := by
  refine callR_of (af := c19) rfl rfl ?_
  refine tc_seq (tc_ops ?_)
  refine tl_opo (o_move rfl) rfl rfl rfl rfl ?_; refine tl_nil ?_
  refine tc_seq (tc_seq (tc_ops ?_))
  refine tl_opo (o_move rfl) rfl rfl rfl rfl ?_; refine tl_opo (o_len_imm rfl) rfl rfl rfl rfl ?_; refine tl_opo (o_move rfl) rfl rfl rfl rfl ?_; refine tl_opo (o_len_imm rfl) rfl rfl rfl rfl ?_; refine tl_opo (o_neq rfl rfl) rfl rfl rfl rfl ?_; refine tl_nil ?_
  refine tc_cond rfl (fun h => ?_) (fun h => tc_skip ?_)
  · refine tc_seq (tc_ops ?_)
    refine tl_opo (o_move rfl) rfl rfl rfl rfl ?_; refine tl_nil ?_
    refine tc_ret (retd rfl ?_)
    have : a ≠ b := fun e => by subst e; simp at h
    rw [decide_eq_false this]
    exact ⟨_, frz_ok rfl⟩
  · have hl : a.length = b.length := by simp at h; omega
    refine tc_seq (tc_seq (tc_ops ?_))
    refine tl_opo (o_move rfl) rfl rfl rfl rfl ?_; refine tl_opo (o_len_imm rfl) rfl rfl rfl rfl ?_; refine tl_opo (o_move rfl) rfl rfl rfl rfl ?_; refine tl_nil ?_
    dsimp only [putM, initM, acells, effS, List.nil_append, List.cons_append, List.length_nil, List.length_cons, List.set_cons_zero, List.set_cons_succ, List.set_nil, List.append_nil, Nat.zero_add, Nat.add_zero, Nat.reduceAdd, List.replicate, nslots]
    refine tc_block (loop_st (fun i => a.length - i) (fun i : Nat => [(0, .imm (enc a)), (1, .imm (enc b)), (12, .int .i64 (enc a).length), (13, .int .i64 i)])
      (fun i S => i ≤ a.length ∧ a.take i = b.take i) 0 (by (repeat' (first | exact wk_nil | refine wk_cons rfl ?_))) ⟨by omega, by simp⟩ ?_)
    rintro i S ⟨hi, heq⟩
    refine tc_seq (tc_ops ?_)
    refine tl_opo (o_lss rfl rfl) rfl rfl rfl rfl ?_; refine tl_nil ?_
    refine tc_seq (tc_cond rfl (fun h => tc_skip ?_) (fun h => tc_exit ?_))
    · have hi' : i < a.length := by simpa using h
      have hib : i < b.length := by omega
      refine tc_seq (tc_block (tc_seq (tc_ops ?_)))
      refine tl_opo (o_move rfl) rfl rfl rfl rfl ?_; refine tl_opo (o_move rfl) rfl rfl rfl rfl ?_; refine tl_nil ?_
      refine tc_seq (tc_drawR [] rfl ?_)
      refine td_op rfl rfl (o_move rfl) ?_; refine td_op rfl rfl (o_move rfl) ?_
      refine td_op rfl rfl (o_iaddr rfl rfl (enc_get hi') rfl) ?_
      refine td_op rfl rfl (o_loadr rfl (Nat.le_of_ble_eq_true rfl) rfl) ?_; refine td_op rfl rfl (o_move rfl) ?_; refine td_op rfl rfl (o_move rfl) ?_
      refine td_op rfl rfl (o_iaddr rfl rfl (enc_get hib) rfl) ?_
      refine td_op rfl rfl (o_loadr rfl (Nat.le_of_ble_eq_true rfl) rfl) ?_
      refine td_op rfl rfl (o_eqAgg (xs := a[i].row) (ys := b[i].row) rfl rfl (row_eq _ _)) ?_
      refine td_nil ?_
      refine ⟨rfl, ?_⟩
      refine tc_cond rfl (fun h => ?_) (fun h => tc_skip ?_)
      · refine tc_seq (tc_ops ?_)
        refine tl_opo (o_move rfl) rfl rfl rfl rfl ?_; refine tl_nil ?_
        refine tc_ret (retd rfl ?_)
        have : a ≠ b := fun e => by subst e; simp at h
        rw [decide_eq_false this]
        exact ⟨_, frz_ok rfl⟩
      · have he : a[i] = b[i] := by simpa using h
        refine tc_ops ?_
        refine tl_opo (o_add rfl rfl (c := ((i + 1 : Nat) : Int)) (by simp) (by omega) (by omega)) rfl rfl rfl rfl ?_
        refine tl_opo (o_move rfl) rfl rfl rfl rfl ?_; refine tl_nil ?_
        refine ⟨i + 1, by omega, by (repeat' (first | exact wk_nil | refine wk_cons rfl ?_)), by omega, ?_⟩
        rw [List.take_add_one, List.take_add_one, heq, List.getElem?_eq_getElem hi', List.getElem?_eq_getElem hib, he]
    · have hi' : a.length ≤ i := by simpa using h
      refine tc_seq (tc_ops ?_)
      refine tl_opo (o_move rfl) rfl rfl rfl rfl ?_; refine tl_nil ?_
      refine tc_ret (retd rfl ?_)
      have : a = b := by
        rw [List.take_of_length_le hi', List.take_of_length_le (by omega)] at heq
        exact heq
      rw [decide_eq_true this]
      exact ⟨_, frz_ok rfl⟩

end Go.Eng.Line

/- slices.Index and slices.Contains over items, where it is there. -/
namespace Go.Eng.Line
open Go Go.Eng
attribute [local irreducible] OpR TL TD TC CallR

theorem first_at {α : Type} {x : α} : ∀ {l : List α}, x ∈ l → ∃ k, ∃ hk : k < l.length, l[k] = x ∧ ∀ j, (hj : j < k) → l[j] ≠ x
  | y :: l, h => by
    by_cases hy : y = x
    · exact ⟨0, by simp, hy, fun j hj => by omega⟩
    · have hm : x ∈ l := by
        rcases List.mem_cons.1 h with h | h
        · exact absurd h.symm hy
        · exact h
      obtain ⟨k, hk, h1, h2⟩ := first_at hm
      refine ⟨k + 1, by simp; omega, by simpa using h1, fun j hj => ?_⟩
      cases j with
      | zero => simpa using hy
      | succ j => simpa using h2 j (by omega)

theorem index_ok (l : List It) (x : It) (hl : l.length ≤ 1000000) (hx : x ∈ l) : ∃ k : Nat, CallR AP 46 [.imm (enc l), .agg x.row] (.int .i64 k) := by
  obtain ⟨k, hk, hkx, hkf⟩ := first_at hx
  refine ⟨k, ?_⟩
  refine callR_of (af := c46) rfl rfl ?_
  refine tc_seq (tc_ops ?_)
  refine tl_opn (o_box rfl rfl rfl rfl) rfl rfl rfl rfl ?_; refine tl_opo (o_move rfl) rfl rfl rfl rfl ?_; refine tl_nil ?_
  dsimp only [putM, initM, acells, effS, List.nil_append, List.cons_append, List.length_nil, List.length_cons, List.set_cons_zero, List.set_cons_succ, List.set_nil, List.append_nil, Nat.zero_add, Nat.add_zero, Nat.reduceAdd, List.replicate, nslots]
  refine tc_seq (tc_seq (tc_ops ?_))
  refine tl_opo (o_move rfl) rfl rfl rfl rfl ?_; refine tl_opo (o_len_imm rfl) rfl rfl rfl rfl ?_; refine tl_opo (o_move rfl) rfl rfl rfl rfl ?_; refine tl_nil ?_
  refine tc_block (loop_st (fun i => l.length - i) (fun i : Nat => [(0, .imm (enc l)), (3, .ptr 0 0 0), (7, .int .i64 (enc l).length), (8, .int .i64 i)])
    (fun i S => i ≤ k ∧ S = [some ⟨6, [x.row]⟩]) 0 (by (repeat' (first | exact wk_nil | refine wk_cons rfl ?_))) ⟨by omega, rfl⟩ ?_)
  rintro i S ⟨hi, rfl⟩
  refine tc_seq (tc_ops ?_)
  have hi' : i < l.length := by omega
  refine tl_opo (o_lss' rfl rfl (t := true) (by simp; omega)) rfl rfl rfl rfl ?_
  refine tl_nil ?_
  refine tc_seq (tc_cond rfl (fun _ => tc_skip ?_) (fun h => nomatch h))
  refine tc_seq (tc_block (tc_seq (tc_ops ?_)))
  refine tl_opo (o_move rfl) rfl rfl rfl rfl ?_; refine tl_opo (o_move rfl) rfl rfl rfl rfl ?_; refine tl_nil ?_
  refine tc_seq (tc_drawR [] rfl ?_)
  refine td_op rfl rfl (o_load rfl rfl rfl (Nat.le_of_ble_eq_true rfl) rfl) ?_; refine td_op rfl rfl (o_move rfl) ?_; refine td_op rfl rfl (o_move rfl) ?_
  refine td_op rfl rfl (o_iaddr rfl rfl (enc_get hi') rfl) ?_
  refine td_op rfl rfl (o_loadr rfl (Nat.le_of_ble_eq_true rfl) rfl) ?_
  refine td_op rfl rfl (o_eqAgg (xs := x.row) (ys := l[i].row) rfl rfl (row_eq _ _)) ?_
  refine td_nil ?_
  refine ⟨rfl, ?_⟩
  refine tc_cond rfl (fun h => ?_) (fun h => tc_skip ?_)
  · have hxi : x = l[i] := by simpa using h
    have hik : i = k := by
      rcases Nat.lt_or_ge i k with h | h
      · exact absurd hxi.symm (hkf i h)
      · omega
    subst hik
    refine tc_seq (tc_ops ?_)
    refine tl_opo (o_move rfl) rfl rfl rfl rfl ?_; refine tl_opo (o_move rfl) rfl rfl rfl rfl ?_; refine tl_nil ?_
    exact tc_ret (retd rfl ⟨_, frz_ok rfl⟩)
  · have hxi : ¬ x = l[i] := by simpa using h
    have hik : i ≠ k := fun e => by subst e; exact hxi hkx.symm
    refine tc_ops ?_
    refine tl_opo (o_add rfl rfl (c := ((i + 1 : Nat) : Int)) (by simp) (by omega) (by omega)) rfl rfl rfl rfl ?_
    refine tl_opo (o_move rfl) rfl rfl rfl rfl ?_; refine tl_nil ?_
    exact ⟨i + 1, by omega, by (repeat' (first | exact wk_nil | refine wk_cons rfl ?_)), by omega, by simp⟩

theorem contains_ok (l : List It) (x : It) (hl : l.length ≤ 1000000) (hx : x ∈ l) : CallR AP 29 [.imm (enc l), .agg x.row] (.bool true) := by
  obtain ⟨k, hk⟩ := index_ok l x hl hx
  refine callR_of (af := c29) rfl rfl ?_
  refine tc_seq (tc_ops ?_)
  refine tl_opn (o_box rfl rfl rfl rfl) rfl rfl rfl rfl ?_; refine tl_opo (o_move rfl) rfl rfl rfl rfl ?_; refine tl_nil ?_
  dsimp only [putM, initM, acells, effS, List.nil_append, List.cons_append, List.length_nil, List.length_cons, List.set_cons_zero, List.set_cons_succ, List.set_nil, List.append_nil, Nat.zero_add, Nat.add_zero, Nat.reduceAdd, List.replicate, nslots]
  refine tc_seq (tc_ops ?_)
  refine tl_opo (o_move rfl) rfl rfl rfl rfl ?_; refine tl_opo (o_load rfl rfl rfl (Nat.le_of_ble_eq_true rfl) rfl) rfl rfl rfl rfl ?_
  refine tl_call' (as := [.imm (enc l), .agg x.row]) (as' := [.imm (enc l), .agg x.row]) rfl (frzL_cons (fun n => ⟨_, frz_ok (enc_closed _)⟩) (frzL_cons (fun n => ⟨_, frz_ok rfl⟩) frzL_nil)) hk (by simp [AVal.flat]) rfl rfl rfl rfl ?_
  refine tl_opo (o_geq' rfl rfl (t := true) (by simp)) rfl rfl rfl rfl ?_
  refine tl_opo (o_move rfl) rfl rfl rfl rfl ?_; refine tl_nil ?_
  exact tc_ret (retd rfl ⟨_, frz_ok rfl⟩)

end Go.Eng.Line

/- LineHonest: what the machine answers. -/
namespace Go.Eng.Line
open Go Go.Eng
attribute [local irreducible] OpR TL TD TC CallR

structure Act where
  do_ : Int
  x : It
  i : Int
  now : Int

def Act.row (a : Act) : List AVal := .int .u8 a.do_ :: .int .u32 a.x.fh :: .int .u16 a.x.fp :: .int .u32 a.x.th :: .int .u16 a.x.tp :: .str a.x.tx :: .int .u64 a.x.at_ :: .int .i64 a.i :: .int .u64 a.now :: []
def encA (l : List Act) : List (List AVal) := l.map Act.row
@[simp] theorem encA_len (l : List Act) : (encA l).length = l.length := by simp [encA]
theorem encA_get {l : List Act} {i : Nat} (h : i < l.length) : (encA l)[i]? = some l[i].row := by simp [encA, h]

def Sub (l sents : List It) : Prop := ∀ x ∈ l, x.at' 0 ∈ sents

theorem send_len {l : List It} {x : It} (h : l.length ≤ 256) : (send l x).length ≤ 256 := by unfold send; simp; omega
theorem sub_send {l sents : List It} {x : It} (h : Sub l sents) (hx : x.at' 0 ∈ sents) : Sub (send l x) sents := by
  intro y hy
  have := List.mem_of_mem_drop hy
  rcases List.mem_append.1 this with h1 | h1
  · exact h y h1
  · rw [List.mem_singleton.1 h1]; exact hx
theorem Sub.mono {l sents : List It} (h : Sub l sents) (y : It) : Sub l (sents ++ [y]) := fun x hx => List.mem_append_left _ (h x hx)
theorem lose_len {l : List It} {i : Int} (h : l.length ≤ 256) : (lose l i).length ≤ 256 := by
  unfold lose; split
  · exact Nat.le_trans (List.length_eraseIdx_le _ _) h
  · exact h
theorem sub_lose {l sents : List It} {i : Int} (h : Sub l sents) : Sub (lose l i) sents := by
  unfold lose; split
  · exact fun x hx => h x (List.mem_of_mem_eraseIdx hx)
  · exact h
theorem delay_len {l : List It} {i b : Int} : (delay l i b).length = l.length := by
  unfold delay; split <;> simp
theorem sub_delay {l sents : List It} {i b : Int} (h : Sub l sents) : Sub (delay l i b) sents := by
  unfold delay; split
  · intro x hx
    obtain ⟨j, hj⟩ := List.getElem?_of_mem hx
    rw [List.getElem?_modify] at hj
    cases hl : l[j]? with
    | none => rw [hl] at hj; simp at hj
    | some y =>
      rw [hl] at hj
      have hy := h y (List.mem_of_getElem? hl)
      split at hj
      · simp at hj; subst hj; exact hy
      · simp at hj; subst hj; exact hy
  · exact h
theorem dbl_len {l : List It} {i b : Int} (h : l.length ≤ 256) : (dbl l i b).length ≤ 256 := by
  unfold dbl; split
  · split
    · exact send_len h
    · exact h
  · exact h
theorem sub_dbl {l sents : List It} {i b : Int} (h : Sub l sents) : Sub (dbl l i b) sents := by
  unfold dbl; split
  · rename_i x hx
    split
    · exact sub_send h (h x (List.mem_of_getElem? hx))
    · exact h
  · exact h
theorem take_spec {l sents : List It} {i now : Int} (h : Sub l sents) (hl : l.length ≤ 256) : Sub (take l i now).1 sents ∧ (take l i now).1.length ≤ 256 ∧ ((take l i now).2.2 = 0 → (take l i now).2.1.at' 0 ∈ sents ∧ (take l i now).2.1.at_ ≤ now) ∧ ((take l i now).2.2 = 0 ∨ (take l i now).2.2 = 10 ∨ (take l i now).2.2 = 21) := by
  unfold take
  split
  · rename_i x hx
    split
    · split
      · exact ⟨h, hl, by simp, by simp⟩
      · rename_i hn
        exact ⟨sub_lose h, lose_len hl, fun _ => ⟨h x (List.mem_of_getElem? hx), by simp only; omega⟩, by simp⟩
    · exact ⟨h, hl, by simp, by simp⟩
  · exact ⟨h, hl, by simp, by simp⟩

theorem _root_.Go.Eng.Acc.ext {k sz : Nat} {S S' : Store} {v : AVal} {rows : List (List AVal)} (h : Acc k sz S v rows) (hs : ∀ j, j < S.length → S'[j]? = S[j]?) : Acc k sz S' v rows := by
  rcases h with h | ⟨h1, b, h2, h3, h4⟩
  · exact .inl h
  · exact .inr ⟨h1, b, h2, h3, by rw [hs b (List.getElem?_eq_some_iff.1 h4).1]; exact h4⟩

structure HSt where
  i : Nat
  now : Int
  sv : AVal
  L : AVal
  items : List It
  sents : List It

def HOk (bound : Nat) (s : HSt) (S : Store) : Prop :=
  Var s.L (enc s.items) ∧ S[1]? = some (some ⟨1, [[s.L]]⟩) ∧ Acc 2 6 S s.sv (enc s.sents) ∧ s.items.length ≤ 256 ∧ Sub s.items s.sents ∧ s.sents.length ≤ bound

theorem honest_ok (script : List Act) (hsc : ∀ a ∈ script, 0 ≤ a.do_ ∧ a.do_ < 256) : CallR AP 6 [.imm (encA script)] (.bool true) := by
  refine callR_of (af := c6) rfl rfl ?_
  refine tc_seq (tc_ops ?_)
  refine tl_opo (o_move rfl) rfl rfl rfl rfl ?_; refine tl_nil ?_
  refine tc_seq (tc_seq (tc_ops ?_))
  refine tl_call' (as := []) (as' := []) rfl frzL_nil awake_ok rfl rfl rfl rfl rfl ?_
  refine tl_opo (o_un rfl rfl) rfl rfl rfl rfl ?_; refine tl_nil ?_
  refine tc_cond rfl (fun h => nomatch h) (fun _ => tc_skip ?_)
  refine tc_seq (tc_seq (tc_ops ?_))
  refine tl_opo (o_move rfl) rfl rfl rfl rfl ?_; refine tl_opo (o_len_imm rfl) rfl rfl rfl rfl ?_
  by_cases hn : script.length ≤ 300
  case neg =>
    refine tl_opo (o_gtr' rfl rfl (t := true) (by simp; omega)) rfl rfl rfl rfl ?_
    refine tl_nil ?_
    refine tc_cond rfl (fun _ => ?_) (fun h => nomatch h)
    refine tc_seq (tc_ops ?_)
    refine tl_opo (o_move rfl) rfl rfl rfl rfl ?_; refine tl_nil ?_
    exact tc_ret (retd rfl ⟨_, frz_ok rfl⟩)
  refine tl_opo (o_gtr' rfl rfl (t := false) (by simp; omega)) rfl rfl rfl rfl ?_
  refine tl_nil ?_
  refine tc_cond rfl (fun h => nomatch h) (fun _ => tc_skip ?_)
  refine tc_seq (tc_ops ?_)
  refine tl_opn o_alloc rfl rfl rfl rfl ?_; refine tl_nil ?_
  dsimp only [putM, initM, acells, effS, List.nil_append, List.cons_append, List.length_nil, List.length_cons, List.set_cons_zero, List.set_cons_succ, List.set_nil, List.append_nil, Nat.zero_add, Nat.add_zero, Nat.reduceAdd, List.replicate, nslots]
  refine tc_seq (tc_ops ?_)
  refine tl_opo (o_move rfl) rfl rfl rfl rfl ?_; refine tl_nil ?_
  refine tc_seq (tc_ops ?_)
  refine tl_opo (o_move rfl) rfl rfl rfl rfl ?_; refine tl_nil ?_
  refine tc_seq (tc_seq (tc_ops ?_))
  refine tl_opo (o_move rfl) rfl rfl rfl rfl ?_; refine tl_opo (o_len_imm rfl) rfl rfl rfl rfl ?_; refine tl_opo (o_move rfl) rfl rfl rfl rfl ?_; refine tl_nil ?_
  refine tc_block (loop_st (σ := HSt) (fun s => script.length - s.i) (fun s => [(3, .ptr 1 0 0), (4, s.sv), (5, .int .u64 s.now), (18, .imm (encA script)), (19, .int .i64 (encA script).length), (20, .int .i64 s.i)])
    (fun s S => s.i ≤ script.length ∧ HOk s.i s S) ⟨0, 0, .nils, .nils, [], []⟩ (by (repeat' (first | exact wk_nil | refine wk_cons rfl ?_))) ⟨Nat.zero_le _, .inl ⟨rfl, rfl⟩, rfl, acc_nil, by simp, fun x hx => by simp at hx, by simp⟩ ?_)
  rintro ⟨i, now, sv, L, items, sents⟩ S ⟨hi, hL, hS, hacc, hil, hsub, hsl⟩
  simp only at hi hL hS hacc hil hsub hsl
  have hS1 : 1 < S.length := (List.getElem?_eq_some_iff.1 hS).1
  refine tc_seq (tc_ops ?_)
  refine tl_opo (o_lss rfl rfl) rfl rfl rfl rfl ?_; refine tl_nil ?_
  refine tc_seq (tc_cond rfl (fun h => tc_skip ?_) (fun h => tc_exit ?_))
  · have hi' : i < script.length := by simpa using h
    clear h
    obtain ⟨hd0, hd1⟩ := hsc _ (List.getElem_mem hi')
    generalize hact : script[i] = act at hd0 hd1
    have hrow : (encA script)[i]? = some act.row := by rw [encA_get hi', hact]
    refine tc_seq (tc_block (tc_seq (tc_ops ?_)))
    refine tl_opo (o_iaddr rfl rfl hrow rfl) rfl rfl rfl rfl ?_
    refine tl_opo (o_loadr rfl (Nat.le_of_ble_eq_true rfl) rfl) rfl rfl rfl rfl ?_
    refine tl_opn o_alloc rfl rfl rfl rfl ?_
    rw [set_snoc]
    refine tl_opo (o_store rfl rfl get_snoc rfl rfl rfl rfl (Nat.le_of_ble_eq_true rfl) rfl) rfl rfl rfl rfl ?_
    rw [set_snoc]
    refine tl_nil ?_
    generalize hS' : S ++ [_] = S'
    have hgA : S'[S.length]? = some (some ⟨9, [act.row]⟩) := by rw [← hS']; exact get_snoc
    have hgL : S'[1]? = some (some ⟨1, [[L]]⟩) := by rw [← hS']; exact get_app hS
    have hgS : Acc 2 6 S' sv (enc sents) := by rw [← hS']; exact hacc.snoc _
    have hlS : 1 < S'.length := (List.getElem?_eq_some_iff.1 hgL).1
    refine tc_seq (tc_ops ?_)
    refine tl_opo (o_move rfl) rfl rfl rfl rfl ?_; refine tl_opo (o_faddr rfl) rfl rfl rfl rfl ?_
    refine tl_opo (o_load rfl hgA rfl (Nat.le_of_ble_eq_true rfl) rfl) rfl rfl rfl rfl ?_
    refine tl_opo (o_bin rfl rfl (v := .int .u64 (act.now.tmod 1099511627776)) (by simp [abin, isShift, aintop])) rfl rfl rfl rfl ?_
    obtain ⟨now', hnow⟩ : ∃ n : Int, n = if act.now.tmod 1099511627776 > now then act.now.tmod 1099511627776 else now := ⟨_, rfl⟩
    refine tl_opo (o_maxI rfl (v := .int .u64 now') (by simp only [aext, foldI, if_true, Option.map_some, hnow])) rfl rfl rfl rfl ?_
    refine tl_opo (o_move rfl) rfl rfl rfl rfl ?_; refine tl_nil ?_
    have hnr : norefL [AVal.agg [L]] = true := by
      rcases hL with ⟨rfl, _⟩ | rfl
      · rfl
      · simp [norefL, AVal.noref]
    refine tc_cut (σ := HSt) (fun s => [(3, .ptr 1 0 0), (4, s.sv), (5, .int .u64 s.now), (18, .imm (encA script)), (19, .int .i64 (encA script).length), (20, .int .i64 i)]) (fun s S => s.i = i ∧ HOk (i + 1) s S) ?_ ?_
    · refine tc_seq (tc_ops ?_)
      refine tl_opo (o_faddr rfl) rfl rfl rfl rfl ?_
      refine tl_opo (o_load rfl hgA rfl (Nat.le_of_ble_eq_true rfl) rfl) rfl rfl rfl rfl ?_
      refine tl_opo (o_bin rfl rfl (v := .int .u8 (act.do_.tmod 6)) (by simp [abin, isShift, aintop])) rfl rfl rfl rfl ?_
      refine tl_nil ?_
      refine tc_block (tc_seq (tc_ops ?_))
      by_cases h2 : act.do_.tmod 6 = 2
      · refine tl_opo (o_eql' rfl rfl (t := true) (by simpa using h2)) rfl rfl rfl rfl ?_
        refine tl_opo (o_move rfl) rfl rfl rfl rfl ?_; refine tl_nil ?_
        refine tc_cond rfl (fun _ => ?_) (fun h => nomatch h)
        obtain ⟨ts1, ts2, ts3, ts4⟩ := take_spec (i := act.i) (now := now') hsub hil
        have hcall := take_ok items act.i now' (by omega)
        generalize take items act.i now' = tk at ts1 ts2 ts3 ts4 hcall
        obtain ⟨nl, y, e⟩ := tk
        simp only at ts1 ts2 ts3 ts4 hcall
        refine tc_seq (tc_ops ?_)
        refine tl_opo (o_load rfl hgL rfl (Nat.le_of_ble_eq_true rfl) rfl) rfl rfl rfl rfl ?_
        refine tl_opo (o_faddr rfl) rfl rfl rfl rfl ?_
        refine tl_opo (o_load rfl hgA rfl (Nat.le_of_ble_eq_true rfl) rfl) rfl rfl rfl rfl ?_
        refine tl_opo (o_move rfl) rfl rfl rfl rfl ?_
        refine tl_call' (as := [.agg [L], .int .i64 act.i, .int .u64 now']) (as' := [.agg [.imm (enc items)], .int .i64 act.i, .int .u64 now']) rfl (frzL_cons (fun n => hL.frz1 (enc_closed _) (n + 1)) (frzL_cons (fun n => ⟨_, frz_ok rfl⟩) (frzL_cons (fun n => ⟨_, frz_ok rfl⟩) frzL_nil)))
          hcall ?_ rfl rfl rfl rfl ?_
        · simp [norefL, AVal.noref] at hnr ⊢
          simp [hnr]
        refine tl_opo (o_move rfl) rfl rfl rfl rfl ?_; refine tl_opo (o_extract rfl rfl) rfl rfl rfl rfl ?_; refine tl_opo (o_extract rfl rfl) rfl rfl rfl rfl ?_; refine tl_opo (o_extract rfl rfl) rfl rfl rfl rfl ?_
        generalize hSx : S' ++ [none] = Sx
        have hAx : Sx[S.length]? = some (some ⟨9, [act.row]⟩) := by rw [← hSx]; exact get_app hgA
        have hLx : Sx[1]? = some (some ⟨1, [[L]]⟩) := by rw [← hSx]; exact get_app hgL
        have haccx : Acc 2 6 Sx sv (enc sents) := by rw [← hSx]; exact hgS.snoc _
        have hlx : 1 < Sx.length := (List.getElem?_eq_some_iff.1 hLx).1
        refine tl_opn o_alloc rfl rfl rfl rfl ?_
        rw [set_snoc]
        refine tl_opn o_alloc rfl rfl rfl rfl ?_
        rw [set_snoc]
        refine tl_opo (o_store rfl rfl (get_app get_snoc) rfl rfl rfl rfl (Nat.le_of_ble_eq_true rfl) rfl) rfl rfl rfl rfl ?_
        generalize hSy : (Sx ++ [_] ++ [_]).set _ _ = Sy
        have hy8 : Sy[Sx.length]? = some (some ⟨1, [[.imm (enc nl)]]⟩) := by rw [← hSy, set_get, if_pos ⟨rfl, by simp⟩]; rfl
        have hy9 : Sy[(Sx ++ [some (⟨1, [[.nils]]⟩ : ABlock)]).length]? = some (some ⟨6, [zeroI]⟩) := by
          rw [← hSy, set_get, if_neg (by simp)]; exact get_snoc
        have hyo : ∀ j, j < Sx.length → Sy[j]? = Sx[j]? := fun j hj => by
          rw [← hSy, set_get, if_neg (by omega), List.getElem?_append_left (by simp; omega), List.getElem?_append_left hj]
        have hlen9 : (Sx ++ [some (⟨1, [[.nils]]⟩ : ABlock)]).length = Sx.length + 1 := by simp
        refine tl_opo (o_store rfl rfl hy9 rfl rfl rfl rfl (Nat.le_of_ble_eq_true rfl) rfl) rfl rfl rfl rfl ?_
        generalize hSz : Sy.set _ _ = Sz
        have hz8 : Sz[Sx.length]? = some (some ⟨1, [[.imm (enc nl)]]⟩) := by rw [← hSz, set_get, if_neg (by simp)]; exact hy8
        have hz9 : Sz[(Sx ++ [some (⟨1, [[.nils]]⟩ : ABlock)]).length]? = some (some ⟨6, [y.row]⟩) := by
          rw [← hSz, set_get, if_pos ⟨rfl, (List.getElem?_eq_some_iff.1 hy9).1⟩]; rfl
        have hzo : ∀ j, j < Sx.length → Sz[j]? = Sx[j]? := fun j hj => by
          rw [← hSz, set_get, if_neg (by simp; omega), hyo j hj]
        have hzL : Sz[1]? = some (some ⟨1, [[L]]⟩) := by rw [hzo 1 hlx]; exact hLx
        have hzacc : Acc 2 6 Sz sv (enc sents) := haccx.ext hzo
        have hlz : 1 < Sz.length := (List.getElem?_eq_some_iff.1 hzL).1
        clear hSz hSy hyo hy8 hy9
        refine tl_opo (o_move rfl) rfl rfl rfl rfl ?_; refine tl_nil ?_
        refine tc_seq (tc_seq (tc_ops ?_))
        refine tl_opo (o_move rfl) rfl rfl rfl rfl ?_
        by_cases he : e = 0
        · subst he
          obtain ⟨hys, hyn⟩ := ts3 rfl
          refine tl_opo (o_eql' rfl rfl (t := true) rfl) rfl rfl rfl rfl ?_
          refine tl_nil ?_
          refine tc_cond rfl (fun _ => ?_) (fun h => nomatch h)
          refine tc_seq (tc_ops ?_)
          refine tl_opo (o_load rfl hz9 rfl (Nat.le_of_ble_eq_true rfl) rfl) rfl rfl rfl rfl ?_
          refine tl_opn o_alloc rfl rfl rfl rfl ?_
          rw [set_snoc]
          refine tl_opo (o_store rfl rfl get_snoc rfl rfl rfl rfl (Nat.le_of_ble_eq_true rfl) rfl) rfl rfl rfl rfl ?_
          rw [set_snoc]
          refine tl_nil ?_
          refine tc_seq (tc_ops ?_)
          refine tl_opo (o_faddr rfl) rfl rfl rfl rfl ?_
          refine tl_opo (o_store rfl rfl get_snoc rfl rfl rfl rfl (Nat.le_of_ble_eq_true rfl) rfl) rfl rfl rfl rfl ?_
          rw [set_snoc]
          refine tl_nil ?_
          refine tc_seq (tc_ops ?_)
          refine tl_opo (o_move rfl) rfl rfl rfl rfl ?_
          refine tl_opo (o_load rfl get_snoc rfl (Nat.le_of_ble_eq_true rfl) rfl) rfl rfl rfl rfl ?_
          refine tl_call' (as := [sv, .agg (y.at' 0).row]) (as' := [.imm (enc sents), .agg (y.at' 0).row]) rfl (frzL_cons (fun n => (hzacc.snoc _).frz (n := n + 2) (enc_closed _)) (frzL_cons (fun n => ⟨_, frz_ok rfl⟩) frzL_nil))
            (contains_ok sents (y.at' 0) (by omega) hys) (by simp [AVal.flat]) rfl rfl rfl rfl ?_
          refine tl_opo (o_un rfl rfl) rfl rfl rfl rfl ?_; refine tl_opo (o_move rfl) rfl rfl rfl rfl ?_; refine tl_opo (o_faddr rfl) rfl rfl rfl rfl ?_
          refine tl_opo (o_load rfl (get_app (get_app hz9)) rfl (Nat.le_of_ble_eq_true rfl) rfl) rfl rfl rfl rfl ?_
          refine tl_opo (o_move rfl) rfl rfl rfl rfl ?_
          refine tl_opo (o_gtr' rfl rfl (t := false) (by simpa using hyn)) rfl rfl rfl rfl ?_
          refine tl_opo (o_pick rfl rfl rfl) rfl rfl rfl rfl ?_; refine tl_nil ?_
          refine tc_cond rfl (fun h => nomatch h) (fun _ => tc_skip ?_)
          refine tc_ops ?_
          refine tl_opo (o_load rfl (get_app (get_app hz8)) rfl (Nat.le_of_ble_eq_true rfl) rfl) rfl rfl rfl rfl ?_
          refine tl_opo (o_store rfl rfl (get_app (get_app hzL)) rfl rfl rfl rfl (Nat.le_of_ble_eq_true rfl) rfl) rfl rfl rfl rfl ?_
          refine tl_nil ?_
          refine ⟨⟨i, now', sv, .imm (enc nl), nl, sents⟩, by (repeat' (first | exact wk_nil | refine wk_cons rfl ?_)), rfl, .inr rfl, ?_, (((hzacc.snoc _).snoc _).set (by omega) _), ts2, ts1, by simp only; omega⟩
          rw [set_get, if_pos ⟨rfl, by simp⟩]; rfl
        · refine tl_opo (o_eql' rfl rfl (t := false) (by simpa using he)) rfl rfl rfl rfl ?_
          refine tl_nil ?_
          refine tc_cond rfl (fun h => nomatch h) (fun _ => tc_skip ?_)
          refine tc_ops ?_
          refine tl_opo (o_load rfl hz8 rfl (Nat.le_of_ble_eq_true rfl) rfl) rfl rfl rfl rfl ?_
          refine tl_opo (o_store rfl rfl hzL rfl rfl rfl rfl (Nat.le_of_ble_eq_true rfl) rfl) rfl rfl rfl rfl ?_
          refine tl_nil ?_
          refine ⟨⟨i, now', sv, .imm (enc nl), nl, sents⟩, by (repeat' (first | exact wk_nil | refine wk_cons rfl ?_)), rfl, .inr rfl, ?_, (hzacc.set (by omega) _), ts2, ts1, by simp only; omega⟩
          rw [set_get, if_pos ⟨rfl, by omega⟩]; rfl
      refine tl_opo (o_eql' rfl rfl (t := false) (by simpa using h2)) rfl rfl rfl rfl ?_
      refine tl_opo (o_move rfl) rfl rfl rfl rfl ?_; refine tl_nil ?_
      refine tc_cond rfl (fun h => nomatch h) (fun _ => ?_)
      refine tc_seq (tc_ops ?_)
      by_cases h3 : act.do_.tmod 6 = 3
      · refine tl_opo (o_eql' rfl rfl (t := true) (by simpa using h3)) rfl rfl rfl rfl ?_
        refine tl_opo (o_move rfl) rfl rfl rfl rfl ?_; refine tl_nil ?_
        refine tc_cond rfl (fun _ => ?_) (fun h => nomatch h)
        refine tc_ops ?_
        refine tl_opo (o_load rfl hgL rfl (Nat.le_of_ble_eq_true rfl) rfl) rfl rfl rfl rfl ?_
        refine tl_opo (o_faddr rfl) rfl rfl rfl rfl ?_
        refine tl_opo (o_load rfl hgA rfl (Nat.le_of_ble_eq_true rfl) rfl) rfl rfl rfl rfl ?_
        refine tl_call' (as := [.agg [L], .int .i64 act.i]) (as' := [.agg [.imm (enc items)], .int .i64 act.i]) rfl (frzL_cons (fun n => hL.frz1 (enc_closed _) (n + 1)) (frzL_cons (fun n => ⟨_, frz_ok rfl⟩) frzL_nil))
          (lose_ok items act.i (by omega)) ?_ rfl rfl rfl rfl ?_
        · simp [norefL, AVal.noref] at hnr ⊢
          simp [hnr]
        refine tl_opo (o_move rfl) rfl rfl rfl rfl ?_; refine tl_opo (o_extract rfl rfl) rfl rfl rfl rfl ?_; refine tl_opo (o_extract rfl rfl) rfl rfl rfl rfl ?_
        refine tl_opo (o_store rfl rfl (get_app hgL) rfl rfl rfl rfl (Nat.le_of_ble_eq_true rfl) rfl) rfl rfl rfl rfl ?_
        refine tl_nil ?_
        refine ⟨⟨i, now', sv, .imm (enc (Line.lose items act.i)), Line.lose items act.i, sents⟩, by (repeat' (first | exact wk_nil | refine wk_cons rfl ?_)), rfl, .inr rfl, ?_, ((hgS.snoc _).set (by omega) _), lose_len hil, sub_lose hsub, by simp only; omega⟩
        rw [set_get, if_pos ⟨rfl, by simp; omega⟩]; rfl
      refine tl_opo (o_eql' rfl rfl (t := false) (by simpa using h3)) rfl rfl rfl rfl ?_
      refine tl_opo (o_move rfl) rfl rfl rfl rfl ?_; refine tl_nil ?_
      refine tc_cond rfl (fun h => nomatch h) (fun _ => ?_)
      refine tc_seq (tc_ops ?_)
      by_cases h4 : act.do_.tmod 6 = 4
      · refine tl_opo (o_eql' rfl rfl (t := true) (by simpa using h4)) rfl rfl rfl rfl ?_
        refine tl_opo (o_move rfl) rfl rfl rfl rfl ?_; refine tl_nil ?_
        refine tc_cond rfl (fun _ => ?_) (fun h => nomatch h)
        refine tc_ops ?_
        refine tl_opo (o_load rfl hgL rfl (Nat.le_of_ble_eq_true rfl) rfl) rfl rfl rfl rfl ?_
        refine tl_opo (o_faddr rfl) rfl rfl rfl rfl ?_
        refine tl_opo (o_load rfl hgA rfl (Nat.le_of_ble_eq_true rfl) rfl) rfl rfl rfl rfl ?_
        refine tl_opo (o_faddr rfl) rfl rfl rfl rfl ?_
        refine tl_opo (o_load rfl hgA rfl (Nat.le_of_ble_eq_true rfl) rfl) rfl rfl rfl rfl ?_
        refine tl_call' (as := [.agg [L], .int .i64 act.i, .int .u64 act.now]) (as' := [.agg [.imm (enc items)], .int .i64 act.i, .int .u64 act.now]) rfl (frzL_cons (fun n => hL.frz1 (enc_closed _) (n + 1)) (frzL_cons (fun n => ⟨_, frz_ok rfl⟩) (frzL_cons (fun n => ⟨_, frz_ok rfl⟩) frzL_nil)))
          (double_ok items act.i act.now (by omega)) ?_ rfl rfl rfl rfl ?_
        · simp [norefL, AVal.noref] at hnr ⊢
          simp [hnr]
        refine tl_opo (o_move rfl) rfl rfl rfl rfl ?_; refine tl_opo (o_extract rfl rfl) rfl rfl rfl rfl ?_; refine tl_opo (o_extract rfl rfl) rfl rfl rfl rfl ?_
        refine tl_opo (o_store rfl rfl (get_app hgL) rfl rfl rfl rfl (Nat.le_of_ble_eq_true rfl) rfl) rfl rfl rfl rfl ?_
        refine tl_nil ?_
        refine ⟨⟨i, now', sv, .imm (enc (dbl items act.i act.now)), dbl items act.i act.now, sents⟩, by (repeat' (first | exact wk_nil | refine wk_cons rfl ?_)), rfl, .inr rfl, ?_, ((hgS.snoc _).set (by omega) _), dbl_len hil, sub_dbl hsub, by simp only; omega⟩
        rw [set_get, if_pos ⟨rfl, by simp; omega⟩]; rfl
      refine tl_opo (o_eql' rfl rfl (t := false) (by simpa using h4)) rfl rfl rfl rfl ?_
      refine tl_opo (o_move rfl) rfl rfl rfl rfl ?_; refine tl_nil ?_
      refine tc_cond rfl (fun h => nomatch h) (fun _ => ?_)
      refine tc_seq (tc_ops ?_)
      by_cases h5 : act.do_.tmod 6 = 5
      · refine tl_opo (o_eql' rfl rfl (t := true) (by simpa using h5)) rfl rfl rfl rfl ?_
        refine tl_opo (o_move rfl) rfl rfl rfl rfl ?_; refine tl_nil ?_
        refine tc_cond rfl (fun _ => ?_) (fun h => nomatch h)
        refine tc_ops ?_
        refine tl_opo (o_load rfl hgL rfl (Nat.le_of_ble_eq_true rfl) rfl) rfl rfl rfl rfl ?_
        refine tl_opo (o_faddr rfl) rfl rfl rfl rfl ?_
        refine tl_opo (o_load rfl hgA rfl (Nat.le_of_ble_eq_true rfl) rfl) rfl rfl rfl rfl ?_
        refine tl_opo (o_faddr rfl) rfl rfl rfl rfl ?_
        refine tl_opo (o_load rfl hgA rfl (Nat.le_of_ble_eq_true rfl) rfl) rfl rfl rfl rfl ?_
        refine tl_call' (as := [.agg [L], .int .i64 act.i, .int .u64 act.now]) (as' := [.agg [.imm (enc items)], .int .i64 act.i, .int .u64 act.now]) rfl (frzL_cons (fun n => hL.frz1 (enc_closed _) (n + 1)) (frzL_cons (fun n => ⟨_, frz_ok rfl⟩) (frzL_cons (fun n => ⟨_, frz_ok rfl⟩) frzL_nil)))
          (delay_ok items act.i act.now (by omega)) ?_ rfl rfl rfl rfl ?_
        · simp [norefL, AVal.noref] at hnr ⊢
          simp [hnr]
        refine tl_opo (o_move rfl) rfl rfl rfl rfl ?_; refine tl_opo (o_extract rfl rfl) rfl rfl rfl rfl ?_; refine tl_opo (o_extract rfl rfl) rfl rfl rfl rfl ?_
        refine tl_opo (o_store rfl rfl (get_app hgL) rfl rfl rfl rfl (Nat.le_of_ble_eq_true rfl) rfl) rfl rfl rfl rfl ?_
        refine tl_nil ?_
        refine ⟨⟨i, now', sv, .imm (enc (Line.delay items act.i act.now)), Line.delay items act.i act.now, sents⟩, by (repeat' (first | exact wk_nil | refine wk_cons rfl ?_)), rfl, .inr rfl, ?_, ((hgS.snoc _).set (by omega) _), by simp only; rw [delay_len]; exact hil, sub_delay hsub, by simp only; omega⟩
        rw [set_get, if_pos ⟨rfl, by simp; omega⟩]; rfl
      refine tl_opo (o_eql' rfl rfl (t := false) (by simpa using h5)) rfl rfl rfl rfl ?_
      refine tl_opo (o_move rfl) rfl rfl rfl rfl ?_; refine tl_nil ?_
      refine tc_cond rfl (fun h => nomatch h) (fun _ => ?_)
      refine tc_seq (tc_ops ?_)
      refine tl_opo (o_load rfl hgL rfl (Nat.le_of_ble_eq_true rfl) rfl) rfl rfl rfl rfl ?_
      refine tl_opo (o_faddr rfl) rfl rfl rfl rfl ?_
      refine tl_opo (o_load rfl hgA rfl (Nat.le_of_ble_eq_true rfl) rfl) rfl rfl rfl rfl ?_
      refine tl_call' (as := [.agg [L], .agg act.x.row]) (as' := [.agg [.imm (enc items)], .agg act.x.row]) rfl (frzL_cons (fun n => hL.frz1 (enc_closed _) (n + 1)) (frzL_cons (fun n => ⟨_, frz_ok rfl⟩) frzL_nil))
        (send_ok items act.x (by omega)) ?_ rfl rfl rfl rfl ?_
      · simp [norefL, AVal.noref, It.row] at hnr ⊢
        simp [hnr]
      refine tl_opo (o_store rfl rfl (get_app hgL) rfl rfl rfl rfl (Nat.le_of_ble_eq_true rfl) rfl) rfl rfl rfl rfl ?_
      refine tl_nil ?_
      generalize hS3 : (S' ++ [none]).set 1 _ = S3
      have hA3 : S3[S.length]? = some (some ⟨9, [act.row]⟩) := by rw [← hS3, set_get, if_neg (by omega)]; exact get_app hgA
      have hL3 : S3[1]? = some (some ⟨1, [[.imm (enc (send items act.x))]]⟩) := by rw [← hS3, set_get, if_pos ⟨rfl, by simp; omega⟩]; rfl
      have hacc3 : Acc 2 6 S3 sv (enc sents) := by rw [← hS3]; exact (hgS.snoc _).set (by omega) _
      have hl3 : 1 < S3.length := (List.getElem?_eq_some_iff.1 hL3).1
      refine tc_seq (tc_ops ?_)
      refine tl_opo (o_faddr rfl) rfl rfl rfl rfl ?_
      refine tl_opo (o_load rfl hA3 rfl (Nat.le_of_ble_eq_true rfl) rfl) rfl rfl rfl rfl ?_
      refine tl_opn o_alloc rfl rfl rfl rfl ?_
      rw [set_snoc]
      refine tl_opo (o_store rfl rfl get_snoc rfl rfl rfl rfl (Nat.le_of_ble_eq_true rfl) rfl) rfl rfl rfl rfl ?_
      rw [set_snoc]
      refine tl_nil ?_
      refine tc_seq (tc_ops ?_)
      refine tl_opo (o_faddr rfl) rfl rfl rfl rfl ?_
      refine tl_opo (o_store rfl rfl get_snoc rfl rfl rfl rfl (Nat.le_of_ble_eq_true rfl) rfl) rfl rfl rfl rfl ?_
      rw [set_snoc]
      refine tl_nil ?_
      refine tc_ops ?_
      refine tl_opo (o_move rfl) rfl rfl rfl rfl ?_
      refine tl_opo (o_load rfl get_snoc rfl (Nat.le_of_ble_eq_true rfl) rfl) rfl rfl rfl rfl ?_
      refine tl_opo (o_buildSlice rfl rfl) rfl rfl rfl rfl ?_
      refine tl_acc rfl rfl (hacc3.snoc _) (new := enc [act.x.at' 0]) rfl (by simp [enc]) rfl (by simp; omega) (by simp; omega) rfl rfl ?_
      intro v' S4 hacc4 hlen4 hold
      refine tl_opo (o_move rfl) rfl rfl rfl rfl ?_; refine tl_nil ?_
      refine ⟨⟨i, now', v', .imm (enc (send items act.x)), send items act.x, sents ++ [act.x.at' 0]⟩, by (repeat' (first | exact wk_nil | refine wk_cons rfl ?_)), rfl, ?_, ?_, ?_, ?_, ?_, ?_⟩
      · simp only; exact .inr rfl
      · rw [hold 1 (by omega)]; exact get_app hL3
      · simpa [enc] using hacc4
      · simp only; exact send_len hil
      · simp only; exact sub_send (hsub.mono _) (by simp)
      · simp; omega
    · rintro ⟨i', now2, sv2, L2, items2, sents2⟩ S2 ⟨hi2, hL2, hT, hacc2, hil2, hsub2, hsl2⟩
      simp only at hi2 hL2 hT hacc2 hil2 hsub2 hsl2
      subst hi2
      have hnr2 : norefL [AVal.agg [L2]] = true := by
        rcases hL2 with ⟨rfl, _⟩ | rfl
        · rfl
        · simp [norefL, AVal.noref]
      refine tc_seq (tc_ops ?_)
      refine tl_opo (o_load rfl hT rfl (Nat.le_of_ble_eq_true rfl) rfl) rfl rfl rfl rfl ?_
      refine tl_call' (as := [.agg [L2]]) (as' := [.agg [.imm (enc items2)]]) rfl (frzL_cons (fun n => hL2.frz1 (enc_closed _) (n + 1)) frzL_nil)
        (len_ok items2) (by rw [hnr2]; rfl) rfl rfl rfl rfl ?_
      refine tl_opo (o_gtr' rfl rfl (t := false) (by simp; omega)) rfl rfl rfl rfl ?_
      refine tl_nil ?_
      refine tc_cond rfl (fun h => nomatch h) (fun _ => tc_skip ?_)
      refine tc_ops ?_
      refine tl_opo (o_add rfl rfl (c := ((i' + 1 : Nat) : Int)) (by simp) (by omega) (by omega)) rfl rfl rfl rfl ?_
      refine tl_opo (o_move rfl) rfl rfl rfl rfl ?_; refine tl_nil ?_
      exact ⟨⟨i' + 1, now2, sv2, L2, items2, sents2⟩, by simp only; omega, by (repeat' (first | exact wk_nil | refine wk_cons rfl ?_)), by simp only; omega, hL2, get_app hT, hacc2.snoc _, hil2, hsub2, by simp only; omega⟩
  · refine tc_seq (tc_ops ?_)
    refine tl_opo (o_move rfl) rfl rfl rfl rfl ?_; refine tl_nil ?_
    exact tc_ret (retd rfl ⟨_, frz_ok rfl⟩)

end Go.Eng.Line

