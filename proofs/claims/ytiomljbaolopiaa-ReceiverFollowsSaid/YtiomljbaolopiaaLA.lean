/- A part of the engine: a machine over abstract values, and the proof that the program does what it does; no condition. -/
import Derived.Test.YtiomljbaolopiaaE4
import Derived.Test.YtiomljbaolopiaaE5
import Derived.KernelRfl
set_option linter.unusedSectionVars false
set_option linter.unusedVariables false
set_option linter.unusedSimpArgs false
set_option linter.unnecessarySimpa false
/- The machine's code of what the four laws on the receiver reach. -/
namespace Go.Eng.Recv
open Go Go.Eng

/-- vagabond/vagabondlaw16.ReceiverTakes -/
def c7 : AFunc := ⟨3, 179, [.tmp 6],
  ACode.seq (ACode.ops [⟨(some 6), (.move (.c (.bool false))), none, []⟩])
  (ACode.seq (ACode.seq (ACode.ops [⟨(some 28), (.call (.c (.fn (.func 30) [] [])) []), none, []⟩,
       ⟨(some 29), (.un .not (.t 28)), none, []⟩])
    (ACode.cond (.t 29) (ACode.seq (ACode.ops [⟨(some 6), (.move (.c (.bool false))), none, []⟩])
      (ACode.ret))
     (ACode.skip)))
   (ACode.seq (ACode.seq (ACode.ops [⟨(some 30), (.move (.t 1)), none, []⟩,
        ⟨(some 31), (.len false (.t 30)), none, []⟩,
        ⟨(some 32), (.bin .gtr (.t 31) (.c (.int .i64 60))), none, []⟩,
        ⟨(some 33), (.move (.t 32)), none, []⟩,
        ⟨(some 34), (.move (.t 0)), some (33, false), []⟩,
        ⟨(some 35), (.len true (.t 34)), some (33, false), []⟩,
        ⟨(some 36), (.bin .gtr (.t 35) (.c (.int .i64 60))), some (33, false), []⟩,
        ⟨(some 37), (.pick (.t 33) (.c (.bool true)) (.t 36)), none, []⟩])
     (ACode.cond (.t 37) (ACode.seq (ACode.ops [⟨(some 6), (.move (.c (.bool true))), none, []⟩])
       (ACode.ret))
      (ACode.skip)))
    (ACode.seq (ACode.ops [⟨(some 38), (.move (.t 0)), none, []⟩,
        ⟨(some 39), (.call (.c (.fn (.func 32) [] [])) []), none, []⟩,
        ⟨(some 40), (.call (.c (.fn (.func 31) [] [])) [(.t 38), (.t 39)]), none, []⟩,
        ⟨(some 7), (.alloc [.nilfn, .nils]), none, []⟩,
        ⟨none, (.store 2 (.t 7) (.t 40)), none, []⟩])
     (ACode.seq (ACode.ops [⟨(some 41), (.move (.t 0)), none, []⟩,
         ⟨(some 42), (.build [(.int .u64 0), (.str [])] [((1, 1), (.t 41))]), none, []⟩,
         ⟨(some 43), (.buildSlice [(.int .u64 0), (.str [])] 2 1 [(0, (.t 42))]), none, []⟩,
         ⟨(some 8), (.move (.t 43)), none, []⟩])
      (ACode.seq (ACode.seq (ACode.ops [⟨(some 44), (.move (.t 1)), none, []⟩,
           ⟨(some 45), (.len false (.t 44)), none, []⟩,
           ⟨(some 46), (.move (.c (.int .i64 0))), none, []⟩])
        (ACode.block 0 (ACode.loop (ACode.seq (ACode.ops [⟨(some 47), (.bin .lss (.t 46) (.t 45)), none, []⟩])
           (ACode.seq (ACode.cond (.t 47) (ACode.skip)
             (ACode.exit 0))
            (ACode.seq (ACode.block 1 (ACode.seq (ACode.ops [⟨(some 48), (.iaddr 5 (.t 44) (.t 46)), none, []⟩,
                  ⟨(some 49), (.load true 5 (.t 48)), none, []⟩,
                  ⟨(some 10), (.alloc [(.int .u64 0), (.int .u64 0), (.int .u64 0), (.int .u64 0), (.str [])]), none, []⟩,
                  ⟨none, (.store 5 (.t 10) (.t 49)), none, []⟩])
               (ACode.seq (ACode.seq (ACode.ops [⟨(some 50), (.faddr 4 (.t 10)), none, []⟩,
                    ⟨(some 51), (.load false 1 (.t 50)), none, []⟩,
                    ⟨(some 52), (.len true (.t 51)), none, []⟩,
                    ⟨(some 53), (.bin .gtr (.t 52) (.c (.int .i64 60))), none, []⟩])
                 (ACode.cond (.t 53) (ACode.seq (ACode.ops [⟨(some 6), (.move (.c (.bool true))), none, []⟩])
                   (ACode.ret))
                  (ACode.skip)))
                (ACode.seq (ACode.ops [⟨(some 54), (.load true 2 (.t 7)), none, []⟩,
                    ⟨(some 55), (.call (.c (.fn (.func 33) [] [])) [(.t 54)]), none, []⟩,
                    ⟨(some 11), (.move (.t 55)), none, []⟩])
                 (ACode.seq (ACode.ops [⟨(some 57), (.load true 2 (.t 7)), none, []⟩,
                     ⟨(some 58), (.load true 5 (.t 10)), none, []⟩,
                     ⟨(some 59), (.call (.c (.fn (.func 34) [] [])) [(.t 57), (.t 58)]), none, []⟩,
                     ⟨(some 56), (.move (.t 59)), none, []⟩,
                     ⟨(some 60), (.extract (.t 56) 0), none, []⟩,
                     ⟨(some 61), (.extract (.t 56) 1), none, []⟩,
                     ⟨(some 62), (.extract (.t 56) 2), none, []⟩,
                     ⟨(some 12), (.alloc [.nilfn, .nils]), none, []⟩,
                     ⟨none, (.store 2 (.t 12) (.t 60)), none, []⟩,
                     ⟨(some 13), (.move (.t 61)), none, []⟩,
                     ⟨(some 14), (.move (.t 62)), none, []⟩])
                  (ACode.seq (ACode.ops [⟨(some 64), (.move (.t 8)), none, []⟩,
                      ⟨(some 65), (.faddr 0 (.t 10)), none, []⟩,
                      ⟨(some 66), (.load false 1 (.t 65)), none, []⟩,
                      ⟨(some 67), (.faddr 1 (.t 10)), none, []⟩,
                      ⟨(some 68), (.load false 1 (.t 67)), none, []⟩,
                      ⟨(some 69), (.faddr 3 (.t 10)), none, []⟩,
                      ⟨(some 70), (.load false 1 (.t 69)), none, []⟩,
                      ⟨(some 71), (.faddr 4 (.t 10)), none, []⟩,
                      ⟨(some 72), (.load false 1 (.t 71)), none, []⟩,
                      ⟨(some 73), (.call (.c (.fn (.func 35) [] [])) [(.t 64), (.t 66), (.t 68), (.t 70), (.t 72)]), none, []⟩,
                      ⟨(some 63), (.move (.t 73)), none, []⟩,
                      ⟨(some 74), (.extract (.t 63) 0), none, []⟩,
                      ⟨(some 75), (.extract (.t 63) 1), none, []⟩,
                      ⟨(some 76), (.extract (.t 63) 2), none, []⟩,
                      ⟨(some 15), (.move (.t 74)), none, []⟩,
                      ⟨(some 16), (.move (.t 75)), none, []⟩,
                      ⟨(some 17), (.move (.t 76)), none, []⟩])
                   (ACode.seq (ACode.seq (ACode.ops [⟨(some 77), (.move (.t 13)), none, []⟩,
                        ⟨(some 78), (.move (.t 16)), none, []⟩,
                        ⟨(some 79), (.eqB true (.t 77) (.t 78)), none, []⟩,
                        ⟨(some 80), (.move (.t 79)), none, []⟩,
                        ⟨(some 81), (.move (.t 14)), some (80, false), []⟩,
                        ⟨(some 82), (.move (.t 17)), some (80, false), []⟩,
                        ⟨(some 83), (.bin .neq (.t 81) (.t 82)), some (80, false), []⟩,
                        ⟨(some 84), (.pick (.t 80) (.c (.bool true)) (.t 83)), none, []⟩,
                        ⟨(some 85), (.move (.t 84)), none, []⟩,
                        ⟨(some 86), (.load true 2 (.t 7)), some (85, false), []⟩,
                        ⟨(some 87), (.call (.c (.fn (.func 33) [] [])) [(.t 86)]), some (85, false), []⟩,
                        ⟨(some 88), (.move (.t 11)), some (85, false), []⟩,
                        ⟨(some 89), (.call (.c (.fn (.func 36) [] [])) [(.t 87), (.t 88)]), some (85, false), []⟩,
                        ⟨(some 90), (.un .not (.t 89)), some (85, false), []⟩,
                        ⟨(some 91), (.pick (.t 85) (.c (.bool true)) (.t 90)), none, []⟩])
                     (ACode.cond (.t 91) (ACode.seq (ACode.ops [⟨(some 6), (.move (.c (.bool false))), none, []⟩])
                       (ACode.ret))
                      (ACode.skip)))
                    (ACode.seq (ACode.ops [⟨(some 92), (.load true 2 (.t 12)), none, []⟩,
                        ⟨(some 93), (.move (.t 15)), none, []⟩,
                        ⟨none, (.store 2 (.t 7) (.t 92)), none, []⟩,
                        ⟨(some 8), (.move (.t 93)), none, []⟩])
                     (ACode.seq (ACode.ops [⟨(some 94), (.load true 2 (.t 7)), none, []⟩,
                         ⟨(some 95), (.call (.c (.fn (.func 33) [] [])) [(.t 94)]), none, []⟩,
                         ⟨(some 18), (.move (.t 95)), none, []⟩])
                      (ACode.seq (ACode.seq (ACode.ops [⟨(some 96), (.move (.t 18)), none, []⟩,
                           ⟨(some 97), (.len false (.t 96)), none, []⟩,
                           ⟨(some 98), (.move (.t 8)), none, []⟩,
                           ⟨(some 99), (.len false (.t 98)), none, []⟩,
                           ⟨(some 100), (.bin .neq (.t 97) (.t 99)), none, []⟩])
                        (ACode.cond (.t 100) (ACode.seq (ACode.ops [⟨(some 6), (.move (.c (.bool false))), none, []⟩])
                          (ACode.ret))
                         (ACode.skip)))
                       (ACode.seq (ACode.seq (ACode.ops [⟨(some 101), (.move (.t 8)), none, []⟩,
                            ⟨(some 102), (.len false (.t 101)), none, []⟩,
                            ⟨(some 103), (.move (.c (.int .i64 0))), none, []⟩])
                         (ACode.block 2 (ACode.loop (ACode.seq (ACode.ops [⟨(some 104), (.bin .lss (.t 103) (.t 102)), none, []⟩])
                            (ACode.seq (ACode.cond (.t 104) (ACode.skip)
                              (ACode.exit 2))
                             (ACode.seq (ACode.block 3 (ACode.seq (ACode.ops [⟨(some 105), (.move (.t 103)), none, []⟩,
                                   ⟨(some 106), (.iaddr 2 (.t 101) (.t 103)), none, []⟩,
                                   ⟨(some 107), (.load true 2 (.t 106)), none, []⟩,
                                   ⟨(some 20), (.alloc [(.int .u64 0), (.str [])]), none, []⟩,
                                   ⟨(some 19), (.move (.t 105)), none, []⟩,
                                   ⟨none, (.store 2 (.t 20) (.t 107)), none, []⟩])
                                (ACode.seq (ACode.ops [⟨(some 109), (.load true 2 (.t 7)), none, []⟩,
                                    ⟨(some 110), (.faddr 0 (.t 20)), none, []⟩,
                                    ⟨(some 111), (.load false 1 (.t 110)), none, []⟩,
                                    ⟨(some 112), (.call (.c (.fn (.func 37) [] [])) [(.t 109), (.t 111)]), none, []⟩,
                                    ⟨(some 108), (.move (.t 112)), none, []⟩,
                                    ⟨(some 113), (.extract (.t 108) 0), none, []⟩,
                                    ⟨(some 114), (.extract (.t 108) 1), none, []⟩,
                                    ⟨(some 21), (.move (.t 113)), none, []⟩,
                                    ⟨(some 22), (.move (.t 114)), none, []⟩])
                                 (ACode.seq (ACode.draw [⟨(some 115), (.move (.t 18)), none, []⟩,
                                     ⟨(some 116), (.move (.t 19)), none, [0]⟩,
                                     ⟨(some 117), (.iaddr 1 (.t 115) (.t 116)), none, []⟩,
                                     ⟨(some 118), (.load false 1 (.t 117)), none, []⟩,
                                     ⟨(some 119), (.faddr 0 (.t 20)), none, [0, 1, 2, 3]⟩,
                                     ⟨(some 120), (.load false 1 (.t 119)), none, [0, 1, 2, 3]⟩,
                                     ⟨(some 121), (.bin .neq (.t 118) (.t 120)), none, []⟩,
                                     ⟨(some 122), (.move (.t 121)), none, []⟩,
                                     ⟨(some 123), (.move (.t 22)), some (122, false), []⟩,
                                     ⟨(some 124), (.un .not (.t 123)), some (122, false), []⟩,
                                     ⟨(some 125), (.pick (.t 122) (.c (.bool true)) (.t 124)), none, []⟩,
                                     ⟨(some 126), (.move (.t 125)), none, []⟩,
                                     ⟨(some 127), (.move (.t 21)), some (126, false), []⟩,
                                     ⟨(some 128), (.faddr 1 (.t 20)), some (126, false), [12]⟩,
                                     ⟨(some 129), (.load false 1 (.t 128)), some (126, false), [12]⟩,
                                     ⟨(some 130), (.bin .neq (.t 127) (.t 129)), some (126, false), []⟩,
                                     ⟨(some 131), (.pick (.t 126) (.c (.bool true)) (.t 130)), none, []⟩])
                                  (ACode.cond (.t 131) (ACode.seq (ACode.ops [⟨(some 6), (.move (.c (.bool false))), none, []⟩])
                                    (ACode.ret))
                                   (ACode.skip))))))
                              (ACode.ops [⟨(some 132), (.bin .add (.t 103) (.c (.int .i64 1))), none, []⟩,
                                 ⟨(some 103), (.move (.t 132)), none, []⟩])))))))
                        (ACode.seq (ACode.ops [⟨(some 134), (.load true 2 (.t 7)), none, []⟩,
                            ⟨(some 135), (.call (.c (.fn (.func 38) [] [])) [(.t 134)]), none, []⟩,
                            ⟨(some 133), (.move (.t 135)), none, []⟩,
                            ⟨(some 136), (.extract (.t 133) 0), none, []⟩,
                            ⟨(some 137), (.extract (.t 133) 1), none, []⟩,
                            ⟨(some 23), (.move (.t 136)), none, []⟩,
                            ⟨(some 24), (.move (.t 137)), none, []⟩])
                         (ACode.seq (ACode.ops [⟨(some 138), (.move (.t 23)), none, []⟩,
                             ⟨(some 139), (.move (.t 8)), none, []⟩,
                             ⟨(some 140), (.move (.t 8)), none, []⟩,
                             ⟨(some 141), (.len false (.t 140)), none, []⟩,
                             ⟨(some 142), (.bin .sub (.t 141) (.c (.int .i64 1))), none, []⟩,
                             ⟨(some 143), (.iaddr 2 (.t 139) (.t 142)), none, []⟩,
                             ⟨(some 144), (.faddr 0 (.t 143)), none, []⟩,
                             ⟨(some 145), (.load false 1 (.t 144)), none, []⟩,
                             ⟨(some 146), (.bin .neq (.t 138) (.t 145)), none, []⟩,
                             ⟨(some 147), (.move (.t 146)), none, []⟩,
                             ⟨(some 148), (.move (.t 24)), some (147, false), []⟩,
                             ⟨(some 149), (.move (.t 8)), some (147, false), []⟩,
                             ⟨(some 150), (.move (.t 8)), some (147, false), []⟩,
                             ⟨(some 151), (.len false (.t 150)), some (147, false), []⟩,
                             ⟨(some 152), (.bin .sub (.t 151) (.c (.int .i64 1))), some (147, false), []⟩,
                             ⟨(some 153), (.iaddr 2 (.t 149) (.t 152)), some (147, false), []⟩,
                             ⟨(some 154), (.faddr 1 (.t 153)), some (147, false), []⟩,
                             ⟨(some 155), (.load false 1 (.t 154)), some (147, false), []⟩,
                             ⟨(some 156), (.bin .neq (.t 148) (.t 155)), some (147, false), []⟩,
                             ⟨(some 157), (.pick (.t 147) (.c (.bool true)) (.t 156)), none, []⟩])
                          (ACode.cond (.t 157) (ACode.seq (ACode.ops [⟨(some 6), (.move (.c (.bool false))), none, []⟩])
                            (ACode.ret))
                           (ACode.skip)))))))))))))))
             (ACode.ops [⟨(some 158), (.bin .add (.t 46) (.c (.int .i64 1))), none, []⟩,
                ⟨(some 46), (.move (.t 158)), none, []⟩])))))))
       (ACode.seq (ACode.ops [⟨(some 160), (.load true 2 (.t 7)), none, []⟩,
           ⟨(some 161), (.move (.t 2)), none, []⟩,
           ⟨(some 162), (.call (.c (.fn (.func 37) [] [])) [(.t 160), (.t 161)]), none, []⟩,
           ⟨(some 159), (.move (.t 162)), none, []⟩,
           ⟨(some 163), (.extract (.t 159) 0), none, []⟩,
           ⟨(some 164), (.extract (.t 159) 1), none, []⟩,
           ⟨(some 25), (.move (.t 163)), none, []⟩,
           ⟨(some 26), (.move (.t 164)), none, []⟩])
        (ACode.seq (ACode.ops [⟨(some 165), (.move (.t 8)), none, []⟩,
            ⟨(some 166), (.move (.t 2)), none, []⟩,
            ⟨(some 167), (.call (.c (.fn (.func 39) [] [])) [(.t 165), (.t 166)]), none, []⟩,
            ⟨(some 27), (.move (.t 167)), none, []⟩])
         (ACode.seq (ACode.ops [⟨(some 168), (.move (.t 26)), none, []⟩,
             ⟨(some 169), (.move (.t 27)), none, []⟩,
             ⟨(some 170), (.bin .geq (.t 169) (.c (.int .i64 0))), none, []⟩,
             ⟨(some 171), (.eqB false (.t 168) (.t 170)), none, []⟩,
             ⟨(some 172), (.move (.t 171)), none, []⟩,
             ⟨(some 173), (.move (.t 26)), some (172, true), []⟩,
             ⟨(some 174), (.move (.t 173)), some (172, true), []⟩,
             ⟨(some 175), (.move (.t 25)), some (174, false), []⟩,
             ⟨(some 176), (.bin .eql (.t 175) (.c (.str []))), some (174, false), []⟩,
             ⟨(some 177), (.pick (.t 174) (.c (.bool true)) (.t 176)), some (172, true), []⟩,
             ⟨(some 178), (.pick (.t 172) (.t 177) (.c (.bool false))), none, []⟩,
             ⟨(some 6), (.move (.t 178)), none, []⟩])
          (ACode.ret)))))))))⟩

/-- vagabond/vagabondlaw16.ReceiverFollows -/
def c8 : AFunc := ⟨3, 204, [.tmp 6],
  ACode.seq (ACode.ops [⟨(some 6), (.move (.c (.bool false))), none, []⟩])
  (ACode.seq (ACode.seq (ACode.ops [⟨(some 27), (.call (.c (.fn (.func 30) [] [])) []), none, []⟩,
       ⟨(some 28), (.un .not (.t 27)), none, []⟩])
    (ACode.cond (.t 28) (ACode.seq (ACode.ops [⟨(some 6), (.move (.c (.bool false))), none, []⟩])
      (ACode.ret))
     (ACode.skip)))
   (ACode.seq (ACode.seq (ACode.ops [⟨(some 29), (.move (.t 0)), none, []⟩,
        ⟨(some 30), (.len false (.t 29)), none, []⟩,
        ⟨(some 31), (.bin .gtr (.t 30) (.c (.int .i64 20))), none, []⟩,
        ⟨(some 32), (.move (.t 31)), none, []⟩,
        ⟨(some 33), (.move (.t 1)), some (32, false), []⟩,
        ⟨(some 34), (.len false (.t 33)), some (32, false), []⟩,
        ⟨(some 35), (.bin .gtr (.t 34) (.c (.int .i64 60))), some (32, false), []⟩,
        ⟨(some 36), (.pick (.t 32) (.c (.bool true)) (.t 35)), none, []⟩,
        ⟨(some 37), (.move (.t 36)), none, []⟩,
        ⟨(some 38), (.move (.t 0)), some (37, false), []⟩,
        ⟨(some 39), (.len false (.t 38)), some (37, false), []⟩,
        ⟨(some 40), (.bin .eql (.t 39) (.c (.int .i64 0))), some (37, false), []⟩,
        ⟨(some 41), (.pick (.t 37) (.c (.bool true)) (.t 40)), none, []⟩])
     (ACode.cond (.t 41) (ACode.seq (ACode.ops [⟨(some 6), (.move (.c (.bool true))), none, []⟩])
       (ACode.ret))
      (ACode.skip)))
    (ACode.seq (ACode.ops [⟨(some 42), (.buildSlice [(.str [])] 1 1 [(0, (.c (.str [97])))]), none, []⟩,
        ⟨(some 7), (.move (.t 42)), none, []⟩])
     (ACode.seq (ACode.seq (ACode.ops [⟨(some 43), (.move (.t 0)), none, []⟩,
          ⟨(some 44), (.len false (.t 43)), none, []⟩,
          ⟨(some 45), (.move (.c (.int .i64 0))), none, []⟩])
       (ACode.block 0 (ACode.loop (ACode.seq (ACode.ops [⟨(some 46), (.bin .lss (.t 45) (.t 44)), none, []⟩])
          (ACode.seq (ACode.cond (.t 46) (ACode.skip)
            (ACode.exit 0))
           (ACode.seq (ACode.block 1 (ACode.seq (ACode.ops [⟨(some 47), (.iaddr 1 (.t 43) (.t 45)), none, []⟩,
                 ⟨(some 48), (.load false 1 (.t 47)), none, []⟩,
                 ⟨(some 9), (.move (.t 48)), none, []⟩])
              (ACode.seq (ACode.seq (ACode.ops [⟨(some 49), (.move (.t 9)), none, []⟩,
                   ⟨(some 50), (.len true (.t 49)), none, []⟩,
                   ⟨(some 51), (.bin .gtr (.t 50) (.c (.int .i64 40))), none, []⟩,
                   ⟨(some 52), (.move (.t 51)), none, []⟩,
                   ⟨(some 53), (.move (.t 9)), some (52, false), []⟩,
                   ⟨(some 54), (.len true (.t 53)), some (52, false), []⟩,
                   ⟨(some 55), (.bin .gtr (.t 54) (.c (.int .i64 0))), some (52, false), []⟩,
                   ⟨(some 56), (.move (.t 55)), some (52, false), []⟩,
                   ⟨(some 57), (.move (.t 9)), some (56, true), []⟩,
                   ⟨(some 58), (.idxStr (.t 57) (.c (.int .i64 0))), some (56, true), []⟩,
                   ⟨(some 59), (.bin .eql (.t 58) (.c (.int .u8 33))), some (56, true), []⟩,
                   ⟨(some 60), (.pick (.t 56) (.t 59) (.c (.bool false))), some (52, false), []⟩,
                   ⟨(some 61), (.pick (.t 52) (.c (.bool true)) (.t 60)), none, []⟩])
                (ACode.cond (.t 61) (ACode.seq (ACode.ops [⟨(some 6), (.move (.c (.bool true))), none, []⟩])
                  (ACode.ret))
                 (ACode.skip)))
               (ACode.ops [⟨(some 62), (.move (.t 7)), none, []⟩,
                  ⟨(some 63), (.move (.t 7)), none, []⟩,
                  ⟨(some 64), (.move (.t 7)), none, []⟩,
                  ⟨(some 65), (.len false (.t 64)), none, []⟩,
                  ⟨(some 66), (.bin .sub (.t 65) (.c (.int .i64 1))), none, []⟩,
                  ⟨(some 67), (.iaddr 1 (.t 63) (.t 66)), none, []⟩,
                  ⟨(some 68), (.load false 1 (.t 67)), none, []⟩,
                  ⟨(some 69), (.move (.t 9)), none, []⟩,
                  ⟨(some 70), (.bin .add (.t 68) (.t 69)), none, []⟩,
                  ⟨(some 71), (.buildSlice [(.str [])] 1 1 [(0, (.t 70))]), none, []⟩,
                  ⟨(some 72), (.append 1 16 (.t 62) (.t 71)), none, []⟩,
                  ⟨(some 7), (.move (.t 72)), none, []⟩]))))
            (ACode.ops [⟨(some 73), (.bin .add (.t 45) (.c (.int .i64 1))), none, []⟩,
               ⟨(some 45), (.move (.t 73)), none, []⟩])))))))
      (ACode.seq (ACode.ops [⟨(some 74), (.call (.c (.fn (.func 32) [] [])) []), none, []⟩,
          ⟨(some 75), (.call (.c (.fn (.func 31) [] [])) [(.c (.str [97])), (.t 74)]), none, []⟩,
          ⟨(some 10), (.alloc [.nilfn, .nils]), none, []⟩,
          ⟨none, (.store 2 (.t 10) (.t 75)), none, []⟩])
       (ACode.seq (ACode.ops [⟨(some 11), (.move (.c (.int .u64 0))), none, []⟩])
        (ACode.seq (ACode.seq (ACode.ops [⟨(some 76), (.move (.t 1)), none, []⟩,
             ⟨(some 77), (.len false (.t 76)), none, []⟩,
             ⟨(some 78), (.move (.c (.int .i64 0))), none, []⟩])
          (ACode.block 2 (ACode.loop (ACode.seq (ACode.ops [⟨(some 79), (.bin .lss (.t 78) (.t 77)), none, []⟩])
             (ACode.seq (ACode.cond (.t 79) (ACode.skip)
               (ACode.exit 2))
              (ACode.seq (ACode.block 3 (ACode.seq (ACode.ops [⟨(some 80), (.move (.t 78)), none, []⟩,
                    ⟨(some 81), (.iaddr 1 (.t 76) (.t 78)), none, []⟩,
                    ⟨(some 82), (.load false 1 (.t 81)), none, []⟩,
                    ⟨(some 12), (.move (.t 80)), none, []⟩,
                    ⟨(some 13), (.move (.t 82)), none, []⟩])
                 (ACode.seq (ACode.ops [⟨(some 83), (.move (.t 0)), none, []⟩,
                     ⟨(some 84), (.len false (.t 83)), none, []⟩,
                     ⟨(some 85), (.conv (.int .u64) (.t 84)), none, []⟩,
                     ⟨(some 14), (.move (.t 85)), none, []⟩])
                  (ACode.seq (ACode.ops [⟨(some 86), (.move (.t 11)), none, []⟩,
                      ⟨(some 87), (.bin .add (.t 86) (.c (.int .u64 1))), none, []⟩,
                      ⟨(some 88), (.move (.t 13)), none, []⟩,
                      ⟨(some 89), (.conv (.int .u64) (.t 88)), none, []⟩,
                      ⟨(some 90), (.move (.t 14)), none, []⟩,
                      ⟨(some 91), (.move (.t 11)), none, []⟩,
                      ⟨(some 92), (.bin .sub (.t 90) (.t 91)), none, []⟩,
                      ⟨(some 93), (.maxI [(.t 92), (.c (.int .u64 1))]), none, []⟩,
                      ⟨(some 94), (.minI [(.t 93), (.c (.int .u64 7))]), none, []⟩,
                      ⟨(some 95), (.bin .rem (.t 89) (.t 94)), none, []⟩,
                      ⟨(some 96), (.bin .add (.t 87) (.t 95)), none, []⟩,
                      ⟨(some 15), (.move (.t 96)), none, []⟩])
                   (ACode.seq (ACode.seq (ACode.ops [⟨(some 97), (.move (.t 15)), none, []⟩,
                        ⟨(some 98), (.move (.t 14)), none, []⟩,
                        ⟨(some 99), (.bin .gtr (.t 97) (.t 98)), none, []⟩])
                     (ACode.cond (.t 99) (ACode.exit 2)
                      (ACode.skip)))
                    (ACode.seq (ACode.ops [⟨(some 101), (.load true 2 (.t 10)), none, []⟩,
                        ⟨(some 102), (.call (.c (.fn (.func 38) [] [])) [(.t 101)]), none, []⟩,
                        ⟨(some 100), (.move (.t 102)), none, []⟩,
                        ⟨(some 103), (.extract (.t 100) 0), none, []⟩,
                        ⟨(some 104), (.extract (.t 100) 1), none, []⟩,
                        ⟨(some 16), (.move (.t 103)), none, []⟩,
                        ⟨(some 17), (.move (.t 104)), none, []⟩])
                     (ACode.seq (ACode.draw [⟨(some 106), (.load true 2 (.t 10)), none, []⟩,
                         ⟨(some 107), (.move (.t 11)), none, [0]⟩,
                         ⟨(some 108), (.move (.t 15)), none, [0, 1]⟩,
                         ⟨(some 109), (.move (.t 11)), none, [0, 1, 2]⟩,
                         ⟨(some 110), (.move (.t 7)), none, [0, 1, 2, 3]⟩,
                         ⟨(some 111), (.move (.t 15)), none, [0, 1, 2, 3, 4]⟩,
                         ⟨(some 112), (.iaddr 1 (.t 110) (.t 111)), none, [0, 1, 2, 3]⟩,
                         ⟨(some 113), (.load false 1 (.t 112)), none, [0, 1, 2, 3]⟩,
                         ⟨(some 114), (.move (.t 7)), none, [0, 1, 2, 3, 4, 5, 6, 7]⟩,
                         ⟨(some 115), (.move (.t 11)), none, [0, 1, 2, 3, 4, 5, 6, 7, 8]⟩,
                         ⟨(some 116), (.iaddr 1 (.t 114) (.t 115)), none, [0, 1, 2, 3, 4, 5, 6, 7]⟩,
                         ⟨(some 117), (.load false 1 (.t 116)), none, [0, 1, 2, 3, 4, 5, 6, 7]⟩,
                         ⟨(some 118), (.len true (.t 117)), none, [0, 1, 2, 3, 4, 5, 6, 7]⟩,
                         ⟨(some 119), (.sliceStr (.t 113) (some (.t 118)) none), none, [0, 1, 2, 3]⟩,
                         ⟨(some 120), (.build [(.int .u64 0), (.int .u64 0), (.int .u64 0), (.int .u64 0), (.str [])] [((0, 1), (.t 107)), ((1, 1), (.t 108)), ((3, 1), (.t 109)), ((4, 1), (.t 119))]), none, [0]⟩,
                         ⟨(some 121), (.call (.c (.fn (.func 34) [] [])) [(.t 106), (.t 120)]), none, []⟩,
                         ⟨(some 105), (.move (.t 121)), none, []⟩,
                         ⟨(some 122), (.extract (.t 105) 0), none, []⟩,
                         ⟨(some 123), (.extract (.t 105) 1), none, [17]⟩,
                         ⟨(some 124), (.extract (.t 105) 2), none, [17, 18]⟩,
                         ⟨none, (.store 2 (.t 10) (.t 122)), none, [18, 19]⟩])
                      (ACode.seq (ACode.ops [⟨(some 126), (.load true 2 (.t 10)), none, []⟩,
                          ⟨(some 127), (.call (.c (.fn (.func 38) [] [])) [(.t 126)]), none, []⟩,
                          ⟨(some 125), (.move (.t 127)), none, []⟩,
                          ⟨(some 128), (.extract (.t 125) 0), none, []⟩,
                          ⟨(some 129), (.extract (.t 125) 1), none, []⟩,
                          ⟨(some 18), (.move (.t 128)), none, []⟩,
                          ⟨(some 19), (.move (.t 129)), none, []⟩])
                       (ACode.seq (ACode.seq (ACode.ops [⟨(some 130), (.move (.t 18)), none, []⟩,
                            ⟨(some 131), (.move (.t 16)), none, []⟩,
                            ⟨(some 132), (.bin .lss (.t 130) (.t 131)), none, []⟩])
                         (ACode.cond (.t 132) (ACode.seq (ACode.ops [⟨(some 6), (.move (.c (.bool false))), none, []⟩])
                           (ACode.ret))
                          (ACode.skip)))
                        (ACode.seq (ACode.seq (ACode.ops [⟨(some 133), (.load true 2 (.t 10)), none, []⟩,
                             ⟨(some 134), (.call (.c (.fn (.func 33) [] [])) [(.t 133)]), none, []⟩,
                             ⟨(some 135), (.len false (.t 134)), none, []⟩,
                             ⟨(some 136), (.move (.c (.int .i64 0))), none, []⟩])
                          (ACode.block 4 (ACode.loop (ACode.seq (ACode.ops [⟨(some 137), (.bin .lss (.t 136) (.t 135)), none, []⟩])
                             (ACode.seq (ACode.cond (.t 137) (ACode.skip)
                               (ACode.exit 4))
                              (ACode.seq (ACode.block 5 (ACode.seq (ACode.ops [⟨(some 138), (.iaddr 1 (.t 134) (.t 136)), none, []⟩,
                                    ⟨(some 139), (.load false 1 (.t 138)), none, []⟩,
                                    ⟨(some 21), (.move (.t 139)), none, []⟩])
                                 (ACode.seq (ACode.ops [⟨(some 141), (.load true 2 (.t 10)), none, []⟩,
                                     ⟨(some 142), (.move (.t 21)), none, []⟩,
                                     ⟨(some 143), (.call (.c (.fn (.func 37) [] [])) [(.t 141), (.t 142)]), none, []⟩,
                                     ⟨(some 140), (.move (.t 143)), none, []⟩,
                                     ⟨(some 144), (.extract (.t 140) 0), none, []⟩,
                                     ⟨(some 145), (.extract (.t 140) 1), none, []⟩,
                                     ⟨(some 22), (.move (.t 144)), none, []⟩,
                                     ⟨(some 23), (.move (.t 145)), none, []⟩])
                                  (ACode.seq (ACode.ops [⟨(some 146), (.move (.t 23)), none, []⟩,
                                      ⟨(some 147), (.un .not (.t 146)), none, []⟩,
                                      ⟨(some 148), (.move (.t 147)), none, []⟩,
                                      ⟨(some 149), (.move (.t 22)), some (148, false), []⟩,
                                      ⟨(some 150), (.move (.t 7)), some (148, false), []⟩,
                                      ⟨(some 151), (.move (.t 21)), some (148, false), []⟩,
                                      ⟨(some 152), (.iaddr 1 (.t 150) (.t 151)), some (148, false), []⟩,
                                      ⟨(some 153), (.load false 1 (.t 152)), some (148, false), []⟩,
                                      ⟨(some 154), (.bin .neq (.t 149) (.t 153)), some (148, false), []⟩,
                                      ⟨(some 155), (.pick (.t 148) (.c (.bool true)) (.t 154)), none, []⟩])
                                   (ACode.cond (.t 155) (ACode.seq (ACode.ops [⟨(some 6), (.move (.c (.bool false))), none, []⟩])
                                     (ACode.ret))
                                    (ACode.skip))))))
                               (ACode.ops [⟨(some 156), (.bin .add (.t 136) (.c (.int .i64 1))), none, []⟩,
                                  ⟨(some 136), (.move (.t 156)), none, []⟩])))))))
                         (ACode.seq (ACode.ops [⟨(some 157), (.move (.t 2)), none, []⟩,
                             ⟨(some 158), (.move (.t 12)), none, []⟩,
                             ⟨(some 159), (.bin .rem (.t 158) (.c (.int .i64 32))), none, []⟩,
                             ⟨(some 160), (.bin .shr (.t 157) (.t 159)), none, []⟩,
                             ⟨(some 161), (.bin .and (.t 160) (.c (.int .u32 1))), none, []⟩,
                             ⟨(some 162), (.bin .eql (.t 161) (.c (.int .u32 1))), none, []⟩])
                          (ACode.cond (.t 162) (ACode.ops [⟨(some 163), (.move (.t 18)), none, []⟩,
                              ⟨(some 11), (.move (.t 163)), none, []⟩])
                           (ACode.skip)))))))))))))
               (ACode.ops [⟨(some 164), (.bin .add (.t 78) (.c (.int .i64 1))), none, []⟩,
                  ⟨(some 78), (.move (.t 164)), none, []⟩])))))))
         (ACode.seq (ACode.ops [⟨(some 165), (.move (.t 0)), none, []⟩,
             ⟨(some 166), (.len false (.t 165)), none, []⟩,
             ⟨(some 167), (.conv (.int .u64) (.t 166)), none, []⟩,
             ⟨(some 24), (.move (.t 167)), none, []⟩])
          (ACode.seq (ACode.draw [⟨(some 169), (.load true 2 (.t 10)), none, []⟩,
              ⟨(some 170), (.move (.t 11)), none, [0]⟩,
              ⟨(some 171), (.move (.t 24)), none, [0, 1]⟩,
              ⟨(some 172), (.move (.t 11)), none, [0, 1, 2]⟩,
              ⟨(some 173), (.move (.t 7)), none, [0, 1, 2, 3]⟩,
              ⟨(some 174), (.move (.t 24)), none, [0, 1, 2, 3, 4]⟩,
              ⟨(some 175), (.iaddr 1 (.t 173) (.t 174)), none, [0, 1, 2, 3]⟩,
              ⟨(some 176), (.load false 1 (.t 175)), none, [0, 1, 2, 3]⟩,
              ⟨(some 177), (.move (.t 7)), none, [0, 1, 2, 3, 4, 5, 6, 7]⟩,
              ⟨(some 178), (.move (.t 11)), none, [0, 1, 2, 3, 4, 5, 6, 7, 8]⟩,
              ⟨(some 179), (.iaddr 1 (.t 177) (.t 178)), none, [0, 1, 2, 3, 4, 5, 6, 7]⟩,
              ⟨(some 180), (.load false 1 (.t 179)), none, [0, 1, 2, 3, 4, 5, 6, 7]⟩,
              ⟨(some 181), (.len true (.t 180)), none, [0, 1, 2, 3, 4, 5, 6, 7]⟩,
              ⟨(some 182), (.sliceStr (.t 176) (some (.t 181)) none), none, [0, 1, 2, 3]⟩,
              ⟨(some 183), (.build [(.int .u64 0), (.int .u64 0), (.int .u64 0), (.int .u64 0), (.str [])] [((0, 1), (.t 170)), ((1, 1), (.t 171)), ((3, 1), (.t 172)), ((4, 1), (.t 182))]), none, [0]⟩,
              ⟨(some 184), (.call (.c (.fn (.func 34) [] [])) [(.t 169), (.t 183)]), none, []⟩,
              ⟨(some 168), (.move (.t 184)), none, []⟩,
              ⟨(some 185), (.extract (.t 168) 0), none, []⟩,
              ⟨(some 186), (.extract (.t 168) 1), none, [17]⟩,
              ⟨(some 187), (.extract (.t 168) 2), none, [17, 18]⟩,
              ⟨none, (.store 2 (.t 10) (.t 185)), none, [18, 19]⟩])
           (ACode.seq (ACode.ops [⟨(some 189), (.load true 2 (.t 10)), none, []⟩,
               ⟨(some 190), (.call (.c (.fn (.func 38) [] [])) [(.t 189)]), none, []⟩,
               ⟨(some 188), (.move (.t 190)), none, []⟩,
               ⟨(some 191), (.extract (.t 188) 0), none, []⟩,
               ⟨(some 192), (.extract (.t 188) 1), none, []⟩,
               ⟨(some 25), (.move (.t 191)), none, []⟩,
               ⟨(some 26), (.move (.t 192)), none, []⟩])
            (ACode.seq (ACode.ops [⟨(some 193), (.move (.t 25)), none, []⟩,
                ⟨(some 194), (.move (.t 24)), none, []⟩,
                ⟨(some 195), (.bin .eql (.t 193) (.t 194)), none, []⟩,
                ⟨(some 196), (.move (.t 195)), none, []⟩,
                ⟨(some 197), (.move (.t 26)), some (196, true), []⟩,
                ⟨(some 198), (.move (.t 7)), some (196, true), []⟩,
                ⟨(some 199), (.move (.t 24)), some (196, true), []⟩,
                ⟨(some 200), (.iaddr 1 (.t 198) (.t 199)), some (196, true), []⟩,
                ⟨(some 201), (.load false 1 (.t 200)), some (196, true), []⟩,
                ⟨(some 202), (.bin .eql (.t 197) (.t 201)), some (196, true), []⟩,
                ⟨(some 203), (.pick (.t 196) (.t 202) (.c (.bool false))), none, []⟩,
                ⟨(some 6), (.move (.t 203)), none, []⟩])
             (ACode.ret))))))))))))⟩

/-- vagabond/vagabondlaw16.ReceiverKeeps -/
def c9 : AFunc := ⟨2, 87, [.tmp 4],
  ACode.seq (ACode.ops [⟨(some 4), (.move (.c (.bool false))), none, []⟩])
  (ACode.seq (ACode.seq (ACode.ops [⟨(some 15), (.call (.c (.fn (.func 30) [] [])) []), none, []⟩,
       ⟨(some 16), (.un .not (.t 15)), none, []⟩])
    (ACode.cond (.t 16) (ACode.seq (ACode.ops [⟨(some 4), (.move (.c (.bool false))), none, []⟩])
      (ACode.ret))
     (ACode.skip)))
   (ACode.seq (ACode.ops [⟨(some 17), (.call (.c (.fn (.func 32) [] [])) []), none, []⟩,
       ⟨(some 18), (.call (.c (.fn (.func 31) [] [])) [(.c (.str [97])), (.t 17)]), none, []⟩,
       ⟨(some 5), (.alloc [.nilfn, .nils]), none, []⟩,
       ⟨none, (.store 2 (.t 5) (.t 18)), none, []⟩])
    (ACode.seq (ACode.ops [⟨(some 19), (.move (.t 0)), none, []⟩,
        ⟨(some 20), (.bin .rem (.t 19) (.c (.int .u8 7))), none, []⟩,
        ⟨(some 21), (.conv (.int .u64) (.t 20)), none, []⟩,
        ⟨(some 6), (.move (.t 21)), none, []⟩])
     (ACode.seq (ACode.seq (ACode.ops [⟨(some 22), (.move (.t 6)), none, []⟩,
          ⟨(some 23), (.move (.c (.int .u64 0))), none, []⟩])
       (ACode.block 0 (ACode.loop (ACode.seq (ACode.ops [⟨(some 24), (.bin .lss (.t 23) (.t 22)), none, []⟩])
          (ACode.seq (ACode.cond (.t 24) (ACode.skip)
            (ACode.exit 0))
           (ACode.seq (ACode.block 1 (ACode.seq (ACode.ops [⟨(some 25), (.move (.t 23)), none, []⟩,
                 ⟨(some 7), (.move (.t 25)), none, []⟩])
              (ACode.seq (ACode.ops [⟨(some 8), (.move (.c (.int .i64 0))), none, []⟩])
               (ACode.seq (ACode.ops [⟨(some 27), (.load true 2 (.t 5)), none, []⟩,
                   ⟨(some 28), (.move (.t 7)), none, []⟩,
                   ⟨(some 29), (.move (.t 7)), none, []⟩,
                   ⟨(some 30), (.bin .add (.t 29) (.c (.int .u64 1))), none, []⟩,
                   ⟨(some 31), (.build [(.int .u64 0), (.int .u64 0), (.int .u64 0), (.int .u64 0), (.str [])] [((0, 1), (.t 28)), ((1, 1), (.t 30)), ((4, 1), (.c (.str [98])))]), none, []⟩,
                   ⟨(some 32), (.call (.c (.fn (.func 34) [] [])) [(.t 27), (.t 31)]), none, []⟩,
                   ⟨(some 26), (.move (.t 32)), none, []⟩,
                   ⟨(some 33), (.extract (.t 26) 0), none, []⟩,
                   ⟨(some 34), (.extract (.t 26) 1), none, []⟩,
                   ⟨(some 35), (.extract (.t 26) 2), none, []⟩,
                   ⟨none, (.store 2 (.t 5) (.t 33)), none, []⟩,
                   ⟨(some 8), (.move (.t 35)), none, []⟩])
                (ACode.seq (ACode.ops [⟨(some 36), (.move (.t 8)), none, []⟩,
                    ⟨(some 37), (.bin .neq (.t 36) (.c (.int .i64 0))), none, []⟩])
                 (ACode.cond (.t 37) (ACode.seq (ACode.ops [⟨(some 4), (.move (.c (.bool false))), none, []⟩])
                   (ACode.ret))
                  (ACode.skip)))))))
            (ACode.ops [⟨(some 38), (.bin .add (.t 23) (.c (.int .u64 1))), none, []⟩,
               ⟨(some 23), (.move (.t 38)), none, []⟩])))))))
      (ACode.seq (ACode.ops [⟨(some 40), (.load true 2 (.t 5)), none, []⟩,
          ⟨(some 41), (.move (.t 6)), none, []⟩,
          ⟨(some 42), (.move (.t 6)), none, []⟩,
          ⟨(some 43), (.bin .add (.t 42) (.c (.int .u64 1))), none, []⟩,
          ⟨(some 44), (.move (.t 1)), none, []⟩,
          ⟨(some 45), (.build [(.int .u64 0), (.int .u64 0), (.int .u64 0), (.int .u64 0), (.str [])] [((0, 1), (.t 41)), ((1, 1), (.t 43)), ((3, 1), (.t 44)), ((4, 1), (.c (.str [99])))]), none, []⟩,
          ⟨(some 46), (.call (.c (.fn (.func 34) [] [])) [(.t 40), (.t 45)]), none, []⟩,
          ⟨(some 39), (.move (.t 46)), none, []⟩,
          ⟨(some 47), (.extract (.t 39) 0), none, []⟩,
          ⟨(some 48), (.extract (.t 39) 1), none, []⟩,
          ⟨(some 49), (.extract (.t 39) 2), none, []⟩,
          ⟨(some 9), (.alloc [.nilfn, .nils]), none, []⟩,
          ⟨none, (.store 2 (.t 9) (.t 47)), none, []⟩,
          ⟨(some 10), (.move (.t 48)), none, []⟩,
          ⟨(some 11), (.move (.t 49)), none, []⟩])
       (ACode.seq (ACode.seq (ACode.ops [⟨(some 50), (.move (.t 6)), none, []⟩,
            ⟨(some 51), (.bin .add (.t 50) (.c (.int .u64 2))), none, []⟩,
            ⟨(some 52), (.move (.c (.int .u64 0))), none, []⟩])
         (ACode.block 2 (ACode.loop (ACode.seq (ACode.ops [⟨(some 53), (.bin .lss (.t 52) (.t 51)), none, []⟩])
            (ACode.seq (ACode.cond (.t 53) (ACode.skip)
              (ACode.exit 2))
             (ACode.seq (ACode.block 3 (ACode.seq (ACode.ops [⟨(some 54), (.move (.t 52)), none, []⟩,
                   ⟨(some 12), (.move (.t 54)), none, []⟩])
                (ACode.seq (ACode.ops [⟨(some 56), (.load true 2 (.t 9)), none, []⟩,
                    ⟨(some 57), (.move (.t 12)), none, []⟩,
                    ⟨(some 58), (.call (.c (.fn (.func 37) [] [])) [(.t 56), (.t 57)]), none, []⟩,
                    ⟨(some 55), (.move (.t 58)), none, []⟩,
                    ⟨(some 59), (.extract (.t 55) 0), none, []⟩,
                    ⟨(some 60), (.extract (.t 55) 1), none, []⟩,
                    ⟨(some 13), (.move (.t 59)), none, []⟩,
                    ⟨(some 14), (.move (.t 60)), none, []⟩])
                 (ACode.seq (ACode.ops [⟨(some 61), (.move (.t 14)), none, []⟩,
                     ⟨(some 62), (.move (.t 12)), none, []⟩,
                     ⟨(some 63), (.move (.t 1)), none, []⟩,
                     ⟨(some 64), (.bin .geq (.t 62) (.t 63)), none, []⟩,
                     ⟨(some 65), (.move (.t 64)), none, []⟩,
                     ⟨(some 66), (.move (.t 12)), some (65, false), []⟩,
                     ⟨(some 67), (.move (.t 6)), some (65, false), []⟩,
                     ⟨(some 68), (.bin .add (.t 67) (.c (.int .u64 1))), some (65, false), []⟩,
                     ⟨(some 69), (.bin .eql (.t 66) (.t 68)), some (65, false), []⟩,
                     ⟨(some 70), (.pick (.t 65) (.c (.bool true)) (.t 69)), none, []⟩,
                     ⟨(some 71), (.eqB true (.t 61) (.t 70)), none, []⟩])
                  (ACode.cond (.t 71) (ACode.seq (ACode.ops [⟨(some 4), (.move (.c (.bool false))), none, []⟩])
                    (ACode.ret))
                   (ACode.skip))))))
              (ACode.ops [⟨(some 72), (.bin .add (.t 52) (.c (.int .u64 1))), none, []⟩,
                 ⟨(some 52), (.move (.t 72)), none, []⟩])))))))
        (ACode.seq (ACode.ops [⟨(some 73), (.move (.t 11)), none, []⟩,
            ⟨(some 74), (.bin .eql (.t 73) (.c (.int .i64 0))), none, []⟩,
            ⟨(some 75), (.move (.t 74)), none, []⟩,
            ⟨(some 76), (.move (.t 10)), some (75, true), []⟩,
            ⟨(some 77), (.pick (.t 75) (.t 76) (.c (.bool false))), none, []⟩,
            ⟨(some 78), (.move (.t 77)), none, []⟩,
            ⟨(some 79), (.load true 2 (.t 5)), some (78, true), []⟩,
            ⟨(some 80), (.call (.c (.fn (.func 33) [] [])) [(.t 79)]), some (78, true), []⟩,
            ⟨(some 81), (.len false (.t 80)), some (78, true), []⟩,
            ⟨(some 82), (.move (.t 6)), some (78, true), []⟩,
            ⟨(some 83), (.conv (.int .i64) (.t 82)), some (78, true), []⟩,
            ⟨(some 84), (.bin .add (.t 83) (.c (.int .i64 1))), some (78, true), []⟩,
            ⟨(some 85), (.bin .eql (.t 81) (.t 84)), some (78, true), []⟩,
            ⟨(some 86), (.pick (.t 78) (.t 85) (.c (.bool false))), none, []⟩,
            ⟨(some 4), (.move (.t 86)), none, []⟩])
         (ACode.ret))))))))⟩

/-- vagabond/vagabondlaw16.ReceiverTwice -/
def c10 : AFunc := ⟨2, 101, [.tmp 4],
  ACode.seq (ACode.ops [⟨(some 4), (.move (.c (.bool false))), none, []⟩])
  (ACode.seq (ACode.seq (ACode.ops [⟨(some 18), (.call (.c (.fn (.func 30) [] [])) []), none, []⟩,
       ⟨(some 19), (.un .not (.t 18)), none, []⟩])
    (ACode.cond (.t 19) (ACode.seq (ACode.ops [⟨(some 4), (.move (.c (.bool false))), none, []⟩])
      (ACode.ret))
     (ACode.skip)))
   (ACode.seq (ACode.seq (ACode.ops [⟨(some 20), (.move (.t 1)), none, []⟩,
        ⟨(some 21), (.len false (.t 20)), none, []⟩,
        ⟨(some 22), (.bin .gtr (.t 21) (.c (.int .i64 40))), none, []⟩,
        ⟨(some 23), (.move (.t 22)), none, []⟩,
        ⟨(some 24), (.move (.t 0)), some (23, false), []⟩,
        ⟨(some 25), (.len true (.t 24)), some (23, false), []⟩,
        ⟨(some 26), (.bin .gtr (.t 25) (.c (.int .i64 60))), some (23, false), []⟩,
        ⟨(some 27), (.pick (.t 23) (.c (.bool true)) (.t 26)), none, []⟩])
     (ACode.cond (.t 27) (ACode.seq (ACode.ops [⟨(some 4), (.move (.c (.bool true))), none, []⟩])
       (ACode.ret))
      (ACode.skip)))
    (ACode.seq (ACode.ops [⟨(some 28), (.move (.t 0)), none, []⟩,
        ⟨(some 29), (.call (.c (.fn (.func 32) [] [])) []), none, []⟩,
        ⟨(some 30), (.call (.c (.fn (.func 31) [] [])) [(.t 28), (.t 29)]), none, []⟩,
        ⟨(some 5), (.alloc [.nilfn, .nils]), none, []⟩,
        ⟨none, (.store 2 (.t 5) (.t 30)), none, []⟩])
     (ACode.seq (ACode.seq (ACode.ops [⟨(some 31), (.move (.t 1)), none, []⟩,
          ⟨(some 32), (.len false (.t 31)), none, []⟩,
          ⟨(some 33), (.move (.c (.int .i64 0))), none, []⟩])
       (ACode.block 0 (ACode.loop (ACode.seq (ACode.ops [⟨(some 34), (.bin .lss (.t 33) (.t 32)), none, []⟩])
          (ACode.seq (ACode.cond (.t 34) (ACode.skip)
            (ACode.exit 0))
           (ACode.seq (ACode.block 1 (ACode.seq (ACode.ops [⟨(some 35), (.iaddr 5 (.t 31) (.t 33)), none, []⟩,
                 ⟨(some 36), (.load true 5 (.t 35)), none, []⟩,
                 ⟨(some 7), (.alloc [(.int .u64 0), (.int .u64 0), (.int .u64 0), (.int .u64 0), (.str [])]), none, []⟩,
                 ⟨none, (.store 5 (.t 7) (.t 36)), none, []⟩])
              (ACode.seq (ACode.seq (ACode.ops [⟨(some 37), (.faddr 4 (.t 7)), none, []⟩,
                   ⟨(some 38), (.load false 1 (.t 37)), none, []⟩,
                   ⟨(some 39), (.len true (.t 38)), none, []⟩,
                   ⟨(some 40), (.bin .gtr (.t 39) (.c (.int .i64 60))), none, []⟩])
                (ACode.cond (.t 40) (ACode.seq (ACode.ops [⟨(some 4), (.move (.c (.bool true))), none, []⟩])
                  (ACode.ret))
                 (ACode.skip)))
               (ACode.seq (ACode.ops [⟨(some 42), (.load true 2 (.t 5)), none, []⟩,
                   ⟨(some 43), (.load true 5 (.t 7)), none, []⟩,
                   ⟨(some 44), (.call (.c (.fn (.func 34) [] [])) [(.t 42), (.t 43)]), none, []⟩,
                   ⟨(some 41), (.move (.t 44)), none, []⟩,
                   ⟨(some 45), (.extract (.t 41) 0), none, []⟩,
                   ⟨(some 46), (.extract (.t 41) 1), none, []⟩,
                   ⟨(some 47), (.extract (.t 41) 2), none, []⟩,
                   ⟨(some 8), (.alloc [.nilfn, .nils]), none, []⟩,
                   ⟨none, (.store 2 (.t 8) (.t 45)), none, []⟩,
                   ⟨(some 9), (.move (.t 46)), none, []⟩,
                   ⟨(some 10), (.move (.t 47)), none, []⟩])
                (ACode.seq (ACode.seq (ACode.ops [⟨(some 48), (.move (.t 10)), none, []⟩,
                     ⟨(some 49), (.bin .eql (.t 48) (.c (.int .i64 0))), none, []⟩,
                     ⟨(some 50), (.move (.t 49)), none, []⟩,
                     ⟨(some 51), (.move (.t 9)), some (50, true), []⟩,
                     ⟨(some 52), (.pick (.t 50) (.t 51) (.c (.bool false))), none, []⟩])
                  (ACode.cond (.t 52) (ACode.seq (ACode.ops [⟨(some 54), (.load true 2 (.t 8)), none, []⟩,
                       ⟨(some 55), (.load true 5 (.t 7)), none, []⟩,
                       ⟨(some 56), (.call (.c (.fn (.func 34) [] [])) [(.t 54), (.t 55)]), none, []⟩,
                       ⟨(some 53), (.move (.t 56)), none, []⟩,
                       ⟨(some 57), (.extract (.t 53) 0), none, []⟩,
                       ⟨(some 58), (.extract (.t 53) 1), none, []⟩,
                       ⟨(some 59), (.extract (.t 53) 2), none, []⟩,
                       ⟨(some 11), (.alloc [.nilfn, .nils]), none, []⟩,
                       ⟨none, (.store 2 (.t 11) (.t 57)), none, []⟩,
                       ⟨(some 12), (.move (.t 58)), none, []⟩,
                       ⟨(some 13), (.move (.t 59)), none, []⟩])
                    (ACode.seq (ACode.ops [⟨(some 61), (.load true 2 (.t 11)), none, []⟩,
                        ⟨(some 62), (.call (.c (.fn (.func 38) [] [])) [(.t 61)]), none, []⟩,
                        ⟨(some 60), (.move (.t 62)), none, []⟩,
                        ⟨(some 63), (.extract (.t 60) 0), none, []⟩,
                        ⟨(some 64), (.extract (.t 60) 1), none, []⟩,
                        ⟨(some 14), (.move (.t 63)), none, []⟩,
                        ⟨(some 15), (.move (.t 64)), none, []⟩])
                     (ACode.seq (ACode.ops [⟨(some 66), (.load true 2 (.t 8)), none, []⟩,
                         ⟨(some 67), (.call (.c (.fn (.func 38) [] [])) [(.t 66)]), none, []⟩,
                         ⟨(some 65), (.move (.t 67)), none, []⟩,
                         ⟨(some 68), (.extract (.t 65) 0), none, []⟩,
                         ⟨(some 69), (.extract (.t 65) 1), none, []⟩,
                         ⟨(some 16), (.move (.t 68)), none, []⟩,
                         ⟨(some 17), (.move (.t 69)), none, []⟩])
                      (ACode.seq (ACode.draw [⟨(some 70), (.move (.t 13)), none, []⟩,
                          ⟨(some 71), (.bin .neq (.t 70) (.c (.int .i64 11))), none, []⟩,
                          ⟨(some 72), (.move (.t 71)), none, []⟩,
                          ⟨(some 73), (.move (.t 12)), some (72, false), []⟩,
                          ⟨(some 74), (.pick (.t 72) (.c (.bool true)) (.t 73)), none, []⟩,
                          ⟨(some 75), (.move (.t 74)), none, []⟩,
                          ⟨(some 76), (.move (.t 14)), some (75, false), []⟩,
                          ⟨(some 77), (.move (.t 16)), some (75, false), [6]⟩,
                          ⟨(some 78), (.bin .neq (.t 76) (.t 77)), some (75, false), []⟩,
                          ⟨(some 79), (.pick (.t 75) (.c (.bool true)) (.t 78)), none, []⟩,
                          ⟨(some 80), (.move (.t 79)), none, []⟩,
                          ⟨(some 81), (.move (.t 15)), some (80, false), []⟩,
                          ⟨(some 82), (.move (.t 17)), some (80, false), [11]⟩,
                          ⟨(some 83), (.bin .neq (.t 81) (.t 82)), some (80, false), []⟩,
                          ⟨(some 84), (.pick (.t 80) (.c (.bool true)) (.t 83)), none, []⟩,
                          ⟨(some 85), (.move (.t 84)), none, []⟩,
                          ⟨(some 86), (.move (.t 14)), some (85, false), []⟩,
                          ⟨(some 87), (.faddr 1 (.t 7)), some (85, false), [16]⟩,
                          ⟨(some 88), (.load false 1 (.t 87)), some (85, false), [16]⟩,
                          ⟨(some 89), (.bin .neq (.t 86) (.t 88)), some (85, false), []⟩,
                          ⟨(some 90), (.pick (.t 85) (.c (.bool true)) (.t 89)), none, []⟩,
                          ⟨(some 91), (.move (.t 90)), none, []⟩,
                          ⟨(some 92), (.load true 2 (.t 8)), some (91, false), []⟩,
                          ⟨(some 93), (.call (.c (.fn (.func 33) [] [])) [(.t 92)]), some (91, false), []⟩,
                          ⟨(some 94), (.load true 2 (.t 11)), some (91, false), [22, 23]⟩,
                          ⟨(some 95), (.call (.c (.fn (.func 33) [] [])) [(.t 94)]), some (91, false), []⟩,
                          ⟨(some 96), (.call (.c (.fn (.func 36) [] [])) [(.t 93), (.t 95)]), some (91, false), []⟩,
                          ⟨(some 97), (.un .not (.t 96)), some (91, false), []⟩,
                          ⟨(some 98), (.pick (.t 91) (.c (.bool true)) (.t 97)), none, []⟩])
                       (ACode.cond (.t 98) (ACode.seq (ACode.ops [⟨(some 4), (.move (.c (.bool false))), none, []⟩])
                         (ACode.ret))
                        (ACode.skip))))))
                   (ACode.skip)))
                 (ACode.ops [⟨(some 99), (.load true 2 (.t 8)), none, []⟩,
                    ⟨none, (.store 2 (.t 5) (.t 99)), none, []⟩]))))))
            (ACode.ops [⟨(some 100), (.bin .add (.t 33) (.c (.int .i64 1))), none, []⟩,
               ⟨(some 33), (.move (.t 100)), none, []⟩])))))))
      (ACode.seq (ACode.ops [⟨(some 4), (.move (.c (.bool true))), none, []⟩])
       (ACode.ret))))))⟩

/-- vagabond/vagabondlaw16.awake -/
def c30 : AFunc := ⟨0, 56, [.tmp 0],
  ACode.seq (ACode.ops [⟨(some 0), (.move (.c (.bool false))), none, []⟩])
  (ACode.seq (ACode.ops [⟨(some 10), (.call (.c (.fn (.func 32) [] [])) []), none, []⟩,
      ⟨(some 11), (.call (.c (.fn (.func 31) [] [])) [(.c (.str [97])), (.t 10)]), none, []⟩,
      ⟨(some 1), (.alloc [.nilfn, .nils]), none, []⟩,
      ⟨none, (.store 2 (.t 1) (.t 11)), none, []⟩])
   (ACode.seq (ACode.seq (ACode.ops [⟨(some 12), (.load true 2 (.t 1)), none, []⟩,
        ⟨(some 13), (.call (.c (.fn (.func 33) [] [])) [(.t 12)]), none, []⟩,
        ⟨(some 14), (.len false (.t 13)), none, []⟩,
        ⟨(some 15), (.bin .neq (.t 14) (.c (.int .i64 1))), none, []⟩,
        ⟨(some 16), (.move (.t 15)), none, []⟩,
        ⟨(some 17), (.call (.c (.fn (.func 47) [] [])) []), some (16, false), []⟩,
        ⟨(some 18), (.un .not (.t 17)), some (16, false), []⟩,
        ⟨(some 19), (.pick (.t 16) (.c (.bool true)) (.t 18)), none, []⟩])
     (ACode.cond (.t 19) (ACode.seq (ACode.ops [⟨(some 0), (.move (.c (.bool false))), none, []⟩])
       (ACode.ret))
      (ACode.skip)))
    (ACode.seq (ACode.ops [⟨(some 21), (.load true 2 (.t 1)), none, []⟩,
        ⟨(some 22), (.build [(.int .u64 0), (.int .u64 0), (.int .u64 0), (.int .u64 0), (.str [])] [((0, 1), (.c (.int .u64 5))), ((1, 1), (.c (.int .u64 6)))]), none, []⟩,
        ⟨(some 23), (.call (.c (.fn (.func 34) [] [])) [(.t 21), (.t 22)]), none, []⟩,
        ⟨(some 20), (.move (.t 23)), none, []⟩,
        ⟨(some 24), (.extract (.t 20) 0), none, []⟩,
        ⟨(some 25), (.extract (.t 20) 1), none, []⟩,
        ⟨(some 26), (.extract (.t 20) 2), none, []⟩,
        ⟨(some 2), (.alloc [.nilfn, .nils]), none, []⟩,
        ⟨none, (.store 2 (.t 2) (.t 24)), none, []⟩,
        ⟨(some 3), (.move (.t 25)), none, []⟩,
        ⟨(some 4), (.move (.t 26)), none, []⟩])
     (ACode.seq (ACode.ops [⟨(some 28), (.load true 2 (.t 1)), none, []⟩,
         ⟨(some 29), (.build [(.int .u64 0), (.int .u64 0), (.int .u64 0), (.int .u64 0), (.str [])] [((0, 1), (.c (.int .u64 0))), ((1, 1), (.c (.int .u64 1))), ((4, 1), (.c (.str [98])))]), none, []⟩,
         ⟨(some 30), (.call (.c (.fn (.func 34) [] [])) [(.t 28), (.t 29)]), none, []⟩,
         ⟨(some 27), (.move (.t 30)), none, []⟩,
         ⟨(some 31), (.extract (.t 27) 0), none, []⟩,
         ⟨(some 32), (.extract (.t 27) 1), none, []⟩,
         ⟨(some 33), (.extract (.t 27) 2), none, []⟩,
         ⟨(some 5), (.alloc [.nilfn, .nils]), none, []⟩,
         ⟨none, (.store 2 (.t 5) (.t 31)), none, []⟩,
         ⟨(some 6), (.move (.t 32)), none, []⟩,
         ⟨(some 7), (.move (.t 33)), none, []⟩])
      (ACode.seq (ACode.ops [⟨(some 35), (.load true 2 (.t 5)), none, []⟩,
          ⟨(some 36), (.call (.c (.fn (.func 38) [] [])) [(.t 35)]), none, []⟩,
          ⟨(some 34), (.move (.t 36)), none, []⟩,
          ⟨(some 37), (.extract (.t 34) 0), none, []⟩,
          ⟨(some 38), (.extract (.t 34) 1), none, []⟩,
          ⟨(some 8), (.move (.t 37)), none, []⟩,
          ⟨(some 9), (.move (.t 38)), none, []⟩])
       (ACode.seq (ACode.ops [⟨(some 39), (.move (.t 4)), none, []⟩,
           ⟨(some 40), (.bin .eql (.t 39) (.c (.int .i64 19))), none, []⟩,
           ⟨(some 41), (.move (.t 40)), none, []⟩,
           ⟨(some 42), (.move (.t 6)), some (41, true), []⟩,
           ⟨(some 43), (.pick (.t 41) (.t 42) (.c (.bool false))), none, []⟩,
           ⟨(some 44), (.move (.t 43)), none, []⟩,
           ⟨(some 45), (.move (.t 7)), some (44, true), []⟩,
           ⟨(some 46), (.bin .eql (.t 45) (.c (.int .i64 0))), some (44, true), []⟩,
           ⟨(some 47), (.pick (.t 44) (.t 46) (.c (.bool false))), none, []⟩,
           ⟨(some 48), (.move (.t 47)), none, []⟩,
           ⟨(some 49), (.move (.t 8)), some (48, true), []⟩,
           ⟨(some 50), (.bin .eql (.t 49) (.c (.int .u64 1))), some (48, true), []⟩,
           ⟨(some 51), (.pick (.t 48) (.t 50) (.c (.bool false))), none, []⟩,
           ⟨(some 52), (.move (.t 51)), none, []⟩,
           ⟨(some 53), (.move (.t 9)), some (52, true), []⟩,
           ⟨(some 54), (.bin .eql (.t 53) (.c (.str [97, 98]))), some (52, true), []⟩,
           ⟨(some 55), (.pick (.t 52) (.t 54) (.c (.bool false))), none, []⟩,
           ⟨(some 0), (.move (.t 55)), none, []⟩])
        (ACode.ret)))))))⟩

/-- vagabond/vagabondlaw16.Rule -/
def c32 : AFunc := ⟨0, 2, [.cell 0 true 1],
  ACode.seq (ACode.ops [⟨(some 0), (.alloc [.nilfn]), none, []⟩])
  (ACode.seq (ACode.ops [⟨(some 1), (.build [.nilfn] [((0, 1), (.c (.fn (.func 48) [] [])))]), none, []⟩,
      ⟨none, (.store 1 (.t 0) (.t 1)), none, []⟩])
   (ACode.ret))⟩

/-- vagabond/receiver.New[string] -/
def c31 : AFunc := ⟨2, 10, [.cell 4 true 2],
  ACode.seq (ACode.ops [⟨(some 3), (.box 1 (.t 1)), none, []⟩,
     ⟨(some 4), (.alloc [.nilfn, .nils]), none, []⟩])
  (ACode.seq (ACode.ops [⟨(some 5), (.load true 1 (.t 3)), none, []⟩,
      ⟨(some 6), (.move (.t 0)), none, []⟩,
      ⟨(some 7), (.build [(.int .u64 0), (.str [])] [((1, 1), (.t 6))]), none, []⟩,
      ⟨(some 8), (.buildSlice [(.int .u64 0), (.str [])] 2 1 [(0, (.t 7))]), none, []⟩,
      ⟨(some 9), (.build [.nilfn, .nils] [((0, 1), (.t 5)), ((1, 1), (.t 8))]), none, []⟩,
      ⟨none, (.store 2 (.t 4) (.t 9)), none, []⟩])
   (ACode.ret))⟩

/-- (vagabond/receiver.Receiver[string]).Numbers -/
def c33 : AFunc := ⟨1, 20, [.tmp 2],
  ACode.seq (ACode.ops [⟨(some 1), (.box 2 (.t 0)), none, []⟩,
     ⟨(some 2), (.move (.c .nils)), none, []⟩])
  (ACode.seq (ACode.ops [⟨(some 3), (.move (.c .nils)), none, []⟩])
   (ACode.seq (ACode.seq (ACode.ops [⟨(some 6), (.faddr 1 (.t 1)), none, []⟩,
        ⟨(some 7), (.load false 1 (.t 6)), none, []⟩,
        ⟨(some 8), (.len false (.t 7)), none, []⟩,
        ⟨(some 9), (.move (.c (.int .i64 0))), none, []⟩])
     (ACode.block 0 (ACode.loop (ACode.seq (ACode.ops [⟨(some 10), (.bin .lss (.t 9) (.t 8)), none, []⟩])
        (ACode.seq (ACode.cond (.t 10) (ACode.skip)
          (ACode.exit 0))
         (ACode.seq (ACode.block 1 (ACode.seq (ACode.ops [⟨(some 11), (.iaddr 2 (.t 7) (.t 9)), none, []⟩,
               ⟨(some 12), (.load true 2 (.t 11)), none, []⟩,
               ⟨(some 5), (.alloc [(.int .u64 0), (.str [])]), none, []⟩,
               ⟨none, (.store 2 (.t 5) (.t 12)), none, []⟩])
            (ACode.ops [⟨(some 13), (.move (.t 3)), none, []⟩,
               ⟨(some 14), (.faddr 0 (.t 5)), none, []⟩,
               ⟨(some 15), (.load false 1 (.t 14)), none, []⟩,
               ⟨(some 16), (.buildSlice [(.int .u64 0)] 1 1 [(0, (.t 15))]), none, []⟩,
               ⟨(some 17), (.append 1 8 (.t 13) (.t 16)), none, []⟩,
               ⟨(some 3), (.move (.t 17)), none, []⟩])))
          (ACode.ops [⟨(some 18), (.bin .add (.t 9) (.c (.int .i64 1))), none, []⟩,
             ⟨(some 9), (.move (.t 18)), none, []⟩])))))))
    (ACode.seq (ACode.ops [⟨(some 19), (.move (.t 3)), none, []⟩,
        ⟨(some 2), (.move (.t 19)), none, []⟩])
     (ACode.ret))))⟩

/-- (vagabond/receiver.Receiver[string]).Take -/
def c34 : AFunc := ⟨2, 122, [.cell 4 true 2, .tmp 5, .tmp 6],
  ACode.seq (ACode.ops [⟨(some 2), (.box 2 (.t 0)), none, []⟩,
     ⟨(some 3), (.box 5 (.t 1)), none, []⟩,
     ⟨(some 4), (.alloc [.nilfn, .nils]), none, []⟩,
     ⟨(some 5), (.move (.c (.bool false))), none, []⟩,
     ⟨(some 6), (.move (.c (.int .i64 0))), none, []⟩])
  (ACode.seq (ACode.ops [⟨(some 18), (.load true 2 (.t 2)), none, []⟩,
      ⟨(some 19), (.faddr 1 (.t 3)), none, []⟩,
      ⟨(some 20), (.load false 1 (.t 19)), none, []⟩,
      ⟨(some 21), (.call (.c (.fn (.func 50) [] [])) [(.t 18), (.t 20)]), none, []⟩,
      ⟨(some 17), (.move (.t 21)), none, []⟩,
      ⟨(some 22), (.extract (.t 17) 0), none, []⟩,
      ⟨(some 23), (.extract (.t 17) 1), none, []⟩,
      ⟨(some 7), (.move (.t 22)), none, []⟩,
      ⟨(some 8), (.move (.t 23)), none, []⟩])
   (ACode.seq (ACode.ops [⟨(some 25), (.load true 2 (.t 2)), none, []⟩,
       ⟨(some 26), (.faddr 0 (.t 3)), none, []⟩,
       ⟨(some 27), (.load false 1 (.t 26)), none, []⟩,
       ⟨(some 28), (.call (.c (.fn (.func 37) [] [])) [(.t 25), (.t 27)]), none, []⟩,
       ⟨(some 24), (.move (.t 28)), none, []⟩,
       ⟨(some 29), (.extract (.t 24) 0), none, []⟩,
       ⟨(some 30), (.extract (.t 24) 1), none, []⟩,
       ⟨(some 9), (.move (.t 29)), none, []⟩,
       ⟨(some 10), (.move (.t 30)), none, []⟩])
    (ACode.seq (ACode.block 0 (ACode.seq (ACode.ops [⟨(some 32), (.move (.t 8)), none, []⟩,
          ⟨(some 31), (.move (.t 32)), none, []⟩])
       (ACode.cond (.t 31) (ACode.seq (ACode.ops [⟨(some 33), (.load true 2 (.t 2)), none, []⟩,
            ⟨none, (.store 2 (.t 4) (.t 33)), none, []⟩,
            ⟨(some 5), (.move (.c (.bool false))), none, []⟩,
            ⟨(some 6), (.move (.c (.int .i64 11))), none, []⟩])
         (ACode.ret))
        (ACode.seq (ACode.draw [⟨(some 35), (.faddr 1 (.t 3)), none, []⟩,
            ⟨(some 36), (.load false 1 (.t 35)), none, []⟩,
            ⟨(some 37), (.faddr 1 (.t 2)), none, [0, 1]⟩,
            ⟨(some 38), (.load false 1 (.t 37)), none, [0, 1]⟩,
            ⟨(some 39), (.iaddr 2 (.t 38) (.c (.int .i64 0))), none, [0, 1]⟩,
            ⟨(some 40), (.faddr 0 (.t 39)), none, [0, 1]⟩,
            ⟨(some 41), (.load false 1 (.t 40)), none, [0, 1]⟩,
            ⟨(some 42), (.bin .lss (.t 36) (.t 41)), none, []⟩,
            ⟨(some 34), (.move (.t 42)), none, []⟩])
         (ACode.cond (.t 34) (ACode.seq (ACode.ops [⟨(some 43), (.load true 2 (.t 2)), none, []⟩,
              ⟨none, (.store 2 (.t 4) (.t 43)), none, []⟩,
              ⟨(some 5), (.move (.c (.bool false))), none, []⟩,
              ⟨(some 6), (.move (.c (.int .i64 9))), none, []⟩])
           (ACode.ret))
          (ACode.seq (ACode.ops [⟨(some 45), (.move (.t 10)), none, []⟩,
              ⟨(some 46), (.un .not (.t 45)), none, []⟩,
              ⟨(some 47), (.move (.t 46)), none, []⟩,
              ⟨(some 48), (.faddr 0 (.t 3)), some (47, false), []⟩,
              ⟨(some 49), (.load false 1 (.t 48)), some (47, false), []⟩,
              ⟨(some 50), (.faddr 1 (.t 3)), some (47, false), []⟩,
              ⟨(some 51), (.load false 1 (.t 50)), some (47, false), []⟩,
              ⟨(some 52), (.bin .geq (.t 49) (.t 51)), some (47, false), []⟩,
              ⟨(some 53), (.pick (.t 47) (.c (.bool true)) (.t 52)), none, []⟩,
              ⟨(some 44), (.move (.t 53)), none, []⟩])
           (ACode.cond (.t 44) (ACode.seq (ACode.ops [⟨(some 54), (.load true 2 (.t 2)), none, []⟩,
                ⟨none, (.store 2 (.t 4) (.t 54)), none, []⟩,
                ⟨(some 5), (.move (.c (.bool false))), none, []⟩,
                ⟨(some 6), (.move (.c (.int .i64 19))), none, []⟩])
             (ACode.ret))
            (ACode.skip))))))))
     (ACode.seq (ACode.ops [⟨(some 56), (.faddr 0 (.t 2)), none, []⟩,
         ⟨(some 57), (.faddr 0 (.t 56)), none, []⟩,
         ⟨(some 58), (.load false 1 (.t 57)), none, []⟩,
         ⟨(some 59), (.move (.t 9)), none, []⟩,
         ⟨(some 60), (.faddr 4 (.t 3)), none, []⟩,
         ⟨(some 61), (.load false 1 (.t 60)), none, []⟩,
         ⟨(some 62), (.call (.t 58) [(.t 59), (.t 61)]), none, []⟩,
         ⟨(some 55), (.move (.t 62)), none, []⟩,
         ⟨(some 63), (.extract (.t 55) 0), none, []⟩,
         ⟨(some 64), (.extract (.t 55) 1), none, []⟩,
         ⟨(some 11), (.move (.t 63)), none, []⟩,
         ⟨(some 12), (.move (.t 64)), none, []⟩])
      (ACode.seq (ACode.seq (ACode.ops [⟨(some 65), (.move (.t 12)), none, []⟩,
           ⟨(some 66), (.bin .neq (.t 65) (.c (.int .i64 0))), none, []⟩])
        (ACode.cond (.t 66) (ACode.seq (ACode.ops [⟨(some 67), (.load true 2 (.t 2)), none, []⟩,
             ⟨none, (.store 2 (.t 4) (.t 67)), none, []⟩,
             ⟨(some 5), (.move (.c (.bool false))), none, []⟩,
             ⟨(some 6), (.move (.c (.int .i64 4))), none, []⟩])
          (ACode.ret))
         (ACode.skip)))
       (ACode.seq (ACode.ops [⟨(some 68), (.move (.t 7)), none, []⟩,
           ⟨(some 69), (.faddr 1 (.t 2)), none, []⟩,
           ⟨(some 70), (.load false 1 (.t 69)), none, []⟩,
           ⟨(some 71), (.len false (.t 70)), none, []⟩,
           ⟨(some 72), (.bin .eql (.t 68) (.t 71)), none, []⟩,
           ⟨(some 13), (.move (.t 72)), none, []⟩])
        (ACode.seq (ACode.draw [⟨(some 73), (.faddr 1 (.t 2)), none, []⟩,
            ⟨(some 74), (.load false 1 (.t 73)), none, []⟩,
            ⟨(some 75), (.call (.c (.fn (.func 52) [] [])) [(.t 74)]), none, []⟩,
            ⟨(some 76), (.move (.t 7)), none, [0, 1, 2]⟩,
            ⟨(some 77), (.faddr 1 (.t 3)), none, [0, 1, 2, 3]⟩,
            ⟨(some 78), (.load false 1 (.t 77)), none, [0, 1, 2, 3]⟩,
            ⟨(some 79), (.move (.t 11)), none, [0, 1, 2, 3, 4, 5]⟩,
            ⟨(some 80), (.build [(.int .u64 0), (.str [])] [((0, 1), (.t 78)), ((1, 1), (.t 79))]), none, [0, 1, 2, 3]⟩,
            ⟨(some 81), (.buildSlice [(.int .u64 0), (.str [])] 2 1 [(0, (.t 80))]), none, [0, 1, 2, 3]⟩,
            ⟨(some 82), (.call (.c (.fn (.func 51) [] [])) [(.t 75), (.t 76), (.t 81)]), none, []⟩,
            ⟨(some 83), (.faddr 1 (.t 2)), none, []⟩,
            ⟨none, (.store 1 (.t 83) (.t 82)), none, []⟩])
         (ACode.seq (ACode.ops [⟨(some 84), (.faddr 1 (.t 2)), none, []⟩,
             ⟨(some 85), (.load false 1 (.t 84)), none, []⟩,
             ⟨(some 86), (.len false (.t 85)), none, []⟩,
             ⟨(some 87), (.bin .sub (.t 86) (.c (.int .i64 8))), none, []⟩,
             ⟨(some 88), (.maxI [(.t 87), (.c (.int .i64 0))]), none, []⟩,
             ⟨(some 14), (.move (.t 88)), none, []⟩])
          (ACode.seq (ACode.skip)
           (ACode.seq (ACode.seq (ACode.ops [⟨(some 89), (.faddr 1 (.t 2)), none, []⟩,
                ⟨(some 90), (.load false 1 (.t 89)), none, []⟩,
                ⟨(some 91), (.len false (.t 90)), none, []⟩,
                ⟨(some 92), (.move (.c (.int .i64 0))), none, []⟩])
             (ACode.block 1 (ACode.loop (ACode.seq (ACode.ops [⟨(some 93), (.bin .lss (.t 92) (.t 91)), none, []⟩])
                (ACode.seq (ACode.cond (.t 93) (ACode.skip)
                  (ACode.exit 1))
                 (ACode.seq (ACode.block 2 (ACode.seq (ACode.ops [⟨(some 94), (.move (.t 92)), none, []⟩,
                       ⟨(some 95), (.iaddr 2 (.t 90) (.t 92)), none, []⟩,
                       ⟨(some 96), (.load true 2 (.t 95)), none, []⟩,
                       ⟨(some 16), (.alloc [(.int .u64 0), (.str [])]), none, []⟩,
                       ⟨(some 15), (.move (.t 94)), none, []⟩,
                       ⟨none, (.store 2 (.t 16) (.t 96)), none, []⟩])
                    (ACode.block 3 (ACode.seq (ACode.ops [⟨(some 98), (.faddr 0 (.t 16)), none, []⟩,
                         ⟨(some 99), (.load false 1 (.t 98)), none, []⟩,
                         ⟨(some 100), (.faddr 3 (.t 3)), none, []⟩,
                         ⟨(some 101), (.load false 1 (.t 100)), none, []⟩,
                         ⟨(some 102), (.bin .geq (.t 99) (.t 101)), none, []⟩,
                         ⟨(some 97), (.move (.t 102)), none, []⟩])
                      (ACode.cond (.t 97) (ACode.exit 1)
                       (ACode.seq (ACode.ops [⟨(some 104), (.move (.t 15)), none, []⟩,
                           ⟨(some 105), (.bin .add (.t 104) (.c (.int .i64 1))), none, []⟩,
                           ⟨(some 106), (.faddr 1 (.t 2)), none, []⟩,
                           ⟨(some 107), (.load false 1 (.t 106)), none, []⟩,
                           ⟨(some 108), (.len false (.t 107)), none, []⟩,
                           ⟨(some 109), (.bin .lss (.t 105) (.t 108)), none, []⟩,
                           ⟨(some 103), (.move (.t 109)), none, []⟩])
                        (ACode.cond (.t 103) (ACode.ops [⟨(some 110), (.move (.t 14)), none, []⟩,
                            ⟨(some 111), (.move (.t 15)), none, []⟩,
                            ⟨(some 112), (.bin .add (.t 111) (.c (.int .i64 1))), none, []⟩,
                            ⟨(some 113), (.maxI [(.t 110), (.t 112)]), none, []⟩,
                            ⟨(some 14), (.move (.t 113)), none, []⟩])
                         (ACode.skip))))))))
                  (ACode.ops [⟨(some 114), (.bin .add (.t 92) (.c (.int .i64 1))), none, []⟩,
                     ⟨(some 92), (.move (.t 114)), none, []⟩])))))))
            (ACode.seq (ACode.ops [⟨(some 115), (.faddr 1 (.t 2)), none, []⟩,
                ⟨(some 116), (.load false 1 (.t 115)), none, []⟩,
                ⟨(some 117), (.move (.t 14)), none, []⟩,
                ⟨(some 118), (.slice 2 (.t 116) (some (.t 117)) none none), none, []⟩,
                ⟨(some 119), (.faddr 1 (.t 2)), none, []⟩,
                ⟨none, (.store 1 (.t 119) (.t 118)), none, []⟩])
             (ACode.seq (ACode.ops [⟨(some 120), (.load true 2 (.t 2)), none, []⟩,
                 ⟨(some 121), (.move (.t 13)), none, []⟩,
                 ⟨none, (.store 2 (.t 4) (.t 120)), none, []⟩,
                 ⟨(some 5), (.move (.t 121)), none, []⟩,
                 ⟨(some 6), (.move (.c (.int .i64 0))), none, []⟩])
              (ACode.ret)))))))))))))⟩

/-- vagabond/vagabondref16.Take -/
def c35 : AFunc := ⟨5, 123, [.tmp 10, .tmp 11, .tmp 12],
  ACode.seq (ACode.ops [⟨(some 10), (.move (.c .nils)), none, []⟩,
     ⟨(some 11), (.move (.c (.bool false))), none, []⟩,
     ⟨(some 12), (.move (.c (.int .i64 0))), none, []⟩])
  (ACode.seq (ACode.seq (ACode.ops [⟨(some 23), (.move (.t 0)), none, []⟩,
       ⟨(some 24), (.move (.t 2)), none, []⟩,
       ⟨(some 25), (.call (.c (.fn (.func 39) [] [])) [(.t 23), (.t 24)]), none, []⟩,
       ⟨(some 26), (.bin .geq (.t 25) (.c (.int .i64 0))), none, []⟩])
    (ACode.cond (.t 26) (ACode.seq (ACode.ops [⟨(some 27), (.move (.t 0)), none, []⟩,
         ⟨(some 10), (.move (.t 27)), none, []⟩,
         ⟨(some 11), (.move (.c (.bool false))), none, []⟩,
         ⟨(some 12), (.move (.c (.int .i64 11))), none, []⟩])
      (ACode.ret))
     (ACode.skip)))
   (ACode.seq (ACode.seq (ACode.ops [⟨(some 28), (.move (.t 2)), none, []⟩,
        ⟨(some 29), (.move (.t 0)), none, []⟩,
        ⟨(some 30), (.iaddr 2 (.t 29) (.c (.int .i64 0))), none, []⟩,
        ⟨(some 31), (.faddr 0 (.t 30)), none, []⟩,
        ⟨(some 32), (.load false 1 (.t 31)), none, []⟩,
        ⟨(some 33), (.bin .lss (.t 28) (.t 32)), none, []⟩])
     (ACode.cond (.t 33) (ACode.seq (ACode.ops [⟨(some 34), (.move (.t 0)), none, []⟩,
          ⟨(some 10), (.move (.t 34)), none, []⟩,
          ⟨(some 11), (.move (.c (.bool false))), none, []⟩,
          ⟨(some 12), (.move (.c (.int .i64 9))), none, []⟩])
       (ACode.ret))
      (ACode.skip)))
    (ACode.seq (ACode.ops [⟨(some 35), (.move (.t 0)), none, []⟩,
        ⟨(some 36), (.move (.t 1)), none, []⟩,
        ⟨(some 37), (.call (.c (.fn (.func 39) [] [])) [(.t 35), (.t 36)]), none, []⟩,
        ⟨(some 13), (.move (.t 37)), none, []⟩])
     (ACode.seq (ACode.seq (ACode.ops [⟨(some 38), (.move (.t 13)), none, []⟩,
          ⟨(some 39), (.bin .lss (.t 38) (.c (.int .i64 0))), none, []⟩,
          ⟨(some 40), (.move (.t 39)), none, []⟩,
          ⟨(some 41), (.move (.t 1)), some (40, false), []⟩,
          ⟨(some 42), (.move (.t 2)), some (40, false), []⟩,
          ⟨(some 43), (.bin .geq (.t 41) (.t 42)), some (40, false), []⟩,
          ⟨(some 44), (.pick (.t 40) (.c (.bool true)) (.t 43)), none, []⟩])
       (ACode.cond (.t 44) (ACode.seq (ACode.ops [⟨(some 45), (.move (.t 0)), none, []⟩,
            ⟨(some 10), (.move (.t 45)), none, []⟩,
            ⟨(some 11), (.move (.c (.bool false))), none, []⟩,
            ⟨(some 12), (.move (.c (.int .i64 19))), none, []⟩])
         (ACode.ret))
        (ACode.skip)))
      (ACode.seq (ACode.ops [⟨(some 47), (.move (.t 0)), none, []⟩,
          ⟨(some 48), (.move (.t 13)), none, []⟩,
          ⟨(some 49), (.iaddr 2 (.t 47) (.t 48)), none, []⟩,
          ⟨(some 50), (.faddr 1 (.t 49)), none, []⟩,
          ⟨(some 51), (.load false 1 (.t 50)), none, []⟩,
          ⟨(some 52), (.move (.t 4)), none, []⟩,
          ⟨(some 53), (.call (.c (.fn (.func 49) [] [])) [(.t 51), (.t 52)]), none, []⟩,
          ⟨(some 46), (.move (.t 53)), none, []⟩,
          ⟨(some 54), (.extract (.t 46) 0), none, []⟩,
          ⟨(some 55), (.extract (.t 46) 1), none, []⟩,
          ⟨(some 14), (.move (.t 54)), none, []⟩,
          ⟨(some 15), (.move (.t 55)), none, []⟩])
       (ACode.seq (ACode.seq (ACode.ops [⟨(some 56), (.move (.t 15)), none, []⟩,
            ⟨(some 57), (.un .not (.t 56)), none, []⟩])
         (ACode.cond (.t 57) (ACode.seq (ACode.ops [⟨(some 58), (.move (.t 0)), none, []⟩,
              ⟨(some 10), (.move (.t 58)), none, []⟩,
              ⟨(some 11), (.move (.c (.bool false))), none, []⟩,
              ⟨(some 12), (.move (.c (.int .i64 4))), none, []⟩])
           (ACode.ret))
          (ACode.skip)))
        (ACode.seq (ACode.ops [⟨(some 16), (.move (.c .nils)), none, []⟩])
         (ACode.seq (ACode.ops [⟨(some 17), (.move (.c (.bool false))), none, []⟩])
          (ACode.seq (ACode.seq (ACode.ops [⟨(some 59), (.move (.t 0)), none, []⟩,
               ⟨(some 60), (.len false (.t 59)), none, []⟩,
               ⟨(some 61), (.move (.c (.int .i64 0))), none, []⟩])
            (ACode.block 0 (ACode.loop (ACode.seq (ACode.ops [⟨(some 62), (.bin .lss (.t 61) (.t 60)), none, []⟩])
               (ACode.seq (ACode.cond (.t 62) (ACode.skip)
                 (ACode.exit 0))
                (ACode.seq (ACode.block 1 (ACode.seq (ACode.ops [⟨(some 63), (.iaddr 2 (.t 59) (.t 61)), none, []⟩,
                      ⟨(some 64), (.load true 2 (.t 63)), none, []⟩,
                      ⟨(some 19), (.alloc [(.int .u64 0), (.str [])]), none, []⟩,
                      ⟨none, (.store 2 (.t 19) (.t 64)), none, []⟩])
                   (ACode.seq (ACode.seq (ACode.ops [⟨(some 65), (.move (.t 17)), none, []⟩,
                        ⟨(some 66), (.un .not (.t 65)), none, []⟩,
                        ⟨(some 67), (.move (.t 66)), none, []⟩,
                        ⟨(some 68), (.move (.t 2)), some (67, true), []⟩,
                        ⟨(some 69), (.faddr 0 (.t 19)), some (67, true), []⟩,
                        ⟨(some 70), (.load false 1 (.t 69)), some (67, true), []⟩,
                        ⟨(some 71), (.bin .lss (.t 68) (.t 70)), some (67, true), []⟩,
                        ⟨(some 72), (.pick (.t 67) (.t 71) (.c (.bool false))), none, []⟩])
                     (ACode.cond (.t 72) (ACode.seq (ACode.ops [⟨(some 73), (.move (.t 16)), none, []⟩,
                          ⟨(some 74), (.move (.t 2)), none, []⟩,
                          ⟨(some 75), (.move (.t 14)), none, []⟩,
                          ⟨(some 76), (.build [(.int .u64 0), (.str [])] [((0, 1), (.t 74)), ((1, 1), (.t 75))]), none, []⟩,
                          ⟨(some 77), (.buildSlice [(.int .u64 0), (.str [])] 2 1 [(0, (.t 76))]), none, []⟩,
                          ⟨(some 78), (.append 2 24 (.t 73) (.t 77)), none, []⟩,
                          ⟨(some 16), (.move (.t 78)), none, []⟩])
                       (ACode.ops [⟨(some 17), (.move (.c (.bool true))), none, []⟩]))
                      (ACode.skip)))
                    (ACode.ops [⟨(some 79), (.move (.t 16)), none, []⟩,
                       ⟨(some 80), (.load true 2 (.t 19)), none, []⟩,
                       ⟨(some 81), (.buildSlice [(.int .u64 0), (.str [])] 2 1 [(0, (.t 80))]), none, []⟩,
                       ⟨(some 82), (.append 2 24 (.t 79) (.t 81)), none, []⟩,
                       ⟨(some 16), (.move (.t 82)), none, []⟩]))))
                 (ACode.ops [⟨(some 83), (.bin .add (.t 61) (.c (.int .i64 1))), none, []⟩,
                    ⟨(some 61), (.move (.t 83)), none, []⟩])))))))
           (ACode.seq (ACode.seq (ACode.ops [⟨(some 84), (.move (.t 17)), none, []⟩,
                ⟨(some 85), (.un .not (.t 84)), none, []⟩])
             (ACode.cond (.t 85) (ACode.ops [⟨(some 86), (.move (.t 16)), none, []⟩,
                 ⟨(some 87), (.move (.t 2)), none, []⟩,
                 ⟨(some 88), (.move (.t 14)), none, []⟩,
                 ⟨(some 89), (.build [(.int .u64 0), (.str [])] [((0, 1), (.t 87)), ((1, 1), (.t 88))]), none, []⟩,
                 ⟨(some 90), (.buildSlice [(.int .u64 0), (.str [])] 2 1 [(0, (.t 89))]), none, []⟩,
                 ⟨(some 91), (.append 2 24 (.t 86) (.t 90)), none, []⟩,
                 ⟨(some 16), (.move (.t 91)), none, []⟩])
              (ACode.skip)))
            (ACode.seq (ACode.ops [⟨(some 20), (.move (.c .nils)), none, []⟩])
             (ACode.seq (ACode.seq (ACode.ops [⟨(some 92), (.move (.t 16)), none, []⟩,
                  ⟨(some 93), (.len false (.t 92)), none, []⟩,
                  ⟨(some 94), (.move (.c (.int .i64 0))), none, []⟩])
               (ACode.block 2 (ACode.loop (ACode.seq (ACode.ops [⟨(some 95), (.bin .lss (.t 94) (.t 93)), none, []⟩])
                  (ACode.seq (ACode.cond (.t 95) (ACode.skip)
                    (ACode.exit 2))
                   (ACode.seq (ACode.block 3 (ACode.seq (ACode.ops [⟨(some 96), (.move (.t 94)), none, []⟩,
                         ⟨(some 97), (.iaddr 2 (.t 92) (.t 94)), none, []⟩,
                         ⟨(some 98), (.load true 2 (.t 97)), none, []⟩,
                         ⟨(some 22), (.alloc [(.int .u64 0), (.str [])]), none, []⟩,
                         ⟨(some 21), (.move (.t 96)), none, []⟩,
                         ⟨none, (.store 2 (.t 22) (.t 98)), none, []⟩])
                      (ACode.seq (ACode.ops [⟨(some 99), (.faddr 0 (.t 22)), none, []⟩,
                          ⟨(some 100), (.load false 1 (.t 99)), none, []⟩,
                          ⟨(some 101), (.move (.t 3)), none, []⟩,
                          ⟨(some 102), (.bin .geq (.t 100) (.t 101)), none, []⟩,
                          ⟨(some 103), (.move (.t 102)), none, []⟩,
                          ⟨(some 104), (.move (.t 21)), some (103, false), []⟩,
                          ⟨(some 105), (.move (.t 16)), some (103, false), []⟩,
                          ⟨(some 106), (.len false (.t 105)), some (103, false), []⟩,
                          ⟨(some 107), (.bin .sub (.t 106) (.c (.int .i64 1))), some (103, false), []⟩,
                          ⟨(some 108), (.bin .eql (.t 104) (.t 107)), some (103, false), []⟩,
                          ⟨(some 109), (.pick (.t 103) (.c (.bool true)) (.t 108)), none, []⟩])
                       (ACode.cond (.t 109) (ACode.ops [⟨(some 110), (.move (.t 20)), none, []⟩,
                           ⟨(some 111), (.load true 2 (.t 22)), none, []⟩,
                           ⟨(some 112), (.buildSlice [(.int .u64 0), (.str [])] 2 1 [(0, (.t 111))]), none, []⟩,
                           ⟨(some 113), (.append 2 24 (.t 110) (.t 112)), none, []⟩,
                           ⟨(some 20), (.move (.t 113)), none, []⟩])
                        (ACode.skip)))))
                    (ACode.ops [⟨(some 114), (.bin .add (.t 94) (.c (.int .i64 1))), none, []⟩,
                       ⟨(some 94), (.move (.t 114)), none, []⟩])))))))
              (ACode.seq (ACode.block 4 (ACode.loop (ACode.seq (ACode.seq (ACode.ops [⟨(some 115), (.move (.t 20)), none, []⟩,
                      ⟨(some 116), (.len false (.t 115)), none, []⟩,
                      ⟨(some 117), (.bin .gtr (.t 116) (.c (.int .i64 8))), none, []⟩])
                   (ACode.cond (.t 117) (ACode.skip)
                    (ACode.exit 4)))
                  (ACode.block 5 (ACode.ops [⟨(some 118), (.move (.t 20)), none, []⟩,
                      ⟨(some 119), (.slice 2 (.t 118) (some (.c (.int .i64 1))) none none), none, []⟩,
                      ⟨(some 20), (.move (.t 119)), none, []⟩])))))
               (ACode.seq (ACode.ops [⟨(some 120), (.move (.t 20)), none, []⟩,
                   ⟨(some 121), (.move (.t 17)), none, []⟩,
                   ⟨(some 122), (.un .not (.t 121)), none, []⟩,
                   ⟨(some 10), (.move (.t 120)), none, []⟩,
                   ⟨(some 11), (.move (.t 122)), none, []⟩,
                   ⟨(some 12), (.move (.c (.int .i64 0))), none, []⟩])
                (ACode.ret)))))))))))))))⟩

/-- slices.Equal[[]uint64,uint64] -/
def c36 : AFunc := ⟨2, 26, [.tmp 4],
  ACode.seq (ACode.ops [⟨(some 4), (.move (.c (.bool false))), none, []⟩])
  (ACode.seq (ACode.seq (ACode.ops [⟨(some 6), (.move (.t 0)), none, []⟩,
       ⟨(some 7), (.len false (.t 6)), none, []⟩,
       ⟨(some 8), (.move (.t 1)), none, []⟩,
       ⟨(some 9), (.len false (.t 8)), none, []⟩,
       ⟨(some 10), (.bin .neq (.t 7) (.t 9)), none, []⟩])
    (ACode.cond (.t 10) (ACode.seq (ACode.ops [⟨(some 4), (.move (.c (.bool false))), none, []⟩])
      (ACode.ret))
     (ACode.skip)))
   (ACode.seq (ACode.seq (ACode.ops [⟨(some 11), (.move (.t 0)), none, []⟩,
        ⟨(some 12), (.len false (.t 11)), none, []⟩,
        ⟨(some 13), (.move (.c (.int .i64 0))), none, []⟩])
     (ACode.block 0 (ACode.loop (ACode.seq (ACode.ops [⟨(some 14), (.bin .lss (.t 13) (.t 12)), none, []⟩])
        (ACode.seq (ACode.cond (.t 14) (ACode.skip)
          (ACode.exit 0))
         (ACode.seq (ACode.block 1 (ACode.seq (ACode.ops [⟨(some 15), (.move (.t 13)), none, []⟩,
               ⟨(some 5), (.move (.t 15)), none, []⟩])
            (ACode.seq (ACode.draw [⟨(some 16), (.move (.t 0)), none, []⟩,
                ⟨(some 17), (.move (.t 5)), none, [0]⟩,
                ⟨(some 18), (.iaddr 1 (.t 16) (.t 17)), none, []⟩,
                ⟨(some 19), (.load false 1 (.t 18)), none, []⟩,
                ⟨(some 20), (.move (.t 1)), none, [0, 1, 2, 3]⟩,
                ⟨(some 21), (.move (.t 5)), none, [0, 1, 2, 3, 4]⟩,
                ⟨(some 22), (.iaddr 1 (.t 20) (.t 21)), none, [0, 1, 2, 3]⟩,
                ⟨(some 23), (.load false 1 (.t 22)), none, [0, 1, 2, 3]⟩,
                ⟨(some 24), (.bin .neq (.t 19) (.t 23)), none, []⟩])
             (ACode.cond (.t 24) (ACode.seq (ACode.ops [⟨(some 4), (.move (.c (.bool false))), none, []⟩])
               (ACode.ret))
              (ACode.skip)))))
          (ACode.ops [⟨(some 25), (.bin .add (.t 13) (.c (.int .i64 1))), none, []⟩,
             ⟨(some 13), (.move (.t 25)), none, []⟩])))))))
    (ACode.seq (ACode.ops [⟨(some 4), (.move (.c (.bool true))), none, []⟩])
     (ACode.ret))))⟩

/-- (vagabond/receiver.Receiver[string]).Of -/
def c37 : AFunc := ⟨2, 23, [.tmp 4, .tmp 5],
  ACode.seq (ACode.ops [⟨(some 2), (.box 2 (.t 0)), none, []⟩,
     ⟨(some 4), (.move (.c (.str []))), none, []⟩,
     ⟨(some 5), (.move (.c (.bool false))), none, []⟩])
  (ACode.seq (ACode.seq (ACode.ops [⟨(some 10), (.load true 2 (.t 2)), none, []⟩,
       ⟨(some 11), (.move (.t 1)), none, []⟩,
       ⟨(some 12), (.call (.c (.fn (.func 50) [] [])) [(.t 10), (.t 11)]), none, []⟩,
       ⟨(some 9), (.move (.t 12)), none, []⟩,
       ⟨(some 13), (.extract (.t 9) 0), none, []⟩,
       ⟨(some 14), (.extract (.t 9) 1), none, []⟩,
       ⟨(some 6), (.move (.t 13)), none, []⟩,
       ⟨(some 7), (.move (.t 14)), none, []⟩])
    (ACode.seq (ACode.ops [⟨(some 15), (.move (.t 7)), none, []⟩])
     (ACode.cond (.t 15) (ACode.seq (ACode.ops [⟨(some 16), (.faddr 1 (.t 2)), none, []⟩,
          ⟨(some 17), (.load false 1 (.t 16)), none, []⟩,
          ⟨(some 18), (.move (.t 6)), none, []⟩,
          ⟨(some 19), (.iaddr 2 (.t 17) (.t 18)), none, []⟩,
          ⟨(some 20), (.faddr 1 (.t 19)), none, []⟩,
          ⟨(some 21), (.load false 1 (.t 20)), none, []⟩,
          ⟨(some 4), (.move (.t 21)), none, []⟩,
          ⟨(some 5), (.move (.c (.bool true))), none, []⟩])
       (ACode.ret))
      (ACode.skip))))
   (ACode.seq (ACode.ops [⟨(some 8), (.move (.c (.str []))), none, []⟩])
    (ACode.seq (ACode.ops [⟨(some 22), (.move (.t 8)), none, []⟩,
        ⟨(some 4), (.move (.t 22)), none, []⟩,
        ⟨(some 5), (.move (.c (.bool false))), none, []⟩])
     (ACode.ret))))⟩

/-- (vagabond/receiver.Receiver[string]).Latest -/
def c38 : AFunc := ⟨1, 17, [.tmp 2, .tmp 3],
  ACode.seq (ACode.ops [⟨(some 1), (.box 2 (.t 0)), none, []⟩,
     ⟨(some 2), (.move (.c (.int .u64 0))), none, []⟩,
     ⟨(some 3), (.move (.c (.str []))), none, []⟩])
  (ACode.seq (ACode.ops [⟨(some 5), (.faddr 1 (.t 1)), none, []⟩,
      ⟨(some 6), (.load false 1 (.t 5)), none, []⟩,
      ⟨(some 7), (.faddr 1 (.t 1)), none, []⟩,
      ⟨(some 8), (.load false 1 (.t 7)), none, []⟩,
      ⟨(some 9), (.len false (.t 8)), none, []⟩,
      ⟨(some 10), (.bin .sub (.t 9) (.c (.int .i64 1))), none, []⟩,
      ⟨(some 11), (.iaddr 2 (.t 6) (.t 10)), none, []⟩,
      ⟨(some 12), (.load true 2 (.t 11)), none, []⟩,
      ⟨(some 4), (.alloc [(.int .u64 0), (.str [])]), none, []⟩,
      ⟨none, (.store 2 (.t 4) (.t 12)), none, []⟩])
   (ACode.seq (ACode.draw [⟨(some 13), (.faddr 0 (.t 4)), none, []⟩,
       ⟨(some 14), (.load false 1 (.t 13)), none, []⟩,
       ⟨(some 15), (.faddr 1 (.t 4)), none, [0, 1]⟩,
       ⟨(some 16), (.load false 1 (.t 15)), none, [0, 1]⟩,
       ⟨(some 2), (.move (.t 14)), none, [2, 3]⟩,
       ⟨(some 3), (.move (.t 16)), none, []⟩])
    (ACode.ret)))⟩

/-- vagabond/vagabondref16.Find -/
def c39 : AFunc := ⟨2, 20, [.tmp 4],
  ACode.seq (ACode.ops [⟨(some 4), (.move (.c (.int .i64 0))), none, []⟩])
  (ACode.seq (ACode.seq (ACode.ops [⟨(some 7), (.move (.t 0)), none, []⟩,
       ⟨(some 8), (.len false (.t 7)), none, []⟩,
       ⟨(some 9), (.move (.c (.int .i64 0))), none, []⟩])
    (ACode.block 0 (ACode.loop (ACode.seq (ACode.ops [⟨(some 10), (.bin .lss (.t 9) (.t 8)), none, []⟩])
       (ACode.seq (ACode.cond (.t 10) (ACode.skip)
         (ACode.exit 0))
        (ACode.seq (ACode.block 1 (ACode.seq (ACode.ops [⟨(some 11), (.move (.t 9)), none, []⟩,
              ⟨(some 12), (.iaddr 2 (.t 7) (.t 9)), none, []⟩,
              ⟨(some 13), (.load true 2 (.t 12)), none, []⟩,
              ⟨(some 6), (.alloc [(.int .u64 0), (.str [])]), none, []⟩,
              ⟨(some 5), (.move (.t 11)), none, []⟩,
              ⟨none, (.store 2 (.t 6) (.t 13)), none, []⟩])
           (ACode.seq (ACode.ops [⟨(some 14), (.faddr 0 (.t 6)), none, []⟩,
               ⟨(some 15), (.load false 1 (.t 14)), none, []⟩,
               ⟨(some 16), (.move (.t 1)), none, []⟩,
               ⟨(some 17), (.bin .eql (.t 15) (.t 16)), none, []⟩])
            (ACode.cond (.t 17) (ACode.seq (ACode.ops [⟨(some 18), (.move (.t 5)), none, []⟩,
                 ⟨(some 4), (.move (.t 18)), none, []⟩])
              (ACode.ret))
             (ACode.skip)))))
         (ACode.ops [⟨(some 19), (.bin .add (.t 9) (.c (.int .i64 1))), none, []⟩,
            ⟨(some 9), (.move (.t 19)), none, []⟩])))))))
   (ACode.seq (ACode.ops [⟨(some 4), (.move (.c (.int .i64 (-1)))), none, []⟩])
    (ACode.ret)))⟩

/-- vagabond/vagabondlaw15.Awake -/
def c47 : AFunc := ⟨0, 2, [.tmp 0],
  ACode.seq (ACode.ops [⟨(some 0), (.move (.c (.bool false))), none, []⟩])
  (ACode.seq (ACode.ops [⟨(some 1), (.call (.c (.fn (.func 54) [] [])) []), none, []⟩,
      ⟨(some 0), (.move (.t 1)), none, []⟩])
   (ACode.ret))⟩

/-- vagabond/vagabondlaw16.Rule$1 -/
def c48 : AFunc := ⟨2, 17, [.tmp 4, .tmp 5],
  ACode.seq (ACode.ops [⟨(some 4), (.move (.c (.str []))), none, []⟩,
     ⟨(some 5), (.move (.c (.int .i64 0))), none, []⟩])
  (ACode.seq (ACode.ops [⟨(some 9), (.move (.t 0)), none, []⟩,
      ⟨(some 10), (.move (.t 1)), none, []⟩,
      ⟨(some 11), (.call (.c (.fn (.func 49) [] [])) [(.t 9), (.t 10)]), none, []⟩,
      ⟨(some 8), (.move (.t 11)), none, []⟩,
      ⟨(some 12), (.extract (.t 8) 0), none, []⟩,
      ⟨(some 13), (.extract (.t 8) 1), none, []⟩,
      ⟨(some 6), (.move (.t 12)), none, []⟩,
      ⟨(some 7), (.move (.t 13)), none, []⟩])
   (ACode.seq (ACode.seq (ACode.ops [⟨(some 14), (.move (.t 7)), none, []⟩,
        ⟨(some 15), (.un .not (.t 14)), none, []⟩])
     (ACode.cond (.t 15) (ACode.seq (ACode.ops [⟨(some 4), (.move (.c (.str []))), none, []⟩,
          ⟨(some 5), (.move (.c (.int .i64 2))), none, []⟩])
       (ACode.ret))
      (ACode.skip)))
    (ACode.seq (ACode.ops [⟨(some 16), (.move (.t 6)), none, []⟩,
        ⟨(some 4), (.move (.t 16)), none, []⟩,
        ⟨(some 5), (.move (.c (.int .i64 0))), none, []⟩])
     (ACode.ret))))⟩

/-- (vagabond/receiver.Receiver[string]).place -/
def c50 : AFunc := ⟨2, 12, [.tmp 4, .tmp 5],
  ACode.seq (ACode.ops [⟨(some 2), (.box 2 (.t 0)), none, []⟩,
     ⟨(some 4), (.move (.c (.int .i64 0))), none, []⟩,
     ⟨(some 5), (.move (.c (.bool false))), none, []⟩])
  (ACode.seq (ACode.ops [⟨(some 6), (.faddr 1 (.t 2)), none, []⟩,
      ⟨(some 7), (.load false 1 (.t 6)), none, []⟩,
      ⟨(some 8), (.move (.t 1)), none, []⟩,
      ⟨(some 9), (.call (.c (.fn (.func 55) [] [])) [(.t 7), (.t 8), (.c (.fn (.func 56) [] []))]), none, []⟩,
      ⟨(some 10), (.extract (.t 9) 0), none, []⟩,
      ⟨(some 11), (.extract (.t 9) 1), none, []⟩,
      ⟨(some 4), (.move (.t 10)), none, []⟩,
      ⟨(some 5), (.move (.t 11)), none, []⟩])
   (ACode.ret))⟩

/-- slices.Clone[[]vagabond/receiver.state[string],vagabond/receiver.state[string]] -/
def c52 : AFunc := ⟨1, 8, [.tmp 2],
  ACode.seq (ACode.ops [⟨(some 2), (.move (.c .nils)), none, []⟩])
  (ACode.seq (ACode.seq (ACode.ops [⟨(some 3), (.move (.t 0)), none, []⟩,
       ⟨(some 4), (.isNil .slice false (.t 3)), none, []⟩])
    (ACode.cond (.t 4) (ACode.seq (ACode.ops [⟨(some 2), (.move (.c .nils)), none, []⟩])
      (ACode.ret))
     (ACode.skip)))
   (ACode.seq (ACode.ops [⟨(some 5), (.buildSlice [(.int .u64 0), (.str [])] 2 0 []), none, []⟩,
       ⟨(some 6), (.move (.t 0)), none, []⟩,
       ⟨(some 7), (.append 2 24 (.t 5) (.t 6)), none, []⟩,
       ⟨(some 2), (.move (.t 7)), none, []⟩])
    (ACode.ret)))⟩

/-- vagabond/vagabondref16.Do -/
def c49 : AFunc := ⟨2, 17, [.tmp 4, .tmp 5],
  ACode.seq (ACode.ops [⟨(some 4), (.move (.c (.str []))), none, []⟩,
     ⟨(some 5), (.move (.c (.bool false))), none, []⟩])
  (ACode.seq (ACode.seq (ACode.ops [⟨(some 6), (.move (.t 1)), none, []⟩,
       ⟨(some 7), (.len true (.t 6)), none, []⟩,
       ⟨(some 8), (.bin .gtr (.t 7) (.c (.int .i64 0))), none, []⟩,
       ⟨(some 9), (.move (.t 8)), none, []⟩,
       ⟨(some 10), (.move (.t 1)), some (9, true), []⟩,
       ⟨(some 11), (.idxStr (.t 10) (.c (.int .i64 0))), some (9, true), []⟩,
       ⟨(some 12), (.bin .eql (.t 11) (.c (.int .u8 33))), some (9, true), []⟩,
       ⟨(some 13), (.pick (.t 9) (.t 12) (.c (.bool false))), none, []⟩])
    (ACode.cond (.t 13) (ACode.seq (ACode.ops [⟨(some 4), (.move (.c (.str []))), none, []⟩,
         ⟨(some 5), (.move (.c (.bool false))), none, []⟩])
      (ACode.ret))
     (ACode.skip)))
   (ACode.seq (ACode.ops [⟨(some 14), (.move (.t 0)), none, []⟩,
       ⟨(some 15), (.move (.t 1)), none, []⟩,
       ⟨(some 16), (.bin .add (.t 14) (.t 15)), none, []⟩,
       ⟨(some 4), (.move (.t 16)), none, []⟩,
       ⟨(some 5), (.move (.c (.bool true))), none, []⟩])
    (ACode.ret)))⟩

/-- vagabond/vagabondlaw15.awake -/
def c54 : AFunc := ⟨0, 42, [.tmp 0],
  ACode.seq (ACode.ops [⟨(some 0), (.move (.c (.bool false))), none, []⟩])
  (ACode.seq (ACode.ops [⟨(some 5), (.call (.c (.fn (.func 64) [] [])) []), none, []⟩,
      ⟨(some 6), (.call (.c (.fn (.func 63) [] [])) [(.c (.str [97])), (.t 5)]), none, []⟩,
      ⟨(some 1), (.alloc [.nilfn, .nilfn, .nils, (.str []), (.int .u64 0)]), none, []⟩,
      ⟨none, (.store 5 (.t 1) (.t 6)), none, []⟩])
   (ACode.seq (ACode.seq (ACode.ops [⟨(some 7), (.load true 5 (.t 1)), none, []⟩,
        ⟨(some 8), (.call (.c (.fn (.func 65) [] [])) [(.t 7)]), none, []⟩,
        ⟨(some 9), (.len false (.t 8)), none, []⟩,
        ⟨(some 10), (.bin .neq (.t 9) (.c (.int .i64 1))), none, []⟩,
        ⟨(some 11), (.move (.t 10)), none, []⟩,
        ⟨(some 12), (.call (.c (.fn (.func 40) [] [])) []), some (11, false), []⟩,
        ⟨(some 13), (.un .not (.t 12)), some (11, false), []⟩,
        ⟨(some 14), (.pick (.t 11) (.c (.bool true)) (.t 13)), none, []⟩])
     (ACode.cond (.t 14) (ACode.seq (ACode.ops [⟨(some 0), (.move (.c (.bool false))), none, []⟩])
       (ACode.ret))
      (ACode.skip)))
    (ACode.seq (ACode.ops [⟨(some 16), (.load true 5 (.t 1)), none, []⟩,
        ⟨(some 17), (.call (.c (.fn (.func 66) [] [])) [(.t 16), (.c (.str [98]))]), none, []⟩,
        ⟨(some 18), (.call (.c (.fn (.func 67) [] [])) [(.t 17), (.c (.int .u64 3)), (.c (.int .u64 10)), (.c (.int .u64 100)), (.c (.int .u64 7))]), none, []⟩,
        ⟨(some 15), (.move (.t 18)), none, []⟩,
        ⟨(some 19), (.extract (.t 15) 0), none, []⟩,
        ⟨(some 20), (.extract (.t 15) 1), none, []⟩,
        ⟨(some 21), (.extract (.t 15) 2), none, []⟩,
        ⟨(some 2), (.alloc [.nilfn, .nilfn, .nils, (.str []), (.int .u64 0)]), none, []⟩,
        ⟨(some 3), (.alloc [(.int .u64 0), (.int .u64 0), (.int .u64 0), (.int .u64 0), (.str [])]), none, []⟩,
        ⟨none, (.store 5 (.t 2) (.t 19)), none, []⟩,
        ⟨none, (.store 5 (.t 3) (.t 20)), none, []⟩,
        ⟨(some 4), (.move (.t 21)), none, []⟩])
     (ACode.seq (ACode.ops [⟨(some 22), (.load true 5 (.t 1)), none, []⟩,
         ⟨(some 23), (.call (.c (.fn (.func 68) [] [])) [(.t 22)]), none, []⟩,
         ⟨(some 24), (.move (.t 23)), none, []⟩,
         ⟨(some 25), (.move (.t 4)), some (24, true), []⟩,
         ⟨(some 26), (.pick (.t 24) (.t 25) (.c (.bool false))), none, []⟩,
         ⟨(some 27), (.move (.t 26)), none, []⟩,
         ⟨(some 28), (.load true 5 (.t 3)), some (27, true), []⟩,
         ⟨(some 29), (.build [(.int .u64 0), (.int .u64 0), (.int .u64 0), (.int .u64 0), (.str [])] [((0, 1), (.c (.int .u64 0))), ((1, 1), (.c (.int .u64 1))), ((2, 1), (.c (.int .u64 7))), ((3, 1), (.c (.int .u64 0))), ((4, 1), (.c (.str [97, 62, 98])))]), some (27, true), []⟩,
         ⟨(some 30), (.eqAgg false [some (.int .u64), some (.int .u64), some (.int .u64), some (.int .u64), some .str] (.t 28) (.t 29)), some (27, true), []⟩,
         ⟨(some 31), (.pick (.t 27) (.t 30) (.c (.bool false))), none, []⟩,
         ⟨(some 32), (.move (.t 31)), none, []⟩,
         ⟨(some 33), (.load true 5 (.t 2)), some (32, true), []⟩,
         ⟨(some 34), (.call (.c (.fn (.func 68) [] [])) [(.t 33)]), some (32, true), []⟩,
         ⟨(some 35), (.un .not (.t 34)), some (32, true), []⟩,
         ⟨(some 36), (.pick (.t 32) (.t 35) (.c (.bool false))), none, []⟩,
         ⟨(some 37), (.move (.t 36)), none, []⟩,
         ⟨(some 38), (.load true 5 (.t 2)), some (37, true), []⟩,
         ⟨(some 39), (.call (.c (.fn (.func 69) [] [])) [(.t 38), (.c (.int .u64 1))]), some (37, true), []⟩,
         ⟨(some 40), (.call (.c (.fn (.func 68) [] [])) [(.t 39)]), some (37, true), []⟩,
         ⟨(some 41), (.pick (.t 37) (.t 40) (.c (.bool false))), none, []⟩,
         ⟨(some 0), (.move (.t 41)), none, []⟩])
      (ACode.ret)))))⟩

/-- slices.BinarySearchFunc[[]vagabond/receiver.state[string],vagabond/receiver.state[string],uint64] -/
def c55 : AFunc := ⟨3, 49, [.tmp 6, .tmp 7],
  ACode.seq (ACode.ops [⟨(some 6), (.move (.c (.int .i64 0))), none, []⟩,
     ⟨(some 7), (.move (.c (.bool false))), none, []⟩])
  (ACode.seq (ACode.ops [⟨(some 12), (.move (.t 0)), none, []⟩,
      ⟨(some 13), (.len false (.t 12)), none, []⟩,
      ⟨(some 8), (.move (.t 13)), none, []⟩])
   (ACode.seq (ACode.ops [⟨(some 14), (.move (.t 8)), none, []⟩,
       ⟨(some 9), (.move (.c (.int .i64 0))), none, []⟩,
       ⟨(some 10), (.move (.t 14)), none, []⟩])
    (ACode.seq (ACode.block 0 (ACode.loop (ACode.seq (ACode.seq (ACode.ops [⟨(some 15), (.move (.t 9)), none, []⟩,
            ⟨(some 16), (.move (.t 10)), none, []⟩,
            ⟨(some 17), (.bin .lss (.t 15) (.t 16)), none, []⟩])
         (ACode.cond (.t 17) (ACode.skip)
          (ACode.exit 0)))
        (ACode.block 1 (ACode.seq (ACode.ops [⟨(some 18), (.move (.t 9)), none, []⟩,
             ⟨(some 19), (.move (.t 10)), none, []⟩,
             ⟨(some 20), (.bin .add (.t 18) (.t 19)), none, []⟩,
             ⟨(some 21), (.conv (.int .u64) (.t 20)), none, []⟩,
             ⟨(some 22), (.bin .shr (.t 21) (.c (.int .u64 1))), none, []⟩,
             ⟨(some 23), (.conv (.int .i64) (.t 22)), none, []⟩,
             ⟨(some 11), (.move (.t 23)), none, []⟩])
          (ACode.seq (ACode.ops [⟨(some 24), (.move (.t 2)), none, []⟩,
              ⟨(some 25), (.move (.t 0)), none, []⟩,
              ⟨(some 26), (.move (.t 11)), none, []⟩,
              ⟨(some 27), (.iaddr 2 (.t 25) (.t 26)), none, []⟩,
              ⟨(some 28), (.load true 2 (.t 27)), none, []⟩,
              ⟨(some 29), (.move (.t 1)), none, []⟩,
              ⟨(some 30), (.call (.t 24) [(.t 28), (.t 29)]), none, []⟩,
              ⟨(some 31), (.bin .lss (.t 30) (.c (.int .i64 0))), none, []⟩])
           (ACode.cond (.t 31) (ACode.ops [⟨(some 32), (.move (.t 11)), none, []⟩,
               ⟨(some 33), (.bin .add (.t 32) (.c (.int .i64 1))), none, []⟩,
               ⟨(some 9), (.move (.t 33)), none, []⟩])
            (ACode.ops [⟨(some 34), (.move (.t 11)), none, []⟩,
               ⟨(some 10), (.move (.t 34)), none, []⟩]))))))))
     (ACode.seq (ACode.ops [⟨(some 35), (.move (.t 9)), none, []⟩,
         ⟨(some 36), (.move (.t 9)), none, []⟩,
         ⟨(some 37), (.move (.t 8)), none, []⟩,
         ⟨(some 38), (.bin .lss (.t 36) (.t 37)), none, []⟩,
         ⟨(some 39), (.move (.t 38)), none, []⟩,
         ⟨(some 40), (.move (.t 2)), some (39, true), []⟩,
         ⟨(some 41), (.move (.t 0)), some (39, true), []⟩,
         ⟨(some 42), (.move (.t 9)), some (39, true), []⟩,
         ⟨(some 43), (.iaddr 2 (.t 41) (.t 42)), some (39, true), []⟩,
         ⟨(some 44), (.load true 2 (.t 43)), some (39, true), []⟩,
         ⟨(some 45), (.move (.t 1)), some (39, true), []⟩,
         ⟨(some 46), (.call (.t 40) [(.t 44), (.t 45)]), some (39, true), []⟩,
         ⟨(some 47), (.bin .eql (.t 46) (.c (.int .i64 0))), some (39, true), []⟩,
         ⟨(some 48), (.pick (.t 39) (.t 47) (.c (.bool false))), none, []⟩,
         ⟨(some 6), (.move (.t 35)), none, []⟩,
         ⟨(some 7), (.move (.t 48)), none, []⟩])
      (ACode.ret)))))⟩

/-- (vagabond/receiver.Receiver[string]).place$1 -/
def c56 : AFunc := ⟨2, 9, [.tmp 4],
  ACode.seq (ACode.ops [⟨(some 2), (.box 2 (.t 0)), none, []⟩,
     ⟨(some 4), (.move (.c (.int .i64 0))), none, []⟩])
  (ACode.seq (ACode.ops [⟨(some 5), (.faddr 0 (.t 2)), none, []⟩,
      ⟨(some 6), (.load false 1 (.t 5)), none, []⟩,
      ⟨(some 7), (.move (.t 1)), none, []⟩,
      ⟨(some 8), (.call (.c (.fn (.func 57) [] [])) [(.t 6), (.t 7)]), none, []⟩,
      ⟨(some 4), (.move (.t 8)), none, []⟩])
   (ACode.ret))⟩

/-- vagabond/vagabondlaw15.Rule -/
def c64 : AFunc := ⟨0, 2, [.cell 0 true 2],
  ACode.seq (ACode.ops [⟨(some 0), (.alloc [.nilfn, .nilfn]), none, []⟩])
  (ACode.seq (ACode.ops [⟨(some 1), (.build [.nilfn, .nilfn] [((0, 1), (.c (.fn (.func 72) [] []))), ((1, 1), (.c (.fn (.func 73) [] [])))]), none, []⟩,
      ⟨none, (.store 2 (.t 0) (.t 1)), none, []⟩])
   (ACode.ret))⟩

/-- vagabond/sender.New[string] -/
def c63 : AFunc := ⟨2, 11, [.cell 4 true 5],
  ACode.seq (ACode.ops [⟨(some 3), (.box 2 (.t 1)), none, []⟩,
     ⟨(some 4), (.alloc [.nilfn, .nilfn, .nils, (.str []), (.int .u64 0)]), none, []⟩])
  (ACode.seq (ACode.ops [⟨(some 5), (.load true 2 (.t 3)), none, []⟩,
      ⟨(some 6), (.move (.t 0)), none, []⟩,
      ⟨(some 7), (.build [(.int .u64 0), (.int .u64 0), (.str [])] [((2, 1), (.t 6))]), none, []⟩,
      ⟨(some 8), (.buildSlice [(.int .u64 0), (.int .u64 0), (.str [])] 3 1 [(0, (.t 7))]), none, []⟩,
      ⟨(some 9), (.move (.t 0)), none, []⟩,
      ⟨(some 10), (.build [.nilfn, .nilfn, .nils, (.str []), (.int .u64 0)] [((0, 2), (.t 5)), ((2, 1), (.t 8)), ((3, 1), (.t 9))]), none, []⟩,
      ⟨none, (.store 5 (.t 4) (.t 10)), none, []⟩])
   (ACode.ret))⟩

/-- (vagabond/sender.Sender[string]).Numbers -/
def c65 : AFunc := ⟨1, 20, [.tmp 2],
  ACode.seq (ACode.ops [⟨(some 1), (.box 5 (.t 0)), none, []⟩,
     ⟨(some 2), (.move (.c .nils)), none, []⟩])
  (ACode.seq (ACode.ops [⟨(some 3), (.move (.c .nils)), none, []⟩])
   (ACode.seq (ACode.seq (ACode.ops [⟨(some 6), (.faddr 2 (.t 1)), none, []⟩,
        ⟨(some 7), (.load false 1 (.t 6)), none, []⟩,
        ⟨(some 8), (.len false (.t 7)), none, []⟩,
        ⟨(some 9), (.move (.c (.int .i64 0))), none, []⟩])
     (ACode.block 0 (ACode.loop (ACode.seq (ACode.ops [⟨(some 10), (.bin .lss (.t 9) (.t 8)), none, []⟩])
        (ACode.seq (ACode.cond (.t 10) (ACode.skip)
          (ACode.exit 0))
         (ACode.seq (ACode.block 1 (ACode.seq (ACode.ops [⟨(some 11), (.iaddr 3 (.t 7) (.t 9)), none, []⟩,
               ⟨(some 12), (.load true 3 (.t 11)), none, []⟩,
               ⟨(some 5), (.alloc [(.int .u64 0), (.int .u64 0), (.str [])]), none, []⟩,
               ⟨none, (.store 3 (.t 5) (.t 12)), none, []⟩])
            (ACode.ops [⟨(some 13), (.move (.t 3)), none, []⟩,
               ⟨(some 14), (.faddr 0 (.t 5)), none, []⟩,
               ⟨(some 15), (.load false 1 (.t 14)), none, []⟩,
               ⟨(some 16), (.buildSlice [(.int .u64 0)] 1 1 [(0, (.t 15))]), none, []⟩,
               ⟨(some 17), (.append 1 8 (.t 13) (.t 16)), none, []⟩,
               ⟨(some 3), (.move (.t 17)), none, []⟩])))
          (ACode.ops [⟨(some 18), (.bin .add (.t 9) (.c (.int .i64 1))), none, []⟩,
             ⟨(some 9), (.move (.t 18)), none, []⟩])))))))
    (ACode.seq (ACode.ops [⟨(some 19), (.move (.t 3)), none, []⟩,
        ⟨(some 2), (.move (.t 19)), none, []⟩])
     (ACode.ret))))⟩

/-- vagabond/vagabondlaw01.Awake -/
def c40 : AFunc := ⟨0, 2, [.tmp 0],
  ACode.seq (ACode.ops [⟨(some 0), (.move (.c (.bool false))), none, []⟩])
  (ACode.seq (ACode.ops [⟨(some 1), (.call (.c (.fn (.func 53) [] [])) []), none, []⟩,
      ⟨(some 0), (.move (.t 1)), none, []⟩])
   (ACode.ret))⟩

/-- (vagabond/sender.Sender[string]).Set -/
def c66 : AFunc := ⟨2, 8, [.cell 4 true 5],
  ACode.seq (ACode.ops [⟨(some 2), (.box 5 (.t 0)), none, []⟩,
     ⟨(some 4), (.alloc [.nilfn, .nilfn, .nils, (.str []), (.int .u64 0)]), none, []⟩])
  (ACode.seq (ACode.ops [⟨(some 5), (.move (.t 1)), none, []⟩,
      ⟨(some 6), (.faddr 3 (.t 2)), none, []⟩,
      ⟨none, (.store 1 (.t 6) (.t 5)), none, []⟩])
   (ACode.seq (ACode.ops [⟨(some 7), (.load true 5 (.t 2)), none, []⟩,
       ⟨none, (.store 5 (.t 4) (.t 7)), none, []⟩])
    (ACode.ret)))⟩

/-- (vagabond/sender.Sender[string]).Next -/
def c67 : AFunc := ⟨5, 77, [.cell 10 true 5, .cell 11 true 5, .tmp 12],
  ACode.seq (ACode.ops [⟨(some 5), (.box 5 (.t 0)), none, []⟩,
     ⟨(some 10), (.alloc [.nilfn, .nilfn, .nils, (.str []), (.int .u64 0)]), none, []⟩,
     ⟨(some 11), (.alloc [(.int .u64 0), (.int .u64 0), (.int .u64 0), (.int .u64 0), (.str [])]), none, []⟩,
     ⟨(some 12), (.move (.c (.bool false))), none, []⟩])
  (ACode.seq (ACode.seq (ACode.ops [⟨(some 16), (.move (.t 1)), none, []⟩,
       ⟨(some 17), (.load true 5 (.t 5)), none, []⟩,
       ⟨(some 18), (.move (.t 2)), none, []⟩,
       ⟨(some 19), (.move (.t 3)), none, []⟩,
       ⟨(some 20), (.call (.c (.fn (.func 74) [] [])) [(.t 17), (.t 18), (.t 19)]), none, []⟩,
       ⟨(some 21), (.bin .lss (.t 16) (.t 20)), none, []⟩])
    (ACode.cond (.t 21) (ACode.seq (ACode.ops [⟨(some 22), (.load true 5 (.t 5)), none, []⟩,
         ⟨(some 23), (.build [(.int .u64 0), (.int .u64 0), (.int .u64 0), (.int .u64 0), (.str [])] []), none, []⟩,
         ⟨none, (.store 5 (.t 10) (.t 22)), none, []⟩,
         ⟨none, (.store 5 (.t 11) (.t 23)), none, []⟩,
         ⟨(some 12), (.move (.c (.bool false))), none, []⟩])
      (ACode.ret))
     (ACode.skip)))
   (ACode.seq (ACode.ops [⟨(some 24), (.load true 5 (.t 5)), none, []⟩,
       ⟨(some 25), (.call (.c (.fn (.func 75) [] [])) [(.t 24)]), none, []⟩,
       ⟨(some 13), (.move (.t 25)), none, []⟩])
    (ACode.seq (ACode.ops [⟨(some 26), (.faddr 2 (.t 5)), none, []⟩,
        ⟨(some 27), (.load false 1 (.t 26)), none, []⟩,
        ⟨(some 28), (.call (.c (.fn (.func 76) [] [])) [(.t 27)]), none, []⟩,
        ⟨(some 29), (.faddr 2 (.t 5)), none, []⟩,
        ⟨none, (.store 1 (.t 29) (.t 28)), none, []⟩])
     (ACode.seq (ACode.seq (ACode.ops [⟨(some 30), (.move (.t 13)), none, []⟩])
       (ACode.cond (.t 30) (ACode.draw [⟨(some 31), (.faddr 2 (.t 5)), none, []⟩,
           ⟨(some 32), (.load false 1 (.t 31)), none, []⟩,
           ⟨(some 33), (.load true 5 (.t 5)), none, [0, 1]⟩,
           ⟨(some 34), (.call (.c (.fn (.func 77) [] [])) [(.t 33)]), none, [0, 1]⟩,
           ⟨(some 35), (.field false 1 0 (.t 34)), none, [0, 1]⟩,
           ⟨(some 36), (.bin .add (.t 35) (.c (.int .u64 1))), none, [0, 1]⟩,
           ⟨(some 37), (.faddr 3 (.t 5)), none, [0, 1, 2, 3, 4, 5]⟩,
           ⟨(some 38), (.load false 1 (.t 37)), none, [0, 1, 2, 3, 4, 5]⟩,
           ⟨(some 39), (.build [(.int .u64 0), (.int .u64 0), (.str [])] [((0, 1), (.t 36)), ((2, 1), (.t 38))]), none, [0, 1]⟩,
           ⟨(some 40), (.buildSlice [(.int .u64 0), (.int .u64 0), (.str [])] 3 1 [(0, (.t 39))]), none, [0, 1]⟩,
           ⟨(some 41), (.append 3 32 (.t 32) (.t 40)), none, []⟩,
           ⟨(some 42), (.faddr 2 (.t 5)), none, []⟩,
           ⟨none, (.store 1 (.t 42) (.t 41)), none, []⟩])
        (ACode.skip)))
      (ACode.seq (ACode.ops [⟨(some 43), (.faddr 2 (.t 5)), none, []⟩,
          ⟨(some 44), (.load false 1 (.t 43)), none, []⟩,
          ⟨(some 45), (.faddr 2 (.t 5)), none, []⟩,
          ⟨(some 46), (.load false 1 (.t 45)), none, []⟩,
          ⟨(some 47), (.len false (.t 46)), none, []⟩,
          ⟨(some 48), (.bin .sub (.t 47) (.c (.int .i64 1))), none, []⟩,
          ⟨(some 49), (.move (.t 1)), none, []⟩,
          ⟨(some 50), (.iaddr 3 (.t 44) (.t 48)), none, []⟩,
          ⟨(some 51), (.faddr 1 (.t 50)), none, []⟩,
          ⟨none, (.store 1 (.t 51) (.t 49)), none, []⟩])
       (ACode.seq (ACode.ops [⟨(some 52), (.move (.t 1)), none, []⟩,
           ⟨(some 53), (.faddr 4 (.t 5)), none, []⟩,
           ⟨none, (.store 1 (.t 53) (.t 52)), none, []⟩])
        (ACode.seq (ACode.draw [⟨(some 54), (.faddr 2 (.t 5)), none, []⟩,
            ⟨(some 55), (.load false 1 (.t 54)), none, []⟩,
            ⟨(some 56), (.iaddr 3 (.t 55) (.c (.int .i64 0))), none, []⟩,
            ⟨(some 57), (.load true 3 (.t 56)), none, []⟩,
            ⟨(some 58), (.load true 5 (.t 5)), none, [0, 1, 2, 3]⟩,
            ⟨(some 59), (.call (.c (.fn (.func 77) [] [])) [(.t 58)]), none, [0, 1, 2, 3]⟩,
            ⟨(some 14), (.alloc [(.int .u64 0), (.int .u64 0), (.str [])]), none, [0, 1, 2, 3, 4, 5]⟩,
            ⟨(some 15), (.alloc [(.int .u64 0), (.int .u64 0), (.str [])]), none, [0, 1, 2, 3, 4, 5, 6]⟩,
            ⟨none, (.store 3 (.t 14) (.t 57)), none, []⟩,
            ⟨none, (.store 3 (.t 15) (.t 59)), none, []⟩])
         (ACode.seq (ACode.draw [⟨(some 60), (.load true 5 (.t 5)), none, []⟩,
             ⟨(some 61), (.faddr 0 (.t 14)), none, [0]⟩,
             ⟨(some 62), (.load false 1 (.t 61)), none, [0]⟩,
             ⟨(some 63), (.faddr 0 (.t 15)), none, [0, 1, 2]⟩,
             ⟨(some 64), (.load false 1 (.t 63)), none, [0, 1, 2]⟩,
             ⟨(some 65), (.move (.t 4)), none, [0, 1, 2, 3, 4]⟩,
             ⟨(some 66), (.faddr 0 (.t 14)), none, [0, 1, 2, 3, 4, 5]⟩,
             ⟨(some 67), (.load false 1 (.t 66)), none, [0, 1, 2, 3, 4, 5]⟩,
             ⟨(some 68), (.faddr 0 (.t 5)), none, [0, 1, 2, 3, 4, 5, 6, 7]⟩,
             ⟨(some 69), (.faddr 0 (.t 68)), none, [0, 1, 2, 3, 4, 5, 6, 7]⟩,
             ⟨(some 70), (.load false 1 (.t 69)), none, [0, 1, 2, 3, 4, 5, 6, 7]⟩,
             ⟨(some 71), (.faddr 2 (.t 14)), none, [0, 1, 2, 3, 4, 5, 6, 7, 8, 9, 10]⟩,
             ⟨(some 72), (.load false 1 (.t 71)), none, [0, 1, 2, 3, 4, 5, 6, 7, 8, 9, 10]⟩,
             ⟨(some 73), (.faddr 2 (.t 15)), none, [0, 1, 2, 3, 4, 5, 6, 7, 8, 9, 10, 11, 12]⟩,
             ⟨(some 74), (.load false 1 (.t 73)), none, [0, 1, 2, 3, 4, 5, 6, 7, 8, 9, 10, 11, 12]⟩,
             ⟨(some 75), (.call (.t 70) [(.t 72), (.t 74)]), none, [0, 1, 2, 3, 4, 5, 6, 7]⟩,
             ⟨(some 76), (.build [(.int .u64 0), (.int .u64 0), (.int .u64 0), (.int .u64 0), (.str [])] [((0, 1), (.t 62)), ((1, 1), (.t 64)), ((2, 1), (.t 65)), ((3, 1), (.t 67)), ((4, 1), (.t 75))]), none, [0]⟩,
             ⟨none, (.store 5 (.t 10) (.t 60)), none, [1, 2, 3, 4, 5, 6, 7, 16]⟩,
             ⟨none, (.store 5 (.t 11) (.t 76)), none, []⟩,
             ⟨(some 12), (.move (.c (.bool true))), none, []⟩])
          (ACode.ret)))))))))⟩

/-- (vagabond/sender.Sender[string]).Quiet -/
def c68 : AFunc := ⟨1, 20, [.tmp 2],
  ACode.seq (ACode.ops [⟨(some 1), (.box 5 (.t 0)), none, []⟩,
     ⟨(some 2), (.move (.c (.bool false))), none, []⟩])
  (ACode.seq (ACode.draw [⟨(some 3), (.faddr 2 (.t 1)), none, []⟩,
      ⟨(some 4), (.load false 1 (.t 3)), none, []⟩,
      ⟨(some 5), (.len false (.t 4)), none, []⟩,
      ⟨(some 6), (.bin .eql (.t 5) (.c (.int .i64 1))), none, []⟩,
      ⟨(some 7), (.move (.t 6)), none, []⟩,
      ⟨(some 8), (.faddr 0 (.t 1)), some (7, true), []⟩,
      ⟨(some 9), (.faddr 1 (.t 8)), some (7, true), []⟩,
      ⟨(some 10), (.load false 1 (.t 9)), some (7, true), []⟩,
      ⟨(some 11), (.faddr 3 (.t 1)), some (7, true), [5, 6, 7]⟩,
      ⟨(some 12), (.load false 1 (.t 11)), some (7, true), [5, 6, 7]⟩,
      ⟨(some 13), (.faddr 2 (.t 1)), some (7, true), [5, 6, 7, 8, 9]⟩,
      ⟨(some 14), (.load false 1 (.t 13)), some (7, true), [5, 6, 7, 8, 9]⟩,
      ⟨(some 15), (.iaddr 3 (.t 14) (.c (.int .i64 0))), some (7, true), [5, 6, 7, 8, 9]⟩,
      ⟨(some 16), (.faddr 2 (.t 15)), some (7, true), [5, 6, 7, 8, 9]⟩,
      ⟨(some 17), (.load false 1 (.t 16)), some (7, true), [5, 6, 7, 8, 9]⟩,
      ⟨(some 18), (.call (.t 10) [(.t 12), (.t 17)]), some (7, true), []⟩,
      ⟨(some 19), (.pick (.t 7) (.t 18) (.c (.bool false))), none, []⟩,
      ⟨(some 2), (.move (.t 19)), none, []⟩])
   (ACode.ret))⟩

/-- (vagabond/sender.Sender[string]).Acked -/
def c69 : AFunc := ⟨2, 19, [.cell 4 true 5],
  ACode.seq (ACode.ops [⟨(some 2), (.box 5 (.t 0)), none, []⟩,
     ⟨(some 3), (.box 1 (.t 1)), none, []⟩,
     ⟨(some 4), (.alloc [.nilfn, .nilfn, .nils, (.str []), (.int .u64 0)]), none, []⟩])
  (ACode.seq (ACode.ops [⟨(some 6), (.faddr 2 (.t 2)), none, []⟩,
      ⟨(some 7), (.load false 1 (.t 6)), none, []⟩,
      ⟨(some 8), (.makeFunc (.func 79) [] [(.t 3)]), none, []⟩,
      ⟨(some 9), (.call (.c (.fn (.func 78) [] [])) [(.t 7), (.t 8)]), none, []⟩,
      ⟨(some 5), (.move (.t 9)), none, []⟩])
   (ACode.seq (ACode.seq (ACode.ops [⟨(some 10), (.move (.t 5)), none, []⟩,
        ⟨(some 11), (.bin .gtr (.t 10) (.c (.int .i64 0))), none, []⟩])
     (ACode.cond (.t 11) (ACode.ops [⟨(some 12), (.faddr 2 (.t 2)), none, []⟩,
         ⟨(some 13), (.load false 1 (.t 12)), none, []⟩,
         ⟨(some 14), (.move (.t 5)), none, []⟩,
         ⟨(some 15), (.slice 3 (.t 13) (some (.t 14)) none none), none, []⟩,
         ⟨(some 16), (.call (.c (.fn (.func 76) [] [])) [(.t 15)]), none, []⟩,
         ⟨(some 17), (.faddr 2 (.t 2)), none, []⟩,
         ⟨none, (.store 1 (.t 17) (.t 16)), none, []⟩])
      (ACode.skip)))
    (ACode.seq (ACode.ops [⟨(some 18), (.load true 5 (.t 2)), none, []⟩,
        ⟨none, (.store 5 (.t 4) (.t 18)), none, []⟩])
     (ACode.ret))))⟩

/-- cmp.Compare[uint64] -/
def c57 : AFunc := ⟨2, 20, [.tmp 4],
  ACode.seq (ACode.ops [⟨(some 4), (.move (.c (.int .i64 0))), none, []⟩])
  (ACode.seq (ACode.ops [⟨(some 7), (.move (.t 0)), none, []⟩,
      ⟨(some 8), (.call (.c (.fn (.func 70) [] [])) [(.t 7)]), none, []⟩,
      ⟨(some 5), (.move (.t 8)), none, []⟩])
   (ACode.seq (ACode.ops [⟨(some 9), (.move (.t 1)), none, []⟩,
       ⟨(some 10), (.call (.c (.fn (.func 70) [] [])) [(.t 9)]), none, []⟩,
       ⟨(some 6), (.move (.t 10)), none, []⟩])
    (ACode.seq (ACode.seq (ACode.ops [⟨(some 11), (.move (.t 5)), none, []⟩])
      (ACode.cond (.t 11) (ACode.seq (ACode.seq (ACode.ops [⟨(some 12), (.move (.t 6)), none, []⟩])
         (ACode.cond (.t 12) (ACode.seq (ACode.ops [⟨(some 4), (.move (.c (.int .i64 0))), none, []⟩])
           (ACode.ret))
          (ACode.skip)))
        (ACode.seq (ACode.ops [⟨(some 4), (.move (.c (.int .i64 (-1)))), none, []⟩])
         (ACode.ret)))
       (ACode.skip)))
     (ACode.seq (ACode.seq (ACode.ops [⟨(some 13), (.move (.t 6)), none, []⟩])
       (ACode.cond (.t 13) (ACode.seq (ACode.ops [⟨(some 4), (.move (.c (.int .i64 1))), none, []⟩])
         (ACode.ret))
        (ACode.skip)))
      (ACode.seq (ACode.seq (ACode.ops [⟨(some 14), (.move (.t 0)), none, []⟩,
           ⟨(some 15), (.move (.t 1)), none, []⟩,
           ⟨(some 16), (.bin .lss (.t 14) (.t 15)), none, []⟩])
        (ACode.cond (.t 16) (ACode.seq (ACode.ops [⟨(some 4), (.move (.c (.int .i64 (-1)))), none, []⟩])
          (ACode.ret))
         (ACode.skip)))
       (ACode.seq (ACode.seq (ACode.ops [⟨(some 17), (.move (.t 0)), none, []⟩,
            ⟨(some 18), (.move (.t 1)), none, []⟩,
            ⟨(some 19), (.bin .gtr (.t 17) (.t 18)), none, []⟩])
         (ACode.cond (.t 19) (ACode.seq (ACode.ops [⟨(some 4), (.move (.c (.int .i64 1))), none, []⟩])
           (ACode.ret))
          (ACode.skip)))
        (ACode.seq (ACode.ops [⟨(some 4), (.move (.c (.int .i64 0))), none, []⟩])
         (ACode.ret))))))))⟩

/-- vagabond/vagabondlaw15.Rule$1 -/
def c72 : AFunc := ⟨2, 9, [.tmp 4],
  ACode.seq (ACode.ops [⟨(some 4), (.move (.c (.str []))), none, []⟩])
  (ACode.seq (ACode.ops [⟨(some 5), (.move (.t 0)), none, []⟩,
      ⟨(some 6), (.bin .add (.t 5) (.c (.str [62]))), none, []⟩,
      ⟨(some 7), (.move (.t 1)), none, []⟩,
      ⟨(some 8), (.bin .add (.t 6) (.t 7)), none, []⟩,
      ⟨(some 4), (.move (.t 8)), none, []⟩])
   (ACode.ret))⟩

/-- vagabond/vagabondlaw15.Rule$2 -/
def c73 : AFunc := ⟨2, 8, [.tmp 4],
  ACode.seq (ACode.ops [⟨(some 4), (.move (.c (.bool false))), none, []⟩])
  (ACode.seq (ACode.ops [⟨(some 5), (.move (.t 0)), none, []⟩,
      ⟨(some 6), (.move (.t 1)), none, []⟩,
      ⟨(some 7), (.bin .eql (.t 5) (.t 6)), none, []⟩,
      ⟨(some 4), (.move (.t 7)), none, []⟩])
   (ACode.ret))⟩

/-- vagabond/vagabondlaw01.awake -/
def c53 : AFunc := ⟨0, 19, [.tmp 0],
  ACode.seq (ACode.ops [⟨(some 0), (.move (.c (.bool false))), none, []⟩])
  (ACode.seq (ACode.ops [⟨(some 4), (.buildSlice [(.int .i64 0)] 1 2 [(0, (.c (.int .i64 1))), (1, (.c (.int .i64 2)))]), none, []⟩,
      ⟨(some 5), (.call (.c (.fn (.func 60) [] [])) [(.c (.str [97, 98, 99, 100])), (.t 4)]), none, []⟩,
      ⟨(some 3), (.move (.t 5)), none, []⟩,
      ⟨(some 6), (.extract (.t 3) 0), none, []⟩,
      ⟨(some 7), (.extract (.t 3) 1), none, []⟩,
      ⟨(some 1), (.move (.t 6)), none, []⟩,
      ⟨(some 2), (.move (.t 7)), none, []⟩])
   (ACode.seq (ACode.ops [⟨(some 8), (.move (.t 2)), none, []⟩,
       ⟨(some 9), (.bin .eql (.t 8) (.c (.int .i64 0))), none, []⟩,
       ⟨(some 10), (.move (.t 9)), none, []⟩,
       ⟨(some 11), (.move (.t 1)), some (10, true), []⟩,
       ⟨(some 12), (.buildSlice [(.str [])] 1 3 [(0, (.c (.str [97]))), (1, (.c (.str [98, 99]))), (2, (.c (.str [100])))]), some (10, true), []⟩,
       ⟨(some 13), (.call (.c (.fn (.func 61) [] [])) [(.t 11), (.t 12)]), some (10, true), []⟩,
       ⟨(some 14), (.pick (.t 10) (.t 13) (.c (.bool false))), none, []⟩,
       ⟨(some 15), (.move (.t 14)), none, []⟩,
       ⟨(some 16), (.call (.c (.fn (.func 62) [] [])) [(.c (.int .u64 258)), (.c (.int .i64 2))]), some (15, true), []⟩,
       ⟨(some 17), (.bin .eql (.t 16) (.c (.str [1, 2]))), some (15, true), []⟩,
       ⟨(some 18), (.pick (.t 15) (.t 17) (.c (.bool false))), none, []⟩,
       ⟨(some 0), (.move (.t 18)), none, []⟩])
    (ACode.ret)))⟩

/-- (vagabond/sender.Sender[string]).Due -/
def c74 : AFunc := ⟨3, 28, [.tmp 6],
  ACode.seq (ACode.ops [⟨(some 3), (.box 5 (.t 0)), none, []⟩,
     ⟨(some 6), (.move (.c (.int .u64 0))), none, []⟩])
  (ACode.seq (ACode.ops [⟨(some 8), (.faddr 4 (.t 3)), none, []⟩,
      ⟨(some 9), (.load false 1 (.t 8)), none, []⟩,
      ⟨(some 10), (.move (.t 2)), none, []⟩,
      ⟨(some 11), (.call (.c (.fn (.func 43) [] [])) [(.t 9), (.t 10)]), none, []⟩,
      ⟨(some 7), (.move (.t 11)), none, []⟩])
   (ACode.seq (ACode.block 0 (ACode.seq (ACode.ops [⟨(some 13), (.load true 5 (.t 3)), none, []⟩,
         ⟨(some 14), (.call (.c (.fn (.func 75) [] [])) [(.t 13)]), none, []⟩,
         ⟨(some 12), (.move (.t 14)), none, []⟩])
      (ACode.cond (.t 12) (ACode.seq (ACode.ops [⟨(some 6), (.move (.c (.int .u64 0))), none, []⟩])
        (ACode.ret))
       (ACode.seq (ACode.ops [⟨(some 16), (.faddr 2 (.t 3)), none, []⟩,
           ⟨(some 17), (.load false 1 (.t 16)), none, []⟩,
           ⟨(some 18), (.len false (.t 17)), none, []⟩,
           ⟨(some 19), (.bin .gtr (.t 18) (.c (.int .i64 1))), none, []⟩,
           ⟨(some 15), (.move (.t 19)), none, []⟩])
        (ACode.cond (.t 15) (ACode.seq (ACode.ops [⟨(some 20), (.move (.t 7)), none, []⟩,
             ⟨(some 21), (.load true 5 (.t 3)), none, []⟩,
             ⟨(some 22), (.call (.c (.fn (.func 77) [] [])) [(.t 21)]), none, []⟩,
             ⟨(some 23), (.field false 1 1 (.t 22)), none, []⟩,
             ⟨(some 24), (.move (.t 1)), none, []⟩,
             ⟨(some 25), (.call (.c (.fn (.func 43) [] [])) [(.t 23), (.t 24)]), none, []⟩,
             ⟨(some 26), (.minI [(.t 20), (.t 25)]), none, []⟩,
             ⟨(some 6), (.move (.t 26)), none, []⟩])
          (ACode.ret))
         (ACode.skip))))))
    (ACode.seq (ACode.ops [⟨(some 27), (.move (.t 7)), none, []⟩,
        ⟨(some 6), (.move (.t 27)), none, []⟩])
     (ACode.ret))))⟩

/-- (vagabond/sender.Sender[string]).fresh -/
def c75 : AFunc := ⟨1, 19, [.tmp 2],
  ACode.seq (ACode.ops [⟨(some 1), (.box 5 (.t 0)), none, []⟩,
     ⟨(some 2), (.move (.c (.bool false))), none, []⟩])
  (ACode.seq (ACode.draw [⟨(some 3), (.faddr 0 (.t 1)), none, []⟩,
      ⟨(some 4), (.faddr 1 (.t 3)), none, []⟩,
      ⟨(some 5), (.load false 1 (.t 4)), none, []⟩,
      ⟨(some 6), (.faddr 3 (.t 1)), none, [0, 1, 2]⟩,
      ⟨(some 7), (.load false 1 (.t 6)), none, [0, 1, 2]⟩,
      ⟨(some 8), (.load true 5 (.t 1)), none, [0, 1, 2, 3, 4]⟩,
      ⟨(some 9), (.call (.c (.fn (.func 77) [] [])) [(.t 8)]), none, [0, 1, 2, 3, 4]⟩,
      ⟨(some 10), (.field false 1 2 (.t 9)), none, [0, 1, 2, 3, 4]⟩,
      ⟨(some 11), (.call (.t 5) [(.t 7), (.t 10)]), none, []⟩,
      ⟨(some 12), (.un .not (.t 11)), none, []⟩,
      ⟨(some 13), (.move (.t 12)), none, []⟩,
      ⟨(some 14), (.faddr 2 (.t 1)), some (13, true), []⟩,
      ⟨(some 15), (.load false 1 (.t 14)), some (13, true), []⟩,
      ⟨(some 16), (.len false (.t 15)), some (13, true), []⟩,
      ⟨(some 17), (.bin .lss (.t 16) (.c (.int .i64 8))), some (13, true), []⟩,
      ⟨(some 18), (.pick (.t 13) (.t 17) (.c (.bool false))), none, []⟩,
      ⟨(some 2), (.move (.t 18)), none, []⟩])
   (ACode.ret))⟩

/-- slices.Clone[[]vagabond/sender.state[string],vagabond/sender.state[string]] -/
def c76 : AFunc := ⟨1, 8, [.tmp 2],
  ACode.seq (ACode.ops [⟨(some 2), (.move (.c .nils)), none, []⟩])
  (ACode.seq (ACode.seq (ACode.ops [⟨(some 3), (.move (.t 0)), none, []⟩,
       ⟨(some 4), (.isNil .slice false (.t 3)), none, []⟩])
    (ACode.cond (.t 4) (ACode.seq (ACode.ops [⟨(some 2), (.move (.c .nils)), none, []⟩])
      (ACode.ret))
     (ACode.skip)))
   (ACode.seq (ACode.ops [⟨(some 5), (.buildSlice [(.int .u64 0), (.int .u64 0), (.str [])] 3 0 []), none, []⟩,
       ⟨(some 6), (.move (.t 0)), none, []⟩,
       ⟨(some 7), (.append 3 32 (.t 5) (.t 6)), none, []⟩,
       ⟨(some 2), (.move (.t 7)), none, []⟩])
    (ACode.ret)))⟩

/-- (vagabond/sender.Sender[string]).newest -/
def c77 : AFunc := ⟨1, 11, [.cell 2 true 3],
  ACode.seq (ACode.ops [⟨(some 1), (.box 5 (.t 0)), none, []⟩,
     ⟨(some 2), (.alloc [(.int .u64 0), (.int .u64 0), (.str [])]), none, []⟩])
  (ACode.seq (ACode.ops [⟨(some 3), (.faddr 2 (.t 1)), none, []⟩,
      ⟨(some 4), (.load false 1 (.t 3)), none, []⟩,
      ⟨(some 5), (.faddr 2 (.t 1)), none, []⟩,
      ⟨(some 6), (.load false 1 (.t 5)), none, []⟩,
      ⟨(some 7), (.len false (.t 6)), none, []⟩,
      ⟨(some 8), (.bin .sub (.t 7) (.c (.int .i64 1))), none, []⟩,
      ⟨(some 9), (.iaddr 3 (.t 4) (.t 8)), none, []⟩,
      ⟨(some 10), (.load true 3 (.t 9)), none, []⟩,
      ⟨none, (.store 3 (.t 2) (.t 10)), none, []⟩])
   (ACode.ret))⟩

/-- (vagabond/sender.Sender[string]).Acked$1 -/
def c79 : AFunc := ⟨2, 8, [.tmp 3],
  ACode.seq (ACode.ops [⟨(some 2), (.box 3 (.t 0)), none, []⟩,
     ⟨(some 3), (.move (.c (.bool false))), none, []⟩])
  (ACode.seq (ACode.ops [⟨(some 4), (.faddr 0 (.t 2)), none, []⟩,
      ⟨(some 5), (.load false 1 (.t 4)), none, []⟩,
      ⟨(some 6), (.load false 1 (.t 1)), none, []⟩,
      ⟨(some 7), (.bin .eql (.t 5) (.t 6)), none, []⟩,
      ⟨(some 3), (.move (.t 7)), none, []⟩])
   (ACode.ret))⟩

/-- slices.IndexFunc[[]vagabond/sender.state[string],vagabond/sender.state[string]] -/
def c78 : AFunc := ⟨2, 19, [.tmp 4],
  ACode.seq (ACode.ops [⟨(some 4), (.move (.c (.int .i64 0))), none, []⟩])
  (ACode.seq (ACode.seq (ACode.ops [⟨(some 6), (.move (.t 0)), none, []⟩,
       ⟨(some 7), (.len false (.t 6)), none, []⟩,
       ⟨(some 8), (.move (.c (.int .i64 0))), none, []⟩])
    (ACode.block 0 (ACode.loop (ACode.seq (ACode.ops [⟨(some 9), (.bin .lss (.t 8) (.t 7)), none, []⟩])
       (ACode.seq (ACode.cond (.t 9) (ACode.skip)
         (ACode.exit 0))
        (ACode.seq (ACode.block 1 (ACode.seq (ACode.ops [⟨(some 10), (.move (.t 8)), none, []⟩,
              ⟨(some 5), (.move (.t 10)), none, []⟩])
           (ACode.seq (ACode.ops [⟨(some 11), (.move (.t 1)), none, []⟩,
               ⟨(some 12), (.move (.t 0)), none, []⟩,
               ⟨(some 13), (.move (.t 5)), none, []⟩,
               ⟨(some 14), (.iaddr 3 (.t 12) (.t 13)), none, []⟩,
               ⟨(some 15), (.load true 3 (.t 14)), none, []⟩,
               ⟨(some 16), (.call (.t 11) [(.t 15)]), none, []⟩])
            (ACode.cond (.t 16) (ACode.seq (ACode.ops [⟨(some 17), (.move (.t 5)), none, []⟩,
                 ⟨(some 4), (.move (.t 17)), none, []⟩])
              (ACode.ret))
             (ACode.skip)))))
         (ACode.ops [⟨(some 18), (.bin .add (.t 8) (.c (.int .i64 1))), none, []⟩,
            ⟨(some 8), (.move (.t 18)), none, []⟩])))))))
   (ACode.seq (ACode.ops [⟨(some 4), (.move (.c (.int .i64 (-1)))), none, []⟩])
    (ACode.ret)))⟩

/-- cmp.isNaN[uint64] -/
def c70 : AFunc := ⟨1, 6, [.tmp 2],
  ACode.seq (ACode.ops [⟨(some 2), (.move (.c (.bool false))), none, []⟩])
  (ACode.seq (ACode.ops [⟨(some 3), (.move (.t 0)), none, []⟩,
      ⟨(some 4), (.move (.t 0)), none, []⟩,
      ⟨(some 5), (.bin .neq (.t 3) (.t 4)), none, []⟩,
      ⟨(some 2), (.move (.t 5)), none, []⟩])
   (ACode.ret))⟩

/-- vagabond/word.Cut -/
def c60 : AFunc := ⟨2, 37, [.tmp 4, .tmp 5],
  ACode.seq (ACode.ops [⟨(some 4), (.move (.c .nils)), none, []⟩,
     ⟨(some 5), (.move (.c (.int .i64 0))), none, []⟩])
  (ACode.seq (ACode.ops [⟨(some 6), (.move (.c .nils)), none, []⟩])
   (ACode.seq (ACode.seq (ACode.ops [⟨(some 9), (.move (.t 1)), none, []⟩,
        ⟨(some 10), (.len false (.t 9)), none, []⟩,
        ⟨(some 11), (.move (.c (.int .i64 0))), none, []⟩])
     (ACode.block 0 (ACode.loop (ACode.seq (ACode.ops [⟨(some 12), (.bin .lss (.t 11) (.t 10)), none, []⟩])
        (ACode.seq (ACode.cond (.t 12) (ACode.skip)
          (ACode.exit 0))
         (ACode.seq (ACode.block 1 (ACode.seq (ACode.ops [⟨(some 13), (.iaddr 1 (.t 9) (.t 11)), none, []⟩,
               ⟨(some 14), (.load false 1 (.t 13)), none, []⟩,
               ⟨(some 8), (.move (.t 14)), none, []⟩])
            (ACode.seq (ACode.block 2 (ACode.seq (ACode.ops [⟨(some 16), (.move (.t 8)), none, []⟩,
                  ⟨(some 17), (.bin .lss (.t 16) (.c (.int .i64 0))), none, []⟩,
                  ⟨(some 15), (.move (.t 17)), none, []⟩])
               (ACode.cond (.t 15) (ACode.seq (ACode.ops [⟨(some 4), (.move (.c .nils)), none, []⟩,
                    ⟨(some 5), (.move (.c (.int .i64 2))), none, []⟩])
                 (ACode.ret))
                (ACode.seq (ACode.ops [⟨(some 19), (.move (.t 8)), none, []⟩,
                    ⟨(some 20), (.move (.t 0)), none, []⟩,
                    ⟨(some 21), (.len true (.t 20)), none, []⟩,
                    ⟨(some 22), (.bin .gtr (.t 19) (.t 21)), none, []⟩,
                    ⟨(some 18), (.move (.t 22)), none, []⟩])
                 (ACode.cond (.t 18) (ACode.seq (ACode.ops [⟨(some 4), (.move (.c .nils)), none, []⟩,
                      ⟨(some 5), (.move (.c (.int .i64 3))), none, []⟩])
                   (ACode.ret))
                  (ACode.skip))))))
             (ACode.seq (ACode.ops [⟨(some 23), (.move (.t 6)), none, []⟩,
                 ⟨(some 24), (.move (.t 0)), none, []⟩,
                 ⟨(some 25), (.move (.t 8)), none, []⟩,
                 ⟨(some 26), (.sliceStr (.t 24) none (some (.t 25))), none, []⟩,
                 ⟨(some 27), (.buildSlice [(.str [])] 1 1 [(0, (.t 26))]), none, []⟩,
                 ⟨(some 28), (.append 1 16 (.t 23) (.t 27)), none, []⟩,
                 ⟨(some 6), (.move (.t 28)), none, []⟩])
              (ACode.ops [⟨(some 29), (.move (.t 0)), none, []⟩,
                 ⟨(some 30), (.move (.t 8)), none, []⟩,
                 ⟨(some 31), (.sliceStr (.t 29) (some (.t 30)) none), none, []⟩,
                 ⟨(some 0), (.move (.t 31)), none, []⟩])))))
          (ACode.ops [⟨(some 32), (.bin .add (.t 11) (.c (.int .i64 1))), none, []⟩,
             ⟨(some 11), (.move (.t 32)), none, []⟩])))))))
    (ACode.seq (ACode.ops [⟨(some 33), (.move (.t 6)), none, []⟩,
        ⟨(some 34), (.move (.t 0)), none, []⟩,
        ⟨(some 35), (.buildSlice [(.str [])] 1 1 [(0, (.t 34))]), none, []⟩,
        ⟨(some 36), (.append 1 16 (.t 33) (.t 35)), none, []⟩,
        ⟨(some 4), (.move (.t 36)), none, []⟩,
        ⟨(some 5), (.move (.c (.int .i64 0))), none, []⟩])
     (ACode.ret))))⟩

/-- slices.Equal[[]string,string] -/
def c61 : AFunc := ⟨2, 26, [.tmp 4],
  ACode.seq (ACode.ops [⟨(some 4), (.move (.c (.bool false))), none, []⟩])
  (ACode.seq (ACode.seq (ACode.ops [⟨(some 6), (.move (.t 0)), none, []⟩,
       ⟨(some 7), (.len false (.t 6)), none, []⟩,
       ⟨(some 8), (.move (.t 1)), none, []⟩,
       ⟨(some 9), (.len false (.t 8)), none, []⟩,
       ⟨(some 10), (.bin .neq (.t 7) (.t 9)), none, []⟩])
    (ACode.cond (.t 10) (ACode.seq (ACode.ops [⟨(some 4), (.move (.c (.bool false))), none, []⟩])
      (ACode.ret))
     (ACode.skip)))
   (ACode.seq (ACode.seq (ACode.ops [⟨(some 11), (.move (.t 0)), none, []⟩,
        ⟨(some 12), (.len false (.t 11)), none, []⟩,
        ⟨(some 13), (.move (.c (.int .i64 0))), none, []⟩])
     (ACode.block 0 (ACode.loop (ACode.seq (ACode.ops [⟨(some 14), (.bin .lss (.t 13) (.t 12)), none, []⟩])
        (ACode.seq (ACode.cond (.t 14) (ACode.skip)
          (ACode.exit 0))
         (ACode.seq (ACode.block 1 (ACode.seq (ACode.ops [⟨(some 15), (.move (.t 13)), none, []⟩,
               ⟨(some 5), (.move (.t 15)), none, []⟩])
            (ACode.seq (ACode.draw [⟨(some 16), (.move (.t 0)), none, []⟩,
                ⟨(some 17), (.move (.t 5)), none, [0]⟩,
                ⟨(some 18), (.iaddr 1 (.t 16) (.t 17)), none, []⟩,
                ⟨(some 19), (.load false 1 (.t 18)), none, []⟩,
                ⟨(some 20), (.move (.t 1)), none, [0, 1, 2, 3]⟩,
                ⟨(some 21), (.move (.t 5)), none, [0, 1, 2, 3, 4]⟩,
                ⟨(some 22), (.iaddr 1 (.t 20) (.t 21)), none, [0, 1, 2, 3]⟩,
                ⟨(some 23), (.load false 1 (.t 22)), none, [0, 1, 2, 3]⟩,
                ⟨(some 24), (.bin .neq (.t 19) (.t 23)), none, []⟩])
             (ACode.cond (.t 24) (ACode.seq (ACode.ops [⟨(some 4), (.move (.c (.bool false))), none, []⟩])
               (ACode.ret))
              (ACode.skip)))))
          (ACode.ops [⟨(some 25), (.bin .add (.t 13) (.c (.int .i64 1))), none, []⟩,
             ⟨(some 13), (.move (.t 25)), none, []⟩])))))))
    (ACode.seq (ACode.ops [⟨(some 4), (.move (.c (.bool true))), none, []⟩])
     (ACode.ret))))⟩

/-- vagabond/word.Put -/
def c62 : AFunc := ⟨2, 27, [.tmp 4],
  ACode.seq (ACode.ops [⟨(some 4), (.move (.c (.str []))), none, []⟩])
  (ACode.seq (ACode.ops [⟨(some 7), (.move (.t 1)), none, []⟩,
      ⟨(some 8), (.maxI [(.t 7), (.c (.int .i64 0))]), none, []⟩,
      ⟨(some 9), (.minI [(.t 8), (.c (.int .i64 8))]), none, []⟩,
      ⟨(some 10), (.makeSlice [(.int .u8 0)] 1 1 (.t 9) (.t 9)), none, []⟩,
      ⟨(some 5), (.move (.t 10)), none, []⟩])
   (ACode.seq (ACode.seq (ACode.ops [⟨(some 11), (.move (.t 5)), none, []⟩,
        ⟨(some 12), (.len false (.t 11)), none, []⟩,
        ⟨(some 13), (.bin .sub (.t 12) (.c (.int .i64 1))), none, []⟩,
        ⟨(some 6), (.move (.t 13)), none, []⟩])
     (ACode.block 0 (ACode.loop (ACode.seq (ACode.seq (ACode.ops [⟨(some 14), (.move (.t 6)), none, []⟩,
            ⟨(some 15), (.bin .geq (.t 14) (.c (.int .i64 0))), none, []⟩])
         (ACode.cond (.t 15) (ACode.skip)
          (ACode.exit 0)))
        (ACode.seq (ACode.block 1 (ACode.seq (ACode.ops [⟨(some 18), (.move (.t 5)), none, []⟩,
              ⟨(some 19), (.move (.t 6)), none, []⟩,
              ⟨(some 20), (.move (.t 0)), none, []⟩,
              ⟨(some 21), (.conv (.int .u8) (.t 20)), none, []⟩,
              ⟨(some 22), (.iaddr 1 (.t 18) (.t 19)), none, []⟩,
              ⟨none, (.store 1 (.t 22) (.t 21)), none, []⟩])
           (ACode.ops [⟨(some 23), (.move (.t 0)), none, []⟩,
              ⟨(some 24), (.bin .shr (.t 23) (.c (.int .u64 8))), none, []⟩,
              ⟨(some 0), (.move (.t 24)), none, []⟩])))
         (ACode.ops [⟨(some 16), (.move (.t 6)), none, []⟩,
            ⟨(some 17), (.bin .sub (.t 16) (.c (.int .i64 1))), none, []⟩,
            ⟨(some 6), (.move (.t 17)), none, []⟩]))))))
    (ACode.seq (ACode.ops [⟨(some 25), (.move (.t 5)), none, []⟩,
        ⟨(some 26), (.conv .str (.t 25)), none, []⟩,
        ⟨(some 4), (.move (.t 26)), none, []⟩])
     (ACode.ret))))⟩

/-- vagabond/word.Add -/
def c43 : AFunc := ⟨2, 12, [.tmp 4],
  ACode.seq (ACode.ops [⟨(some 4), (.move (.c (.int .u64 0))), none, []⟩])
  (ACode.seq (ACode.seq (ACode.ops [⟨(some 5), (.move (.t 1)), none, []⟩,
       ⟨(some 6), (.move (.t 0)), none, []⟩,
       ⟨(some 7), (.bin .sub (.c (.int .u64 18446744073709551615)) (.t 6)), none, []⟩,
       ⟨(some 8), (.bin .gtr (.t 5) (.t 7)), none, []⟩])
    (ACode.cond (.t 8) (ACode.seq (ACode.ops [⟨(some 4), (.move (.c (.int .u64 18446744073709551615))), none, []⟩])
      (ACode.ret))
     (ACode.skip)))
   (ACode.seq (ACode.ops [⟨(some 9), (.move (.t 0)), none, []⟩,
       ⟨(some 10), (.move (.t 1)), none, []⟩,
       ⟨(some 11), (.bin .add (.t 9) (.t 10)), none, []⟩,
       ⟨(some 4), (.move (.t 11)), none, []⟩])
    (ACode.ret)))⟩

def fn : Nat → Option AFunc
  | 7 => some c7
  | 8 => some c8
  | 9 => some c9
  | 10 => some c10
  | 30 => some c30
  | 31 => some c31
  | 32 => some c32
  | 33 => some c33
  | 34 => some c34
  | 35 => some c35
  | 36 => some c36
  | 37 => some c37
  | 38 => some c38
  | 39 => some c39
  | 40 => some c40
  | 43 => some c43
  | 47 => some c47
  | 48 => some c48
  | 49 => some c49
  | 50 => some c50
  | 52 => some c52
  | 53 => some c53
  | 54 => some c54
  | 55 => some c55
  | 56 => some c56
  | 57 => some c57
  | 60 => some c60
  | 61 => some c61
  | 62 => some c62
  | 63 => some c63
  | 64 => some c64
  | 65 => some c65
  | 66 => some c66
  | 67 => some c67
  | 68 => some c68
  | 69 => some c69
  | 70 => some c70
  | 72 => some c72
  | 73 => some c73
  | 74 => some c74
  | 75 => some c75
  | 76 => some c76
  | 77 => some c77
  | 78 => some c78
  | 79 => some c79
  | _ => none

def AP : AProg := ⟨fn, fun f => Nat.beq f 52 || Nat.beq f 76, fun f => if Nat.beq f 51 then some (primKeep insG) else none, fun f => Nat.beq f 52 || Nat.beq f 76⟩

end Go.Eng.Recv

/- The chapter's example. -/
namespace Go.Eng.Recv
open Go Go.Eng

theorem awake_ok : CallR AP 30 [] (.bool true) := callR_at 60 (by kernel_rfl)

end Go.Eng.Recv

/- The receiver's smaller functions. -/
namespace Go.Eng.Recv
open Go Go.Eng
attribute [local irreducible] OpR TL TD TC CallR

structure Sta where
  num : Int
  tx : List UInt8
def Sta.row (x : Sta) : List AVal := [.int .u64 x.num, .str x.tx]
def encS (l : List Sta) : List (List AVal) := l.map Sta.row
def encN (l : List Int) : List (List AVal) := l.map fun n => [.int .u64 n]
theorem closed_map {α : Type} {f : α → List AVal} (h : ∀ x, closedL (f x) = true) : ∀ (l : List α), closedLL (l.map f) = true
  | [] => rfl
  | x :: l => by simp only [List.map_cons, closedLL, h x, closed_map h l, Bool.and_self]
theorem noref_map {α : Type} {f : α → List AVal} (h : ∀ x, norefL (f x) = true) : ∀ (l : List α), norefLL (l.map f) = true
  | [] => rfl
  | x :: l => by simp only [List.map_cons, norefLL, h x, noref_map h l, Bool.and_self]
@[simp] theorem encS_closed (l : List Sta) : closedLL (encS l) = true := closed_map (fun _ => rfl) l
@[simp] theorem encS_noref (l : List Sta) : norefLL (encS l) = true := noref_map (fun _ => rfl) l
@[simp] theorem encN_closed (l : List Int) : closedLL (encN l) = true := closed_map (fun _ => rfl) l
@[simp] theorem encN_noref (l : List Int) : norefLL (encN l) = true := noref_map (fun _ => rfl) l
@[simp] theorem encS_len (l : List Sta) : (encS l).length = l.length := by simp [encS]
@[simp] theorem encN_len (l : List Int) : (encN l).length = l.length := by simp [encN]
theorem encS_get {l : List Sta} {i : Nat} (h : i < l.length) : (encS l)[i]? = some l[i].row := by simp [encS, h]
theorem encN_get {l : List Int} {i : Nat} (h : i < l.length) : (encN l)[i]? = some [.int .u64 l[i]] := by simp [encN, h]
/-- the rule's function -/
abbrev ruleV : AVal := .fn (.func 48) [] []
abbrev recvV (l : List Sta) : AVal := .agg [ruleV, .imm (encS l)]
theorem recvV_closed (l : List Sta) : (recvV l).closed = true := by simp [recvV, ruleV, AVal.closed, closedL]
theorem recvV_noref (l : List Sta) : (recvV l).noref = true := by simp [recvV, ruleV, AVal.noref, norefL]

theorem tl_callf {N : Nat} {d : Option Nat} {fo : AOpd} {args : List AOpd} {f : Nat} {as as' : List AVal} {g : Option (Nat × Bool)} {un : List Nat} {l : List AInstr} {m : FM} {S : Store} {r : AVal} {K : FM → Store → Prop}
    (hf : lo m fo = some (.fn (.func f) [] [])) (ha : los m args = some as) (hz : FrzL S as as') (hr : CallR AP f as' r) (hfl : (norefL as || r.flat) = true)
    (hd : (d.all fun d => d < N) = true) (hg : gd m g = some true) (hp : AP.prim f = none) (hke : AP.keep f = false)
    (hk : TL AP N l (putM m d r) (S ++ [none]) K) : TL AP N (⟨d, .call fo args, g, un⟩ :: l) m S K := by
  obtain ⟨ids, hz⟩ := hz 3
  exact tl_call (first := []) (cap := []) (as := as) hd hg hf ha hp hke (by simpa [frzDepth] using hz) hr (by simpa using hfl) hk

theorem nan_ok (a : Int) : CallR AP 70 [.int .u64 a] (.bool false) := by
  refine callR_of (af := c70) rfl rfl ?_
  refine tc_seq (tc_ops ?_)
  refine tl_opo (o_move rfl) rfl rfl rfl rfl ?_; refine tl_nil ?_
  refine tc_seq (tc_ops ?_)
  refine tl_opo (o_move rfl) rfl rfl rfl rfl ?_; refine tl_opo (o_move rfl) rfl rfl rfl rfl ?_
  refine tl_opo (o_neq' rfl rfl (t := false) (by simp)) rfl rfl rfl rfl ?_
  refine tl_opo (o_move rfl) rfl rfl rfl rfl ?_; refine tl_nil ?_
  exact tc_ret (retd rfl ⟨_, frz_ok rfl⟩)

def cmpV (a b : Int) : Int := if a < b then -1 else if b < a then 1 else 0

theorem cmp_ok (a b : Int) : CallR AP 57 [.int .u64 a, .int .u64 b] (.int .i64 (cmpV a b)) := by
  refine callR_of (af := c57) rfl rfl ?_
  refine tc_seq (tc_ops ?_)
  refine tl_opo (o_move rfl) rfl rfl rfl rfl ?_; refine tl_nil ?_
  refine tc_seq (tc_ops ?_)
  refine tl_opo (o_move rfl) rfl rfl rfl rfl ?_
  refine tl_call' (as := [.int .u64 a]) (as' := [.int .u64 a]) rfl (frzL_cons (fun n => ⟨_, frz_ok rfl⟩) frzL_nil) (nan_ok a) rfl rfl rfl rfl rfl ?_
  refine tl_opo (o_move rfl) rfl rfl rfl rfl ?_; refine tl_nil ?_
  refine tc_seq (tc_ops ?_)
  refine tl_opo (o_move rfl) rfl rfl rfl rfl ?_
  refine tl_call' (as := [.int .u64 b]) (as' := [.int .u64 b]) rfl (frzL_cons (fun n => ⟨_, frz_ok rfl⟩) frzL_nil) (nan_ok b) rfl rfl rfl rfl rfl ?_
  refine tl_opo (o_move rfl) rfl rfl rfl rfl ?_; refine tl_nil ?_
  refine tc_seq (tc_seq (tc_ops ?_))
  refine tl_opo (o_move rfl) rfl rfl rfl rfl ?_; refine tl_nil ?_
  refine tc_cond rfl (fun h => nomatch h) (fun _ => tc_skip ?_)
  refine tc_seq (tc_seq (tc_ops ?_))
  refine tl_opo (o_move rfl) rfl rfl rfl rfl ?_; refine tl_nil ?_
  refine tc_cond rfl (fun h => nomatch h) (fun _ => tc_skip ?_)
  refine tc_seq (tc_seq (tc_ops ?_))
  refine tl_opo (o_move rfl) rfl rfl rfl rfl ?_; refine tl_opo (o_move rfl) rfl rfl rfl rfl ?_
  unfold cmpV
  by_cases h1 : a < b
  · refine tl_opo (o_lss' rfl rfl (t := true) (by simpa using h1)) rfl rfl rfl rfl ?_
    refine tl_nil ?_
    refine tc_cond rfl (fun _ => ?_) (fun h => nomatch h)
    refine tc_seq (tc_ops ?_)
    refine tl_opo (o_move rfl) rfl rfl rfl rfl ?_; refine tl_nil ?_
    rw [if_pos h1]
    exact tc_ret (retd rfl ⟨_, frz_ok rfl⟩)
  refine tl_opo (o_lss' rfl rfl (t := false) (by simpa using h1)) rfl rfl rfl rfl ?_
  refine tl_nil ?_
  refine tc_cond rfl (fun h => nomatch h) (fun _ => tc_skip ?_)
  refine tc_seq (tc_seq (tc_ops ?_))
  refine tl_opo (o_move rfl) rfl rfl rfl rfl ?_; refine tl_opo (o_move rfl) rfl rfl rfl rfl ?_
  by_cases h2 : b < a
  · refine tl_opo (o_gtr' rfl rfl (t := true) (by simpa using h2)) rfl rfl rfl rfl ?_
    refine tl_nil ?_
    refine tc_cond rfl (fun _ => ?_) (fun h => nomatch h)
    refine tc_seq (tc_ops ?_)
    refine tl_opo (o_move rfl) rfl rfl rfl rfl ?_; refine tl_nil ?_
    rw [if_neg h1, if_pos h2]
    exact tc_ret (retd rfl ⟨_, frz_ok rfl⟩)
  refine tl_opo (o_gtr' rfl rfl (t := false) (by simp; omega)) rfl rfl rfl rfl ?_
  refine tl_nil ?_
  refine tc_cond rfl (fun h => nomatch h) (fun _ => tc_skip ?_)
  refine tc_seq (tc_ops ?_)
  refine tl_opo (o_move rfl) rfl rfl rfl rfl ?_; refine tl_nil ?_
  rw [if_neg h1, if_neg h2]
  exact tc_ret (retd rfl ⟨_, frz_ok rfl⟩)

theorem placeCmp_ok (s : Sta) (n : Int) : CallR AP 56 [.agg s.row, .int .u64 n] (.int .i64 (cmpV s.num n)) := by
  refine callR_of (af := c56) rfl rfl ?_
  refine tc_seq (tc_ops ?_)
  refine tl_opn (o_box rfl rfl rfl rfl) rfl rfl rfl rfl ?_; refine tl_opo (o_move rfl) rfl rfl rfl rfl ?_; refine tl_nil ?_
  dsimp only [putM, initM, acells, effS, List.nil_append, List.cons_append, List.length_nil, List.length_cons, List.set_cons_zero, List.set_cons_succ, List.set_nil, List.append_nil, Nat.zero_add, Nat.add_zero, Nat.reduceAdd, List.replicate, nslots]
  refine tc_seq (tc_ops ?_)
  refine tl_opo (o_faddr rfl) rfl rfl rfl rfl ?_; refine tl_opo (o_load rfl rfl rfl (Nat.le_of_ble_eq_true rfl) rfl) rfl rfl rfl rfl ?_; refine tl_opo (o_move rfl) rfl rfl rfl rfl ?_
  refine tl_call' (as := [.int .u64 s.num, .int .u64 n]) (as' := [.int .u64 s.num, .int .u64 n]) rfl (frzL_cons (fun n => ⟨_, frz_ok rfl⟩) (frzL_cons (fun n => ⟨_, frz_ok rfl⟩) frzL_nil)) (cmp_ok _ _) rfl rfl rfl rfl rfl ?_
  refine tl_opo (o_move rfl) rfl rfl rfl rfl ?_; refine tl_nil ?_
  exact tc_ret (retd rfl ⟨_, frz_ok rfl⟩)

/-- the place of a number, among numbers that rise -/
def Rises (l : List Sta) : Prop := ∀ (i j : Nat) (hi : i < j) (hj : j < l.length), l[i].num < l[j].num
def lb (l : List Sta) (n : Int) : Nat := (l.takeWhile fun s => decide (s.num < n)).length
def found (l : List Sta) (n : Int) : Bool := match l[lb l n]? with
  | some s => s.num == n
  | none => false

theorem lb_spec {l : List Sta} {n : Int} {k : Nat} (hk : k ≤ l.length) (h1 : ∀ j, (hj : j < l.length) → j < k → l[j].num < n) (h2 : ∀ (hj : k < l.length), ¬ l[k].num < n) : lb l n = k := by
  unfold lb
  induction l generalizing k with
  | nil => simp at hk; simp [hk]
  | cons x l ih =>
    cases k with
    | zero =>
      have := h2 (by simp)
      simp at this
      rw [List.takeWhile_cons_of_neg (by simpa using this)]; rfl
    | succ k =>
      have := h1 0 (by simp) (by omega)
      simp at this
      rw [List.takeWhile_cons_of_pos (by simpa using this), List.length_cons]
      congr 1
      refine ih (by simpa using hk) (fun j hj hjk => ?_) (fun hj => ?_)
      · have := h1 (j + 1) (by simp; omega) (by omega)
        simpa using this
      · have := h2 (by simp; omega)
        simpa using this
theorem lb_le (l : List Sta) (n : Int) : lb l n ≤ l.length := (List.takeWhile_prefix _).length_le

theorem search_ok (l : List Sta) (n : Int) (hl : l.length ≤ 1000000) (hr : Rises l) : CallR AP 55 [.imm (encS l), .int .u64 n, .fn (.func 56) [] []] (.tuple [.int .i64 (lb l n), .bool (found l n)]) := by
  refine callR_of (af := c55) rfl rfl ?_
  refine tc_seq (tc_ops ?_)
  refine tl_opo (o_move rfl) rfl rfl rfl rfl ?_; refine tl_opo (o_move rfl) rfl rfl rfl rfl ?_; refine tl_nil ?_
  refine tc_seq (tc_ops ?_)
  refine tl_opo (o_move rfl) rfl rfl rfl rfl ?_; refine tl_opo (o_len_imm rfl) rfl rfl rfl rfl ?_; refine tl_opo (o_move rfl) rfl rfl rfl rfl ?_; refine tl_nil ?_
  refine tc_seq (tc_ops ?_)
  refine tl_opo (o_move rfl) rfl rfl rfl rfl ?_; refine tl_opo (o_move rfl) rfl rfl rfl rfl ?_; refine tl_opo (o_move rfl) rfl rfl rfl rfl ?_; refine tl_nil ?_
  refine tc_cut (σ := Nat) (fun k => [(0, .imm (encS l)), (1, .int .u64 n), (2, .fn (.func 56) [] []), (8, .int .i64 (encS l).length), (9, .int .i64 k)]) (fun k S => k = lb l n) ?_ ?_
  · refine tc_block (loop_st (σ := Nat × Nat) (fun s => s.2 - s.1) (fun s => [(0, .imm (encS l)), (1, .int .u64 n), (2, .fn (.func 56) [] []), (8, .int .i64 (encS l).length), (9, .int .i64 s.1), (10, .int .i64 s.2)])
      (fun s S => s.1 ≤ s.2 ∧ s.2 ≤ l.length ∧ (∀ j, (hj : j < l.length) → j < s.1 → l[j].num < n) ∧ (∀ j, (hj : j < l.length) → s.2 ≤ j → ¬ l[j].num < n)) (0, l.length) (by refine wk_cons rfl (wk_cons rfl (wk_cons rfl (wk_cons rfl (wk_cons rfl (wk_cons (by simp [lkp, putM]) wk_nil))))) ) ⟨by omega, Nat.le_refl _, fun j _ h => by simp at h, fun j hj h => by simp at h; omega⟩ ?_)
    rintro ⟨i, j⟩ S ⟨hij, hjl, h1, h2⟩
    simp only at hij hjl h1 h2
    refine tc_seq (tc_seq (tc_ops ?_))
    refine tl_opo (o_move rfl) rfl rfl rfl rfl ?_; refine tl_opo (o_move rfl) rfl rfl rfl rfl ?_
    by_cases hlt : i < j
    · refine tl_opo (o_lss' rfl rfl (t := true) (by simp; omega)) rfl rfl rfl rfl ?_
      refine tl_nil ?_
      refine tc_cond rfl (fun _ => tc_skip ?_) (fun h => nomatch h)
      obtain ⟨h, hh⟩ : ∃ h, h = (i + j) / 2 := ⟨_, rfl⟩
      refine tc_block (tc_seq (tc_ops ?_))
      refine tl_opo (o_move rfl) rfl rfl rfl rfl ?_; refine tl_opo (o_move rfl) rfl rfl rfl rfl ?_
      refine tl_opo (o_add rfl rfl (c := ((i + j : Nat) : Int)) (by simp) (by omega) (by omega)) rfl rfl rfl rfl ?_
      refine tl_opo (o_conv rfl) rfl rfl rfl rfl ?_
      refine tl_opo (o_bin rfl rfl (v := .int .u64 (h : Int)) (by
        rw [wrapu64 (by omega) (by omega)]
        simp only [abin, isShift, if_true, ashift]
        rw [if_neg (by omega)]
        have : (2 ^ min (Int.toNat 1) IntKind.u64.bits : Int) = 2 := by simp [IntKind.bits]
        rw [this]
        congr 2
        rw [Int.fdiv_eq_ediv_of_nonneg _ (by omega)]
        omega)) rfl rfl rfl rfl ?_
      refine tl_opo (o_conv rfl) rfl rfl rfl rfl ?_
      rw [wrap64 (n := (h : Int)) (by omega) (by omega)]
      refine tl_opo (o_move rfl) rfl rfl rfl rfl ?_; refine tl_nil ?_
      refine tc_seq (tc_ops ?_)
      refine tl_opo (o_move rfl) rfl rfl rfl rfl ?_; refine tl_opo (o_move rfl) rfl rfl rfl rfl ?_; refine tl_opo (o_move rfl) rfl rfl rfl rfl ?_
      have hhl : h < l.length := by omega
      refine tl_opo (o_iaddr rfl rfl (encS_get hhl) rfl) rfl rfl rfl rfl ?_
      refine tl_opo (o_loadr rfl (Nat.le_of_ble_eq_true rfl) rfl) rfl rfl rfl rfl ?_; refine tl_opo (o_move rfl) rfl rfl rfl rfl ?_
      refine tl_callf (f := 56) (as := [.agg l[h].row, .int .u64 n]) (as' := [.agg l[h].row, .int .u64 n]) rfl rfl (frzL_cons (fun n => ⟨_, frz_ok rfl⟩) (frzL_cons (fun n => ⟨_, frz_ok rfl⟩) frzL_nil)) (placeCmp_ok _ _) rfl rfl rfl rfl rfl ?_
      by_cases hc : l[h].num < n
      · refine tl_opo (o_lss' rfl rfl (t := true) (by simp [cmpV, hc])) rfl rfl rfl rfl ?_
        refine tl_nil ?_
        refine tc_cond rfl (fun _ => ?_) (fun h => nomatch h)
        refine tc_ops ?_
        refine tl_opo (o_move rfl) rfl rfl rfl rfl ?_
        refine tl_opo (o_add rfl rfl (c := ((h + 1 : Nat) : Int)) (by simp) (by omega) (by omega)) rfl rfl rfl rfl ?_
        refine tl_opo (o_move rfl) rfl rfl rfl rfl ?_; refine tl_nil ?_
        refine ⟨(h + 1, j), by simp only; omega, by (repeat' (first | exact wk_nil | refine wk_cons rfl ?_)), by simp only; omega, hjl, ?_, h2⟩
        intro k hk hkh
        simp only at hkh
        rcases Nat.lt_or_ge k h with h3 | h3
        · have := hr k h h3 hhl; omega
        · have : k = h := by omega
          subst this; exact hc
      · refine tl_opo (o_lss' rfl rfl (t := false) (by simp [cmpV, hc]; split <;> omega)) rfl rfl rfl rfl ?_
        refine tl_nil ?_
        refine tc_cond rfl (fun h => nomatch h) (fun _ => ?_)
        refine tc_ops ?_
        refine tl_opo (o_move rfl) rfl rfl rfl rfl ?_; refine tl_opo (o_move rfl) rfl rfl rfl rfl ?_; refine tl_nil ?_
        refine ⟨(i, h), by simp only; omega, by (repeat' (first | exact wk_nil | refine wk_cons rfl ?_)), by simp only; omega, by simp only; omega, h1, ?_⟩
        intro k hk hkh
        simp only at hkh
        rcases Nat.lt_or_ge h k with h3 | h3
        · have := hr h k h3 hk; omega
        · have : k = h := by omega
          subst this; exact hc
    · refine tl_opo (o_lss' rfl rfl (t := false) (by simp; omega)) rfl rfl rfl rfl ?_
      refine tl_nil ?_
      refine tc_cond rfl (fun h => nomatch h) (fun _ => tc_exit ?_)
      refine ⟨i, by (repeat' (first | exact wk_nil | refine wk_cons rfl ?_)), ?_⟩
      have : i = j := by omega
      subst this
      exact (lb_spec hjl (fun k hk h => h1 k hk h) (fun hj => h2 i hj (Nat.le_refl _))).symm
  · rintro k S rfl
    refine tc_seq (tc_ops ?_)
    refine tl_opo (o_move rfl) rfl rfl rfl rfl ?_; refine tl_opo (o_move rfl) rfl rfl rfl rfl ?_; refine tl_opo (o_move rfl) rfl rfl rfl rfl ?_
    by_cases hk : lb l n < l.length
    · have hf : found l n = (l[lb l n].num == n) := by unfold found; rw [List.getElem?_eq_getElem hk]
      refine tl_opo (o_lss' rfl rfl (t := true) (by simp; omega)) rfl rfl rfl rfl ?_
      refine tl_opo (o_move rfl) rfl rfl rfl rfl ?_; refine tl_opo (o_move rfl) rfl rfl rfl rfl ?_; refine tl_opo (o_move rfl) rfl rfl rfl rfl ?_; refine tl_opo (o_move rfl) rfl rfl rfl rfl ?_
      refine tl_opo (o_iaddr rfl rfl (encS_get hk) rfl) rfl rfl rfl rfl ?_
      refine tl_opo (o_loadr rfl (Nat.le_of_ble_eq_true rfl) rfl) rfl rfl rfl rfl ?_; refine tl_opo (o_move rfl) rfl rfl rfl rfl ?_
      refine tl_callf (f := 56) (as := [.agg l[lb l n].row, .int .u64 n]) (as' := [.agg l[lb l n].row, .int .u64 n]) rfl rfl (frzL_cons (fun n => ⟨_, frz_ok rfl⟩) (frzL_cons (fun n => ⟨_, frz_ok rfl⟩) frzL_nil)) (placeCmp_ok _ _) rfl rfl rfl rfl rfl ?_
      refine tl_opo (o_eql' rfl rfl (t := found l n) (by rw [hf]; unfold cmpV; rw [Bool.eq_iff_iff]; simp; split <;> (try split) <;> omega)) rfl rfl rfl rfl ?_
      refine tl_opo (o_pick rfl rfl rfl) rfl rfl rfl rfl ?_; refine tl_opo (o_move rfl) rfl rfl rfl rfl ?_; refine tl_opo (o_move rfl) rfl rfl rfl rfl ?_; refine tl_nil ?_
      exact tc_ret (retd rfl ⟨_, frz_ok rfl⟩)
    · have hf : found l n = false := by unfold found; rw [List.getElem?_eq_none (by omega)]
      rw [hf]
      refine tl_opo (o_lss' rfl rfl (t := false) (by simp; omega)) rfl rfl rfl rfl ?_
      refine tl_opo (o_move rfl) rfl rfl rfl rfl ?_; refine tl_off0 rfl rfl rfl ?_; refine tl_off0 rfl rfl rfl ?_; refine tl_off0 rfl rfl rfl ?_; refine tl_off0 rfl rfl rfl ?_; refine tl_off0 rfl rfl rfl ?_; refine tl_off0 rfl rfl rfl ?_; refine tl_off1 rfl rfl rfl ?_; refine tl_off0 rfl rfl rfl ?_; refine tl_opo (o_pick rfl rfl rfl) rfl rfl rfl rfl ?_; refine tl_opo (o_move rfl) rfl rfl rfl rfl ?_; refine tl_opo (o_move rfl) rfl rfl rfl rfl ?_; refine tl_nil ?_
      exact tc_ret (retd rfl ⟨_, frz_ok rfl⟩)

end Go.Eng.Recv

/- The receiver's functions that ask. -/
namespace Go.Eng.Recv
open Go Go.Eng
attribute [local irreducible] OpR TL TD TC CallR

theorem place_ok (l : List Sta) (n : Int) (hl : l.length ≤ 1000000) (hr : Rises l) : CallR AP 50 [recvV l, .int .u64 n] (.tuple [.int .i64 (lb l n), .bool (found l n)]) := by
  refine callR_of (af := c50) rfl rfl ?_
  refine tc_seq (tc_ops ?_)
  refine tl_opn (o_box rfl rfl rfl rfl) rfl rfl rfl rfl ?_; refine tl_opo (o_move rfl) rfl rfl rfl rfl ?_; refine tl_opo (o_move rfl) rfl rfl rfl rfl ?_; refine tl_nil ?_
  dsimp only [putM, initM, acells, effS, List.nil_append, List.cons_append, List.length_nil, List.length_cons, List.set_cons_zero, List.set_cons_succ, List.set_nil, List.append_nil, Nat.zero_add, Nat.add_zero, Nat.reduceAdd, List.replicate, nslots]
  refine tc_seq (tc_ops ?_)
  refine tl_opo (o_faddr rfl) rfl rfl rfl rfl ?_; refine tl_opo (o_load rfl rfl rfl (Nat.le_of_ble_eq_true rfl) rfl) rfl rfl rfl rfl ?_; refine tl_opo (o_move rfl) rfl rfl rfl rfl ?_
  refine tl_call' (as := [.imm (encS l), .int .u64 n, .fn (.func 56) [] []]) (as' := [.imm (encS l), .int .u64 n, .fn (.func 56) [] []]) rfl (frzL_cons (fun n => ⟨_, frz_ok (by simp [AVal.closed])⟩) (frzL_cons (fun n => ⟨_, frz_ok rfl⟩) (frzL_cons (fun n => ⟨_, frz_ok rfl⟩) frzL_nil)))
    (search_ok l n hl hr) (by simp [norefL, AVal.noref]) rfl rfl rfl rfl ?_
  refine tl_opo (o_extract rfl rfl) rfl rfl rfl rfl ?_; refine tl_opo (o_extract rfl rfl) rfl rfl rfl rfl ?_; refine tl_opo (o_move rfl) rfl rfl rfl rfl ?_; refine tl_opo (o_move rfl) rfl rfl rfl rfl ?_; refine tl_nil ?_
  exact tc_ret (retd rfl ⟨_, frz_ok rfl⟩)

/-- the state of a number, if it is there -/
def ofL (l : List Sta) (n : Int) : Option Sta := if found l n then l[lb l n]? else none
theorem found_lt {l : List Sta} {n : Int} (h : found l n = true) : lb l n < l.length := by
  unfold found at h
  split at h
  · rename_i s hs; exact (List.getElem?_eq_some_iff.1 hs).1
  · cases h
theorem found_num {l : List Sta} {n : Int} (h : found l n = true) : l[lb l n]'(found_lt h) = ⟨n, (l[lb l n]'(found_lt h)).tx⟩ := by
  have hl := found_lt h
  unfold found at h
  rw [List.getElem?_eq_getElem hl] at h
  have : l[lb l n].num = n := by simpa using h
  conv => lhs; rw [show l[lb l n] = ⟨l[lb l n].num, l[lb l n].tx⟩ from rfl, this]
def ofTx (l : List Sta) (n : Int) : List UInt8 := match ofL l n with
  | some s => s.tx
  | none => []
theorem ofTx_found {l : List Sta} {n : Int} (h : found l n = true) : ofTx l n = (l[lb l n]'(found_lt h)).tx := by
  unfold ofTx ofL
  rw [if_pos h, List.getElem?_eq_getElem (found_lt h)]
theorem ofTx_not {l : List Sta} {n : Int} (h : found l n = false) : ofTx l n = [] := by
  unfold ofTx ofL
  rw [h]; rfl

theorem of_ok (l : List Sta) (n : Int) (hl : l.length ≤ 1000000) (hr : Rises l) : CallR AP 37 [recvV l, .int .u64 n] (.tuple [.str (ofTx l n), .bool (found l n)]) := by
  refine callR_of (af := c37) rfl rfl ?_
  refine tc_seq (tc_ops ?_)
  refine tl_opn (o_box rfl rfl rfl rfl) rfl rfl rfl rfl ?_; refine tl_opo (o_move rfl) rfl rfl rfl rfl ?_; refine tl_opo (o_move rfl) rfl rfl rfl rfl ?_; refine tl_nil ?_
  dsimp only [putM, initM, acells, effS, List.nil_append, List.cons_append, List.length_nil, List.length_cons, List.set_cons_zero, List.set_cons_succ, List.set_nil, List.append_nil, Nat.zero_add, Nat.add_zero, Nat.reduceAdd, List.replicate, nslots]
  refine tc_seq (tc_seq (tc_ops ?_))
  refine tl_opo (o_load rfl rfl rfl (Nat.le_of_ble_eq_true rfl) rfl) rfl rfl rfl rfl ?_; refine tl_opo (o_move rfl) rfl rfl rfl rfl ?_
  refine tl_call' (as := [recvV l, .int .u64 n]) (as' := [recvV l, .int .u64 n]) rfl (frzL_cons (fun n => ⟨_, frz_ok (recvV_closed l)⟩) (frzL_cons (fun n => ⟨_, frz_ok rfl⟩) frzL_nil))
    (place_ok l n hl hr) (by simp [norefL, recvV_noref, AVal.noref]) rfl rfl rfl rfl ?_
  refine tl_opo (o_move rfl) rfl rfl rfl rfl ?_; refine tl_opo (o_extract rfl rfl) rfl rfl rfl rfl ?_; refine tl_opo (o_extract rfl rfl) rfl rfl rfl rfl ?_; refine tl_opo (o_move rfl) rfl rfl rfl rfl ?_; refine tl_opo (o_move rfl) rfl rfl rfl rfl ?_; refine tl_nil ?_
  refine tc_seq (tc_ops ?_)
  refine tl_opo (o_move rfl) rfl rfl rfl rfl ?_; refine tl_nil ?_
  refine tc_cond rfl (fun h => ?_) (fun h => tc_skip ?_)
  · rw [ofTx_found h, h]
    refine tc_seq (tc_ops ?_)
    refine tl_opo (o_faddr rfl) rfl rfl rfl rfl ?_; refine tl_opo (o_load rfl rfl rfl (Nat.le_of_ble_eq_true rfl) rfl) rfl rfl rfl rfl ?_; refine tl_opo (o_move rfl) rfl rfl rfl rfl ?_
    refine tl_opo (o_iaddr rfl rfl (encS_get (found_lt h)) rfl) rfl rfl rfl rfl ?_
    refine tl_opo (o_faddrr rfl) rfl rfl rfl rfl ?_; refine tl_opo (o_loadr rfl (Nat.le_of_ble_eq_true rfl) rfl) rfl rfl rfl rfl ?_; refine tl_opo (o_move rfl) rfl rfl rfl rfl ?_; refine tl_opo (o_move rfl) rfl rfl rfl rfl ?_; refine tl_nil ?_
    exact tc_ret (retd rfl ⟨_, frz_ok rfl⟩)
  · rw [ofTx_not h, h]
    refine tc_seq (tc_ops ?_)
    refine tl_opo (o_move rfl) rfl rfl rfl rfl ?_; refine tl_nil ?_
    refine tc_seq (tc_ops ?_)
    refine tl_opo (o_move rfl) rfl rfl rfl rfl ?_; refine tl_opo (o_move rfl) rfl rfl rfl rfl ?_; refine tl_opo (o_move rfl) rfl rfl rfl rfl ?_; refine tl_nil ?_
    exact tc_ret (retd rfl ⟨_, frz_ok rfl⟩)

theorem latest_ok (l : List Sta) (k : Nat) (hk : l.length = k + 1) (hl : l.length ≤ 1000000) : CallR AP 38 [recvV l] (.tuple [.int .u64 (l[k]'(by omega)).num, .str (l[k]'(by omega)).tx]) := by
  refine callR_of (af := c38) rfl rfl ?_
  refine tc_seq (tc_ops ?_)
  refine tl_opn (o_box rfl rfl rfl rfl) rfl rfl rfl rfl ?_; refine tl_opo (o_move rfl) rfl rfl rfl rfl ?_; refine tl_opo (o_move rfl) rfl rfl rfl rfl ?_; refine tl_nil ?_
  dsimp only [putM, initM, acells, effS, List.nil_append, List.cons_append, List.length_nil, List.length_cons, List.set_cons_zero, List.set_cons_succ, List.set_nil, List.append_nil, Nat.zero_add, Nat.add_zero, Nat.reduceAdd, List.replicate, nslots]
  refine tc_seq (tc_ops ?_)
  refine tl_opo (o_faddr rfl) rfl rfl rfl rfl ?_; refine tl_opo (o_load rfl rfl rfl (Nat.le_of_ble_eq_true rfl) rfl) rfl rfl rfl rfl ?_; refine tl_opo (o_faddr rfl) rfl rfl rfl rfl ?_; refine tl_opo (o_load rfl rfl rfl (Nat.le_of_ble_eq_true rfl) rfl) rfl rfl rfl rfl ?_; refine tl_opo (o_len_imm rfl) rfl rfl rfl rfl ?_
  refine tl_opo (o_sub rfl rfl (c := ((k : Nat) : Int)) (by simp; omega) (by omega) (by omega)) rfl rfl rfl rfl ?_
  refine tl_opo (o_iaddr rfl rfl (encS_get (by omega)) rfl) rfl rfl rfl rfl ?_
  refine tl_opo (o_loadr rfl (Nat.le_of_ble_eq_true rfl) rfl) rfl rfl rfl rfl ?_; refine tl_opn o_alloc rfl rfl rfl rfl ?_; refine tl_opo (o_store rfl rfl rfl rfl rfl rfl rfl (Nat.le_of_ble_eq_true rfl) rfl) rfl rfl rfl rfl ?_; refine tl_nil ?_
  dsimp only [putM, initM, acells, effS, List.nil_append, List.cons_append, List.length_nil, List.length_cons, List.set_cons_zero, List.set_cons_succ, List.set_nil, List.append_nil, Nat.zero_add, Nat.add_zero, Nat.reduceAdd, List.replicate, nslots]
  refine tc_seq (tc_drawR [] rfl ?_)
  refine td_op rfl rfl (o_faddr rfl) ?_; refine td_op rfl rfl (o_load rfl rfl rfl (Nat.le_of_ble_eq_true rfl) rfl) ?_; refine td_op rfl rfl (o_faddr rfl) ?_; refine td_op rfl rfl (o_load rfl rfl rfl (Nat.le_of_ble_eq_true rfl) rfl) ?_; refine td_op rfl rfl (o_move rfl) ?_; refine td_op rfl rfl (o_move rfl) ?_; refine td_nil ?_
  refine ⟨rfl, ?_⟩
  exact tc_ret (retd rfl ⟨_, frz_ok rfl⟩)

def nums (l : List Sta) : List Int := l.map (·.num)
@[simp] theorem nums_len (l : List Sta) : (nums l).length = l.length := by simp [nums]

theorem numbers_ok (l : List Sta) (hl : l.length ≤ 1000000) : CallR AP 33 [recvV l] (.imm (encN (nums l))) := by
  refine callR_of (af := c33) rfl rfl ?_
  refine tc_seq (tc_ops ?_)
  refine tl_opn (o_box rfl rfl rfl rfl) rfl rfl rfl rfl ?_; refine tl_opo (o_move rfl) rfl rfl rfl rfl ?_; refine tl_nil ?_
  dsimp only [putM, initM, acells, effS, List.nil_append, List.cons_append, List.length_nil, List.length_cons, List.set_cons_zero, List.set_cons_succ, List.set_nil, List.append_nil, Nat.zero_add, Nat.add_zero, Nat.reduceAdd, List.replicate, nslots]
  refine tc_seq (tc_ops ?_)
  refine tl_opo (o_move rfl) rfl rfl rfl rfl ?_; refine tl_nil ?_
  refine tc_seq (tc_seq (tc_ops ?_))
  refine tl_opo (o_faddr rfl) rfl rfl rfl rfl ?_; refine tl_opo (o_load rfl rfl rfl (Nat.le_of_ble_eq_true rfl) rfl) rfl rfl rfl rfl ?_; refine tl_opo (o_len_imm rfl) rfl rfl rfl rfl ?_; refine tl_opo (o_move rfl) rfl rfl rfl rfl ?_; refine tl_nil ?_
  refine tc_block (loop_st (σ := Nat × AVal) (fun s => l.length - s.1) (fun s => [(3, s.2), (7, .imm (encS l)), (8, .int .i64 (encS l).length), (9, .int .i64 s.1)])
    (fun s S => s.1 ≤ l.length ∧ 1 ≤ S.length ∧ Acc 1 1 S s.2 (encN ((nums l).take s.1))) (0, .nils) (by (repeat' (first | exact wk_nil | refine wk_cons rfl ?_))) ⟨Nat.zero_le _, by simp, acc_nil⟩ ?_)
  rintro ⟨i, out⟩ S ⟨hi, hS, hacc⟩
  simp only at hi hS hacc
  refine tc_seq (tc_ops ?_)
  refine tl_opo (o_lss rfl rfl) rfl rfl rfl rfl ?_; refine tl_nil ?_
  refine tc_seq (tc_cond rfl (fun h => tc_skip ?_) (fun h => tc_exit ?_))
  · have hi' : i < l.length := by simpa using h
    refine tc_seq (tc_block (tc_seq (tc_ops ?_)))
    refine tl_opo (o_iaddr rfl rfl (encS_get hi') rfl) rfl rfl rfl rfl ?_
    refine tl_opo (o_loadr rfl (Nat.le_of_ble_eq_true rfl) rfl) rfl rfl rfl rfl ?_
    refine tl_opn o_alloc rfl rfl rfl rfl ?_
    rw [set_snoc]
    refine tl_opo (o_store rfl rfl get_snoc rfl rfl rfl rfl (Nat.le_of_ble_eq_true rfl) rfl) rfl rfl rfl rfl ?_
    rw [set_snoc]
    refine tl_nil ?_
    refine tc_ops ?_
    refine tl_opo (o_move rfl) rfl rfl rfl rfl ?_; refine tl_opo (o_faddr rfl) rfl rfl rfl rfl ?_
    refine tl_opo (o_load rfl get_snoc rfl (Nat.le_of_ble_eq_true rfl) rfl) rfl rfl rfl rfl ?_
    refine tl_opo (o_buildSlice rfl rfl) rfl rfl rfl rfl ?_
    refine tl_acc rfl rfl (hacc.snoc _) (new := encN [l[i].num]) rfl (by simp [encN]) rfl (by simp [Nat.min_eq_left hi]; omega) (by simp) rfl rfl ?_
    intro v' S' hacc' hlen hold
    refine tl_opo (o_move rfl) rfl rfl rfl rfl ?_; refine tl_nil ?_
    refine tc_ops ?_
    refine tl_opo (o_add rfl rfl (c := ((i + 1 : Nat) : Int)) (by simp) (by omega) (by omega)) rfl rfl rfl rfl ?_
    refine tl_opo (o_move rfl) rfl rfl rfl rfl ?_; refine tl_nil ?_
    refine ⟨(i + 1, v'), by simp only; omega, by (repeat' (first | exact wk_nil | refine wk_cons rfl ?_)), by simp only; omega, by omega, ?_⟩
    simp only
    have : (nums l).take (i + 1) = (nums l).take i ++ [l[i].num] := by
      rw [List.take_add_one, List.getElem?_eq_getElem (by simpa using hi')]; simp [nums]
    rw [this]
    simpa [encN] using hacc'
  · have hi' : l.length ≤ i := by simpa using h
    have : (nums l).take i = nums l := List.take_of_length_le (by simpa using hi')
    rw [this] at hacc
    refine tc_seq (tc_ops ?_)
    refine tl_opo (o_move rfl) rfl rfl rfl rfl ?_; refine tl_opo (o_move rfl) rfl rfl rfl rfl ?_; refine tl_nil ?_
    exact tc_ret (retd rfl (hacc.frz (encN_closed _)))

theorem equalN_ok (a b : List Int) (ha : a.length ≤ 1000000) : CallR AP 36 [.imm (encN a), .imm (encN b)] (.bool (decide (a = b))) := by
  refine callR_of (af := c36) rfl rfl ?_
  refine tc_seq (tc_ops ?_)
  refine tl_opo (o_move rfl) rfl rfl rfl rfl ?_; refine tl_nil ?_
  refine tc_seq (tc_seq (tc_ops ?_))
  refine tl_opo (o_move rfl) rfl rfl rfl rfl ?_; refine tl_opo (o_len_imm rfl) rfl rfl rfl rfl ?_; refine tl_opo (o_move rfl) rfl rfl rfl rfl ?_; refine tl_opo (o_len_imm rfl) rfl rfl rfl rfl ?_; refine tl_opo (o_neq rfl rfl) rfl rfl rfl rfl ?_; refine tl_nil ?_
  refine tc_cond rfl (fun h => ?_) (fun h => tc_skip ?_)
  · refine tc_seq (tc_ops ?_)
    refine tl_opo (o_move rfl) rfl rfl rfl rfl ?_; refine tl_nil ?_
    refine tc_ret (retd rfl ?_)
    have : a ≠ b := fun e => by subst e; simp at h
    rw [decide_eq_false this]
    exact ⟨_, frz_ok rfl⟩
  · have hl : a.length = b.length := by simp at h; omega
    refine tc_seq (tc_seq (tc_ops ?_))
    refine tl_opo (o_move rfl) rfl rfl rfl rfl ?_; refine tl_opo (o_len_imm rfl) rfl rfl rfl rfl ?_; refine tl_opo (o_move rfl) rfl rfl rfl rfl ?_; refine tl_nil ?_
    dsimp only [putM, initM, acells, effS, List.nil_append, List.cons_append, List.length_nil, List.length_cons, List.set_cons_zero, List.set_cons_succ, List.set_nil, List.append_nil, Nat.zero_add, Nat.add_zero, Nat.reduceAdd, List.replicate, nslots]
    refine tc_block (loop_st (fun i => a.length - i) (fun i : Nat => [(0, .imm (encN a)), (1, .imm (encN b)), (12, .int .i64 (encN a).length), (13, .int .i64 i)])
      (fun i S => i ≤ a.length ∧ a.take i = b.take i) 0 (by (repeat' (first | exact wk_nil | refine wk_cons rfl ?_))) ⟨by omega, by simp⟩ ?_)
    rintro i S ⟨hi, heq⟩
    refine tc_seq (tc_ops ?_)
    refine tl_opo (o_lss rfl rfl) rfl rfl rfl rfl ?_; refine tl_nil ?_
    refine tc_seq (tc_cond rfl (fun h => tc_skip ?_) (fun h => tc_exit ?_))
    · have hi' : i < a.length := by simpa using h
      have hib : i < b.length := by omega
      refine tc_seq (tc_block (tc_seq (tc_ops ?_)))
      refine tl_opo (o_move rfl) rfl rfl rfl rfl ?_; refine tl_opo (o_move rfl) rfl rfl rfl rfl ?_; refine tl_nil ?_
      refine tc_seq (tc_drawR [] rfl ?_)
      refine td_op rfl rfl (o_move rfl) ?_; refine td_op rfl rfl (o_move rfl) ?_
      refine td_op rfl rfl (o_iaddr rfl rfl (encN_get hi') rfl) ?_
      refine td_op rfl rfl (o_loadr rfl (Nat.le_of_ble_eq_true rfl) rfl) ?_; refine td_op rfl rfl (o_move rfl) ?_; refine td_op rfl rfl (o_move rfl) ?_
      refine td_op rfl rfl (o_iaddr rfl rfl (encN_get hib) rfl) ?_
      refine td_op rfl rfl (o_loadr rfl (Nat.le_of_ble_eq_true rfl) rfl) ?_; refine td_op rfl rfl (o_neq rfl rfl) ?_; refine td_nil ?_
      refine ⟨rfl, ?_⟩
      refine tc_cond rfl (fun h => ?_) (fun h => tc_skip ?_)
      · refine tc_seq (tc_ops ?_)
        refine tl_opo (o_move rfl) rfl rfl rfl rfl ?_; refine tl_nil ?_
        refine tc_ret (retd rfl ?_)
        have : a ≠ b := fun e => by subst e; simp at h
        rw [decide_eq_false this]
        exact ⟨_, frz_ok rfl⟩
      · have he : a[i] = b[i] := by simpa using h
        refine tc_ops ?_
        refine tl_opo (o_add rfl rfl (c := ((i + 1 : Nat) : Int)) (by simp) (by omega) (by omega)) rfl rfl rfl rfl ?_
        refine tl_opo (o_move rfl) rfl rfl rfl rfl ?_; refine tl_nil ?_
        refine ⟨i + 1, by omega, by (repeat' (first | exact wk_nil | refine wk_cons rfl ?_)), by omega, ?_⟩
        rw [List.take_add_one, List.take_add_one, heq, List.getElem?_eq_getElem hi', List.getElem?_eq_getElem hib, he]
    · have hi' : a.length ≤ i := by simpa using h
      refine tc_seq (tc_ops ?_)
      refine tl_opo (o_move rfl) rfl rfl rfl rfl ?_; refine tl_nil ?_
      refine tc_ret (retd rfl ?_)
      have : a = b := by rw [← List.take_of_length_le hi', heq, List.take_of_length_le (by omega)]
      rw [decide_eq_true this]
      exact ⟨_, frz_ok rfl⟩

/-- the rule -/
def doR (a d : List UInt8) : Option (List UInt8) := match d with
  | c :: _ => if c = 33 then none else some (a ++ d)
  | [] => some (a ++ d)

theorem o_idxStr {m : FM} {slot : Nat} {S : Store} {x i : AOpd} {s : List UInt8} {k : IntKind} {n : Nat} {b : UInt8} (hx : lo m x = some (.str s)) (hi : lo m i = some (.int k (n : Int))) (hb : s[n]? = some b) : OpR AP m slot S (.idxStr x i) (.int .u8 b.toNat) S ([], []) :=
  opr_v fun fr hfr f => by simp only [semX, sem, hfr.opd hx, hfr.opd hi, aint, Int.toNat_natCast, hb, RM.run]; rw [if_pos (by omega)]; rfl

theorem rdo_ok (a d : List UInt8) (h : a.length + d.length ≤ 1000000) : CallR AP 49 [.str a, .str d] (.tuple [.str ((doR a d).getD []), .bool (doR a d).isSome]) := by
  refine callR_of (af := c49) rfl rfl ?_
  refine tc_seq (tc_ops ?_)
  refine tl_opo (o_move rfl) rfl rfl rfl rfl ?_; refine tl_opo (o_move rfl) rfl rfl rfl rfl ?_; refine tl_nil ?_
  refine tc_seq (tc_seq (tc_ops ?_))
  refine tl_opo (o_move rfl) rfl rfl rfl rfl ?_
  refine tl_opo (o_len_str rfl) rfl rfl rfl rfl ?_
  have hadd : ∀ {N : Nat} {K : FM → Store → Prop} {m : FM} {S : Store} {l : List AInstr}, lo m (.t 14) = some (.str a) → lo m (.t 15) = some (.str d) → (16 < N) → TL AP N l (putM m (some 16) (.str (a ++ d))) S K → TL AP N (⟨some 16, .bin .add (.t 14) (.t 15), none, []⟩ :: l) m S K := by
    intro N K m S l h1 h2 hN hk
    refine tl_opo (o_bin h1 h2 (v := .str (a ++ d)) (by simp only [abin, astrop]; rw [if_pos (by omega)])) rfl (by simpa using hN) rfl rfl hk
  cases d with
  | nil =>
    refine tl_opo (o_gtr' rfl rfl (t := false) (by simp)) rfl rfl rfl rfl ?_
    refine tl_opo (o_move rfl) rfl rfl rfl rfl ?_; refine tl_off0 rfl rfl rfl ?_; refine tl_off0 rfl rfl rfl ?_; refine tl_off0 rfl rfl rfl ?_; refine tl_opo (o_pick rfl rfl rfl) rfl rfl rfl rfl ?_; refine tl_nil ?_
    refine tc_cond rfl (fun h => nomatch h) (fun _ => tc_skip ?_)
    refine tc_seq (tc_ops ?_)
    refine tl_opo (o_move rfl) rfl rfl rfl rfl ?_; refine tl_opo (o_move rfl) rfl rfl rfl rfl ?_
    refine hadd rfl rfl (by decide) ?_
    refine tl_opo (o_move rfl) rfl rfl rfl rfl ?_; refine tl_opo (o_move rfl) rfl rfl rfl rfl ?_; refine tl_nil ?_
    exact tc_ret (retd rfl ⟨_, frz_ok rfl⟩)
  | cons c d =>
    refine tl_opo (o_gtr' rfl rfl (t := true) (by simp)) rfl rfl rfl rfl ?_
    refine tl_opo (o_move rfl) rfl rfl rfl rfl ?_; refine tl_opo (o_move rfl) rfl rfl rfl rfl ?_
    refine tl_opo (o_idxStr (s := c :: d) (n := 0) (b := c) rfl rfl rfl) rfl rfl rfl rfl ?_
    by_cases hc : c = 33
    · refine tl_opo (o_eql' rfl rfl (t := true) (by rw [hc]; rfl)) rfl rfl rfl rfl ?_
      refine tl_opo (o_pick rfl rfl rfl) rfl rfl rfl rfl ?_; refine tl_nil ?_
      refine tc_cond rfl (fun _ => ?_) (fun h => nomatch h)
      refine tc_seq (tc_ops ?_)
      refine tl_opo (o_move rfl) rfl rfl rfl rfl ?_; refine tl_opo (o_move rfl) rfl rfl rfl rfl ?_; refine tl_nil ?_
      have e : doR a (c :: d) = none := by simp [doR, hc]
      rw [e]
      exact tc_ret (retd rfl ⟨_, frz_ok rfl⟩)
    · have hc' : ¬ ((c.toNat : Int) = 33) := fun h => hc (UInt8.toNat_inj.1 (show c.toNat = (33 : UInt8).toNat from (by have : c.toNat = 33 := (by omega); rw [this]; rfl)))
      refine tl_opo (o_eql' rfl rfl (t := false) (by simpa using hc')) rfl rfl rfl rfl ?_
      refine tl_opo (o_pick rfl rfl rfl) rfl rfl rfl rfl ?_; refine tl_nil ?_
      refine tc_cond rfl (fun h => nomatch h) (fun _ => tc_skip ?_)
      refine tc_seq (tc_ops ?_)
      refine tl_opo (o_move rfl) rfl rfl rfl rfl ?_; refine tl_opo (o_move rfl) rfl rfl rfl rfl ?_
      refine hadd rfl rfl (by decide) ?_
      refine tl_opo (o_move rfl) rfl rfl rfl rfl ?_; refine tl_opo (o_move rfl) rfl rfl rfl rfl ?_; refine tl_nil ?_
      have e : doR a (c :: d) = some (a ++ c :: d) := by simp [doR, hc]
      rw [e]
      exact tc_ret (retd rfl ⟨_, frz_ok rfl⟩)

theorem rule_ok (a d : List UInt8) (h : a.length + d.length ≤ 1000000) : CallR AP 48 [.str a, .str d] (.tuple [.str ((doR a d).getD []), .int .i64 (if (doR a d).isSome then 0 else 2)]) := by
  refine callR_of (af := c48) rfl rfl ?_
  refine tc_seq (tc_ops ?_)
  refine tl_opo (o_move rfl) rfl rfl rfl rfl ?_; refine tl_opo (o_move rfl) rfl rfl rfl rfl ?_; refine tl_nil ?_
  refine tc_seq (tc_ops ?_)
  refine tl_opo (o_move rfl) rfl rfl rfl rfl ?_; refine tl_opo (o_move rfl) rfl rfl rfl rfl ?_
  refine tl_call' (as := [.str a, .str d]) (as' := [.str a, .str d]) rfl (frzL_cons (fun n => ⟨_, frz_ok rfl⟩) (frzL_cons (fun n => ⟨_, frz_ok rfl⟩) frzL_nil)) (rdo_ok a d h) rfl rfl rfl rfl rfl ?_
  refine tl_opo (o_move rfl) rfl rfl rfl rfl ?_; refine tl_opo (o_extract rfl rfl) rfl rfl rfl rfl ?_; refine tl_opo (o_extract rfl rfl) rfl rfl rfl rfl ?_; refine tl_opo (o_move rfl) rfl rfl rfl rfl ?_; refine tl_opo (o_move rfl) rfl rfl rfl rfl ?_; refine tl_nil ?_
  refine tc_seq (tc_seq (tc_ops ?_))
  refine tl_opo (o_move rfl) rfl rfl rfl rfl ?_; refine tl_opo (o_un rfl rfl) rfl rfl rfl rfl ?_; refine tl_nil ?_
  cases hd : doR a d with
  | none =>
    refine tc_cond rfl (fun _ => ?_) (fun h => nomatch h)
    refine tc_seq (tc_ops ?_)
    refine tl_opo (o_move rfl) rfl rfl rfl rfl ?_; refine tl_opo (o_move rfl) rfl rfl rfl rfl ?_; refine tl_nil ?_
    exact tc_ret (retd rfl ⟨_, frz_ok rfl⟩)
  | some s =>
    refine tc_cond rfl (fun h => nomatch h) (fun _ => tc_skip ?_)
    refine tc_seq (tc_ops ?_)
    refine tl_opo (o_move rfl) rfl rfl rfl rfl ?_; refine tl_opo (o_move rfl) rfl rfl rfl rfl ?_; refine tl_opo (o_move rfl) rfl rfl rfl rfl ?_; refine tl_nil ?_
    exact tc_ret (retd rfl ⟨_, frz_ok rfl⟩)

theorem clone_some (x : Sta) (l : List Sta) (hl : l.length ≤ 1000000) : ∃ v S1, CallSR AP 52 [.imm (encS (x :: l))] [] v S1 ∧ ∃ j, v = .view j 0 (encS (x :: l)).length false ∧ S1[j]? = some (some ⟨2, encS (x :: l)⟩) := by
  refine callSR_of (af := c52) rfl rfl ?_
  refine tc_seq (tc_ops ?_)
  refine tl_opo (o_move rfl) rfl rfl rfl rfl ?_; refine tl_nil ?_
  refine tc_seq (tc_seq (tc_ops ?_))
  refine tl_opo (o_move rfl) rfl rfl rfl rfl ?_
  refine tl_opo (o_isNil_f (r := x.row) (rs := encS l) rfl) rfl rfl rfl rfl ?_
  refine tl_nil ?_
  refine tc_cond rfl (fun h => nomatch h) (fun _ => tc_skip ?_)
  refine tc_seq (tc_ops ?_)
  refine tl_opo (o_buildSlice rfl rfl) rfl rfl rfl rfl ?_; refine tl_opo (o_move rfl) rfl rfl rfl rfl ?_
  refine tl_opn (o_append_lim rfl rfl (rows := encS (x :: l)) rfl (by simp [encS]) (by simp; omega) rfl) rfl rfl rfl rfl ?_
  refine tl_opo (o_move rfl) rfl rfl rfl rfl ?_; refine tl_nil ?_
  dsimp only [putM, initM, acells, effS, List.nil_append, List.cons_append, List.length_nil, List.length_cons, List.set_cons_zero, List.set_cons_succ, List.set_nil, List.append_nil, Nat.zero_add, Nat.add_zero, Nat.reduceAdd, List.replicate, nslots]
  refine tc_ret ⟨.inr rfl, _, rfl, 0, ?_, ?_⟩
  · simp [one]
  · simp

end Go.Eng.Recv

/- An instruction is taken. -/
namespace Go.Eng.Recv
open Go Go.Eng

theorem o_ins {m : FM} {slot : Nat} {S : Store} {args : List AOpd} {b i : Nat} {rows vr : List (List AVal)} (ha : los m args = some [.view b 0 rows.length false, .int .i64 (i : Int), .lim vr])
    (hb0 : S[b]? = some (some ⟨2, rows⟩)) (hi : i ≤ rows.length) (hv : 0 < vr.length) (hv2 : (vr.all fun r => Nat.beq r.length 2) = true) (hst : (vr.all fun r => r.all storable) = true) (hst2 : (rows.all fun r => r.all storable) = true) (hnr : norefLL rows = true) (hnv : norefLL vr = true)
    (hbd : (rows.length + vr.length) * 24 ≤ 17592186044416) :
    OpR AP m slot S (.call (.c (.fn (.func 51) [] [])) args) (.view slot 0 (rows.length + vr.length) false) ((S.set b none).set slot (some ⟨2, rows.take i ++ vr ++ rows.drop i⟩)) ([b], [b, slot]) := fun fr hfr =>
  ⟨⟨.view slot 0 (rows.length + vr.length) false, some ⟨2, rows.take i ++ vr ++ rows.drop i⟩, [(b, none)]⟩, ⟨0, fun n _ => by
    have hp : AP.prim 51 = some (primKeep insG) := rfl
    have hres : norefLL (rows.take i ++ vr ++ rows.drop i) = true := by
      have h1 : ∀ (xs : List (List AVal)), norefLL xs = true ↔ ∀ r ∈ xs, norefL r = true := by
        intro xs; induction xs with
        | nil => simp [norefLL]
        | cons a xs ih => simp [norefLL, ih]
      rw [h1] at hnr hnv ⊢
      intro r hr
      rcases List.mem_append.1 hr with hr | hr
      · rcases List.mem_append.1 hr with hr | hr
        · exact hnr r (List.mem_of_mem_take hr)
        · exact hnv r hr
      · exact hnr r (List.mem_of_mem_drop hr)
    have hins : insG [.view 0 0 rows.length false, .int .i64 (i : Int), .lim vr] [some ⟨2, rows⟩] = some (.view 1 0 (rows.length + vr.length) false, [none, some ⟨2, rows.take i ++ vr ++ rows.drop i⟩]) := by
      simp only [insG, rowsV]
      rw [if_pos ⟨by trivial, by trivial, by omega, by omega, hv, hv2, hst, hst2, hnr, hnv, hbd⟩]
      simp
    have hlim : norefL [.int .i64 (i : Int), .lim vr] = true := by simp [norefL, AVal.noref, hnv]
    simp only [semX, opd, hfr.opds ha, semCall, hp, List.nil_append, List.append_nil, primKeep, moveArgs, AVal.noref, Bool.false_eq_true, if_false, if_true, RM.bind, RM.run, hb0, hnr, hnv, nodup, List.contains_nil, Bool.not_false, Bool.and_true, List.map_cons, List.map_nil, hins, keepRes, List.getElem?_cons_succ, List.getElem?_cons_zero, hres, moveArgs]⟩, rfl, rfl, rfl⟩

structure Ins where
  old : Int
  new : Int
  ack : Int
  throw : Int
  diff : List UInt8
def Ins.row (i : Ins) : List AVal := [.int .u64 i.old, .int .u64 i.new, .int .u64 i.ack, .int .u64 i.throw, .str i.diff]

def insL (l : List Sta) (n : Int) (v : List UInt8) : List Sta := l.take (lb l n) ++ ⟨n, v⟩ :: l.drop (lb l n)
def below (l : List Sta) (t : Int) : Nat := (l.takeWhile fun s => decide (s.num < t)).length
def cutAt (l : List Sta) (t : Int) : Nat := max (l.length - 8) (min (below l t) (l.length - 1))
def takeR (l : List Sta) (i : Ins) : List Sta × Bool × Int :=
  if found l i.new then (l, false, 11)
  else if i.new < (l.headD ⟨0, []⟩).num then (l, false, 9)
  else if found l i.old = false ∨ i.old ≥ i.new then (l, false, 19)
  else match doR (ofTx l i.old) i.diff with
    | none => (l, false, 4)
    | some v => ((insL l i.new v).drop (cutAt (insL l i.new v) i.throw), decide (lb l i.new = l.length), 0)

theorem below_spec {l : List Sta} {n : Int} {k : Nat} (hk : k ≤ l.length) (h1 : ∀ j, (hj : j < l.length) → j < k → l[j].num < n) (h2 : ∀ (hj : k < l.length), ¬ l[k].num < n) : below l n = k := lb_spec hk h1 h2

end Go.Eng.Recv

