/- Records: the texts, and the small functions. -/
import Derived.Test.YtbiefokigponpaaAmZa
namespace Go.Proofs.Ytbiefokigponpaa
set_option linter.unusedVariables false
set_option linter.unusedSimpArgs false
set_option linter.unnecessarySimpa false

-- loop.example/g00678/spec.l02Is hows []
def af27 : AF := ⟨15, [.t 6],
  .seq (.reg [⟨some 6, .mv (.b false), none⟩])
  (.seq (.reg [⟨some 7, .mv (.t 0), none⟩,
    ⟨some 8, .mv (.t 1), none⟩,
    ⟨some 9, .bin .geq (.t 7) (.t 8), none⟩,
    ⟨some 10, .mv (.t 9), none⟩,
    ⟨some 11, .mv (.t 0), some (10, true)⟩,
    ⟨some 12, .mv (.t 2), some (10, true)⟩,
    ⟨some 13, .bin .leq (.t 11) (.t 12), some (10, true)⟩,
    ⟨some 14, .pick (.t 10) (.t 13) (.b false), none⟩,
    ⟨some 6, .mv (.t 14), none⟩])
  (.ret))⟩
-- loop.example/g00678/impl.within hows []
def af28 : AF := ⟨15, [.t 6],
  .seq (.reg [⟨some 6, .mv (.b false), none⟩])
  (.seq (.reg [⟨some 7, .mv (.t 1), none⟩,
    ⟨some 8, .mv (.t 0), none⟩,
    ⟨some 9, .bin .leq (.t 7) (.t 8), none⟩,
    ⟨some 10, .mv (.t 9), none⟩,
    ⟨some 11, .mv (.t 0), some (10, true)⟩,
    ⟨some 12, .mv (.t 2), some (10, true)⟩,
    ⟨some 13, .bin .leq (.t 11) (.t 12), some (10, true)⟩,
    ⟨some 14, .pick (.t 10) (.t 13) (.b false), none⟩,
    ⟨some 6, .mv (.t 14), none⟩])
  (.ret))⟩
-- loop.example/g00678/spec.l03Time hows []
def af29 : AF := ⟨5, [.t 2],
  .seq (.reg [⟨some 2, .mv (.b false), none⟩])
  (.seq (.reg [⟨some 3, .mv (.t 0), none⟩,
    ⟨some 4, .call 27 [(.t 3), (.i 0), (.i 1000000)], none⟩,
    ⟨some 2, .mv (.t 4), none⟩])
  (.ret))⟩
-- loop.example/g00678/spec.l04Node hows []
def af30 : AF := ⟨5, [.t 2],
  .seq (.reg [⟨some 2, .mv (.b false), none⟩])
  (.seq (.reg [⟨some 3, .mv (.t 0), none⟩,
    ⟨some 4, .call 27 [(.t 3), (.i 1), (.i 6)], none⟩,
    ⟨some 2, .mv (.t 4), none⟩])
  (.ret))⟩
-- loop.example/g00678/impl.isTime hows []
def af31 : AF := ⟨5, [.t 2],
  .seq (.reg [⟨some 2, .mv (.b false), none⟩])
  (.seq (.reg [⟨some 3, .mv (.t 0), none⟩,
    ⟨some 4, .call 28 [(.t 3), (.i 0), (.i 1000000)], none⟩,
    ⟨some 2, .mv (.t 4), none⟩])
  (.ret))⟩
-- loop.example/g00678/impl.isNode hows []
def af32 : AF := ⟨5, [.t 2],
  .seq (.reg [⟨some 2, .mv (.b false), none⟩])
  (.seq (.reg [⟨some 3, .mv (.t 0), none⟩,
    ⟨some 4, .call 28 [(.t 3), (.i 1), (.i 6)], none⟩,
    ⟨some 2, .mv (.t 4), none⟩])
  (.ret))⟩
-- loop.example/g00678/impl.FactRight hows []
def af33 : AF := ⟨16, [.t 2],
  .seq (.reg [⟨some 1, .box (.t 0), none⟩,
    ⟨some 2, .mv (.b false), none⟩])
  (.seq (.reg [⟨some 3, .fa 0 (.t 1), none⟩,
    ⟨some 4, .ld false 1 (.t 3), none⟩,
    ⟨some 5, .call 32 [(.t 4)], none⟩,
    ⟨some 6, .mv (.t 5), none⟩,
    ⟨some 7, .fa 1 (.t 1), some (6, true)⟩,
    ⟨some 8, .ld false 1 (.t 7), some (6, true)⟩,
    ⟨some 9, .call 31 [(.t 8)], some (6, true)⟩,
    ⟨some 10, .pick (.t 6) (.t 9) (.b false), none⟩,
    ⟨some 11, .mv (.t 10), none⟩,
    ⟨some 12, .fa 2 (.t 1), some (11, true)⟩,
    ⟨some 13, .ld false 1 (.t 12), some (11, true)⟩,
    ⟨some 14, .call 28 [(.t 13), (.i 1), (.i 3)], some (11, true)⟩,
    ⟨some 15, .pick (.t 11) (.t 14) (.b false), none⟩,
    ⟨some 2, .mv (.t 15), none⟩])
  (.ret))⟩
-- loop.example/g00678/laws.toRec hows []
def af12 : AF := ⟨23, [.cell 2 true 6],
  .seq (.reg [⟨some 1, .box (.t 0), none⟩,
    ⟨some 2, .box (.c (.agg [.int .i64 0, .int .i64 0, .int .i64 0, .int .i64 0, .int .i64 0, .int .i64 0])), none⟩])
  (.seq (.reg [⟨some 3, .box (.c (.agg [.int .i64 0, .int .i64 0, .int .i64 0, .int .i64 0, .int .i64 0, .int .i64 0])), none⟩])
  (.seq (.reg [⟨some 4, .fa 0 (.t 1), none⟩,
    ⟨some 5, .ld false 1 (.t 4), none⟩,
    ⟨some 6, .fa 0 (.t 3), none⟩,
    ⟨none, .st 1 (.t 6) (.t 5), none⟩])
  (.seq (.reg [⟨some 7, .fa 1 (.t 1), none⟩,
    ⟨some 8, .ld false 1 (.t 7), none⟩,
    ⟨some 9, .fa 1 (.t 3), none⟩,
    ⟨none, .st 1 (.t 9) (.t 8), none⟩])
  (.seq (.reg [⟨some 10, .fa 2 (.t 1), none⟩,
    ⟨some 11, .ld false 1 (.t 10), none⟩,
    ⟨some 12, .fa 2 (.t 3), none⟩,
    ⟨none, .st 1 (.t 12) (.t 11), none⟩])
  (.seq (.reg [⟨some 13, .fa 3 (.t 1), none⟩,
    ⟨some 14, .ld false 1 (.t 13), none⟩,
    ⟨some 15, .fa 3 (.t 3), none⟩,
    ⟨none, .st 1 (.t 15) (.t 14), none⟩])
  (.seq (.reg [⟨some 16, .fa 4 (.t 1), none⟩,
    ⟨some 17, .ld false 1 (.t 16), none⟩,
    ⟨some 18, .fa 4 (.t 3), none⟩,
    ⟨none, .st 1 (.t 18) (.t 17), none⟩])
  (.seq (.reg [⟨some 19, .fa 5 (.t 1), none⟩,
    ⟨some 20, .ld false 1 (.t 19), none⟩,
    ⟨some 21, .fa 5 (.t 3), none⟩,
    ⟨none, .st 1 (.t 21) (.t 20), none⟩])
  (.seq (.reg [⟨some 22, .ld true 6 (.t 3), none⟩,
    ⟨none, .st 6 (.t 2) (.t 22), none⟩])
  (.ret)))))))))⟩
-- loop.example/g00678/spec.RecRight hows []
def af11 : AF := ⟨91, [.t 2],
  .seq (.reg [⟨some 1, .box (.t 0), none⟩,
    ⟨some 2, .mv (.b false), none⟩])
  (.seq (.seq (.reg [⟨some 3, .fa 0 (.t 1), none⟩,
    ⟨some 4, .ld false 1 (.t 3), none⟩,
    ⟨some 5, .call 29 [(.t 4)], none⟩,
    ⟨some 6, .un .not (.t 5), none⟩,
    ⟨some 7, .mv (.t 6), none⟩,
    ⟨some 8, .fa 1 (.t 1), some (7, false)⟩,
    ⟨some 9, .ld false 1 (.t 8), some (7, false)⟩,
    ⟨some 10, .call 30 [(.t 9)], some (7, false)⟩,
    ⟨some 11, .un .not (.t 10), some (7, false)⟩,
    ⟨some 12, .pick (.t 7) (.b true) (.t 11), none⟩])
  (.cond (.t 12)
    (.seq (.reg [⟨some 2, .mv (.b false), none⟩])
    (.ret))
    (.skip)))
  (.seq (.seq (.reg [⟨some 13, .fa 2 (.t 1), none⟩,
    ⟨some 14, .ld false 1 (.t 13), none⟩])
  (.block 0 (.seq (.reg [⟨some 16, .bin .eql (.t 14) (.i 1), none⟩,
      ⟨some 15, .mv (.t 16), none⟩])
    (.cond (.t 15)
      (.seq (.reg [⟨some 17, .fa 3 (.t 1), none⟩,
        ⟨some 18, .ld false 1 (.t 17), none⟩,
        ⟨some 19, .call 29 [(.t 18)], none⟩,
        ⟨some 20, .mv (.t 19), none⟩,
        ⟨some 21, .fa 4 (.t 1), some (20, true)⟩,
        ⟨some 22, .ld false 1 (.t 21), some (20, true)⟩,
        ⟨some 23, .bin .eql (.t 22) (.i 0), some (20, true)⟩,
        ⟨some 24, .pick (.t 20) (.t 23) (.b false), none⟩,
        ⟨some 25, .mv (.t 24), none⟩,
        ⟨some 26, .fa 5 (.t 1), some (25, true)⟩,
        ⟨some 27, .ld false 1 (.t 26), some (25, true)⟩,
        ⟨some 28, .bin .eql (.t 27) (.i 0), some (25, true)⟩,
        ⟨some 29, .pick (.t 25) (.t 28) (.b false), none⟩,
        ⟨some 2, .mv (.t 29), none⟩])
      (.ret))
      (.seq (.reg [⟨some 31, .bin .eql (.t 14) (.i 2), none⟩,
        ⟨some 30, .mv (.t 31), none⟩])
      (.cond (.t 30)
        (.seq (.reg [⟨some 32, .fa 3 (.t 1), none⟩,
          ⟨some 33, .ld false 1 (.t 32), none⟩,
          ⟨some 34, .bin .eql (.t 33) (.i 0), none⟩,
          ⟨some 35, .mv (.t 34), none⟩,
          ⟨some 36, .fa 4 (.t 1), some (35, true)⟩,
          ⟨some 37, .ld false 1 (.t 36), some (35, true)⟩,
          ⟨some 38, .bin .eql (.t 37) (.i 0), some (35, true)⟩,
          ⟨some 39, .pick (.t 35) (.t 38) (.b false), none⟩,
          ⟨some 40, .mv (.t 39), none⟩,
          ⟨some 41, .fa 5 (.t 1), some (40, true)⟩,
          ⟨some 42, .ld false 1 (.t 41), some (40, true)⟩,
          ⟨some 43, .bin .eql (.t 42) (.i 0), some (40, true)⟩,
          ⟨some 44, .pick (.t 40) (.t 43) (.b false), none⟩,
          ⟨some 2, .mv (.t 44), none⟩])
        (.ret))
        (.seq (.seq (.reg [⟨some 46, .bin .eql (.t 14) (.i 3), none⟩,
          ⟨some 45, .mv (.t 46), none⟩])
        (.cond (.t 45)
          (.skip)
          (.reg [⟨some 47, .bin .eql (.t 14) (.i 4), none⟩,
            ⟨some 45, .mv (.t 47), none⟩])))
        (.cond (.t 45)
          (.seq (.reg [⟨some 48, .fa 3 (.t 1), none⟩,
            ⟨some 49, .ld false 1 (.t 48), none⟩,
            ⟨some 50, .call 29 [(.t 49)], none⟩,
            ⟨some 51, .mv (.t 50), none⟩,
            ⟨some 52, .fa 4 (.t 1), some (51, true)⟩,
            ⟨some 53, .ld false 1 (.t 52), some (51, true)⟩,
            ⟨some 54, .call 30 [(.t 53)], some (51, true)⟩,
            ⟨some 55, .pick (.t 51) (.t 54) (.b false), none⟩,
            ⟨some 56, .mv (.t 55), none⟩,
            ⟨some 57, .fa 5 (.t 1), some (56, true)⟩,
            ⟨some 58, .ld false 1 (.t 57), some (56, true)⟩,
            ⟨some 59, .bin .eql (.t 58) (.i 0), some (56, true)⟩,
            ⟨some 60, .pick (.t 56) (.t 59) (.b false), none⟩,
            ⟨some 2, .mv (.t 60), none⟩])
          (.ret))
          (.seq (.reg [⟨some 62, .bin .eql (.t 14) (.i 5), none⟩,
            ⟨some 61, .mv (.t 62), none⟩])
          (.cond (.t 61)
            (.seq (.reg [⟨some 63, .fa 3 (.t 1), none⟩,
              ⟨some 64, .ld false 1 (.t 63), none⟩,
              ⟨some 65, .call 30 [(.t 64)], none⟩,
              ⟨some 66, .mv (.t 65), none⟩,
              ⟨some 67, .fa 4 (.t 1), some (66, true)⟩,
              ⟨some 68, .ld false 1 (.t 67), some (66, true)⟩,
              ⟨some 69, .call 29 [(.t 68)], some (66, true)⟩,
              ⟨some 70, .pick (.t 66) (.t 69) (.b false), none⟩,
              ⟨some 71, .mv (.t 70), none⟩,
              ⟨some 72, .fa 5 (.t 1), some (71, true)⟩,
              ⟨some 73, .ld false 1 (.t 72), some (71, true)⟩,
              ⟨some 74, .call 27 [(.t 73), (.i 1), (.i 3)], some (71, true)⟩,
              ⟨some 75, .pick (.t 71) (.t 74) (.b false), none⟩,
              ⟨some 2, .mv (.t 75), none⟩])
            (.ret))
            (.seq (.reg [⟨some 77, .bin .eql (.t 14) (.i 6), none⟩,
              ⟨some 76, .mv (.t 77), none⟩])
            (.cond (.t 76)
              (.seq (.reg [⟨some 78, .fa 3 (.t 1), none⟩,
                ⟨some 79, .ld false 1 (.t 78), none⟩,
                ⟨some 80, .call 30 [(.t 79)], none⟩,
                ⟨some 81, .mv (.t 80), none⟩,
                ⟨some 82, .fa 4 (.t 1), some (81, true)⟩,
                ⟨some 83, .ld false 1 (.t 82), some (81, true)⟩,
                ⟨some 84, .bin .eql (.t 83) (.i 0), some (81, true)⟩,
                ⟨some 85, .pick (.t 81) (.t 84) (.b false), none⟩,
                ⟨some 86, .mv (.t 85), none⟩,
                ⟨some 87, .fa 5 (.t 1), some (86, true)⟩,
                ⟨some 88, .ld false 1 (.t 87), some (86, true)⟩,
                ⟨some 89, .bin .eql (.t 88) (.i 0), some (86, true)⟩,
                ⟨some 90, .pick (.t 86) (.t 89) (.b false), none⟩,
                ⟨some 2, .mv (.t 90), none⟩])
              (.ret))
              (.skip)))))))))))))
  (.seq (.reg [⟨some 2, .mv (.b false), none⟩])
  (.ret))))⟩
-- loop.example/g00678/impl.RecRight hows []
def af13 : AF := ⟨86, [.t 2],
  .seq (.reg [⟨some 1, .box (.t 0), none⟩,
    ⟨some 2, .mv (.b false), none⟩])
  (.seq (.seq (.reg [⟨some 3, .fa 0 (.t 1), none⟩,
    ⟨some 4, .ld false 1 (.t 3), none⟩,
    ⟨some 5, .call 31 [(.t 4)], none⟩,
    ⟨some 6, .un .not (.t 5), none⟩,
    ⟨some 7, .mv (.t 6), none⟩,
    ⟨some 8, .fa 1 (.t 1), some (7, false)⟩,
    ⟨some 9, .ld false 1 (.t 8), some (7, false)⟩,
    ⟨some 10, .call 32 [(.t 9)], some (7, false)⟩,
    ⟨some 11, .un .not (.t 10), some (7, false)⟩,
    ⟨some 12, .pick (.t 7) (.b true) (.t 11), none⟩])
  (.cond (.t 12)
    (.seq (.reg [⟨some 2, .mv (.b false), none⟩])
    (.ret))
    (.skip)))
  (.seq (.seq (.reg [⟨some 13, .fa 2 (.t 1), none⟩,
    ⟨some 14, .ld false 1 (.t 13), none⟩])
  (.block 0 (.seq (.reg [⟨some 16, .bin .eql (.t 14) (.i 1), none⟩,
      ⟨some 15, .mv (.t 16), none⟩])
    (.cond (.t 15)
      (.seq (.reg [⟨some 17, .fa 3 (.t 1), none⟩,
        ⟨some 18, .ld false 1 (.t 17), none⟩,
        ⟨some 19, .call 31 [(.t 18)], none⟩,
        ⟨some 20, .mv (.t 19), none⟩,
        ⟨some 21, .fa 4 (.t 1), some (20, true)⟩,
        ⟨some 22, .ld false 1 (.t 21), some (20, true)⟩,
        ⟨some 23, .bin .eql (.t 22) (.i 0), some (20, true)⟩,
        ⟨some 24, .pick (.t 20) (.t 23) (.b false), none⟩,
        ⟨some 25, .mv (.t 24), none⟩,
        ⟨some 26, .fa 5 (.t 1), some (25, true)⟩,
        ⟨some 27, .ld false 1 (.t 26), some (25, true)⟩,
        ⟨some 28, .bin .eql (.t 27) (.i 0), some (25, true)⟩,
        ⟨some 29, .pick (.t 25) (.t 28) (.b false), none⟩,
        ⟨some 2, .mv (.t 29), none⟩])
      (.ret))
      (.seq (.reg [⟨some 31, .bin .eql (.t 14) (.i 2), none⟩,
        ⟨some 30, .mv (.t 31), none⟩])
      (.cond (.t 30)
        (.seq (.reg [⟨some 32, .fa 3 (.t 1), none⟩,
          ⟨some 33, .ld false 1 (.t 32), none⟩,
          ⟨some 34, .bin .eql (.t 33) (.i 0), none⟩,
          ⟨some 35, .mv (.t 34), none⟩,
          ⟨some 36, .fa 4 (.t 1), some (35, true)⟩,
          ⟨some 37, .ld false 1 (.t 36), some (35, true)⟩,
          ⟨some 38, .bin .eql (.t 37) (.i 0), some (35, true)⟩,
          ⟨some 39, .pick (.t 35) (.t 38) (.b false), none⟩,
          ⟨some 40, .mv (.t 39), none⟩,
          ⟨some 41, .fa 5 (.t 1), some (40, true)⟩,
          ⟨some 42, .ld false 1 (.t 41), some (40, true)⟩,
          ⟨some 43, .bin .eql (.t 42) (.i 0), some (40, true)⟩,
          ⟨some 44, .pick (.t 40) (.t 43) (.b false), none⟩,
          ⟨some 2, .mv (.t 44), none⟩])
        (.ret))
        (.seq (.seq (.reg [⟨some 46, .bin .eql (.t 14) (.i 3), none⟩,
          ⟨some 45, .mv (.t 46), none⟩])
        (.cond (.t 45)
          (.skip)
          (.reg [⟨some 47, .bin .eql (.t 14) (.i 4), none⟩,
            ⟨some 45, .mv (.t 47), none⟩])))
        (.cond (.t 45)
          (.seq (.reg [⟨some 48, .fa 3 (.t 1), none⟩,
            ⟨some 49, .ld false 1 (.t 48), none⟩,
            ⟨some 50, .call 31 [(.t 49)], none⟩,
            ⟨some 51, .mv (.t 50), none⟩,
            ⟨some 52, .fa 4 (.t 1), some (51, true)⟩,
            ⟨some 53, .ld false 1 (.t 52), some (51, true)⟩,
            ⟨some 54, .call 32 [(.t 53)], some (51, true)⟩,
            ⟨some 55, .pick (.t 51) (.t 54) (.b false), none⟩,
            ⟨some 56, .mv (.t 55), none⟩,
            ⟨some 57, .fa 5 (.t 1), some (56, true)⟩,
            ⟨some 58, .ld false 1 (.t 57), some (56, true)⟩,
            ⟨some 59, .bin .eql (.t 58) (.i 0), some (56, true)⟩,
            ⟨some 60, .pick (.t 56) (.t 59) (.b false), none⟩,
            ⟨some 2, .mv (.t 60), none⟩])
          (.ret))
          (.seq (.reg [⟨some 62, .bin .eql (.t 14) (.i 5), none⟩,
            ⟨some 61, .mv (.t 62), none⟩])
          (.cond (.t 61)
            (.seq (.reg [⟨some 63, .fa 3 (.t 1), none⟩,
              ⟨some 64, .ld false 1 (.t 63), none⟩,
              ⟨some 65, .fa 4 (.t 1), none⟩,
              ⟨some 66, .ld false 1 (.t 65), none⟩,
              ⟨some 67, .fa 5 (.t 1), none⟩,
              ⟨some 68, .ld false 1 (.t 67), none⟩,
              ⟨some 69, .build [.int .i64 0, .int .i64 0, .int .i64 0] [(0, 1, (.t 64)), (1, 1, (.t 66)), (2, 1, (.t 68))], none⟩,
              ⟨some 70, .call 33 [(.t 69)], none⟩,
              ⟨some 2, .mv (.t 70), none⟩])
            (.ret))
            (.seq (.reg [⟨some 72, .bin .eql (.t 14) (.i 6), none⟩,
              ⟨some 71, .mv (.t 72), none⟩])
            (.cond (.t 71)
              (.seq (.reg [⟨some 73, .fa 3 (.t 1), none⟩,
                ⟨some 74, .ld false 1 (.t 73), none⟩,
                ⟨some 75, .call 32 [(.t 74)], none⟩,
                ⟨some 76, .mv (.t 75), none⟩,
                ⟨some 77, .fa 4 (.t 1), some (76, true)⟩,
                ⟨some 78, .ld false 1 (.t 77), some (76, true)⟩,
                ⟨some 79, .bin .eql (.t 78) (.i 0), some (76, true)⟩,
                ⟨some 80, .pick (.t 76) (.t 79) (.b false), none⟩,
                ⟨some 81, .mv (.t 80), none⟩,
                ⟨some 82, .fa 5 (.t 1), some (81, true)⟩,
                ⟨some 83, .ld false 1 (.t 82), some (81, true)⟩,
                ⟨some 84, .bin .eql (.t 83) (.i 0), some (81, true)⟩,
                ⟨some 85, .pick (.t 81) (.t 84) (.b false), none⟩,
                ⟨some 2, .mv (.t 85), none⟩])
              (.ret))
              (.skip)))))))))))))
  (.seq (.reg [⟨some 2, .mv (.b false), none⟩])
  (.ret))))⟩
-- loop.example/g00678/laws.FnExactRecRight hows []
def af4 : AF := ⟨14, [.t 2],
  .seq (.reg [⟨some 1, .box (.t 0), none⟩,
    ⟨some 2, .mv (.b false), none⟩])
  (.seq (.reg [⟨some 5, .ld true 6 (.t 1), none⟩,
    ⟨some 6, .call 12 [(.t 5)], none⟩,
    ⟨some 7, .call 11 [(.t 6)], none⟩,
    ⟨some 3, .mv (.t 7), none⟩])
  (.seq (.reg [⟨some 8, .ld true 6 (.t 1), none⟩,
    ⟨some 9, .call 12 [(.t 8)], none⟩,
    ⟨some 10, .call 13 [(.t 9)], none⟩,
    ⟨some 4, .mv (.t 10), none⟩])
  (.seq (.seq (.reg [⟨some 11, .mv (.t 4), none⟩,
    ⟨some 12, .mv (.t 3), none⟩,
    ⟨some 13, .eqb true (.t 11) (.t 12), none⟩])
  (.cond (.t 13)
    (.seq (.reg [⟨some 2, .mv (.b false), none⟩])
    (.ret))
    (.skip)))
  (.seq (.reg [⟨some 2, .mv (.b true), none⟩])
  (.ret)))))⟩

def inr (a lo hi : Int) : Bool := decide (lo ≤ a) && decide (a ≤ hi)

def conIn : Con := ⟨[.v, .v, .v], .v, fun as => match as with
  | [.int .i64 a, .int .i64 b, .int .i64 c] => some (.bool (inr a b c), [])
  | _ => none⟩

def conTime : Con := ⟨[.v], .v, fun as => match as with
  | [.int .i64 a] => some (.bool (inr a 0 1000000), [])
  | _ => none⟩

def conNode : Con := ⟨[.v], .v, fun as => match as with
  | [.int .i64 a] => some (.bool (inr a 1 6), [])
  | _ => none⟩

def factOk (a b c : Int) : Bool := inr a 1 6 && (inr b 0 1000000 && inr c 1 3)

def conFact : Con := ⟨[.v], .v, fun as => match as with
  | [.agg [.int .i64 a, .int .i64 b, .int .i64 c]] => some (.bool (factOk a b c), [])
  | _ => none⟩

def conRec : Con := ⟨[.v], .v, fun as => match as with
  | [.agg [.int .i64 a, .int .i64 b, .int .i64 c, .int .i64 d, .int .i64 e, .int .i64 f]] => some (.agg [.int .i64 a, .int .i64 b, .int .i64 c, .int .i64 d, .int .i64 e, .int .i64 f], [])
  | _ => none⟩

def tab0 : Tab := fun _ => none

def tabS : Tab := fun f => match f with
  | 27 => some conIn
  | 28 => some conIn
  | _ => none

theorem tabS_27 : tabS 27 = some conIn := rfl
theorem tabS_28 : tabS 28 = some conIn := rfl

def tabT : Tab := fun f => match f with
  | 28 => some conIn
  | 31 => some conTime
  | 32 => some conNode
  | _ => none

theorem tabT_28 : tabT 28 = some conIn := rfl
theorem tabT_31 : tabT 31 = some conTime := rfl
theorem tabT_32 : tabT 32 = some conNode := rfl

set_option maxHeartbeats 4000000 in
theorem does27 (as : List AV) : Does tab0 af27 conIn as := by
  cases h : (conIn).run as with
  | none => exact does_none h
  | some out =>
    have h' := h
    simp only [conIn] at h'
    split at h'
    · rename_i a b c
      simp only [Option.some.injEq] at h'
      subst h'
      with_reducible refine does_by h fun Q hQ => ?_
      clear h
      dsimp only [go_sem, af27, conIn, Nat.reduceAdd, Nat.reduceMul, Nat.reduceSub, Nat.reduceBEq, Nat.reduceLeDiff, Nat.reduceEqDiff, ↓dreduceIte]
      repeat' first
        | with_reducible refine kon_seq ?_
        | with_reducible refine kon_nil ?_
        | with_reducible refine kon_skip ?_
        | with_reducible refine kon_block ?_
        | with_reducible refine kon_ret ?_
        | with_reducible refine kon_exit ?_
        | with_reducible refine kon_past_ret ?_
        | with_reducible refine kon_past_exit ?_
        | with_reducible refine kon_blk_ret ?_
        | with_reducible refine kon_blk_end ?_
        | with_reducible refine kon_blk_exit ?_
        | (with_reducible refine kon_ins fun R hR => ?_
           dsimp only [go_sem, Nat.reduceAdd, Nat.reduceMul, Nat.reduceSub, Nat.reduceBEq, Nat.reduceLeDiff, Nat.reduceEqDiff, ↓dreduceIte]
           with_reducible refine hR _ ?_
           clear hR R)
        | (with_reducible refine kon_g fun R hR => ?_
           dsimp only [go_sem, Nat.reduceAdd, Nat.reduceMul, Nat.reduceSub, Nat.reduceBEq, Nat.reduceLeDiff, Nat.reduceEqDiff, ↓dreduceIte]
           with_reducible refine hR _ ?_
           clear hR R)
        | (with_reducible refine kon_g fun R hR => ?_
           dsimp only [go_sem, Nat.reduceAdd, Nat.reduceMul, Nat.reduceSub, Nat.reduceBEq, Nat.reduceLeDiff, Nat.reduceEqDiff, ↓dreduceIte]
           split <;> (rename_i hb; with_reducible refine hR _ ?_; clear hR R; simp only [hb]))
        | (with_reducible refine kon_cond fun R1 R2 h1 h2 => ?_
           dsimp only [go_sem]
           first
             | (with_reducible refine h1 ?_; clear h1 h2 R1 R2)
             | (with_reducible refine h2 ?_; clear h1 h2 R1 R2)
             | (split <;> rename_i hb <;> first
                 | (with_reducible refine h1 ?_; clear h1 h2 R1 R2; try simp only [hb])
                 | (with_reducible refine h2 ?_; clear h1 h2 R1 R2; try simp only [hb])))
      all_goals
        dsimp only [kon]
        with_reducible refine hQ _ _ _ ?_
        dsimp only [go_sem, kon, endQ, af27, conIn, Nat.reduceAdd, Nat.reduceMul, Nat.reduceSub, Nat.reduceBEq, Nat.reduceLeDiff, Nat.reduceEqDiff, ↓dreduceIte]
        try simp only [Option.some.injEq, Prod.mk.injEq, and_true, AV.bool.injEq, List.cons.injEq]
        try simp_all [inr]
        try (rw [Bool.eq_iff_iff]; simp only [Bool.and_eq_true, Bool.or_eq_true, decide_eq_true_eq, beq_iff_eq])
        try omega
    · simp at h'

set_option maxHeartbeats 4000000 in
theorem does28 (as : List AV) : Does tab0 af28 conIn as := by
  cases h : (conIn).run as with
  | none => exact does_none h
  | some out =>
    have h' := h
    simp only [conIn] at h'
    split at h'
    · rename_i a b c
      simp only [Option.some.injEq] at h'
      subst h'
      with_reducible refine does_by h fun Q hQ => ?_
      clear h
      dsimp only [go_sem, af28, conIn, Nat.reduceAdd, Nat.reduceMul, Nat.reduceSub, Nat.reduceBEq, Nat.reduceLeDiff, Nat.reduceEqDiff, ↓dreduceIte]
      repeat' first
        | with_reducible refine kon_seq ?_
        | with_reducible refine kon_nil ?_
        | with_reducible refine kon_skip ?_
        | with_reducible refine kon_block ?_
        | with_reducible refine kon_ret ?_
        | with_reducible refine kon_exit ?_
        | with_reducible refine kon_past_ret ?_
        | with_reducible refine kon_past_exit ?_
        | with_reducible refine kon_blk_ret ?_
        | with_reducible refine kon_blk_end ?_
        | with_reducible refine kon_blk_exit ?_
        | (with_reducible refine kon_ins fun R hR => ?_
           dsimp only [go_sem, Nat.reduceAdd, Nat.reduceMul, Nat.reduceSub, Nat.reduceBEq, Nat.reduceLeDiff, Nat.reduceEqDiff, ↓dreduceIte]
           with_reducible refine hR _ ?_
           clear hR R)
        | (with_reducible refine kon_g fun R hR => ?_
           dsimp only [go_sem, Nat.reduceAdd, Nat.reduceMul, Nat.reduceSub, Nat.reduceBEq, Nat.reduceLeDiff, Nat.reduceEqDiff, ↓dreduceIte]
           with_reducible refine hR _ ?_
           clear hR R)
        | (with_reducible refine kon_g fun R hR => ?_
           dsimp only [go_sem, Nat.reduceAdd, Nat.reduceMul, Nat.reduceSub, Nat.reduceBEq, Nat.reduceLeDiff, Nat.reduceEqDiff, ↓dreduceIte]
           split <;> (rename_i hb; with_reducible refine hR _ ?_; clear hR R; simp only [hb]))
        | (with_reducible refine kon_cond fun R1 R2 h1 h2 => ?_
           dsimp only [go_sem]
           first
             | (with_reducible refine h1 ?_; clear h1 h2 R1 R2)
             | (with_reducible refine h2 ?_; clear h1 h2 R1 R2)
             | (split <;> rename_i hb <;> first
                 | (with_reducible refine h1 ?_; clear h1 h2 R1 R2; try simp only [hb])
                 | (with_reducible refine h2 ?_; clear h1 h2 R1 R2; try simp only [hb])))
      all_goals
        dsimp only [kon]
        with_reducible refine hQ _ _ _ ?_
        dsimp only [go_sem, kon, endQ, af28, conIn, Nat.reduceAdd, Nat.reduceMul, Nat.reduceSub, Nat.reduceBEq, Nat.reduceLeDiff, Nat.reduceEqDiff, ↓dreduceIte]
        try simp only [Option.some.injEq, Prod.mk.injEq, and_true, AV.bool.injEq, List.cons.injEq]
        try simp_all [inr]
        try (rw [Bool.eq_iff_iff]; simp only [Bool.and_eq_true, Bool.or_eq_true, decide_eq_true_eq, beq_iff_eq])
        try omega
    · simp at h'

set_option maxHeartbeats 4000000 in
theorem does12 (as : List AV) : Does tab0 af12 conRec as := by
  cases h : (conRec).run as with
  | none => exact does_none h
  | some out =>
    have h' := h
    simp only [conRec] at h'
    split at h'
    · rename_i a b c d e f
      simp only [Option.some.injEq] at h'
      subst h'
      with_reducible refine does_by h fun Q hQ => ?_
      clear h
      dsimp only [go_sem, af12, conRec, Nat.reduceAdd, Nat.reduceMul, Nat.reduceSub, Nat.reduceBEq, Nat.reduceLeDiff, Nat.reduceEqDiff, ↓dreduceIte]
      repeat' first
        | with_reducible refine kon_seq ?_
        | with_reducible refine kon_nil ?_
        | with_reducible refine kon_skip ?_
        | with_reducible refine kon_block ?_
        | with_reducible refine kon_ret ?_
        | with_reducible refine kon_exit ?_
        | with_reducible refine kon_past_ret ?_
        | with_reducible refine kon_past_exit ?_
        | with_reducible refine kon_blk_ret ?_
        | with_reducible refine kon_blk_end ?_
        | with_reducible refine kon_blk_exit ?_
        | (with_reducible refine kon_ins fun R hR => ?_
           dsimp only [go_sem, Nat.reduceAdd, Nat.reduceMul, Nat.reduceSub, Nat.reduceBEq, Nat.reduceLeDiff, Nat.reduceEqDiff, ↓dreduceIte]
           with_reducible refine hR _ ?_
           clear hR R)
        | (with_reducible refine kon_g fun R hR => ?_
           dsimp only [go_sem, Nat.reduceAdd, Nat.reduceMul, Nat.reduceSub, Nat.reduceBEq, Nat.reduceLeDiff, Nat.reduceEqDiff, ↓dreduceIte]
           with_reducible refine hR _ ?_
           clear hR R)
        | (with_reducible refine kon_g fun R hR => ?_
           dsimp only [go_sem, Nat.reduceAdd, Nat.reduceMul, Nat.reduceSub, Nat.reduceBEq, Nat.reduceLeDiff, Nat.reduceEqDiff, ↓dreduceIte]
           split <;> (rename_i hb; with_reducible refine hR _ ?_; clear hR R; simp only [hb]))
        | (with_reducible refine kon_cond fun R1 R2 h1 h2 => ?_
           dsimp only [go_sem]
           first
             | (with_reducible refine h1 ?_; clear h1 h2 R1 R2)
             | (with_reducible refine h2 ?_; clear h1 h2 R1 R2)
             | (split <;> rename_i hb <;> first
                 | (with_reducible refine h1 ?_; clear h1 h2 R1 R2; try simp only [hb])
                 | (with_reducible refine h2 ?_; clear h1 h2 R1 R2; try simp only [hb])))
      all_goals
        dsimp only [kon]
        with_reducible refine hQ _ _ _ ?_
        dsimp only [go_sem, kon, endQ, af12, conRec, Nat.reduceAdd, Nat.reduceMul, Nat.reduceSub, Nat.reduceBEq, Nat.reduceLeDiff, Nat.reduceEqDiff, ↓dreduceIte]
        try simp
    · simp at h'

set_option maxHeartbeats 4000000 in
theorem does29 (as : List AV) : Does tabS af29 conTime as := by
  cases h : (conTime).run as with
  | none => exact does_none h
  | some out =>
    have h' := h
    simp only [conTime] at h'
    split at h'
    · rename_i a
      simp only [Option.some.injEq] at h'
      subst h'
      with_reducible refine does_by h fun Q hQ => ?_
      clear h
      dsimp only [go_sem, af29, conTime, Nat.reduceAdd, Nat.reduceMul, Nat.reduceSub, Nat.reduceBEq, Nat.reduceLeDiff, Nat.reduceEqDiff, ↓dreduceIte]
      repeat' first
        | with_reducible refine kon_seq ?_
        | with_reducible refine kon_nil ?_
        | with_reducible refine kon_skip ?_
        | with_reducible refine kon_block ?_
        | with_reducible refine kon_ret ?_
        | with_reducible refine kon_exit ?_
        | with_reducible refine kon_past_ret ?_
        | with_reducible refine kon_past_exit ?_
        | with_reducible refine kon_blk_ret ?_
        | with_reducible refine kon_blk_end ?_
        | with_reducible refine kon_blk_exit ?_
        | (with_reducible refine kon_ins fun R hR => ?_
           dsimp only [go_sem, tabS_27, conIn, Nat.reduceAdd, Nat.reduceMul, Nat.reduceSub, Nat.reduceBEq, Nat.reduceLeDiff, Nat.reduceEqDiff, ↓dreduceIte]
           with_reducible refine hR _ ?_
           clear hR R)
        | (with_reducible refine kon_g fun R hR => ?_
           dsimp only [go_sem, tabS_27, conIn, Nat.reduceAdd, Nat.reduceMul, Nat.reduceSub, Nat.reduceBEq, Nat.reduceLeDiff, Nat.reduceEqDiff, ↓dreduceIte]
           with_reducible refine hR _ ?_
           clear hR R)
        | (with_reducible refine kon_g fun R hR => ?_
           dsimp only [go_sem, tabS_27, conIn, Nat.reduceAdd, Nat.reduceMul, Nat.reduceSub, Nat.reduceBEq, Nat.reduceLeDiff, Nat.reduceEqDiff, ↓dreduceIte]
           split <;> (rename_i hb; with_reducible refine hR _ ?_; clear hR R; simp only [hb]))
        | (with_reducible refine kon_cond fun R1 R2 h1 h2 => ?_
           dsimp only [go_sem]
           first
             | (with_reducible refine h1 ?_; clear h1 h2 R1 R2)
             | (with_reducible refine h2 ?_; clear h1 h2 R1 R2)
             | (split <;> rename_i hb <;> first
                 | (with_reducible refine h1 ?_; clear h1 h2 R1 R2; try simp only [hb])
                 | (with_reducible refine h2 ?_; clear h1 h2 R1 R2; try simp only [hb])))
      all_goals
        dsimp only [kon]
        with_reducible refine hQ _ _ _ ?_
        dsimp only [go_sem, kon, endQ, af29, conTime, tabS_27, conIn, Nat.reduceAdd, Nat.reduceMul, Nat.reduceSub, Nat.reduceBEq, Nat.reduceLeDiff, Nat.reduceEqDiff, ↓dreduceIte]
        try simp_all
    · simp at h'

set_option maxHeartbeats 4000000 in
theorem does30 (as : List AV) : Does tabS af30 conNode as := by
  cases h : (conNode).run as with
  | none => exact does_none h
  | some out =>
    have h' := h
    simp only [conNode] at h'
    split at h'
    · rename_i a
      simp only [Option.some.injEq] at h'
      subst h'
      with_reducible refine does_by h fun Q hQ => ?_
      clear h
      dsimp only [go_sem, af30, conNode, Nat.reduceAdd, Nat.reduceMul, Nat.reduceSub, Nat.reduceBEq, Nat.reduceLeDiff, Nat.reduceEqDiff, ↓dreduceIte]
      repeat' first
        | with_reducible refine kon_seq ?_
        | with_reducible refine kon_nil ?_
        | with_reducible refine kon_skip ?_
        | with_reducible refine kon_block ?_
        | with_reducible refine kon_ret ?_
        | with_reducible refine kon_exit ?_
        | with_reducible refine kon_past_ret ?_
        | with_reducible refine kon_past_exit ?_
        | with_reducible refine kon_blk_ret ?_
        | with_reducible refine kon_blk_end ?_
        | with_reducible refine kon_blk_exit ?_
        | (with_reducible refine kon_ins fun R hR => ?_
           dsimp only [go_sem, tabS_27, conIn, Nat.reduceAdd, Nat.reduceMul, Nat.reduceSub, Nat.reduceBEq, Nat.reduceLeDiff, Nat.reduceEqDiff, ↓dreduceIte]
           with_reducible refine hR _ ?_
           clear hR R)
        | (with_reducible refine kon_g fun R hR => ?_
           dsimp only [go_sem, tabS_27, conIn, Nat.reduceAdd, Nat.reduceMul, Nat.reduceSub, Nat.reduceBEq, Nat.reduceLeDiff, Nat.reduceEqDiff, ↓dreduceIte]
           with_reducible refine hR _ ?_
           clear hR R)
        | (with_reducible refine kon_g fun R hR => ?_
           dsimp only [go_sem, tabS_27, conIn, Nat.reduceAdd, Nat.reduceMul, Nat.reduceSub, Nat.reduceBEq, Nat.reduceLeDiff, Nat.reduceEqDiff, ↓dreduceIte]
           split <;> (rename_i hb; with_reducible refine hR _ ?_; clear hR R; simp only [hb]))
        | (with_reducible refine kon_cond fun R1 R2 h1 h2 => ?_
           dsimp only [go_sem]
           first
             | (with_reducible refine h1 ?_; clear h1 h2 R1 R2)
             | (with_reducible refine h2 ?_; clear h1 h2 R1 R2)
             | (split <;> rename_i hb <;> first
                 | (with_reducible refine h1 ?_; clear h1 h2 R1 R2; try simp only [hb])
                 | (with_reducible refine h2 ?_; clear h1 h2 R1 R2; try simp only [hb])))
      all_goals
        dsimp only [kon]
        with_reducible refine hQ _ _ _ ?_
        dsimp only [go_sem, kon, endQ, af30, conNode, tabS_27, conIn, Nat.reduceAdd, Nat.reduceMul, Nat.reduceSub, Nat.reduceBEq, Nat.reduceLeDiff, Nat.reduceEqDiff, ↓dreduceIte]
        try simp_all
    · simp at h'

set_option maxHeartbeats 4000000 in
theorem does31 (as : List AV) : Does tabS af31 conTime as := by
  cases h : (conTime).run as with
  | none => exact does_none h
  | some out =>
    have h' := h
    simp only [conTime] at h'
    split at h'
    · rename_i a
      simp only [Option.some.injEq] at h'
      subst h'
      with_reducible refine does_by h fun Q hQ => ?_
      clear h
      dsimp only [go_sem, af31, conTime, Nat.reduceAdd, Nat.reduceMul, Nat.reduceSub, Nat.reduceBEq, Nat.reduceLeDiff, Nat.reduceEqDiff, ↓dreduceIte]
      repeat' first
        | with_reducible refine kon_seq ?_
        | with_reducible refine kon_nil ?_
        | with_reducible refine kon_skip ?_
        | with_reducible refine kon_block ?_
        | with_reducible refine kon_ret ?_
        | with_reducible refine kon_exit ?_
        | with_reducible refine kon_past_ret ?_
        | with_reducible refine kon_past_exit ?_
        | with_reducible refine kon_blk_ret ?_
        | with_reducible refine kon_blk_end ?_
        | with_reducible refine kon_blk_exit ?_
        | (with_reducible refine kon_ins fun R hR => ?_
           dsimp only [go_sem, tabS_28, conIn, Nat.reduceAdd, Nat.reduceMul, Nat.reduceSub, Nat.reduceBEq, Nat.reduceLeDiff, Nat.reduceEqDiff, ↓dreduceIte]
           with_reducible refine hR _ ?_
           clear hR R)
        | (with_reducible refine kon_g fun R hR => ?_
           dsimp only [go_sem, tabS_28, conIn, Nat.reduceAdd, Nat.reduceMul, Nat.reduceSub, Nat.reduceBEq, Nat.reduceLeDiff, Nat.reduceEqDiff, ↓dreduceIte]
           with_reducible refine hR _ ?_
           clear hR R)
        | (with_reducible refine kon_g fun R hR => ?_
           dsimp only [go_sem, tabS_28, conIn, Nat.reduceAdd, Nat.reduceMul, Nat.reduceSub, Nat.reduceBEq, Nat.reduceLeDiff, Nat.reduceEqDiff, ↓dreduceIte]
           split <;> (rename_i hb; with_reducible refine hR _ ?_; clear hR R; simp only [hb]))
        | (with_reducible refine kon_cond fun R1 R2 h1 h2 => ?_
           dsimp only [go_sem]
           first
             | (with_reducible refine h1 ?_; clear h1 h2 R1 R2)
             | (with_reducible refine h2 ?_; clear h1 h2 R1 R2)
             | (split <;> rename_i hb <;> first
                 | (with_reducible refine h1 ?_; clear h1 h2 R1 R2; try simp only [hb])
                 | (with_reducible refine h2 ?_; clear h1 h2 R1 R2; try simp only [hb])))
      all_goals
        dsimp only [kon]
        with_reducible refine hQ _ _ _ ?_
        dsimp only [go_sem, kon, endQ, af31, conTime, tabS_28, conIn, Nat.reduceAdd, Nat.reduceMul, Nat.reduceSub, Nat.reduceBEq, Nat.reduceLeDiff, Nat.reduceEqDiff, ↓dreduceIte]
        try simp_all
    · simp at h'

set_option maxHeartbeats 4000000 in
theorem does32 (as : List AV) : Does tabS af32 conNode as := by
  cases h : (conNode).run as with
  | none => exact does_none h
  | some out =>
    have h' := h
    simp only [conNode] at h'
    split at h'
    · rename_i a
      simp only [Option.some.injEq] at h'
      subst h'
      with_reducible refine does_by h fun Q hQ => ?_
      clear h
      dsimp only [go_sem, af32, conNode, Nat.reduceAdd, Nat.reduceMul, Nat.reduceSub, Nat.reduceBEq, Nat.reduceLeDiff, Nat.reduceEqDiff, ↓dreduceIte]
      repeat' first
        | with_reducible refine kon_seq ?_
        | with_reducible refine kon_nil ?_
        | with_reducible refine kon_skip ?_
        | with_reducible refine kon_block ?_
        | with_reducible refine kon_ret ?_
        | with_reducible refine kon_exit ?_
        | with_reducible refine kon_past_ret ?_
        | with_reducible refine kon_past_exit ?_
        | with_reducible refine kon_blk_ret ?_
        | with_reducible refine kon_blk_end ?_
        | with_reducible refine kon_blk_exit ?_
        | (with_reducible refine kon_ins fun R hR => ?_
           dsimp only [go_sem, tabS_28, conIn, Nat.reduceAdd, Nat.reduceMul, Nat.reduceSub, Nat.reduceBEq, Nat.reduceLeDiff, Nat.reduceEqDiff, ↓dreduceIte]
           with_reducible refine hR _ ?_
           clear hR R)
        | (with_reducible refine kon_g fun R hR => ?_
           dsimp only [go_sem, tabS_28, conIn, Nat.reduceAdd, Nat.reduceMul, Nat.reduceSub, Nat.reduceBEq, Nat.reduceLeDiff, Nat.reduceEqDiff, ↓dreduceIte]
           with_reducible refine hR _ ?_
           clear hR R)
        | (with_reducible refine kon_g fun R hR => ?_
           dsimp only [go_sem, tabS_28, conIn, Nat.reduceAdd, Nat.reduceMul, Nat.reduceSub, Nat.reduceBEq, Nat.reduceLeDiff, Nat.reduceEqDiff, ↓dreduceIte]
           split <;> (rename_i hb; with_reducible refine hR _ ?_; clear hR R; simp only [hb]))
        | (with_reducible refine kon_cond fun R1 R2 h1 h2 => ?_
           dsimp only [go_sem]
           first
             | (with_reducible refine h1 ?_; clear h1 h2 R1 R2)
             | (with_reducible refine h2 ?_; clear h1 h2 R1 R2)
             | (split <;> rename_i hb <;> first
                 | (with_reducible refine h1 ?_; clear h1 h2 R1 R2; try simp only [hb])
                 | (with_reducible refine h2 ?_; clear h1 h2 R1 R2; try simp only [hb])))
      all_goals
        dsimp only [kon]
        with_reducible refine hQ _ _ _ ?_
        dsimp only [go_sem, kon, endQ, af32, conNode, tabS_28, conIn, Nat.reduceAdd, Nat.reduceMul, Nat.reduceSub, Nat.reduceBEq, Nat.reduceLeDiff, Nat.reduceEqDiff, ↓dreduceIte]
        try simp_all
    · simp at h'

set_option maxHeartbeats 4000000 in
theorem does33 (as : List AV) : Does tabT af33 conFact as := by
  cases h : (conFact).run as with
  | none => exact does_none h
  | some out =>
    have h' := h
    simp only [conFact] at h'
    split at h'
    · rename_i a b c
      simp only [Option.some.injEq] at h'
      subst h'
      with_reducible refine does_by h fun Q hQ => ?_
      clear h
      dsimp only [go_sem, af33, conFact, Nat.reduceAdd, Nat.reduceMul, Nat.reduceSub, Nat.reduceBEq, Nat.reduceLeDiff, Nat.reduceEqDiff, ↓dreduceIte]
      repeat' first
        | with_reducible refine kon_seq ?_
        | with_reducible refine kon_nil ?_
        | with_reducible refine kon_skip ?_
        | with_reducible refine kon_block ?_
        | with_reducible refine kon_ret ?_
        | with_reducible refine kon_exit ?_
        | with_reducible refine kon_past_ret ?_
        | with_reducible refine kon_past_exit ?_
        | with_reducible refine kon_blk_ret ?_
        | with_reducible refine kon_blk_end ?_
        | with_reducible refine kon_blk_exit ?_
        | (with_reducible refine kon_ins fun R hR => ?_
           dsimp only [go_sem, tabT_28, tabT_31, tabT_32, conIn, conTime, conNode, Nat.reduceAdd, Nat.reduceMul, Nat.reduceSub, Nat.reduceBEq, Nat.reduceLeDiff, Nat.reduceEqDiff, ↓dreduceIte]
           with_reducible refine hR _ ?_
           clear hR R)
        | (with_reducible refine kon_g fun R hR => ?_
           dsimp only [go_sem, tabT_28, tabT_31, tabT_32, conIn, conTime, conNode, Nat.reduceAdd, Nat.reduceMul, Nat.reduceSub, Nat.reduceBEq, Nat.reduceLeDiff, Nat.reduceEqDiff, ↓dreduceIte]
           with_reducible refine hR _ ?_
           clear hR R)
        | (with_reducible refine kon_g fun R hR => ?_
           dsimp only [go_sem, tabT_28, tabT_31, tabT_32, conIn, conTime, conNode, Nat.reduceAdd, Nat.reduceMul, Nat.reduceSub, Nat.reduceBEq, Nat.reduceLeDiff, Nat.reduceEqDiff, ↓dreduceIte]
           split <;> (rename_i hb; with_reducible refine hR _ ?_; clear hR R; simp only [hb]))
        | (with_reducible refine kon_cond fun R1 R2 h1 h2 => ?_
           dsimp only [go_sem]
           first
             | (with_reducible refine h1 ?_; clear h1 h2 R1 R2)
             | (with_reducible refine h2 ?_; clear h1 h2 R1 R2)
             | (split <;> rename_i hb <;> first
                 | (with_reducible refine h1 ?_; clear h1 h2 R1 R2; try simp only [hb])
                 | (with_reducible refine h2 ?_; clear h1 h2 R1 R2; try simp only [hb])))
      all_goals
        dsimp only [kon]
        with_reducible refine hQ _ _ _ ?_
        dsimp only [go_sem, kon, endQ, af33, conFact, tabT_28, tabT_31, tabT_32, conIn, conTime, conNode, Nat.reduceAdd, Nat.reduceMul, Nat.reduceSub, Nat.reduceBEq, Nat.reduceLeDiff, Nat.reduceEqDiff, ↓dreduceIte]
        try simp only [Option.some.injEq, Prod.mk.injEq, and_true, AV.bool.injEq, List.cons.injEq]
        try simp_all [factOk]
        try (rw [Bool.eq_iff_iff]; simp only [Bool.and_eq_true, Bool.or_eq_true, decide_eq_true_eq, beq_iff_eq])
        try omega
    · simp at h'

end Go.Proofs.Ytbiefokigponpaa
