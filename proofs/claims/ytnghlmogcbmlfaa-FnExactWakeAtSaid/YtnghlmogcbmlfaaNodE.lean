/- Nodes: right ones, by the program. -/
import Derived.Test.YtnghlmogcbmlfaaNodD
namespace Go.Proofs.Ytnghlmogcbmlfaa
set_option linter.unusedVariables false
set_option linter.unusedSimpArgs false
set_option linter.unnecessarySimpa false

def tb35 : Tab := fun f => match f with
  | 77 => some conNode
  | 97 => some conTime
  | 98 => some conSeed
  | 99 => some conView
  | 100 => some conRum
  | 101 => some conTurn
  | 102 => some conAtF
  | 103 => some conOther
  | _ => none

theorem tb35_77 : tb35 77 = some conNode := rfl
theorem tb35_97 : tb35 97 = some conTime := rfl
theorem tb35_98 : tb35 98 = some conSeed := rfl
theorem tb35_99 : tb35 99 = some conView := rfl
theorem tb35_100 : tb35 100 = some conRum := rfl
theorem tb35_101 : tb35 101 = some conTurn := rfl
theorem tb35_102 : tb35 102 = some conAtF := rfl
theorem tb35_103 : tb35 103 = some conOther := rfl

-- loop.example/g00678/impl.NodeRight hows [(3, [.any, .boxed, .any, .boxed, .pure, .any, .boxed, .any, .any, .any, .any], [([0, 1, 2, 3, 4, 5, 6, 7, 8, 9, 10], [(6, 9), (7, 8)]), ([0, 1, 2, 3, 4, 5, 6, 8, 7, 9, 10], [(6, 9), (8, 7)]), ([0, 1, 2, 3, 4, 5, 7, 8, 9, 6, 10], [(7, 8), (7, 6), (8, 6), (9, 6)]), ([0, 1, 2, 3, 4, 5, 8, 7, 9, 6, 10], [(8, 7), (8, 6), (7, 6), (9, 6)])]), (11, [.any, .boxed, .any, .any, .any, .any, .boxed, .pure, .any, .any, .any, .any, .boxed, .pure, .any, .any, .any, .any, .any, .any, .any, .boxed, .any, .boxed, .any, .any, .any, .any, .any, .any, .any, .any], [([0, 1, 2, 3, 4, 5, 6, 7, 8, 9, 10, 11, 12, 13, 14, 15, 16, 17, 18, 19, 20, 21, 22, 23, 24, 25, 26, 27, 28, 29, 30, 31], [])])]
def an35_0 : AC := .any [[⟨some 53, .fa 5 (.t 1), none⟩,
      ⟨some 54, .ldb false 1 (.t 53), none⟩,
      ⟨some 55, .fa 0 (.t 1), none⟩,
      ⟨some 56, .ldb false 1 (.t 55), none⟩,
      ⟨some 57, .callp 102 [(.t 54), (.t 56)], none⟩,
      ⟨some 58, .fa 9 (.t 1), none⟩,
      ⟨some 59, .ldb true 4 (.t 58), none⟩,
      ⟨some 3, .box (.c (.agg [.int .i64 0, .int .i64 0, .int .i64 0])), none⟩,
      ⟨some 4, .box (.c (.agg [.int .i64 0, .int .i64 0, .int .i64 0, .bool false])), none⟩,
      ⟨none, .st 3 (.t 3) (.t 57), none⟩,
      ⟨none, .st 4 (.t 4) (.t 59), none⟩],
    [⟨some 53, .fa 5 (.t 1), none⟩,
      ⟨some 54, .ldb false 1 (.t 53), none⟩,
      ⟨some 55, .fa 0 (.t 1), none⟩,
      ⟨some 56, .ldb false 1 (.t 55), none⟩,
      ⟨some 57, .callp 102 [(.t 54), (.t 56)], none⟩,
      ⟨some 58, .fa 9 (.t 1), none⟩,
      ⟨some 59, .ldb true 4 (.t 58), none⟩,
      ⟨some 4, .box (.c (.agg [.int .i64 0, .int .i64 0, .int .i64 0, .bool false])), none⟩,
      ⟨some 3, .box (.c (.agg [.int .i64 0, .int .i64 0, .int .i64 0])), none⟩,
      ⟨none, .st 3 (.t 3) (.t 57), none⟩,
      ⟨none, .st 4 (.t 4) (.t 59), none⟩],
    [⟨some 53, .fa 5 (.t 1), none⟩,
      ⟨some 54, .ldb false 1 (.t 53), none⟩,
      ⟨some 55, .fa 0 (.t 1), none⟩,
      ⟨some 56, .ldb false 1 (.t 55), none⟩,
      ⟨some 57, .callp 102 [(.t 54), (.t 56)], none⟩,
      ⟨some 58, .fa 9 (.t 1), none⟩,
      ⟨some 3, .box (.c (.agg [.int .i64 0, .int .i64 0, .int .i64 0])), none⟩,
      ⟨some 4, .box (.c (.agg [.int .i64 0, .int .i64 0, .int .i64 0, .bool false])), none⟩,
      ⟨none, .st 3 (.t 3) (.t 57), none⟩,
      ⟨some 59, .ldb true 4 (.t 58), none⟩,
      ⟨none, .st 4 (.t 4) (.t 59), none⟩],
    [⟨some 53, .fa 5 (.t 1), none⟩,
      ⟨some 54, .ldb false 1 (.t 53), none⟩,
      ⟨some 55, .fa 0 (.t 1), none⟩,
      ⟨some 56, .ldb false 1 (.t 55), none⟩,
      ⟨some 57, .callp 102 [(.t 54), (.t 56)], none⟩,
      ⟨some 58, .fa 9 (.t 1), none⟩,
      ⟨some 4, .box (.c (.agg [.int .i64 0, .int .i64 0, .int .i64 0, .bool false])), none⟩,
      ⟨some 3, .box (.c (.agg [.int .i64 0, .int .i64 0, .int .i64 0])), none⟩,
      ⟨none, .st 3 (.t 3) (.t 57), none⟩,
      ⟨some 59, .ldb true 4 (.t 58), none⟩,
      ⟨none, .st 4 (.t 4) (.t 59), none⟩]]
def lp35_0 : AC := .seq (.reg [⟨some 100, .bin .lss (.t 99) (.t 98), none⟩])
      (.seq (.cond (.t 100)
        (.skip)
        (.exit 0))
      (.seq (.block 1 (.seq (.reg [⟨some 101, .mv (.t 99), none⟩,
          ⟨some 102, .ia .doubt (.t 97) (.t 99), none⟩,
          ⟨some 103, .ld true 3 (.t 102), none⟩,
          ⟨some 6, .box (.c (.agg [.int .i64 0, .int .i64 0, .int .i64 0])), none⟩,
          ⟨some 5, .mv (.t 101), none⟩,
          ⟨none, .st 3 (.t 6) (.t 103), none⟩])
        (.seq (.any [[⟨some 104, .fa 0 (.t 6), none⟩,
            ⟨some 105, .ldb false 1 (.t 104), none⟩,
            ⟨some 106, .call 103 [(.t 1), (.t 105)], none⟩,
            ⟨some 107, .un .not (.t 106), none⟩,
            ⟨some 108, .mv (.t 107), none⟩,
            ⟨some 109, .fa 1 (.t 6), some (108, false)⟩,
            ⟨some 110, .ldb false 1 (.t 109), some (108, false)⟩,
            ⟨some 111, .callp 97 [(.t 110)], some (108, false)⟩,
            ⟨some 112, .un .not (.t 111), some (108, false)⟩,
            ⟨some 113, .pick (.t 108) (.b true) (.t 112), none⟩,
            ⟨some 114, .mv (.t 113), none⟩,
            ⟨some 115, .fa 2 (.t 6), some (114, false)⟩,
            ⟨some 116, .ldb false 1 (.t 115), some (114, false)⟩,
            ⟨some 117, .callp 97 [(.t 116)], some (114, false)⟩,
            ⟨some 118, .un .not (.t 117), some (114, false)⟩,
            ⟨some 119, .pick (.t 114) (.b true) (.t 118), none⟩,
            ⟨some 120, .mv (.t 119), none⟩,
            ⟨some 121, .mv (.t 5), some (120, false)⟩,
            ⟨some 122, .bin .gtr (.t 121) (.i 0), some (120, false)⟩,
            ⟨some 123, .mv (.t 122), some (120, false)⟩,
            ⟨some 124, .fa 0 (.t 6), some (123, true)⟩,
            ⟨some 125, .ldb false 1 (.t 124), some (123, true)⟩,
            ⟨some 126, .fa 13 (.t 1), some (123, true)⟩,
            ⟨some 127, .ldb false 1 (.t 126), some (123, true)⟩,
            ⟨some 128, .mv (.t 5), some (123, true)⟩,
            ⟨some 129, .bin .sub (.t 128) (.i 1), some (123, true)⟩,
            ⟨some 130, .ia .doubt (.t 127) (.t 129), some (123, true)⟩,
            ⟨some 131, .fa 0 (.t 130), some (123, true)⟩,
            ⟨some 132, .ld false 1 (.t 131), some (123, true)⟩,
            ⟨some 133, .bin .leq (.t 125) (.t 132), some (123, true)⟩,
            ⟨some 134, .pick (.t 123) (.t 133) (.b false), some (120, false)⟩,
            ⟨some 135, .pick (.t 120) (.b true) (.t 134), none⟩]])
        (.cond (.t 135)
          (.seq (.reg [⟨some 2, .mv (.b false), none⟩])
          (.ret))
          (.skip)))))
      (.reg [⟨some 136, .bin .add (.t 99) (.i 1), none⟩,
        ⟨some 99, .mv (.t 136), none⟩])))
def af35 : AF := ⟨141, [.t 2],
  .seq (.reg [⟨some 1, .box (.t 0), none⟩,
    ⟨some 2, .mv (.b false), none⟩])
  (.seq (.seq (.reg [⟨some 7, .fa 0 (.t 1), none⟩,
    ⟨some 8, .ld false 1 (.t 7), none⟩,
    ⟨some 9, .call 77 [(.t 8)], none⟩,
    ⟨some 10, .un .not (.t 9), none⟩,
    ⟨some 11, .mv (.t 10), none⟩,
    ⟨some 12, .fa 1 (.t 1), some (11, false)⟩,
    ⟨some 13, .ld false 1 (.t 12), some (11, false)⟩,
    ⟨some 14, .call 97 [(.t 13)], some (11, false)⟩,
    ⟨some 15, .un .not (.t 14), some (11, false)⟩,
    ⟨some 16, .pick (.t 11) (.b true) (.t 15), none⟩,
    ⟨some 17, .mv (.t 16), none⟩,
    ⟨some 18, .fa 2 (.t 1), some (17, false)⟩,
    ⟨some 19, .ld false 1 (.t 18), some (17, false)⟩,
    ⟨some 20, .call 97 [(.t 19)], some (17, false)⟩,
    ⟨some 21, .un .not (.t 20), some (17, false)⟩,
    ⟨some 22, .pick (.t 17) (.b true) (.t 21), none⟩,
    ⟨some 23, .mv (.t 22), none⟩,
    ⟨some 24, .fa 4 (.t 1), some (23, false)⟩,
    ⟨some 25, .ld false 1 (.t 24), some (23, false)⟩,
    ⟨some 26, .call 97 [(.t 25)], some (23, false)⟩,
    ⟨some 27, .un .not (.t 26), some (23, false)⟩,
    ⟨some 28, .pick (.t 23) (.b true) (.t 27), none⟩,
    ⟨some 29, .mv (.t 28), none⟩,
    ⟨some 30, .fa 3 (.t 1), some (29, false)⟩,
    ⟨some 31, .ld false 1 (.t 30), some (29, false)⟩,
    ⟨some 32, .call 98 [(.t 31)], some (29, false)⟩,
    ⟨some 33, .un .not (.t 32), some (29, false)⟩,
    ⟨some 34, .pick (.t 29) (.b true) (.t 33), none⟩,
    ⟨some 35, .mv (.t 34), none⟩,
    ⟨some 36, .fa 5 (.t 1), some (35, false)⟩,
    ⟨some 37, .ld false 1 (.t 36), some (35, false)⟩,
    ⟨some 38, .call 99 [(.t 37)], some (35, false)⟩,
    ⟨some 39, .un .not (.t 38), some (35, false)⟩,
    ⟨some 40, .pick (.t 35) (.b true) (.t 39), none⟩,
    ⟨some 41, .mv (.t 40), none⟩,
    ⟨some 42, .fa 6 (.t 1), some (41, false)⟩,
    ⟨some 43, .ld false 1 (.t 42), some (41, false)⟩,
    ⟨some 44, .call 100 [(.t 43)], some (41, false)⟩,
    ⟨some 45, .un .not (.t 44), some (41, false)⟩,
    ⟨some 46, .pick (.t 41) (.b true) (.t 45), none⟩,
    ⟨some 47, .mv (.t 46), none⟩,
    ⟨some 48, .fa 7 (.t 1), some (47, false)⟩,
    ⟨some 49, .ld true 2 (.t 48), some (47, false)⟩,
    ⟨some 50, .call 101 [(.t 49)], some (47, false)⟩,
    ⟨some 51, .un .not (.t 50), some (47, false)⟩,
    ⟨some 52, .pick (.t 47) (.b true) (.t 51), none⟩])
  (.cond (.t 52)
    (.seq (.reg [⟨some 2, .mv (.b false), none⟩])
    (.ret))
    (.skip)))
  (.seq (an35_0)
  (.seq (.seq (.reg [⟨some 60, .fa 2 (.t 3), none⟩,
    ⟨some 61, .ld false 1 (.t 60), none⟩,
    ⟨some 62, .bin .neq (.t 61) (.i 1), none⟩,
    ⟨some 63, .mv (.t 62), none⟩,
    ⟨some 64, .fa 2 (.t 3), some (63, true)⟩,
    ⟨some 65, .ld false 1 (.t 64), some (63, true)⟩,
    ⟨some 66, .bin .neq (.t 65) (.i 3), some (63, true)⟩,
    ⟨some 67, .pick (.t 63) (.t 66) (.b false), none⟩,
    ⟨some 68, .mv (.t 67), none⟩,
    ⟨some 69, .fa 1 (.t 3), some (68, false)⟩,
    ⟨some 70, .ld false 1 (.t 69), some (68, false)⟩,
    ⟨some 71, .fa 1 (.t 1), some (68, false)⟩,
    ⟨some 72, .ld false 1 (.t 71), some (68, false)⟩,
    ⟨some 73, .bin .neq (.t 70) (.t 72), some (68, false)⟩,
    ⟨some 74, .pick (.t 68) (.b true) (.t 73), none⟩])
  (.cond (.t 74)
    (.seq (.reg [⟨some 2, .mv (.b false), none⟩])
    (.ret))
    (.skip)))
  (.seq (.seq (.reg [⟨some 75, .ld true 4 (.t 4), none⟩,
    ⟨some 76, .build [.int .i64 0, .int .i64 0, .int .i64 0, .bool false] [], none⟩,
    ⟨some 77, .eqa true [.i, .i, .i, .b] (.t 75) (.t 76), none⟩,
    ⟨some 78, .mv (.t 77), none⟩,
    ⟨some 79, .fa 0 (.t 4), some (78, true)⟩,
    ⟨some 80, .ld false 1 (.t 79), some (78, true)⟩,
    ⟨some 81, .call 103 [(.t 1), (.t 80)], some (78, true)⟩,
    ⟨some 82, .un .not (.t 81), some (78, true)⟩,
    ⟨some 83, .mv (.t 82), some (78, true)⟩,
    ⟨some 84, .fa 1 (.t 4), some (83, false)⟩,
    ⟨some 85, .ld false 1 (.t 84), some (83, false)⟩,
    ⟨some 86, .call 97 [(.t 85)], some (83, false)⟩,
    ⟨some 87, .un .not (.t 86), some (83, false)⟩,
    ⟨some 88, .pick (.t 83) (.b true) (.t 87), some (78, true)⟩,
    ⟨some 89, .mv (.t 88), some (78, true)⟩,
    ⟨some 90, .fa 2 (.t 4), some (89, false)⟩,
    ⟨some 91, .ld false 1 (.t 90), some (89, false)⟩,
    ⟨some 92, .call 97 [(.t 91)], some (89, false)⟩,
    ⟨some 93, .un .not (.t 92), some (89, false)⟩,
    ⟨some 94, .pick (.t 89) (.b true) (.t 93), some (78, true)⟩,
    ⟨some 95, .pick (.t 78) (.t 94) (.b false), none⟩])
  (.cond (.t 95)
    (.seq (.reg [⟨some 2, .mv (.b false), none⟩])
    (.ret))
    (.skip)))
  (.seq (.seq (.reg [⟨some 96, .fa 13 (.t 1), none⟩,
    ⟨some 97, .ld false 1 (.t 96), none⟩,
    ⟨some 98, .len (.t 97), none⟩,
    ⟨some 99, .mv (.i 0), none⟩])
  (.block 0 (.loop lp35_0)))
  (.seq (.reg [⟨some 137, .fa 13 (.t 1), none⟩,
    ⟨some 138, .ld false 1 (.t 137), none⟩,
    ⟨some 139, .len (.t 138), none⟩,
    ⟨some 140, .bin .leq (.t 139) (.i 6), none⟩,
    ⟨some 2, .mv (.t 140), none⟩])
  (.ret)))))))⟩

set_option maxRecDepth 100000 in
set_option maxHeartbeats 4000000 in
theorem does35 (as : List AV) (hok : ok 64 as) : Does tb35 af35 conNodeB as := by
  cases h : (conNodeB).run as with
  | none => exact does_none h
  | some out =>
    have h' := h
    simp only [conNodeB] at h'
    split at h'
    · rename_i a b c d e v r t ta pn pm pd pa ds
      simp only [ok] at hok
      obtain ⟨⟨_, _, _, _, _, ⟨hlv, _⟩, ⟨hlr, _⟩, ⟨hlt, _⟩, _, _, _, _, _, ⟨hld, _⟩, _⟩, _⟩ := hok
      have hat := at_facts (l := v) a
      have hpt := bN_t pa
      have hpf := bN_f pa
      simp only [Option.some.injEq] at h'
      subst h'
      have hmo : (most : Int) = 1099511627776 := rfl
      have hml : (maxLen : Int) = 9223372036854775807 := rfl
      with_reducible refine does_by h fun Q hQ => ?_
      clear h
      dsimp only [af35, conNodeB, go_sem, Nat.reduceAdd, Nat.reduceMul, Nat.reduceSub, Nat.reduceBEq, Nat.reduceLeDiff, Nat.reduceEqDiff, ↓dreduceIte, toG, tb35_77, tb35_97, tb35_98, tb35_99, tb35_100, tb35_101, tb35_102, tb35_103, conAtF, conNode, conOther, conRum, conSeed, conTime, conTurn, conView]
      repeat' first
        | (with_reducible refine kon_mid (a := an35_0) [1, 3, 4] (fun s9 => ((True)) ∧ s9.m = [.cells [.int .i64 a, .int .i64 b, .int .i64 c, .int .i64 d, .int .i64 e, .sl .fact v, .sl .rumor r, .sl .int t, .int .i64 ta, .int .i64 pn, .int .i64 pm, .int .i64 pd, .bool pa, .sl .doubt ds], .cells [.int .i64 (atF v a).node, .int .i64 (atF v a).inc, .int .i64 (atF v a).status], .cells [.int .i64 pn, .int .i64 pm, .int .i64 pd, .bool pa]] ∧ s9.t = [nth s9.t 0, .ptr 0 0, nth s9.t 2, .ptr 1 0, .ptr 2 0, nth s9.t 5, nth s9.t 6, nth s9.t 7, nth s9.t 8, nth s9.t 9, nth s9.t 10, nth s9.t 11, nth s9.t 12, nth s9.t 13, nth s9.t 14, nth s9.t 15, nth s9.t 16, nth s9.t 17, nth s9.t 18, nth s9.t 19, nth s9.t 20, nth s9.t 21, nth s9.t 22, nth s9.t 23, nth s9.t 24, nth s9.t 25, nth s9.t 26, nth s9.t 27, nth s9.t 28, nth s9.t 29, nth s9.t 30, nth s9.t 31, nth s9.t 32, nth s9.t 33, nth s9.t 34, nth s9.t 35, nth s9.t 36, nth s9.t 37, nth s9.t 38, nth s9.t 39, nth s9.t 40, nth s9.t 41, nth s9.t 42, nth s9.t 43, nth s9.t 44, nth s9.t 45, nth s9.t 46, nth s9.t 47, nth s9.t 48, nth s9.t 49, nth s9.t 50, nth s9.t 51, nth s9.t 52, nth s9.t 53, nth s9.t 54, nth s9.t 55, nth s9.t 56, nth s9.t 57, nth s9.t 58, nth s9.t 59, nth s9.t 60, nth s9.t 61, nth s9.t 62, nth s9.t 63, nth s9.t 64, nth s9.t 65, nth s9.t 66, nth s9.t 67, nth s9.t 68, nth s9.t 69, nth s9.t 70, nth s9.t 71, nth s9.t 72, nth s9.t 73, nth s9.t 74, nth s9.t 75, nth s9.t 76, nth s9.t 77, nth s9.t 78, nth s9.t 79, nth s9.t 80, nth s9.t 81, nth s9.t 82, nth s9.t 83, nth s9.t 84, nth s9.t 85, nth s9.t 86, nth s9.t 87, nth s9.t 88, nth s9.t 89, nth s9.t 90, nth s9.t 91, nth s9.t 92, nth s9.t 93, nth s9.t 94, nth s9.t 95, nth s9.t 96, nth s9.t 97, nth s9.t 98, nth s9.t 99, nth s9.t 100, nth s9.t 101, nth s9.t 102, nth s9.t 103, nth s9.t 104, nth s9.t 105, nth s9.t 106, nth s9.t 107, nth s9.t 108, nth s9.t 109, nth s9.t 110, nth s9.t 111, nth s9.t 112, nth s9.t 113, nth s9.t 114, nth s9.t 115, nth s9.t 116, nth s9.t 117, nth s9.t 118, nth s9.t 119, nth s9.t 120, nth s9.t 121, nth s9.t 122, nth s9.t 123, nth s9.t 124, nth s9.t 125, nth s9.t 126, nth s9.t 127, nth s9.t 128, nth s9.t 129, nth s9.t 130, nth s9.t 131, nth s9.t 132, nth s9.t 133, nth s9.t 134, nth s9.t 135, nth s9.t 136, nth s9.t 137, nth s9.t 138, nth s9.t 139, nth s9.t 140]) ?_ ?_
           all_goals first
             | (rintro ⟨t9, m9⟩ ⟨hM0, hm9, ht9⟩
                dsimp only at hm9 ht9
                subst hm9
                rw [ht9]
                clear ht9)
             | dsimp only [an35_0])
        | (with_reducible refine mid_on (keep := [1, 3, 4]) ?_
           dsimp only [go_sem, Nat.reduceAdd, Nat.reduceMul, Nat.reduceSub, Nat.reduceBEq, Nat.reduceLeDiff, Nat.reduceEqDiff, ↓dreduceIte, toG, tb35_77, tb35_97, tb35_98, tb35_99, tb35_100, tb35_101, tb35_102, tb35_103, conAtF, conNode, conOther, conRum, conSeed, conTime, conTurn, conView]
           refine ⟨?_, rfl, rfl⟩)
        | with_reducible refine kon_seq ?_
        | with_reducible refine kon_nil ?_
        | with_reducible refine kon_any ?_ ?_
        | with_reducible exact kon_any_nil
        | with_reducible refine kon_skip ?_
        | with_reducible refine kon_block ?_
        | with_reducible refine kon_ret ?_
        | with_reducible refine kon_exit ?_
        | with_reducible refine kon_past_ret ?_
        | with_reducible refine kon_past_exit ?_
        | with_reducible refine kon_blk_ret ?_
        | with_reducible refine kon_blk_end ?_
        | with_reducible refine kon_blk_exit ?_
        | (with_reducible refine kon_blk_past ?_ ?_
           · decide)
        | with_reducible refine loop_exit ?_
        | with_reducible refine loop_ret ?_
        | with_reducible refine mid_exit ?_
        | with_reducible refine mid_ret ?_
        | ((first | with_reducible refine kon_bin fun R hR => ?_ | with_reducible refine kon_conv fun R hR => ?_)
           dsimp only [go_sem, Nat.reduceAdd, Nat.reduceMul, Nat.reduceSub, Nat.reduceBEq, Nat.reduceLeDiff, Nat.reduceEqDiff, ↓dreduceIte, toG, tb35_77, tb35_97, tb35_98, tb35_99, tb35_100, tb35_101, tb35_102, tb35_103, conAtF, conNode, conOther, conRum, conSeed, conTime, conTurn, conView]
           try simp (disch := first | omega | (simp only [List.length_set, List.length_append, List.length_cons, List.length_nil, List.length_replicate]; omega)) only [guardP_T, guardP_pos, iteN, rd_set, List.set_set, List.length_set, eta_fact, eta_rumor, eta_doubt, eta_item, eta_rec, eta_due, look, look0, rd_toNat, wrap64, Int.toNat_natCast, Nat.zero_add, List.take_length, List.drop_zero, and_self, setB_len, true_and, and_true, inr_iff, inr_no, viewN_iff, viewN_no, rumN_iff, rumN_no, turnN_iff, turnN_no, douN_iff, douN_no, hpt, hpf]
           with_reducible refine hR _ ?_
           clear hR R)
        | (with_reducible refine kon_ins fun R hR => ?_
           dsimp only [go_sem, Nat.reduceAdd, Nat.reduceMul, Nat.reduceSub, Nat.reduceBEq, Nat.reduceLeDiff, Nat.reduceEqDiff, ↓dreduceIte, toG, tb35_77, tb35_97, tb35_98, tb35_99, tb35_100, tb35_101, tb35_102, tb35_103, conAtF, conNode, conOther, conRum, conSeed, conTime, conTurn, conView]
           first
             | with_reducible refine hR _ ?_
             | (simp (disch := first | omega | (simp only [List.length_set, List.length_append, List.length_cons, List.length_nil, List.length_replicate]; omega)) only [guardP_T, guardP_pos, iteN, rd_set, List.set_set, List.length_set, eta_fact, eta_rumor, eta_doubt, eta_item, eta_rec, eta_due, look, look0, rd_toNat, wrap64, Int.toNat_natCast, Nat.zero_add, List.take_length, List.drop_zero, and_self, setB_len, true_and, and_true, inr_iff, inr_no, viewN_iff, viewN_no, rumN_iff, rumN_no, turnN_iff, turnN_no, douN_iff, douN_no, hpt, hpf]
                try dsimp only [go_sem, Nat.reduceAdd, Nat.reduceMul, Nat.reduceSub, Nat.reduceBEq, Nat.reduceLeDiff, Nat.reduceEqDiff, ↓dreduceIte, toG, tb35_77, tb35_97, tb35_98, tb35_99, tb35_100, tb35_101, tb35_102, tb35_103, conAtF, conNode, conOther, conRum, conSeed, conTime, conTurn, conView]
                try simp (disch := first | omega | (simp only [List.length_set, List.length_append, List.length_cons, List.length_nil, List.length_replicate]; omega)) only [guardP_T, guardP_pos, iteN, rd_set, List.set_set, List.length_set, eta_fact, eta_rumor, eta_doubt, eta_item, eta_rec, eta_due, look, look0, rd_toNat, wrap64, Int.toNat_natCast, Nat.zero_add, List.take_length, List.drop_zero, and_self, setB_len, true_and, and_true, inr_iff, inr_no, viewN_iff, viewN_no, rumN_iff, rumN_no, turnN_iff, turnN_no, douN_iff, douN_no, hpt, hpf]
                with_reducible refine hR _ ?_)
           clear hR R)
        | (with_reducible refine kon_g_run ?_ ?_
           · dsimp only [nth] <;> with_reducible rfl)
        | (with_reducible refine kon_g_skip ?_ ?_
           · dsimp only [nth, not_t', not_f'] <;> with_reducible rfl
           dsimp only [go_sem])
        | (with_reducible refine kon_g_undef ?_ ?_
           · dsimp only [nth] <;> with_reducible rfl
           dsimp only [go_sem])
        | (with_reducible refine kon_g fun R hR => ?_
           dsimp only [go_sem, Nat.reduceAdd, Nat.reduceMul, Nat.reduceSub, Nat.reduceBEq, Nat.reduceLeDiff, Nat.reduceEqDiff, ↓dreduceIte, toG, tb35_77, tb35_97, tb35_98, tb35_99, tb35_100, tb35_101, tb35_102, tb35_103, conAtF, conNode, conOther, conRum, conSeed, conTime, conTurn, conView]
           split <;> (rename_i hb; with_reducible refine hR _ ?_; clear hR R; try simp only [hb]; try simp only [decide_eq_true_eq, decide_eq_false_iff_not, beq_iff_eq, beq_eq_false_iff_ne, bne_iff_ne, bne_eq_false_iff_eq, Bool.not_eq_true, Bool.not_eq_false, Bool.not_eq_eq_eq_not, Bool.not_true, Bool.not_false, ne_eq, Int.not_lt, Int.not_le, eq_self, not_true_eq_false, not_false_eq_true, decide_true, decide_false, Bool.and_eq_true, Bool.or_eq_true, Bool.and_eq_false_iff, Bool.or_eq_false_iff, gt_iff_lt, ge_iff_le, Bool.false_eq_true, Bool.true_eq_false, reduceCtorEq, or_false, false_or, or_true, true_or, false_and, and_false, inr_iff, inr_no, viewN_iff, viewN_no, rumN_iff, rumN_no, turnN_iff, turnN_no, douN_iff, douN_no, hpt, hpf] at hb; try (exfalso; omega)))
        | (with_reducible refine kon_cond fun R1 R2 h1 h2 => ?_
           dsimp only [go_sem]
           first
             | (with_reducible refine h1 ?_; clear h1 h2 R1 R2)
             | (with_reducible refine h2 ?_; clear h1 h2 R1 R2)
             | ((split <;> rename_i hb <;> first
                 | (with_reducible refine h1 ?_; clear h1 h2 R1 R2; try simp only [hb])
                 | (with_reducible refine h2 ?_; clear h1 h2 R1 R2; try simp only [hb])) <;> (try simp only [decide_eq_true_eq, decide_eq_false_iff_not, beq_iff_eq, beq_eq_false_iff_ne, bne_iff_ne, bne_eq_false_iff_eq, Bool.not_eq_true, Bool.not_eq_false, Bool.not_eq_eq_eq_not, Bool.not_true, Bool.not_false, ne_eq, Int.not_lt, Int.not_le, eq_self, not_true_eq_false, not_false_eq_true, decide_true, decide_false, Bool.and_eq_true, Bool.or_eq_true, Bool.and_eq_false_iff, Bool.or_eq_false_iff, gt_iff_lt, ge_iff_le, Bool.false_eq_true, Bool.true_eq_false, reduceCtorEq, or_false, false_or, or_true, true_or, false_and, and_false, inr_iff, inr_no, viewN_iff, viewN_no, rumN_iff, rumN_no, turnN_iff, turnN_no, douN_iff, douN_no, hpt, hpf] at hb; try (exfalso; omega))))
        | (with_reducible refine kon_rounds (a := lp35_0) [1, 97, 98, 99] (fun n9 s9 => ∃ (i : Int), ((0 ≤ i) ∧ (i ≤ ds.length) ∧ (allTo (douP ds a) i.toNat = true)) ∧ n9 = (ds.length - i).toNat ∧ s9.m = [.cells [.int .i64 a, .int .i64 b, .int .i64 c, .int .i64 d, .int .i64 e, .sl .fact v, .sl .rumor r, .sl .int t, .int .i64 ta, .int .i64 pn, .int .i64 pm, .int .i64 pd, .bool pa, .sl .doubt ds]] ∧ s9.t = [nth s9.t 0, .ptr 0 0, nth s9.t 2, nth s9.t 3, nth s9.t 4, nth s9.t 5, nth s9.t 6, nth s9.t 7, nth s9.t 8, nth s9.t 9, nth s9.t 10, nth s9.t 11, nth s9.t 12, nth s9.t 13, nth s9.t 14, nth s9.t 15, nth s9.t 16, nth s9.t 17, nth s9.t 18, nth s9.t 19, nth s9.t 20, nth s9.t 21, nth s9.t 22, nth s9.t 23, nth s9.t 24, nth s9.t 25, nth s9.t 26, nth s9.t 27, nth s9.t 28, nth s9.t 29, nth s9.t 30, nth s9.t 31, nth s9.t 32, nth s9.t 33, nth s9.t 34, nth s9.t 35, nth s9.t 36, nth s9.t 37, nth s9.t 38, nth s9.t 39, nth s9.t 40, nth s9.t 41, nth s9.t 42, nth s9.t 43, nth s9.t 44, nth s9.t 45, nth s9.t 46, nth s9.t 47, nth s9.t 48, nth s9.t 49, nth s9.t 50, nth s9.t 51, nth s9.t 52, nth s9.t 53, nth s9.t 54, nth s9.t 55, nth s9.t 56, nth s9.t 57, nth s9.t 58, nth s9.t 59, nth s9.t 60, nth s9.t 61, nth s9.t 62, nth s9.t 63, nth s9.t 64, nth s9.t 65, nth s9.t 66, nth s9.t 67, nth s9.t 68, nth s9.t 69, nth s9.t 70, nth s9.t 71, nth s9.t 72, nth s9.t 73, nth s9.t 74, nth s9.t 75, nth s9.t 76, nth s9.t 77, nth s9.t 78, nth s9.t 79, nth s9.t 80, nth s9.t 81, nth s9.t 82, nth s9.t 83, nth s9.t 84, nth s9.t 85, nth s9.t 86, nth s9.t 87, nth s9.t 88, nth s9.t 89, nth s9.t 90, nth s9.t 91, nth s9.t 92, nth s9.t 93, nth s9.t 94, nth s9.t 95, nth s9.t 96, .sl .doubt ds, .int .i64 ds.length, .int .i64 i, nth s9.t 100, nth s9.t 101, nth s9.t 102, nth s9.t 103, nth s9.t 104, nth s9.t 105, nth s9.t 106, nth s9.t 107, nth s9.t 108, nth s9.t 109, nth s9.t 110, nth s9.t 111, nth s9.t 112, nth s9.t 113, nth s9.t 114, nth s9.t 115, nth s9.t 116, nth s9.t 117, nth s9.t 118, nth s9.t 119, nth s9.t 120, nth s9.t 121, nth s9.t 122, nth s9.t 123, nth s9.t 124, nth s9.t 125, nth s9.t 126, nth s9.t 127, nth s9.t 128, nth s9.t 129, nth s9.t 130, nth s9.t 131, nth s9.t 132, nth s9.t 133, nth s9.t 134, nth s9.t 135, nth s9.t 136, nth s9.t 137, nth s9.t 138, nth s9.t 139, nth s9.t 140]) ?_ ?_
           all_goals first
             | (rintro n9 ⟨t9, m9⟩ ⟨i, ⟨hI0, hI1, hI2⟩, rfl, hm9, ht9⟩
                dsimp only at hm9 ht9
                subst hm9
                rw [ht9]
                clear ht9
                dsimp only [lp35_0])
             | (dsimp only [go_sem, Nat.reduceAdd, Nat.reduceMul, Nat.reduceSub, Nat.reduceBEq, Nat.reduceLeDiff, Nat.reduceEqDiff, ↓dreduceIte, toG, tb35_77, tb35_97, tb35_98, tb35_99, tb35_100, tb35_101, tb35_102, tb35_103, conAtF, conNode, conOther, conRum, conSeed, conTime, conTurn, conView]
                refine ⟨_, _, ⟨?_, ?_, ?_⟩, rfl, rfl, rfl⟩))
        | (with_reducible refine loop_again (keep := [1, 97, 98, 99]) ?_
           dsimp only [go_sem, Nat.reduceAdd, Nat.reduceMul, Nat.reduceSub, Nat.reduceBEq, Nat.reduceLeDiff, Nat.reduceEqDiff, ↓dreduceIte, toG, tb35_77, tb35_97, tb35_98, tb35_99, tb35_100, tb35_101, tb35_102, tb35_103, conAtF, conNode, conOther, conRum, conSeed, conTime, conTurn, conView]
           refine ⟨_, ?_, _, ⟨?_, ?_, ?_⟩, rfl, rfl, rfl⟩)
      all_goals first
        | (dsimp only [kon]
           with_reducible refine hQ _ _ _ ?_
           dsimp only [kon, endQ, af35, conNodeB, go_sem, Nat.reduceAdd, Nat.reduceMul, Nat.reduceSub, Nat.reduceBEq, Nat.reduceLeDiff, Nat.reduceEqDiff, ↓dreduceIte, toG, tb35_77, tb35_97, tb35_98, tb35_99, tb35_100, tb35_101, tb35_102, tb35_103, conAtF, conNode, conOther, conRum, conSeed, conTime, conTurn, conView]
           try simp (disch := first | omega | (simp only [List.length_set, List.length_append, List.length_cons, List.length_nil, List.length_replicate]; omega)) only [guardP_T, guardP_pos, iteN, rd_set, List.set_set, List.length_set, eta_fact, eta_rumor, eta_doubt, eta_item, eta_rec, eta_due, look, look0, rd_toNat, wrap64, Int.toNat_natCast, Nat.zero_add, List.take_length, List.drop_zero, and_self, setB_len, true_and, and_true]
           try dsimp only [go_sem, Nat.reduceAdd, Nat.reduceMul, Nat.reduceSub, Nat.reduceBEq, Nat.reduceLeDiff, Nat.reduceEqDiff, ↓dreduceIte, toG, tb35_77, tb35_97, tb35_98, tb35_99, tb35_100, tb35_101, tb35_102, tb35_103, conAtF, conNode, conOther, conRum, conSeed, conTime, conTurn, conView])
        | skip
      all_goals try first
        | omega
        | (simp; done)
        | (simp; omega)
      all_goals first
        | (simp; done)
        | rfl
        | (rw [decide_eq_false (by unfold nodeP; omega)]; done)
        | (rw [decide_eq_true (by unfold nodeP; omega)]; done)
        | (cases hx : inr pd 0 1000000 with
           | false =>
             rw [inr_no] at hx
             rw [decide_eq_false (by unfold nodeP; omega)]
           | true =>
             rw [inr_iff] at hx
             rw [decide_eq_true (by unfold nodeP; omega)])
        | (have hd := dou_no ds a i hI0 (by omega) (by rw [douP_iff]; omega)
           rw [decide_eq_false (by unfold nodeP; omega)]
           done)
        | (have hd := dou_long ds a (by omega)
           rw [decide_eq_false (by unfold nodeP; omega)]
           done)
        | (have hd := dou_yes ds a i (by omega) (by omega) hI2 (by omega)
           rw [decide_eq_true (by unfold nodeP; omega)]
           done)
        | (rw [allTo_step hI0, hI2, Bool.true_and, douP_iff]
           omega)
        | (by_cases hl6 : ds.length ≤ 6
           · have hd := dou_yes ds a i hl6 (by omega) hI2 (by omega)
             rw [decide_eq_true (by omega), decide_eq_true (by unfold nodeP; omega)]
           · have hd := dou_long ds a (by omega)
             rw [decide_eq_false (by omega), decide_eq_false (by unfold nodeP; omega)])
    · simp at h'

end Go.Proofs.Ytnghlmogcbmlfaa
