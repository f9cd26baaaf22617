/- Contracts of functions of the seat, proved over the engine. No condition. -/
import Derived.Test.YtbnlielpckndkaaX44
import Derived.Test.YtbnlielpckndkaaChecked
set_option linter.unusedSimpArgs false
set_option linter.unusedVariables false
set_option linter.unnecessarySimpa false
namespace Go.Ax
open Go.Proofs
set_option linter.unusedSimpArgs false
theorem mixed : Try.prog.follows .mixedOrders = true := by kernel_rfl
theorem res148 : resF Try.prog 148 = some (12, cSzP, [.t 4]) := by kernel_rfl
theorem res73 : resF Try.prog 73 = some (27, cSzC 148 1 false, [.t 4]) := by kernel_rfl
theorem res74 : resF Try.prog 74 = some (27, cSzC 73 1 false, [.t 4]) := by kernel_rfl

def rc13 : RC :=
 (.seq
  (.reg false [⟨none, .box 2 5 (.t 0)⟩,
    ⟨none, .mv 4 (.c (.sc (.int .i64 0)))⟩])
  ((.seq
   (.reg false [⟨none, .fa 5 3 (.t 2)⟩,
     ⟨none, .ld 6 false 1 (.t 5)⟩,
     ⟨none, .mv 7 (.t 1)⟩,
     ⟨none, .call (some 8) 73 [(.t 6), (.t 7)]⟩,
     ⟨none, .mv 1 (.t 8)⟩])
   ((.seq
    ((.seq
     (.reg false [⟨none, .mv 9 (.t 1)⟩,
       ⟨none, .bin 10 .lss (.t 9) (.c (.sc (.int .i64 0)))⟩])
     (.cond (.t 10)
      ((.seq
       (.reg false [⟨none, .mv 4 (.c (.sc (.int .i64 (-1))))⟩])
       (.ret)))
      (.skip))))
    ((.seq
     (.reg false [⟨none, .fa 11 4 (.t 2)⟩,
       ⟨none, .ld 12 false 1 (.t 11)⟩,
       ⟨none, .mv 13 (.t 1)⟩,
       ⟨none, .call (some 14) 74 [(.t 12), (.t 13)]⟩,
       ⟨none, .mv 1 (.t 14)⟩])
     ((.seq
      ((.seq
       (.reg false [⟨none, .mv 15 (.t 1)⟩,
         ⟨none, .bin 16 .lss (.t 15) (.c (.sc (.int .i64 0)))⟩])
       (.cond (.t 16)
        ((.seq
         (.reg false [⟨none, .mv 4 (.c (.sc (.int .i64 (-1))))⟩])
         (.ret)))
        (.skip))))
      ((.seq
       (.reg false [⟨none, .mv 17 (.t 1)⟩,
         ⟨none, .mv 4 (.t 17)⟩])
       (.ret))))))))))))
theorem res13 : resF Try.prog 13 = some (18, rc13, [.t 4]) := by kernel_rfl
theorem res24 : resF Try.prog 24 = some (27, cSzC 23 3 true, [.t 4]) := by kernel_rfl
theorem res23 : resF Try.prog 23 = some (12, k_szExpr 24, [.t 4]) := by kernel_rfl

def rc64 : RC :=
 (.seq
  (.reg false [⟨none, .box 2 6 (.t 0)⟩,
    ⟨none, .mv 4 (.c (.sc (.int .i64 0)))⟩])
  ((.seq
   (.reg false [⟨none, .fa 5 0 (.t 2)⟩,
     ⟨none, .ld 6 true 3 (.t 5)⟩,
     ⟨none, .mv 7 (.t 1)⟩,
     ⟨none, .call (some 8) 23 [(.t 6), (.t 7)]⟩,
     ⟨none, .mv 1 (.t 8)⟩])
   ((.seq
    ((.seq
     (.reg false [⟨none, .mv 9 (.t 1)⟩,
       ⟨none, .bin 10 .lss (.t 9) (.c (.sc (.int .i64 0)))⟩])
     (.cond (.t 10)
      ((.seq
       (.reg false [⟨none, .mv 4 (.c (.sc (.int .i64 (-1))))⟩])
       (.ret)))
      (.skip))))
    ((.seq
     (.reg false [⟨none, .fa 11 3 (.t 2)⟩,
       ⟨none, .ld 12 true 3 (.t 11)⟩,
       ⟨none, .mv 13 (.t 1)⟩,
       ⟨none, .call (some 14) 23 [(.t 12), (.t 13)]⟩,
       ⟨none, .mv 1 (.t 14)⟩])
     ((.seq
      ((.seq
       (.reg false [⟨none, .mv 15 (.t 1)⟩,
         ⟨none, .bin 16 .lss (.t 15) (.c (.sc (.int .i64 0)))⟩])
       (.cond (.t 16)
        ((.seq
         (.reg false [⟨none, .mv 4 (.c (.sc (.int .i64 (-1))))⟩])
         (.ret)))
        (.skip))))
      ((.seq
       (.reg false [⟨none, .mv 17 (.t 1)⟩,
         ⟨none, .mv 4 (.t 17)⟩])
       (.ret))))))))))))
theorem res64 : resF Try.prog 64 = some (18, rc64, [.t 4]) := by kernel_rfl
theorem res26 : resF Try.prog 26 = some (11, k_toSig, [.c 2 2 true]) := by kernel_rfl
theorem af26 : K_toSig Try.prog 26 := a_toSig mixed res26
theorem res151 : resF Try.prog 151 = some (22, cToS 1 (.sc (.bool false)), [.t 2]) := by kernel_rfl
theorem res78 : resF Try.prog 78 = some (23, cToC 151 1 24 false (.ls (some true) 1 []), [.t 2]) := by kernel_rfl
theorem res79 : resF Try.prog 79 = some (23, cToC 78 1 24 false (.ls (some true) 1 []), [.t 2]) := by kernel_rfl

def rc15 : RC :=
 (.seq
  (.reg false [⟨none, .box 1 5 (.t 0)⟩,
    ⟨none, .zer 2 5 (.ag [(.sc (.int .i64 0)), (.sc (.int .i64 0)), (.sc (.int .i64 0)), (.ls (some true) 1 []), (.ls (some true) 1 [])])⟩])
  ((.seq
   (.reg false [⟨none, .zer 3 5 (.ag [(.sc (.int .i64 0)), (.sc (.int .i64 0)), (.sc (.int .i64 0)), (.ls (some true) 1 []), (.ls (some true) 1 [])])⟩])
   ((.seq
    (.reg false [⟨none, .fa 4 0 (.t 1)⟩,
      ⟨none, .ld 5 true 2 (.t 4)⟩,
      ⟨none, .call (some 6) 26 [(.t 5)]⟩,
      ⟨none, .fa 7 0 (.t 3)⟩,
      ⟨none, .st 2 (.t 7) (.t 6)⟩])
    ((.seq
     (.reg false [⟨none, .fa 8 2 (.t 1)⟩,
       ⟨none, .ld 9 false 1 (.t 8)⟩,
       ⟨none, .fa 10 2 (.t 3)⟩,
       ⟨none, .st 1 (.t 10) (.t 9)⟩])
     ((.seq
      (.reg false [⟨none, .fa 11 3 (.t 1)⟩,
        ⟨none, .ld 12 false 1 (.t 11)⟩,
        ⟨none, .call (some 13) 78 [(.t 12)]⟩,
        ⟨none, .fa 14 3 (.t 3)⟩,
        ⟨none, .st 1 (.t 14) (.t 13)⟩])
      ((.seq
       (.reg false [⟨none, .fa 15 4 (.t 1)⟩,
         ⟨none, .ld 16 false 1 (.t 15)⟩,
         ⟨none, .call (some 17) 79 [(.t 16)]⟩,
         ⟨none, .fa 18 4 (.t 3)⟩,
         ⟨none, .st 1 (.t 18) (.t 17)⟩])
       ((.seq
        (.reg false [⟨none, .ld 19 true 5 (.t 3)⟩,
          ⟨none, .st 5 (.t 2) (.t 19)⟩])
        (.ret))))))))))))))
theorem res15 : resF Try.prog 15 = some (20, rc15, [.c 2 5 true]) := by kernel_rfl
theorem res28 : resF Try.prog 28 = some (23, cToC 27 3 40 true (.ag [(.sc (.int .i64 0)), (.sc (.int .i64 0)), (.ls (some true) 3 [])]), [.t 2]) := by kernel_rfl
theorem res27 : resF Try.prog 27 = some (15, k_toExpr 28, [.c 2 3 true]) := by kernel_rfl

def rc66 : RC :=
 (.seq
  (.reg false [⟨none, .box 1 6 (.t 0)⟩,
    ⟨none, .zer 2 6 (.ag [(.sc (.int .i64 0)), (.sc (.int .i64 0)), (.ls (some true) 3 []), (.sc (.int .i64 0)), (.sc (.int .i64 0)), (.ls (some true) 3 [])])⟩])
  ((.seq
   (.reg false [⟨none, .zer 3 6 (.ag [(.sc (.int .i64 0)), (.sc (.int .i64 0)), (.ls (some true) 3 []), (.sc (.int .i64 0)), (.sc (.int .i64 0)), (.ls (some true) 3 [])])⟩])
   ((.seq
    (.reg false [⟨none, .fa 4 0 (.t 1)⟩,
      ⟨none, .ld 5 true 3 (.t 4)⟩,
      ⟨none, .call (some 6) 27 [(.t 5)]⟩,
      ⟨none, .fa 7 0 (.t 3)⟩,
      ⟨none, .st 3 (.t 7) (.t 6)⟩])
    ((.seq
     (.reg false [⟨none, .fa 8 3 (.t 1)⟩,
       ⟨none, .ld 9 true 3 (.t 8)⟩,
       ⟨none, .call (some 10) 27 [(.t 9)]⟩,
       ⟨none, .fa 11 3 (.t 3)⟩,
       ⟨none, .st 3 (.t 11) (.t 10)⟩])
     ((.seq
      (.reg false [⟨none, .ld 12 true 6 (.t 3)⟩,
        ⟨none, .st 6 (.t 2) (.t 12)⟩])
      (.ret))))))))))
theorem res66 : resF Try.prog 66 = some (13, rc66, [.c 2 6 true]) := by kernel_rfl
theorem res150 : resF Try.prog 150 = some (15, k_l00In, [.t 6]) := by kernel_rfl
theorem af150 : K_l00In Try.prog 150 := a_l00In mixed res150
theorem res87 : resF Try.prog 87 = some (11, k_l01Sig 150, [.t 2]) := by kernel_rfl
theorem af87 : K_l01Sig Try.prog 87 := a_l01Sig mixed res87 af150
theorem res149 : resF Try.prog 149 = some (36, k_l05Tests 87 150, [.t 6]) := by kernel_rfl
theorem af149 : K_l05Tests Try.prog 149 := a_l05Tests mixed res149 af87 af150
theorem res75 : resF Try.prog 75 = some (82, k_l05Ok 149, [.t 2]) := by kernel_rfl
theorem af75 : K_l05Ok Try.prog 75 := a_l05Ok mixed res75 af149
theorem res156 : resF Try.prog 156 = some (30, k_l01Left 156, [.t 4]) := by kernel_rfl
theorem af156 : K_l01Left Try.prog 156 := a_l01Left mixed res156
theorem res160 : resF Try.prog 160 = some (10, k_l00Max, [.t 4]) := by kernel_rfl
theorem af160 : K_l00Max Try.prog 160 := a_l00Max mixed res160
theorem res157 : resF Try.prog 157 = some (25, k_l01Depth 157 160, [.t 2]) := by kernel_rfl
theorem af157 : K_l01Depth Try.prog 157 := a_l01Depth mixed res157 af160
theorem res200 : resF Try.prog 200 = some (15, k_l01Kids, [.t 2]) := by kernel_rfl
theorem af200 : K_l01Kids Try.prog 200 := a_l01Kids mixed res200
theorem res159 : resF Try.prog 159 = some (34, k_l01Condition 159 150, [.t 2]) := by kernel_rfl
theorem af159 : K_l01Condition Try.prog 159 := a_l01Condition mixed res159 af150
theorem res158 : resF Try.prog 158 = some (80, k_l01Tree 158 200 150 159, [.t 4]) := by kernel_rfl
theorem af158 : K_l01Tree Try.prog 158 := a_l01Tree mixed res158 af200 af150 af159
theorem res88 : resF Try.prog 88 = some (22, k_l01Ok 87 156 157 158, [.t 4]) := by kernel_rfl
theorem af88 : K_l01Ok Try.prog 88 := a_l01Ok mixed res88 af87 af156 af157 af158
theorem res142 : resF Try.prog 142 = some (17, k_l04Equation 88, [.t 4]) := by kernel_rfl
theorem af142 : K_l04Equation Try.prog 142 := a_l04Equation mixed res142 af88
theorem res108 : resF Try.prog 108 = some (17, k_l05None, [.t 2]) := by kernel_rfl
theorem af108 : K_l05None Try.prog 108 := a_l05None mixed res108
theorem res110 : resF Try.prog 110 = some (62, k_l05Dot 108, [.t 4]) := by kernel_rfl
theorem af110 : K_l05Dot Try.prog 110 := a_l05Dot mixed res110 af108
theorem res192 : resF Try.prog 192 = some (82, k_l05Star 108, [.t 2]) := by kernel_rfl
theorem af192 : K_l05Star Try.prog 192 := a_l05Star mixed res192 af108
theorem res143 : resF Try.prog 143 = some (201, k_l05Rel 143 108 110 192, [.t 4]) := by kernel_rfl
theorem af143 : K_l05Rel Try.prog 143 := a_l05Rel mixed res143 af108 af110 af192
theorem res65 : resF Try.prog 65 = some (60, k_spFirstPair 75 142 143, [.t 4, .t 5, .t 6, .t 7]) := by kernel_rfl
theorem af65 : K_spFirstPair Try.prog 65 := a_spFirstPair mixed res65 af75 af142 af143
theorem res139 : resF Try.prog 139 = some (15, k_within, [.t 6]) := by kernel_rfl
theorem af139 : K_within Try.prog 139 := a_within mixed res139
theorem res95 : resF Try.prog 95 = some (11, k_validSig 139, [.t 2]) := by kernel_rfl
theorem af95 : K_validSig Try.prog 95 := a_validSig mixed res95 af139
theorem res199 : resF Try.prog 199 = some (24, k_isTableB, [.t 6]) := by kernel_rfl
theorem af199 : K_isTableB Try.prog 199 := a_isTableB mixed res199
theorem res152 : resF Try.prog 152 = some (46, k_isFrameB 95 139 199, [.t 8]) := by kernel_rfl
theorem af152 : K_isFrameB Try.prog 152 := a_isFrameB mixed res152 af95 af139 af199
theorem res80 : resF Try.prog 80 = some (12, k_validModel 152, [.t 2]) := by kernel_rfl
theorem af80 : K_validModel Try.prog 80 := a_validModel mixed res80 af152
theorem res202 : resF Try.prog 202 = some (15, k_kidsOf, [.t 2]) := by kernel_rfl
theorem af202 : K_kidsOf Try.prog 202 := a_kidsOf mixed res202
theorem res163 : resF Try.prog 163 = some (25, k_isCondition 163, [.t 2]) := by kernel_rfl
theorem af163 : K_isCondition Try.prog 163 := a_isCondition mixed res163
theorem res162 : resF Try.prog 162 = some (86, k_shaped 162 202 139 163, [.t 8, .t 9]) := by kernel_rfl
theorem af162 : K_shaped Try.prog 162 := a_shaped mixed res162 af202 af139 af163
theorem res96 : resF Try.prog 96 = some (14, k_isExpr 162, [.t 4]) := by kernel_rfl
theorem af96 : K_isExpr Try.prog 96 := a_isExpr mixed res96 af162
theorem res98 : resF Try.prog 98 = some (20, k_validExprs 96 95, [.t 4]) := by kernel_rfl
theorem af98 : K_validExprs Try.prog 98 := a_validExprs mixed res98 af96 af95
theorem res144 : resF Try.prog 144 = some (12, k_imValidEquation 98, [.t 4]) := by kernel_rfl
theorem af144 : K_imValidEquation Try.prog 144 := a_imValidEquation mixed res144 af98
theorem res113 : resF Try.prog 113 = some (33, k_tableB, [.t 4]) := by kernel_rfl
theorem af113 : K_tableB Try.prog 113 := a_tableB mixed res113
theorem res172 : resF Try.prog 172 = some (30, k_composed1, [.t 6]) := by kernel_rfl
theorem af172 : K_composed1 Try.prog 172 := a_composed1 mixed res172
theorem res116 : resF Try.prog 116 = some (9, k_composed 113 172, [.t 4]) := by kernel_rfl
theorem af116 : K_composed Try.prog 116 := a_composed mixed res116 af113 af172
theorem res193 : resF Try.prog 193 = some (19, k_relation1, [.t 6]) := by kernel_rfl
theorem af193 : K_relation1 Try.prog 193 := a_relation1 mixed res193
theorem res194 : resF Try.prog 194 = some (20, k_relation2, [.t 5]) := by kernel_rfl
theorem af194 : K_relation2 Try.prog 194 := a_relation2 mixed res194
theorem res195 : resF Try.prog 195 = some (70, k_relation3, [.t 7]) := by kernel_rfl
theorem af195 : K_relation3 Try.prog 195 := a_relation3 mixed res195
theorem res145 : resF Try.prog 145 = some (60, k_relation 145 113 116 193 194 195, [.t 4]) := by kernel_rfl
theorem af145 : K_relation Try.prog 145 := a_relation mixed res145 af113 af116 af193 af194 af195
theorem res67 : resF Try.prog 67 = some (66, k_imFirstPair 80 144 145, [.t 4, .t 5, .t 6, .t 7]) := by kernel_rfl
theorem af67 : K_imFirstPair Try.prog 67 := a_imFirstPair mixed res67 af80 af144 af145
theorem res83 : resF Try.prog 83 = some (15, k_eqSig, [.t 4]) := by kernel_rfl
theorem af83 : K_eqSig Try.prog 83 := a_eqSig mixed res83
theorem res117 : resF Try.prog 117 = some (26, cEqB, [.t 4]) := by kernel_rfl
theorem res42 : resF Try.prog 42 = some (27, cEqC 117 1 false, [.t 4]) := by kernel_rfl
theorem res84 : resF Try.prog 84 = some (27, cEqC 42 1 false, [.t 4]) := by kernel_rfl

def rc18 : RC :=
 (.seq
  (.reg false [⟨none, .box 2 5 (.t 0)⟩,
    ⟨none, .box 3 5 (.t 1)⟩,
    ⟨none, .mv 4 (.c (.sc (.bool false)))⟩])
  ((.seq
   ((.seq
    (.reg false [⟨none, .fa 5 0 (.t 2)⟩,
      ⟨none, .ld 6 true 2 (.t 5)⟩,
      ⟨none, .fa 7 0 (.t 3)⟩,
      ⟨none, .ld 8 true 2 (.t 7)⟩,
      ⟨none, .call (some 9) 83 [(.t 6), (.t 8)]⟩,
      ⟨none, .un 10 .not (.t 9)⟩])
    (.cond (.t 10)
     ((.seq
      (.reg false [⟨none, .mv 4 (.c (.sc (.bool false)))⟩])
      (.ret)))
     (.skip))))
   ((.seq
    ((.seq
     (.reg false [⟨none, .fa 11 2 (.t 2)⟩,
       ⟨none, .ld 12 false 1 (.t 11)⟩,
       ⟨none, .fa 13 2 (.t 3)⟩,
       ⟨none, .ld 14 false 1 (.t 13)⟩,
       ⟨none, .bin 15 .neq (.t 12) (.t 14)⟩])
     (.cond (.t 15)
      ((.seq
       (.reg false [⟨none, .mv 4 (.c (.sc (.bool false)))⟩])
       (.ret)))
      (.skip))))
    ((.seq
     ((.seq
      (.reg false [⟨none, .fa 16 3 (.t 2)⟩,
        ⟨none, .ld 17 false 1 (.t 16)⟩,
        ⟨none, .fa 18 3 (.t 3)⟩,
        ⟨none, .ld 19 false 1 (.t 18)⟩,
        ⟨none, .call (some 20) 42 [(.t 17), (.t 19)]⟩,
        ⟨none, .un 21 .not (.t 20)⟩])
      (.cond (.t 21)
       ((.seq
        (.reg false [⟨none, .mv 4 (.c (.sc (.bool false)))⟩])
        (.ret)))
       (.skip))))
     ((.seq
      ((.seq
       (.reg false [⟨none, .fa 22 4 (.t 2)⟩,
         ⟨none, .ld 23 false 1 (.t 22)⟩,
         ⟨none, .fa 24 4 (.t 3)⟩,
         ⟨none, .ld 25 false 1 (.t 24)⟩,
         ⟨none, .call (some 26) 84 [(.t 23), (.t 25)]⟩,
         ⟨none, .un 27 .not (.t 26)⟩])
       (.cond (.t 27)
        ((.seq
         (.reg false [⟨none, .mv 4 (.c (.sc (.bool false)))⟩])
         (.ret)))
        (.skip))))
      ((.seq
       (.reg false [⟨none, .mv 4 (.c (.sc (.bool true)))⟩])
       (.ret))))))))))))
theorem res18 : resF Try.prog 18 = some (28, rc18, [.t 4]) := by kernel_rfl
theorem res31 : resF Try.prog 31 = some (27, cEqC 30 3 true, [.t 4]) := by kernel_rfl
theorem res30 : resF Try.prog 30 = some (21, k_eqExpr 31, [.t 4]) := by kernel_rfl

def rc68 : RC :=
 (.seq
  (.reg false [⟨none, .box 2 6 (.t 0)⟩,
    ⟨none, .box 3 6 (.t 1)⟩,
    ⟨none, .mv 4 (.c (.sc (.bool false)))⟩])
  ((.seq
   ((.seq
    (.reg false [⟨none, .fa 5 0 (.t 2)⟩,
      ⟨none, .ld 6 true 3 (.t 5)⟩,
      ⟨none, .fa 7 0 (.t 3)⟩,
      ⟨none, .ld 8 true 3 (.t 7)⟩,
      ⟨none, .call (some 9) 30 [(.t 6), (.t 8)]⟩,
      ⟨none, .un 10 .not (.t 9)⟩])
    (.cond (.t 10)
     ((.seq
      (.reg false [⟨none, .mv 4 (.c (.sc (.bool false)))⟩])
      (.ret)))
     (.skip))))
   ((.seq
    ((.seq
     (.reg false [⟨none, .fa 11 3 (.t 2)⟩,
       ⟨none, .ld 12 true 3 (.t 11)⟩,
       ⟨none, .fa 13 3 (.t 3)⟩,
       ⟨none, .ld 14 true 3 (.t 13)⟩,
       ⟨none, .call (some 15) 30 [(.t 12), (.t 14)]⟩,
       ⟨none, .un 16 .not (.t 15)⟩])
     (.cond (.t 16)
      ((.seq
       (.reg false [⟨none, .mv 4 (.c (.sc (.bool false)))⟩])
       (.ret)))
      (.skip))))
    ((.seq
     (.reg false [⟨none, .mv 4 (.c (.sc (.bool true)))⟩])
     (.ret))))))))
theorem res68 : resF Try.prog 68 = some (17, rc68, [.t 4]) := by kernel_rfl

def rc10 : RC :=
 (.seq
  (.reg false [⟨none, .box 2 5 (.t 0)⟩,
    ⟨none, .box 3 6 (.t 1)⟩,
    ⟨none, .mv 4 (.c (.sc (.bool false)))⟩])
  ((.seq
   (.reg false [⟨none, .mv 5 (.c (.sc (.int .i64 1048576)))⟩])
   ((.seq
    (.reg false [⟨none, .ld 16 true 5 (.t 2)⟩,
      ⟨none, .mv 17 (.t 5)⟩,
      ⟨none, .call (some 18) 13 [(.t 16), (.t 17)]⟩,
      ⟨none, .mv 5 (.t 18)⟩])
    ((.seq
     ((.seq
      (.reg false [⟨none, .mv 19 (.t 5)⟩,
        ⟨none, .bin 20 .lss (.t 19) (.c (.sc (.int .i64 0)))⟩])
      (.cond (.t 20)
       ((.seq
        (.reg false [⟨none, .mv 4 (.c (.sc (.bool true)))⟩])
        (.ret)))
       (.skip))))
     ((.seq
      (.reg false [⟨none, .ld 21 true 6 (.t 3)⟩,
        ⟨none, .mv 22 (.t 5)⟩,
        ⟨none, .call (some 23) 64 [(.t 21), (.t 22)]⟩,
        ⟨none, .mv 5 (.t 23)⟩])
      ((.seq
       ((.seq
        (.reg false [⟨none, .mv 24 (.t 5)⟩,
          ⟨none, .bin 25 .lss (.t 24) (.c (.sc (.int .i64 0)))⟩])
        (.cond (.t 25)
         ((.seq
          (.reg false [⟨none, .mv 4 (.c (.sc (.bool true)))⟩])
          (.ret)))
         (.skip))))
       ((.seq
        (.reg true [⟨none, .ld 27 true 5 (.t 2)⟩,
          ⟨none, .call (some 28) 15 [(.t 27)]⟩,
          ⟨none, .ld 29 true 6 (.t 3)⟩,
          ⟨none, .call (some 30) 66 [(.t 29)]⟩,
          ⟨none, .call (some 31) 65 [(.t 28), (.t 30)]⟩,
          ⟨none, .mv 26 (.t 31)⟩,
          ⟨none, .ext 32 (.t 26) 0⟩,
          ⟨none, .ext 33 (.t 26) 1⟩,
          ⟨none, .ext 34 (.t 26) 2⟩,
          ⟨none, .ext 35 (.t 26) 3⟩,
          ⟨none, .mv 6 (.t 32)⟩,
          ⟨none, .mv 7 (.t 33)⟩,
          ⟨none, .mv 8 (.t 34)⟩,
          ⟨none, .mv 9 (.t 35)⟩])
        ((.seq
         (.reg false [⟨none, .ld 36 true 5 (.t 2)⟩,
           ⟨none, .call (some 37) 15 [(.t 36)]⟩,
           ⟨none, .zer 10 5 (.ag [(.sc (.int .i64 0)), (.sc (.int .i64 0)), (.sc (.int .i64 0)), (.ls (some true) 1 []), (.ls (some true) 1 [])])⟩,
           ⟨none, .st 5 (.t 10) (.t 37)⟩])
         ((.seq
          (.reg false [⟨none, .ld 38 true 6 (.t 3)⟩,
            ⟨none, .call (some 39) 66 [(.t 38)]⟩,
            ⟨none, .zer 11 6 (.ag [(.sc (.int .i64 0)), (.sc (.int .i64 0)), (.ls (some true) 3 []), (.sc (.int .i64 0)), (.sc (.int .i64 0)), (.ls (some true) 3 [])])⟩,
            ⟨none, .st 6 (.t 11) (.t 39)⟩])
          ((.seq
           (.reg false [⟨none, .ld 41 true 5 (.t 10)⟩,
             ⟨none, .ld 42 true 6 (.t 11)⟩,
             ⟨none, .call (some 43) 67 [(.t 41), (.t 42)]⟩,
             ⟨none, .mv 40 (.t 43)⟩,
             ⟨none, .ext 44 (.t 40) 0⟩,
             ⟨none, .ext 45 (.t 40) 1⟩,
             ⟨none, .ext 46 (.t 40) 2⟩,
             ⟨none, .ext 47 (.t 40) 3⟩,
             ⟨none, .mv 12 (.t 44)⟩,
             ⟨none, .mv 13 (.t 45)⟩,
             ⟨none, .mv 14 (.t 46)⟩,
             ⟨none, .mv 15 (.t 47)⟩])
           ((.seq
            ((.seq
             (.reg false [⟨none, .mv 48 (.t 12)⟩,
               ⟨none, .mv 49 (.t 6)⟩,
               ⟨none, .bin 50 .neq (.t 48) (.t 49)⟩,
               ⟨none, .mv 51 (.t 50)⟩,
               ⟨some (51, false), .mv 52 (.t 13)⟩,
               ⟨some (51, false), .mv 53 (.t 7)⟩,
               ⟨some (51, false), .bin 54 .neq (.t 52) (.t 53)⟩,
               ⟨none, .pick 55 (.t 51) (.c (.sc (.bool true))) (.t 54)⟩,
               ⟨none, .mv 56 (.t 55)⟩,
               ⟨some (56, false), .mv 57 (.t 14)⟩,
               ⟨some (56, false), .mv 58 (.t 8)⟩,
               ⟨some (56, false), .beq 59 true (.t 57) (.t 58)⟩,
               ⟨none, .pick 60 (.t 56) (.c (.sc (.bool true))) (.t 59)⟩,
               ⟨none, .mv 61 (.t 60)⟩,
               ⟨some (61, false), .mv 62 (.t 15)⟩,
               ⟨some (61, false), .mv 63 (.t 9)⟩,
               ⟨some (61, false), .bin 64 .neq (.t 62) (.t 63)⟩,
               ⟨none, .pick 65 (.t 61) (.c (.sc (.bool true))) (.t 64)⟩])
             (.cond (.t 65)
              ((.seq
               (.reg false [⟨none, .mv 4 (.c (.sc (.bool false)))⟩])
               (.ret)))
              (.skip))))
            ((.seq
             ((.seq
              (.reg true [⟨none, .ld 66 true 5 (.t 10)⟩,
                ⟨none, .ld 67 true 5 (.t 2)⟩,
                ⟨none, .call (some 68) 15 [(.t 67)]⟩,
                ⟨none, .call (some 69) 18 [(.t 66), (.t 68)]⟩,
                ⟨none, .un 70 .not (.t 69)⟩])
              (.cond (.t 70)
               ((.seq
                (.reg false [⟨none, .mv 4 (.c (.sc (.bool false)))⟩])
                (.ret)))
               (.skip))))
             ((.seq
              ((.seq
               (.reg true [⟨none, .ld 71 true 6 (.t 11)⟩,
                 ⟨none, .ld 72 true 6 (.t 3)⟩,
                 ⟨none, .call (some 73) 66 [(.t 72)]⟩,
                 ⟨none, .call (some 74) 68 [(.t 71), (.t 73)]⟩,
                 ⟨none, .un 75 .not (.t 74)⟩])
               (.cond (.t 75)
                ((.seq
                 (.reg false [⟨none, .mv 4 (.c (.sc (.bool false)))⟩])
                 (.ret)))
                (.skip))))
              ((.seq
               (.reg false [⟨none, .mv 4 (.c (.sc (.bool true)))⟩])
               (.ret))))))))))))))))))))))))))))
theorem res10 : resF Try.prog 10 = some (76, rc10, [.t 4]) := by kernel_rfl
noncomputable def famBoolS : Fam Try.prog (eS 1 eB) 148 151 117 := famP mixed encB noB ⟨rfl, rfl, rfl⟩ (by omega) res148 res151 (eqL fun x y => x == y) (fun _ => eqL_refl fun _ _ => by simp) fun a b => af_eqB mixed res117 a b
theorem famBoolS_t (x) : famBoolS.t x = (some false, x.2) := rfl
noncomputable def famBoolSS : Fam Try.prog (eS 1 (eS 1 eB)) 73 78 42 := famC mixed famBoolS (encS eB 1) ⟨rfl, rfl, rfl⟩ (by omega) res73 res78 res42
theorem famBoolSS_t (x) : famBoolSS.t x = (some false, x.2.map famBoolS.t) := rfl
noncomputable def famBoolSSS : Fam Try.prog (eS 1 (eS 1 (eS 1 eB))) 74 79 84 := famC mixed famBoolSS (encS (eS 1 eB) 1) ⟨rfl, rfl, rfl⟩ (by omega) res74 res79 res84
theorem famBoolSSS_t (x) : famBoolSSS.t x = (some false, x.2.map famBoolSS.t) := rfl
noncomputable def szModel (m : Mo) : Int → Int := fun l => nx (famBoolSS.s m.2.2.1 l) (fun l => nx (famBoolSSS.s m.2.2.2 l) (fun l => l))
def fitModel (m : Mo) : Prop := famBoolSS.fit m.2.2.1 ∧ famBoolSSS.fit m.2.2.2
noncomputable def tModel (m : Mo) : Mo := (m.1, m.2.1, famBoolSS.t m.2.2.1, famBoolSSS.t m.2.2.2)
noncomputable def qModel (a b : Mo) : Bool := (qG a.1 b.1 && ((a.2.1 == b.2.1) && (famBoolSS.q a.2.2.1 b.2.2.1 && famBoolSSS.q a.2.2.2 b.2.2.2)))
theorem szModel_in (m : Mo) (l : Int) (h1 : 0 ≤ l) (h2 : l ≤ 1048576) : -1 ≤ szModel m l ∧ szModel m l ≤ l := by
  refine in_tr (Int.le_refl l) (nx_in (famBoolSS.s_in m.2.2.1 l h1 (by omega)) h1 (by omega) fun y0 a0 b0 => ?_)
  refine in_tr b0 (nx_in (famBoolSSS.s_in m.2.2.2 y0 a0 (by omega)) a0 (by omega) fun y1 a1 b1 => ?_)
  exact ⟨by omega, b1⟩
theorem szModel_fit (m : Mo) (l : Int) (h2 : l ≤ 1048576) (h1 : 0 ≤ l) (h : 0 ≤ szModel m l) : fitModel m := by
  obtain ⟨p0, h⟩ := nx_fit h
  have e0 := famBoolSS.s_fit m.2.2.1 l (by omega) h1 p0
  have b0 := famBoolSS.s_in m.2.2.1 l h1 (by omega)
  obtain ⟨p1, h⟩ := nx_fit h
  have e1 := famBoolSSS.s_fit m.2.2.2 _ (by omega) p0 p1
  have b1 := famBoolSSS.s_in m.2.2.2 (famBoolSS.s m.2.2.1 l) p0 (by omega)
  exact ⟨e0, e1⟩
theorem af13 (m : Mo) (l : Int) (h1 : 0 ≤ l) (h2 : l ≤ 1048576) : AF Try.prog 13 [eM m, eI l] (.own (eI (szModel m l))) := by
  refine af_of_res res13 mixed rfl fun _ => ?_
  simp +contextual -implicitDefEqProofs only [rc13, eM, eG, eS, go_sem, eI, eB, ↓reduceIte, Nat.reduceEqDiff, Nat.reduceAdd, Nat.reduceLeDiff, Nat.reduceMul, Nat.reduceBEq, Nat.reduceBneDiff, Nat.reduceLT, Nat.reduceSub, decide_true, decide_false, and_self, true_and, and_true, false_and, and_false, not_true_eq_false, not_false_eq_true, false_implies, true_implies, implies_true, ge_iff_le, Bool.false_eq_true, List.cons_append, List.nil_append]
  refine callQ_self ?_ (famBoolSS.afS m.2.2.1 l (by omega) (by omega)) ?_
  · first | exact rfl | (simp only [eE_eta]; exact rfl)
  simp +contextual -implicitDefEqProofs only [eM, eG, eS, go_sem, eI, eB, ↓reduceIte, Nat.reduceEqDiff, Nat.reduceAdd, Nat.reduceLeDiff, Nat.reduceMul, Nat.reduceBEq, Nat.reduceBneDiff, Nat.reduceLT, Nat.reduceSub, decide_true, decide_false, and_self, true_and, and_true, false_and, and_false, not_true_eq_false, not_false_eq_true, false_implies, true_implies, implies_true, ge_iff_le, Bool.false_eq_true, List.cons_append, List.nil_append]
  have b0 := famBoolSS.s_in m.2.2.1 l (by omega) (by omega)
  refine ⟨fun h => D.Le.sc_eq (by simp only [szModel]; rw [nx_neg h]), fun g0 => ?_⟩
  refine callQ_self ?_ (famBoolSSS.afS m.2.2.2 (famBoolSS.s m.2.2.1 l) (by omega) (by omega)) ?_
  · first | exact rfl | (simp only [eE_eta]; exact rfl)
  simp +contextual -implicitDefEqProofs only [eM, eG, eS, go_sem, eI, eB, ↓reduceIte, Nat.reduceEqDiff, Nat.reduceAdd, Nat.reduceLeDiff, Nat.reduceMul, Nat.reduceBEq, Nat.reduceBneDiff, Nat.reduceLT, Nat.reduceSub, decide_true, decide_false, and_self, true_and, and_true, false_and, and_false, not_true_eq_false, not_false_eq_true, false_implies, true_implies, implies_true, ge_iff_le, Bool.false_eq_true, List.cons_append, List.nil_append]
  have b1 := famBoolSSS.s_in m.2.2.2 (famBoolSS.s m.2.2.1 l) (by omega) (by omega)
  refine ⟨fun h => D.Le.sc_eq (by simp only [szModel]; rw [nx_pos g0, nx_neg h]), fun g1 => ?_⟩
  exact D.Le.sc_eq (by simp only [szModel]; rw [nx_pos g0, nx_pos g1])
theorem af15 (m : Mo) (h : fitModel m) : AF Try.prog 15 [eM m] (.own (eM (tModel m))) := by
  refine af_of_res res15 mixed rfl fun _ => ?_
  simp +contextual -implicitDefEqProofs only [rc15, eM, eG, eS, tModel, famBoolSS_t, famBoolSSS_t, go_sem, eI, eB, ↓reduceIte, Nat.reduceEqDiff, Nat.reduceAdd, Nat.reduceLeDiff, Nat.reduceMul, Nat.reduceBEq, Nat.reduceBneDiff, Nat.reduceLT, Nat.reduceSub, decide_true, decide_false, and_self, true_and, and_true, false_and, and_false, not_true_eq_false, not_false_eq_true, false_implies, true_implies, implies_true, ge_iff_le, Bool.false_eq_true, List.cons_append, List.nil_append]
  refine callQ_self ?_ (af26 m.1) ?_
  · first | exact rfl | (simp only [eE_eta]; exact rfl)
  simp +contextual -implicitDefEqProofs only [eM, eG, eS, tModel, famBoolSS_t, famBoolSSS_t, go_sem, eI, eB, ↓reduceIte, Nat.reduceEqDiff, Nat.reduceAdd, Nat.reduceLeDiff, Nat.reduceMul, Nat.reduceBEq, Nat.reduceBneDiff, Nat.reduceLT, Nat.reduceSub, decide_true, decide_false, and_self, true_and, and_true, false_and, and_false, not_true_eq_false, not_false_eq_true, false_implies, true_implies, implies_true, ge_iff_le, Bool.false_eq_true, List.cons_append, List.nil_append]
  refine callQ_self ?_ (famBoolSS.afT m.2.2.1 h.1) ?_
  · first | exact rfl | (simp only [eE_eta]; exact rfl)
  simp +contextual -implicitDefEqProofs only [eM, eG, eS, tModel, famBoolSS_t, famBoolSSS_t, go_sem, eI, eB, ↓reduceIte, Nat.reduceEqDiff, Nat.reduceAdd, Nat.reduceLeDiff, Nat.reduceMul, Nat.reduceBEq, Nat.reduceBneDiff, Nat.reduceLT, Nat.reduceSub, decide_true, decide_false, and_self, true_and, and_true, false_and, and_false, not_true_eq_false, not_false_eq_true, false_implies, true_implies, implies_true, ge_iff_le, Bool.false_eq_true, List.cons_append, List.nil_append]
  refine callQ_self ?_ (famBoolSSS.afT m.2.2.2 h.2) ?_
  · first | exact rfl | (simp only [eE_eta]; exact rfl)
  simp +contextual -implicitDefEqProofs only [eM, eG, eS, tModel, famBoolSS_t, famBoolSSS_t, go_sem, eI, eB, ↓reduceIte, Nat.reduceEqDiff, Nat.reduceAdd, Nat.reduceLeDiff, Nat.reduceMul, Nat.reduceBEq, Nat.reduceBneDiff, Nat.reduceLT, Nat.reduceSub, decide_true, decide_false, and_self, true_and, and_true, false_and, and_false, not_true_eq_false, not_false_eq_true, false_implies, true_implies, implies_true, ge_iff_le, Bool.false_eq_true, List.cons_append, List.nil_append]
theorem af18 (a b : Mo) : AF Try.prog 18 [eM a, eM b] (.own (eB (qModel a b))) := by
  refine af_of_res res18 mixed rfl fun _ => ?_
  simp +contextual -implicitDefEqProofs only [rc18, qModel, bne, Bool.not_true, Bool.not_false, Bool.true_and, Bool.false_and, Bool.and_true, Bool.and_false, eM, eG, eS, go_sem, eI, eB, ↓reduceIte, Nat.reduceEqDiff, Nat.reduceAdd, Nat.reduceLeDiff, Nat.reduceMul, Nat.reduceBEq, Nat.reduceBneDiff, Nat.reduceLT, Nat.reduceSub, decide_true, decide_false, and_self, true_and, and_true, false_and, and_false, not_true_eq_false, not_false_eq_true, false_implies, true_implies, implies_true, ge_iff_le, Bool.false_eq_true, List.cons_append, List.nil_append]
  refine callQ_self ?_ (af83 a.1 b.1) ?_
  · first | exact rfl | (simp only [eE_eta]; exact rfl)
  cases e0 : qG a.1 b.1
  · simp +contextual -implicitDefEqProofs only [qModel, bne, Bool.not_true, Bool.not_false, Bool.true_and, Bool.false_and, Bool.and_true, Bool.and_false, eM, eG, eS, e0, go_sem, eI, eB, ↓reduceIte, Nat.reduceEqDiff, Nat.reduceAdd, Nat.reduceLeDiff, Nat.reduceMul, Nat.reduceBEq, Nat.reduceBneDiff, Nat.reduceLT, Nat.reduceSub, decide_true, decide_false, and_self, true_and, and_true, false_and, and_false, not_true_eq_false, not_false_eq_true, false_implies, true_implies, implies_true, ge_iff_le, Bool.false_eq_true, List.cons_append, List.nil_append]
  cases e1 : (a.2.1 == b.2.1)
  · simp +contextual -implicitDefEqProofs only [qModel, bne, Bool.not_true, Bool.not_false, Bool.true_and, Bool.false_and, Bool.and_true, Bool.and_false, eM, eG, eS, e0, e1, go_sem, eI, eB, ↓reduceIte, Nat.reduceEqDiff, Nat.reduceAdd, Nat.reduceLeDiff, Nat.reduceMul, Nat.reduceBEq, Nat.reduceBneDiff, Nat.reduceLT, Nat.reduceSub, decide_true, decide_false, and_self, true_and, and_true, false_and, and_false, not_true_eq_false, not_false_eq_true, false_implies, true_implies, implies_true, ge_iff_le, Bool.false_eq_true, List.cons_append, List.nil_append]
  simp +contextual -implicitDefEqProofs only [qModel, bne, Bool.not_true, Bool.not_false, Bool.true_and, Bool.false_and, Bool.and_true, Bool.and_false, eM, eG, eS, e0, e1, go_sem, eI, eB, ↓reduceIte, Nat.reduceEqDiff, Nat.reduceAdd, Nat.reduceLeDiff, Nat.reduceMul, Nat.reduceBEq, Nat.reduceBneDiff, Nat.reduceLT, Nat.reduceSub, decide_true, decide_false, and_self, true_and, and_true, false_and, and_false, not_true_eq_false, not_false_eq_true, false_implies, true_implies, implies_true, ge_iff_le, Bool.false_eq_true, List.cons_append, List.nil_append]
  refine callQ_self ?_ (famBoolSS.afQ a.2.2.1 b.2.2.1) ?_
  · first | exact rfl | (simp only [eE_eta]; exact rfl)
  cases e2 : famBoolSS.q a.2.2.1 b.2.2.1
  · simp +contextual -implicitDefEqProofs only [qModel, bne, Bool.not_true, Bool.not_false, Bool.true_and, Bool.false_and, Bool.and_true, Bool.and_false, eM, eG, eS, e0, e1, e2, go_sem, eI, eB, ↓reduceIte, Nat.reduceEqDiff, Nat.reduceAdd, Nat.reduceLeDiff, Nat.reduceMul, Nat.reduceBEq, Nat.reduceBneDiff, Nat.reduceLT, Nat.reduceSub, decide_true, decide_false, and_self, true_and, and_true, false_and, and_false, not_true_eq_false, not_false_eq_true, false_implies, true_implies, implies_true, ge_iff_le, Bool.false_eq_true, List.cons_append, List.nil_append]
  simp +contextual -implicitDefEqProofs only [qModel, bne, Bool.not_true, Bool.not_false, Bool.true_and, Bool.false_and, Bool.and_true, Bool.and_false, eM, eG, eS, e0, e1, e2, go_sem, eI, eB, ↓reduceIte, Nat.reduceEqDiff, Nat.reduceAdd, Nat.reduceLeDiff, Nat.reduceMul, Nat.reduceBEq, Nat.reduceBneDiff, Nat.reduceLT, Nat.reduceSub, decide_true, decide_false, and_self, true_and, and_true, false_and, and_false, not_true_eq_false, not_false_eq_true, false_implies, true_implies, implies_true, ge_iff_le, Bool.false_eq_true, List.cons_append, List.nil_append]
  refine callQ_self ?_ (famBoolSSS.afQ a.2.2.2 b.2.2.2) ?_
  · first | exact rfl | (simp only [eE_eta]; exact rfl)
  cases e3 : famBoolSSS.q a.2.2.2 b.2.2.2
  · simp +contextual -implicitDefEqProofs only [qModel, bne, Bool.not_true, Bool.not_false, Bool.true_and, Bool.false_and, Bool.and_true, Bool.and_false, eM, eG, eS, e0, e1, e2, e3, go_sem, eI, eB, ↓reduceIte, Nat.reduceEqDiff, Nat.reduceAdd, Nat.reduceLeDiff, Nat.reduceMul, Nat.reduceBEq, Nat.reduceBneDiff, Nat.reduceLT, Nat.reduceSub, decide_true, decide_false, and_self, true_and, and_true, false_and, and_false, not_true_eq_false, not_false_eq_true, false_implies, true_implies, implies_true, ge_iff_le, Bool.false_eq_true, List.cons_append, List.nil_append]
  · simp +contextual -implicitDefEqProofs only [qModel, bne, Bool.not_true, Bool.not_false, Bool.true_and, Bool.false_and, Bool.and_true, Bool.and_false, eM, eG, eS, e0, e1, e2, e3, go_sem, eI, eB, ↓reduceIte, Nat.reduceEqDiff, Nat.reduceAdd, Nat.reduceLeDiff, Nat.reduceMul, Nat.reduceBEq, Nat.reduceBneDiff, Nat.reduceLT, Nat.reduceSub, decide_true, decide_false, and_self, true_and, and_true, false_and, and_false, not_true_eq_false, not_false_eq_true, false_implies, true_implies, implies_true, ge_iff_le, Bool.false_eq_true, List.cons_append, List.nil_append]
theorem qModel_refl (m : Mo) : qModel m m = true := by simp [qModel, qG, famBoolSS.q_refl, famBoolSSS.q_refl]
noncomputable def famModel : Fam Try.prog eM 13 15 18 := ⟨szModel, tModel, qModel, fitModel, szModel_in, szModel_fit, qModel_refl, af13, af15, af18⟩
theorem famModel_t (x) : famModel.t x = tModel x := rfl
noncomputable def famExpr : Fam Try.prog eE 23 27 30 := famE mixed res23 res24 res27 res28 res30 res31
theorem famExpr_t (x) : famExpr.t x = tE x := rfl
noncomputable def szEquation (m : Eq2) : Int → Int := fun l => nx (famExpr.s m.1 l) (fun l => nx (famExpr.s m.2 l) (fun l => l))
def fitEquation (m : Eq2) : Prop := famExpr.fit m.1 ∧ famExpr.fit m.2
noncomputable def tEquation (m : Eq2) : Eq2 := (famExpr.t m.1, famExpr.t m.2)
noncomputable def qEquation (a b : Eq2) : Bool := (famExpr.q a.1 b.1 && famExpr.q a.2 b.2)
theorem szEquation_in (m : Eq2) (l : Int) (h1 : 0 ≤ l) (h2 : l ≤ 1048576) : -1 ≤ szEquation m l ∧ szEquation m l ≤ l := by
  refine in_tr (Int.le_refl l) (nx_in (famExpr.s_in m.1 l h1 (by omega)) h1 (by omega) fun y0 a0 b0 => ?_)
  refine in_tr b0 (nx_in (famExpr.s_in m.2 y0 a0 (by omega)) a0 (by omega) fun y1 a1 b1 => ?_)
  exact ⟨by omega, b1⟩
theorem szEquation_fit (m : Eq2) (l : Int) (h2 : l ≤ 1048576) (h1 : 0 ≤ l) (h : 0 ≤ szEquation m l) : fitEquation m := by
  obtain ⟨p0, h⟩ := nx_fit h
  have e0 := famExpr.s_fit m.1 l (by omega) h1 p0
  have b0 := famExpr.s_in m.1 l h1 (by omega)
  obtain ⟨p1, h⟩ := nx_fit h
  have e1 := famExpr.s_fit m.2 _ (by omega) p0 p1
  have b1 := famExpr.s_in m.2 (famExpr.s m.1 l) p0 (by omega)
  exact ⟨e0, e1⟩
theorem af64 (m : Eq2) (l : Int) (h1 : 0 ≤ l) (h2 : l ≤ 1048576) : AF Try.prog 64 [eQ m, eI l] (.own (eI (szEquation m l))) := by
  refine af_of_res res64 mixed rfl fun _ => ?_
  simp +contextual -implicitDefEqProofs only [rc64, eQ, go_sem, eI, eB, ↓reduceIte, Nat.reduceEqDiff, Nat.reduceAdd, Nat.reduceLeDiff, Nat.reduceMul, Nat.reduceBEq, Nat.reduceBneDiff, Nat.reduceLT, Nat.reduceSub, decide_true, decide_false, and_self, true_and, and_true, false_and, and_false, not_true_eq_false, not_false_eq_true, false_implies, true_implies, implies_true, ge_iff_le, Bool.false_eq_true, List.cons_append, List.nil_append]
  refine callQ_self ?_ (famExpr.afS m.1 l (by omega) (by omega)) ?_
  · first | exact rfl | (simp only [eE_eta]; exact rfl)
  simp +contextual -implicitDefEqProofs only [eQ, go_sem, eI, eB, ↓reduceIte, Nat.reduceEqDiff, Nat.reduceAdd, Nat.reduceLeDiff, Nat.reduceMul, Nat.reduceBEq, Nat.reduceBneDiff, Nat.reduceLT, Nat.reduceSub, decide_true, decide_false, and_self, true_and, and_true, false_and, and_false, not_true_eq_false, not_false_eq_true, false_implies, true_implies, implies_true, ge_iff_le, Bool.false_eq_true, List.cons_append, List.nil_append]
  have b0 := famExpr.s_in m.1 l (by omega) (by omega)
  refine ⟨fun h => D.Le.sc_eq (by simp only [szEquation]; rw [nx_neg h]), fun g0 => ?_⟩
  refine callQ_self ?_ (famExpr.afS m.2 (famExpr.s m.1 l) (by omega) (by omega)) ?_
  · first | exact rfl | (simp only [eE_eta]; exact rfl)
  simp +contextual -implicitDefEqProofs only [eQ, go_sem, eI, eB, ↓reduceIte, Nat.reduceEqDiff, Nat.reduceAdd, Nat.reduceLeDiff, Nat.reduceMul, Nat.reduceBEq, Nat.reduceBneDiff, Nat.reduceLT, Nat.reduceSub, decide_true, decide_false, and_self, true_and, and_true, false_and, and_false, not_true_eq_false, not_false_eq_true, false_implies, true_implies, implies_true, ge_iff_le, Bool.false_eq_true, List.cons_append, List.nil_append]
  have b1 := famExpr.s_in m.2 (famExpr.s m.1 l) (by omega) (by omega)
  refine ⟨fun h => D.Le.sc_eq (by simp only [szEquation]; rw [nx_pos g0, nx_neg h]), fun g1 => ?_⟩
  exact D.Le.sc_eq (by simp only [szEquation]; rw [nx_pos g0, nx_pos g1])
theorem af66 (m : Eq2) (h : fitEquation m) : AF Try.prog 66 [eQ m] (.own (eQ (tEquation m))) := by
  refine af_of_res res66 mixed rfl fun _ => ?_
  simp +contextual -implicitDefEqProofs only [rc66, eQ, tEquation, famExpr_t, famExpr_t, eE_te, tE_k, tE_n, tE_nn, tE_ks, go_sem, eI, eB, ↓reduceIte, Nat.reduceEqDiff, Nat.reduceAdd, Nat.reduceLeDiff, Nat.reduceMul, Nat.reduceBEq, Nat.reduceBneDiff, Nat.reduceLT, Nat.reduceSub, decide_true, decide_false, and_self, true_and, and_true, false_and, and_false, not_true_eq_false, not_false_eq_true, false_implies, true_implies, implies_true, ge_iff_le, Bool.false_eq_true, List.cons_append, List.nil_append]
  refine callQ_self ?_ (famExpr.afT m.1 h.1) ?_
  · first | exact rfl | (simp only [eE_eta]; exact rfl)
  simp +contextual -implicitDefEqProofs only [eQ, tEquation, famExpr_t, famExpr_t, eE_te, tE_k, tE_n, tE_nn, tE_ks, go_sem, eI, eB, ↓reduceIte, Nat.reduceEqDiff, Nat.reduceAdd, Nat.reduceLeDiff, Nat.reduceMul, Nat.reduceBEq, Nat.reduceBneDiff, Nat.reduceLT, Nat.reduceSub, decide_true, decide_false, and_self, true_and, and_true, false_and, and_false, not_true_eq_false, not_false_eq_true, false_implies, true_implies, implies_true, ge_iff_le, Bool.false_eq_true, List.cons_append, List.nil_append]
  refine callQ_self ?_ (famExpr.afT m.2 h.2) ?_
  · first | exact rfl | (simp only [eE_eta]; exact rfl)
  simp +contextual -implicitDefEqProofs only [eQ, tEquation, famExpr_t, famExpr_t, eE_te, tE_k, tE_n, tE_nn, tE_ks, go_sem, eI, eB, ↓reduceIte, Nat.reduceEqDiff, Nat.reduceAdd, Nat.reduceLeDiff, Nat.reduceMul, Nat.reduceBEq, Nat.reduceBneDiff, Nat.reduceLT, Nat.reduceSub, decide_true, decide_false, and_self, true_and, and_true, false_and, and_false, not_true_eq_false, not_false_eq_true, false_implies, true_implies, implies_true, ge_iff_le, Bool.false_eq_true, List.cons_append, List.nil_append]
theorem af68 (a b : Eq2) : AF Try.prog 68 [eQ a, eQ b] (.own (eB (qEquation a b))) := by
  refine af_of_res res68 mixed rfl fun _ => ?_
  simp +contextual -implicitDefEqProofs only [rc68, qEquation, bne, Bool.not_true, Bool.not_false, Bool.true_and, Bool.false_and, Bool.and_true, Bool.and_false, eQ, go_sem, eI, eB, ↓reduceIte, Nat.reduceEqDiff, Nat.reduceAdd, Nat.reduceLeDiff, Nat.reduceMul, Nat.reduceBEq, Nat.reduceBneDiff, Nat.reduceLT, Nat.reduceSub, decide_true, decide_false, and_self, true_and, and_true, false_and, and_false, not_true_eq_false, not_false_eq_true, false_implies, true_implies, implies_true, ge_iff_le, Bool.false_eq_true, List.cons_append, List.nil_append]
  refine callQ_self ?_ (famExpr.afQ a.1 b.1) ?_
  · first | exact rfl | (simp only [eE_eta]; exact rfl)
  cases e0 : famExpr.q a.1 b.1
  · simp +contextual -implicitDefEqProofs only [qEquation, bne, Bool.not_true, Bool.not_false, Bool.true_and, Bool.false_and, Bool.and_true, Bool.and_false, eQ, e0, go_sem, eI, eB, ↓reduceIte, Nat.reduceEqDiff, Nat.reduceAdd, Nat.reduceLeDiff, Nat.reduceMul, Nat.reduceBEq, Nat.reduceBneDiff, Nat.reduceLT, Nat.reduceSub, decide_true, decide_false, and_self, true_and, and_true, false_and, and_false, not_true_eq_false, not_false_eq_true, false_implies, true_implies, implies_true, ge_iff_le, Bool.false_eq_true, List.cons_append, List.nil_append]
  simp +contextual -implicitDefEqProofs only [qEquation, bne, Bool.not_true, Bool.not_false, Bool.true_and, Bool.false_and, Bool.and_true, Bool.and_false, eQ, e0, go_sem, eI, eB, ↓reduceIte, Nat.reduceEqDiff, Nat.reduceAdd, Nat.reduceLeDiff, Nat.reduceMul, Nat.reduceBEq, Nat.reduceBneDiff, Nat.reduceLT, Nat.reduceSub, decide_true, decide_false, and_self, true_and, and_true, false_and, and_false, not_true_eq_false, not_false_eq_true, false_implies, true_implies, implies_true, ge_iff_le, Bool.false_eq_true, List.cons_append, List.nil_append]
  refine callQ_self ?_ (famExpr.afQ a.2 b.2) ?_
  · first | exact rfl | (simp only [eE_eta]; exact rfl)
  cases e1 : famExpr.q a.2 b.2
  · simp +contextual -implicitDefEqProofs only [qEquation, bne, Bool.not_true, Bool.not_false, Bool.true_and, Bool.false_and, Bool.and_true, Bool.and_false, eQ, e0, e1, go_sem, eI, eB, ↓reduceIte, Nat.reduceEqDiff, Nat.reduceAdd, Nat.reduceLeDiff, Nat.reduceMul, Nat.reduceBEq, Nat.reduceBneDiff, Nat.reduceLT, Nat.reduceSub, decide_true, decide_false, and_self, true_and, and_true, false_and, and_false, not_true_eq_false, not_false_eq_true, false_implies, true_implies, implies_true, ge_iff_le, Bool.false_eq_true, List.cons_append, List.nil_append]
  · simp +contextual -implicitDefEqProofs only [qEquation, bne, Bool.not_true, Bool.not_false, Bool.true_and, Bool.false_and, Bool.and_true, Bool.and_false, eQ, e0, e1, go_sem, eI, eB, ↓reduceIte, Nat.reduceEqDiff, Nat.reduceAdd, Nat.reduceLeDiff, Nat.reduceMul, Nat.reduceBEq, Nat.reduceBneDiff, Nat.reduceLT, Nat.reduceSub, decide_true, decide_false, and_self, true_and, and_true, false_and, and_false, not_true_eq_false, not_false_eq_true, false_implies, true_implies, implies_true, ge_iff_le, Bool.false_eq_true, List.cons_append, List.nil_append]
theorem qEquation_refl (m : Eq2) : qEquation m m = true := by simp [qEquation, famExpr.q_refl, famExpr.q_refl]
noncomputable def famEquation : Fam Try.prog eQ 64 66 68 := ⟨szEquation, tEquation, qEquation, fitEquation, szEquation_in, szEquation_fit, qEquation_refl, af64, af66, af68⟩
theorem famEquation_t (x) : famEquation.t x = tEquation x := rfl
theorem law (m : Mo) (q : Eq2) : AF Try.prog 10 [eM m, eQ q] (.own (eB true)) := by
  refine af_of_res res10 mixed rfl fun hbd => ?_
  simp +contextual -implicitDefEqProofs only [rc10, eM, eG, eS, eI, eB, eQ, famModel_t, tModel, famBoolSS_t, famBoolSSS_t, famEquation_t, tEquation, famExpr_t, tE_k, tE_n, tE_nn, tE_ks, bne_self_eq_false, go_sem, eI, eB, ↓reduceIte, Nat.reduceEqDiff, Nat.reduceAdd, Nat.reduceLeDiff, Nat.reduceMul, Nat.reduceBEq, Nat.reduceBneDiff, Nat.reduceLT, Nat.reduceSub, decide_true, decide_false, and_self, true_and, and_true, false_and, and_false, not_true_eq_false, not_false_eq_true, false_implies, true_implies, implies_true, ge_iff_le, Bool.false_eq_true, List.cons_append, List.nil_append]
  refine callQ_self (ds := [eM m, eI 1048576]) ?_ (famModel.afS m 1048576 (by omega) (by omega)) ?_
  · simp only [eM, eG, eS, eI, eB, eQ, famModel_t, tModel, famBoolSS_t, famBoolSSS_t, famEquation_t, tEquation, famExpr_t, tE_k, tE_n, tE_nn, tE_ks, bne_self_eq_false]; exact rfl
  simp +contextual -implicitDefEqProofs only [eM, eG, eS, eI, eB, eQ, famModel_t, tModel, famBoolSS_t, famBoolSSS_t, famEquation_t, tEquation, famExpr_t, tE_k, tE_n, tE_nn, tE_ks, bne_self_eq_false, go_sem, eI, eB, ↓reduceIte, Nat.reduceEqDiff, Nat.reduceAdd, Nat.reduceLeDiff, Nat.reduceMul, Nat.reduceBEq, Nat.reduceBneDiff, Nat.reduceLT, Nat.reduceSub, decide_true, decide_false, and_self, true_and, and_true, false_and, and_false, not_true_eq_false, not_false_eq_true, false_implies, true_implies, implies_true, ge_iff_le, Bool.false_eq_true, List.cons_append, List.nil_append]
  have sb0 := famModel.s_in m 1048576 (by omega) (by omega)
  refine fun hs0 => ?_
  have hf0 := famModel.s_fit m 1048576 (by omega) (by omega) (by omega)
  refine callQ_self (ds := [eQ q, eI (famModel.s m 1048576)]) ?_ (famEquation.afS q (famModel.s m 1048576) (by omega) (by omega)) ?_
  · simp only [eM, eG, eS, eI, eB, eQ, famModel_t, tModel, famBoolSS_t, famBoolSSS_t, famEquation_t, tEquation, famExpr_t, tE_k, tE_n, tE_nn, tE_ks, bne_self_eq_false]; exact rfl
  simp +contextual -implicitDefEqProofs only [eM, eG, eS, eI, eB, eQ, famModel_t, tModel, famBoolSS_t, famBoolSSS_t, famEquation_t, tEquation, famExpr_t, tE_k, tE_n, tE_nn, tE_ks, bne_self_eq_false, go_sem, eI, eB, ↓reduceIte, Nat.reduceEqDiff, Nat.reduceAdd, Nat.reduceLeDiff, Nat.reduceMul, Nat.reduceBEq, Nat.reduceBneDiff, Nat.reduceLT, Nat.reduceSub, decide_true, decide_false, and_self, true_and, and_true, false_and, and_false, not_true_eq_false, not_false_eq_true, false_implies, true_implies, implies_true, ge_iff_le, Bool.false_eq_true, List.cons_append, List.nil_append]
  have sb1 := famEquation.s_in q (famModel.s m 1048576) (by omega) (by omega)
  refine fun hs1 => ?_
  have hf1 := famEquation.s_fit q (famModel.s m 1048576) (by omega) (by omega) (by omega)
  refine callQ_self (ds := [eM m]) ?_ (famModel.afT m hf0) ?_
  · simp only [eM, eG, eS, eI, eB, eQ, famModel_t, tModel, famBoolSS_t, famBoolSSS_t, famEquation_t, tEquation, famExpr_t, tE_k, tE_n, tE_nn, tE_ks, bne_self_eq_false]; exact rfl
  simp +contextual -implicitDefEqProofs only [eM, eG, eS, eI, eB, eQ, famModel_t, tModel, famBoolSS_t, famBoolSSS_t, famEquation_t, tEquation, famExpr_t, tE_k, tE_n, tE_nn, tE_ks, bne_self_eq_false, go_sem, eI, eB, ↓reduceIte, Nat.reduceEqDiff, Nat.reduceAdd, Nat.reduceLeDiff, Nat.reduceMul, Nat.reduceBEq, Nat.reduceBneDiff, Nat.reduceLT, Nat.reduceSub, decide_true, decide_false, and_self, true_and, and_true, false_and, and_false, not_true_eq_false, not_false_eq_true, false_implies, true_implies, implies_true, ge_iff_le, Bool.false_eq_true, List.cons_append, List.nil_append]
  refine callQ_self (ds := [eQ q]) ?_ (famEquation.afT q hf1) ?_
  · simp only [eM, eG, eS, eI, eB, eQ, famModel_t, tModel, famBoolSS_t, famBoolSSS_t, famEquation_t, tEquation, famExpr_t, tE_k, tE_n, tE_nn, tE_ks, bne_self_eq_false]; exact rfl
  simp +contextual -implicitDefEqProofs only [eM, eG, eS, eI, eB, eQ, famModel_t, tModel, famBoolSS_t, famBoolSSS_t, famEquation_t, tEquation, famExpr_t, tE_k, tE_n, tE_nn, tE_ks, bne_self_eq_false, go_sem, eI, eB, ↓reduceIte, Nat.reduceEqDiff, Nat.reduceAdd, Nat.reduceLeDiff, Nat.reduceMul, Nat.reduceBEq, Nat.reduceBneDiff, Nat.reduceLT, Nat.reduceSub, decide_true, decide_false, and_self, true_and, and_true, false_and, and_false, not_true_eq_false, not_false_eq_true, false_implies, true_implies, implies_true, ge_iff_le, Bool.false_eq_true, List.cons_append, List.nil_append]
  have hsp := af65 (famModel.t m) (famEquation.t q)
  have him := af67 (famModel.t m) (famEquation.t q)
  have hqM := famModel.afQ (famModel.t m) (famModel.t m)
  rw [famModel.q_refl] at hqM
  have hqQ := famEquation.afQ (famEquation.t q) (famEquation.t q)
  rw [famEquation.q_refl] at hqQ
  generalize firstR (famModel.t m) (famEquation.t q) = r at hsp him
  obtain ⟨r1, r2, r3, r4⟩ := r
  simp only at hsp him
  refine callQ_self (ds := [eM (famModel.t m), eQ (famEquation.t q)]) ?_ (hsp) ?_
  · simp only [eM, eG, eS, eI, eB, eQ, famModel_t, tModel, famBoolSS_t, famBoolSSS_t, famEquation_t, tEquation, famExpr_t, tE_k, tE_n, tE_nn, tE_ks, bne_self_eq_false]; exact rfl
  simp +contextual -implicitDefEqProofs only [eM, eG, eS, eI, eB, eQ, famModel_t, tModel, famBoolSS_t, famBoolSSS_t, famEquation_t, tEquation, famExpr_t, tE_k, tE_n, tE_nn, tE_ks, bne_self_eq_false, go_sem, eI, eB, ↓reduceIte, Nat.reduceEqDiff, Nat.reduceAdd, Nat.reduceLeDiff, Nat.reduceMul, Nat.reduceBEq, Nat.reduceBneDiff, Nat.reduceLT, Nat.reduceSub, decide_true, decide_false, and_self, true_and, and_true, false_and, and_false, not_true_eq_false, not_false_eq_true, false_implies, true_implies, implies_true, ge_iff_le, Bool.false_eq_true, List.cons_append, List.nil_append]
  refine callQ_self (ds := [eM m]) ?_ (famModel.afT m hf0) ?_
  · simp only [eM, eG, eS, eI, eB, eQ, famModel_t, tModel, famBoolSS_t, famBoolSSS_t, famEquation_t, tEquation, famExpr_t, tE_k, tE_n, tE_nn, tE_ks, bne_self_eq_false]; exact rfl
  simp +contextual -implicitDefEqProofs only [eM, eG, eS, eI, eB, eQ, famModel_t, tModel, famBoolSS_t, famBoolSSS_t, famEquation_t, tEquation, famExpr_t, tE_k, tE_n, tE_nn, tE_ks, bne_self_eq_false, go_sem, eI, eB, ↓reduceIte, Nat.reduceEqDiff, Nat.reduceAdd, Nat.reduceLeDiff, Nat.reduceMul, Nat.reduceBEq, Nat.reduceBneDiff, Nat.reduceLT, Nat.reduceSub, decide_true, decide_false, and_self, true_and, and_true, false_and, and_false, not_true_eq_false, not_false_eq_true, false_implies, true_implies, implies_true, ge_iff_le, Bool.false_eq_true, List.cons_append, List.nil_append]
  refine callQ_self (ds := [eQ q]) ?_ (famEquation.afT q hf1) ?_
  · simp only [eM, eG, eS, eI, eB, eQ, famModel_t, tModel, famBoolSS_t, famBoolSSS_t, famEquation_t, tEquation, famExpr_t, tE_k, tE_n, tE_nn, tE_ks, bne_self_eq_false]; exact rfl
  simp +contextual -implicitDefEqProofs only [eM, eG, eS, eI, eB, eQ, famModel_t, tModel, famBoolSS_t, famBoolSSS_t, famEquation_t, tEquation, famExpr_t, tE_k, tE_n, tE_nn, tE_ks, bne_self_eq_false, go_sem, eI, eB, ↓reduceIte, Nat.reduceEqDiff, Nat.reduceAdd, Nat.reduceLeDiff, Nat.reduceMul, Nat.reduceBEq, Nat.reduceBneDiff, Nat.reduceLT, Nat.reduceSub, decide_true, decide_false, and_self, true_and, and_true, false_and, and_false, not_true_eq_false, not_false_eq_true, false_implies, true_implies, implies_true, ge_iff_le, Bool.false_eq_true, List.cons_append, List.nil_append]
  refine callQ_self (ds := [eM (famModel.t m), eQ (famEquation.t q)]) ?_ (him) ?_
  · simp only [eM, eG, eS, eI, eB, eQ, famModel_t, tModel, famBoolSS_t, famBoolSSS_t, famEquation_t, tEquation, famExpr_t, tE_k, tE_n, tE_nn, tE_ks, bne_self_eq_false]; exact rfl
  simp +contextual -implicitDefEqProofs only [eM, eG, eS, eI, eB, eQ, famModel_t, tModel, famBoolSS_t, famBoolSSS_t, famEquation_t, tEquation, famExpr_t, tE_k, tE_n, tE_nn, tE_ks, bne_self_eq_false, go_sem, eI, eB, ↓reduceIte, Nat.reduceEqDiff, Nat.reduceAdd, Nat.reduceLeDiff, Nat.reduceMul, Nat.reduceBEq, Nat.reduceBneDiff, Nat.reduceLT, Nat.reduceSub, decide_true, decide_false, and_self, true_and, and_true, false_and, and_false, not_true_eq_false, not_false_eq_true, false_implies, true_implies, implies_true, ge_iff_le, Bool.false_eq_true, List.cons_append, List.nil_append]
  refine callQ_self (ds := [eM m]) ?_ (famModel.afT m hf0) ?_
  · simp only [eM, eG, eS, eI, eB, eQ, famModel_t, tModel, famBoolSS_t, famBoolSSS_t, famEquation_t, tEquation, famExpr_t, tE_k, tE_n, tE_nn, tE_ks, bne_self_eq_false]; exact rfl
  simp +contextual -implicitDefEqProofs only [eM, eG, eS, eI, eB, eQ, famModel_t, tModel, famBoolSS_t, famBoolSSS_t, famEquation_t, tEquation, famExpr_t, tE_k, tE_n, tE_nn, tE_ks, bne_self_eq_false, go_sem, eI, eB, ↓reduceIte, Nat.reduceEqDiff, Nat.reduceAdd, Nat.reduceLeDiff, Nat.reduceMul, Nat.reduceBEq, Nat.reduceBneDiff, Nat.reduceLT, Nat.reduceSub, decide_true, decide_false, and_self, true_and, and_true, false_and, and_false, not_true_eq_false, not_false_eq_true, false_implies, true_implies, implies_true, ge_iff_le, Bool.false_eq_true, List.cons_append, List.nil_append]
  refine callQ_self (ds := [eM (famModel.t m), eM (famModel.t m)]) ?_ (hqM) ?_
  · simp only [eM, eG, eS, eI, eB, eQ, famModel_t, tModel, famBoolSS_t, famBoolSSS_t, famEquation_t, tEquation, famExpr_t, tE_k, tE_n, tE_nn, tE_ks, bne_self_eq_false]; exact rfl
  simp +contextual -implicitDefEqProofs only [Bool.not_true, eM, eG, eS, eI, eB, eQ, famModel_t, tModel, famBoolSS_t, famBoolSSS_t, famEquation_t, tEquation, famExpr_t, tE_k, tE_n, tE_nn, tE_ks, bne_self_eq_false, go_sem, eI, eB, ↓reduceIte, Nat.reduceEqDiff, Nat.reduceAdd, Nat.reduceLeDiff, Nat.reduceMul, Nat.reduceBEq, Nat.reduceBneDiff, Nat.reduceLT, Nat.reduceSub, decide_true, decide_false, and_self, true_and, and_true, false_and, and_false, not_true_eq_false, not_false_eq_true, false_implies, true_implies, implies_true, ge_iff_le, Bool.false_eq_true, List.cons_append, List.nil_append]
  refine callQ_self (ds := [eQ q]) ?_ (famEquation.afT q hf1) ?_
  · simp only [eM, eG, eS, eI, eB, eQ, famModel_t, tModel, famBoolSS_t, famBoolSSS_t, famEquation_t, tEquation, famExpr_t, tE_k, tE_n, tE_nn, tE_ks, bne_self_eq_false]; exact rfl
  simp +contextual -implicitDefEqProofs only [eM, eG, eS, eI, eB, eQ, famModel_t, tModel, famBoolSS_t, famBoolSSS_t, famEquation_t, tEquation, famExpr_t, tE_k, tE_n, tE_nn, tE_ks, bne_self_eq_false, go_sem, eI, eB, ↓reduceIte, Nat.reduceEqDiff, Nat.reduceAdd, Nat.reduceLeDiff, Nat.reduceMul, Nat.reduceBEq, Nat.reduceBneDiff, Nat.reduceLT, Nat.reduceSub, decide_true, decide_false, and_self, true_and, and_true, false_and, and_false, not_true_eq_false, not_false_eq_true, false_implies, true_implies, implies_true, ge_iff_le, Bool.false_eq_true, List.cons_append, List.nil_append]
  refine callQ_self (ds := [eQ (famEquation.t q), eQ (famEquation.t q)]) ?_ (hqQ) ?_
  · simp only [eM, eG, eS, eI, eB, eQ, famModel_t, tModel, famBoolSS_t, famBoolSSS_t, famEquation_t, tEquation, famExpr_t, tE_k, tE_n, tE_nn, tE_ks, bne_self_eq_false]; exact rfl
  simp +contextual -implicitDefEqProofs only [Bool.not_true, eM, eG, eS, eI, eB, eQ, famModel_t, tModel, famBoolSS_t, famBoolSSS_t, famEquation_t, tEquation, famExpr_t, tE_k, tE_n, tE_nn, tE_ks, bne_self_eq_false, go_sem, eI, eB, ↓reduceIte, Nat.reduceEqDiff, Nat.reduceAdd, Nat.reduceLeDiff, Nat.reduceMul, Nat.reduceBEq, Nat.reduceBneDiff, Nat.reduceLT, Nat.reduceSub, decide_true, decide_false, and_self, true_and, and_true, false_and, and_false, not_true_eq_false, not_false_eq_true, false_implies, true_implies, implies_true, ge_iff_le, Bool.false_eq_true, List.cons_append, List.nil_append]
end Go.Ax
