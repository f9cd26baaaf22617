/- Contracts of functions of the seat, proved over the engine. No condition. -/
import Derived.Test.YtbnlielpckndkaaX48
import Derived.Test.YtbnlielpckndkaaAxI
import Derived.Test.YtbnlielpckndkaaChecked
set_option linter.unusedSimpArgs false
set_option linter.unusedVariables false
set_option linter.unnecessarySimpa false
namespace Go.Ax
open Go.Proofs
set_option linter.unusedSimpArgs false
theorem mixed : Try.prog.follows .mixedOrders = true := by kernel_rfl
theorem res148 : resF Try.prog 148 = some (12, cSzP, [.t 4]) := by kernel_rfl
theorem res73 : resF Try.prog 73 = some (27, cSzC 148 1 false, [.t 4]) := by kernel_rfl
theorem res74 : resF Try.prog 74 = some (27, cSzC 73 1 false, [.t 4]) := by kernel_rfl

def rc13 : RC :=
 (.seq
  (.reg false [⟨none, .box 2 5 (.t 0)⟩,
    ⟨none, .mv 4 (.c (.sc (.int .i64 0)))⟩])
  ((.seq
   (.reg false [⟨none, .fa 5 3 (.t 2)⟩,
     ⟨none, .ld 6 false 1 (.t 5)⟩,
     ⟨none, .mv 7 (.t 1)⟩,
     ⟨none, .call (some 8) 73 [(.t 6), (.t 7)]⟩,
     ⟨none, .mv 1 (.t 8)⟩])
   ((.seq
    ((.seq
     (.reg false [⟨none, .mv 9 (.t 1)⟩,
       ⟨none, .bin 10 .lss (.t 9) (.c (.sc (.int .i64 0)))⟩])
     (.cond (.t 10)
      ((.seq
       (.reg false [⟨none, .mv 4 (.c (.sc (.int .i64 (-1))))⟩])
       (.ret)))
      (.skip))))
    ((.seq
     (.reg false [⟨none, .fa 11 4 (.t 2)⟩,
       ⟨none, .ld 12 false 1 (.t 11)⟩,
       ⟨none, .mv 13 (.t 1)⟩,
       ⟨none, .call (some 14) 74 [(.t 12), (.t 13)]⟩,
       ⟨none, .mv 1 (.t 14)⟩])
     ((.seq
      ((.seq
       (.reg false [⟨none, .mv 15 (.t 1)⟩,
         ⟨none, .bin 16 .lss (.t 15) (.c (.sc (.int .i64 0)))⟩])
       (.cond (.t 16)
        ((.seq
         (.reg false [⟨none, .mv 4 (.c (.sc (.int .i64 (-1))))⟩])
         (.ret)))
        (.skip))))
      ((.seq
       (.reg false [⟨none, .mv 17 (.t 1)⟩,
         ⟨none, .mv 4 (.t 17)⟩])
       (.ret))))))))))))
theorem res13 : resF Try.prog 13 = some (18, rc13, [.t 4]) := by kernel_rfl
theorem res106 : resF Try.prog 106 = some (12, cSzP, [.t 4]) := by kernel_rfl

def rc38 : RC :=
 (.seq
  (.reg false [⟨none, .box 2 2 (.t 0)⟩,
    ⟨none, .mv 4 (.c (.sc (.int .i64 0)))⟩])
  ((.seq
   (.reg false [⟨none, .fa 5 0 (.t 2)⟩,
     ⟨none, .ld 6 false 1 (.t 5)⟩,
     ⟨none, .mv 7 (.t 1)⟩,
     ⟨none, .call (some 8) 106 [(.t 6), (.t 7)]⟩,
     ⟨none, .mv 1 (.t 8)⟩])
   ((.seq
    ((.seq
     (.reg false [⟨none, .mv 9 (.t 1)⟩,
       ⟨none, .bin 10 .lss (.t 9) (.c (.sc (.int .i64 0)))⟩])
     (.cond (.t 10)
      ((.seq
       (.reg false [⟨none, .mv 4 (.c (.sc (.int .i64 (-1))))⟩])
       (.ret)))
      (.skip))))
    ((.seq
     (.reg false [⟨none, .fa 11 1 (.t 2)⟩,
       ⟨none, .ld 12 false 1 (.t 11)⟩,
       ⟨none, .mv 13 (.t 1)⟩,
       ⟨none, .call (some 14) 106 [(.t 12), (.t 13)]⟩,
       ⟨none, .mv 1 (.t 14)⟩])
     ((.seq
      ((.seq
       (.reg false [⟨none, .mv 15 (.t 1)⟩,
         ⟨none, .bin 16 .lss (.t 15) (.c (.sc (.int .i64 0)))⟩])
       (.cond (.t 16)
        ((.seq
         (.reg false [⟨none, .mv 4 (.c (.sc (.int .i64 (-1))))⟩])
         (.ret)))
        (.skip))))
      ((.seq
       (.reg false [⟨none, .mv 17 (.t 1)⟩,
         ⟨none, .mv 4 (.t 17)⟩])
       (.ret))))))))))))
theorem res38 : resF Try.prog 38 = some (18, rc38, [.t 4]) := by kernel_rfl
theorem res26 : resF Try.prog 26 = some (11, k_toSig, [.c 2 2 true]) := by kernel_rfl
theorem af26 : K_toSig Try.prog 26 := a_toSig mixed res26
theorem res151 : resF Try.prog 151 = some (22, cToS 1 (.sc (.bool false)), [.t 2]) := by kernel_rfl
theorem res78 : resF Try.prog 78 = some (23, cToC 151 1 24 false (.ls (some true) 1 []), [.t 2]) := by kernel_rfl
theorem res79 : resF Try.prog 79 = some (23, cToC 78 1 24 false (.ls (some true) 1 []), [.t 2]) := by kernel_rfl

def rc15 : RC :=
 (.seq
  (.reg false [⟨none, .box 1 5 (.t 0)⟩,
    ⟨none, .zer 2 5 (.ag [(.sc (.int .i64 0)), (.sc (.int .i64 0)), (.sc (.int .i64 0)), (.ls (some true) 1 []), (.ls (some true) 1 [])])⟩])
  ((.seq
   (.reg false [⟨none, .zer 3 5 (.ag [(.sc (.int .i64 0)), (.sc (.int .i64 0)), (.sc (.int .i64 0)), (.ls (some true) 1 []), (.ls (some true) 1 [])])⟩])
   ((.seq
    (.reg false [⟨none, .fa 4 0 (.t 1)⟩,
      ⟨none, .ld 5 true 2 (.t 4)⟩,
      ⟨none, .call (some 6) 26 [(.t 5)]⟩,
      ⟨none, .fa 7 0 (.t 3)⟩,
      ⟨none, .st 2 (.t 7) (.t 6)⟩])
    ((.seq
     (.reg false [⟨none, .fa 8 2 (.t 1)⟩,
       ⟨none, .ld 9 false 1 (.t 8)⟩,
       ⟨none, .fa 10 2 (.t 3)⟩,
       ⟨none, .st 1 (.t 10) (.t 9)⟩])
     ((.seq
      (.reg false [⟨none, .fa 11 3 (.t 1)⟩,
        ⟨none, .ld 12 false 1 (.t 11)⟩,
        ⟨none, .call (some 13) 78 [(.t 12)]⟩,
        ⟨none, .fa 14 3 (.t 3)⟩,
        ⟨none, .st 1 (.t 14) (.t 13)⟩])
      ((.seq
       (.reg false [⟨none, .fa 15 4 (.t 1)⟩,
         ⟨none, .ld 16 false 1 (.t 15)⟩,
         ⟨none, .call (some 17) 79 [(.t 16)]⟩,
         ⟨none, .fa 18 4 (.t 3)⟩,
         ⟨none, .st 1 (.t 18) (.t 17)⟩])
       ((.seq
        (.reg false [⟨none, .ld 19 true 5 (.t 3)⟩,
          ⟨none, .st 5 (.t 2) (.t 19)⟩])
        (.ret))))))))))))))
theorem res15 : resF Try.prog 15 = some (20, rc15, [.c 2 5 true]) := by kernel_rfl
theorem res16 : resF Try.prog 16 = some (22, cToS 8 (.sc (.int .i64 0)), [.t 2]) := by kernel_rfl

def rc40 : RC :=
 (.seq
  (.reg false [⟨none, .box 1 2 (.t 0)⟩,
    ⟨none, .zer 2 2 (.ag [(.ls (some true) 1 []), (.ls (some true) 1 [])])⟩])
  ((.seq
   (.reg false [⟨none, .zer 3 2 (.ag [(.ls (some true) 1 []), (.ls (some true) 1 [])])⟩])
   ((.seq
    (.reg false [⟨none, .fa 4 0 (.t 1)⟩,
      ⟨none, .ld 5 false 1 (.t 4)⟩,
      ⟨none, .call (some 6) 16 [(.t 5)]⟩,
      ⟨none, .fa 7 0 (.t 3)⟩,
      ⟨none, .st 1 (.t 7) (.t 6)⟩])
    ((.seq
     (.reg false [⟨none, .fa 8 1 (.t 1)⟩,
       ⟨none, .ld 9 false 1 (.t 8)⟩,
       ⟨none, .call (some 10) 16 [(.t 9)]⟩,
       ⟨none, .fa 11 1 (.t 3)⟩,
       ⟨none, .st 1 (.t 11) (.t 10)⟩])
     ((.seq
      (.reg false [⟨none, .ld 12 true 2 (.t 3)⟩,
        ⟨none, .st 2 (.t 2) (.t 12)⟩])
      (.ret))))))))))
theorem res40 : resF Try.prog 40 = some (13, rc40, [.c 2 2 true]) := by kernel_rfl
theorem res150 : resF Try.prog 150 = some (15, k_l00In, [.t 6]) := by kernel_rfl
theorem af150 : K_l00In Try.prog 150 := a_l00In mixed res150
theorem res87 : resF Try.prog 87 = some (11, k_l01Sig 150, [.t 2]) := by kernel_rfl
theorem af87 : K_l01Sig Try.prog 87 := a_l01Sig mixed res87 af150
theorem res149 : resF Try.prog 149 = some (36, k_l05Tests 87 150, [.t 6]) := by kernel_rfl
theorem af149 : K_l05Tests Try.prog 149 := a_l05Tests mixed res149 af87 af150
theorem res75 : resF Try.prog 75 = some (82, k_l05Ok 149, [.t 2]) := by kernel_rfl
theorem af75 : K_l05Ok Try.prog 75 := a_l05Ok mixed res75 af149
theorem res170 : resF Try.prog 170 = some (7, k_l01Atoms, [.t 2]) := by kernel_rfl
theorem af170 : K_l01Atoms Try.prog 170 := a_l01Atoms mixed res170
theorem res107 : resF Try.prog 107 = some (74, k_l01Word 87 170 150, [.t 4]) := by kernel_rfl
theorem af107 : K_l01Word Try.prog 107 := a_l01Word mixed res107 af87 af170 af150
theorem res108 : resF Try.prog 108 = some (17, k_l05None, [.t 2]) := by kernel_rfl
theorem af108 : K_l05None Try.prog 108 := a_l05None mixed res108
theorem res109 : resF Try.prog 109 = some (26, k_l05Atom, [.t 4]) := by kernel_rfl
theorem af109 : K_l05Atom Try.prog 109 := a_l05Atom mixed res109
theorem res110 : resF Try.prog 110 = some (62, k_l05Dot 108, [.t 4]) := by kernel_rfl
theorem af110 : K_l05Dot Try.prog 110 := a_l05Dot mixed res110 af108
theorem res39 : resF Try.prog 39 = some (101, k_spRunsOf 75 107 108 109 110, [.t 4, .t 5]) := by kernel_rfl
theorem af39 : K_spRunsOf Try.prog 39 := a_spRunsOf mixed res39 af75 af107 af108 af109 af110
theorem res139 : resF Try.prog 139 = some (15, k_within, [.t 6]) := by kernel_rfl
theorem af139 : K_within Try.prog 139 := a_within mixed res139
theorem res95 : resF Try.prog 95 = some (11, k_validSig 139, [.t 2]) := by kernel_rfl
theorem af95 : K_validSig Try.prog 95 := a_validSig mixed res95 af139
theorem res199 : resF Try.prog 199 = some (24, k_isTableB, [.t 6]) := by kernel_rfl
theorem af199 : K_isTableB Try.prog 199 := a_isTableB mixed res199
theorem res152 : resF Try.prog 152 = some (46, k_isFrameB 95 139 199, [.t 8]) := by kernel_rfl
theorem af152 : K_isFrameB Try.prog 152 := a_isFrameB mixed res152 af95 af139 af199
theorem res80 : resF Try.prog 80 = some (12, k_validModel 152, [.t 2]) := by kernel_rfl
theorem af80 : K_validModel Try.prog 80 := a_validModel mixed res80 af152
theorem res205 : resF Try.prog 205 = some (6, k_atomsIn, [.t 2]) := by kernel_rfl
theorem af205 : K_atomsIn Try.prog 205 := a_atomsIn mixed res205
theorem res154 : resF Try.prog 154 = some (19, k_inRange 139, [.t 4]) := by kernel_rfl
theorem af154 : K_inRange Try.prog 154 := a_inRange mixed res154 af139
theorem res171 : resF Try.prog 171 = some (27, k_isTrace 205 154, [.t 4]) := by kernel_rfl
theorem af171 : K_isTrace Try.prog 171 := a_isTrace mixed res171 af205 af154
theorem res111 : resF Try.prog 111 = some (14, k_isWord 171, [.t 4]) := by kernel_rfl
theorem af111 : K_isWord Try.prog 111 := a_isWord mixed res111 af171
theorem res113 : resF Try.prog 113 = some (33, k_tableB, [.t 4]) := by kernel_rfl
theorem af113 : K_tableB Try.prog 113 := a_tableB mixed res113
theorem res172 : resF Try.prog 172 = some (30, k_composed1, [.t 6]) := by kernel_rfl
theorem af172 : K_composed1 Try.prog 172 := a_composed1 mixed res172
theorem res116 : resF Try.prog 116 = some (9, k_composed 113 172, [.t 4]) := by kernel_rfl
theorem af116 : K_composed Try.prog 116 := a_composed mixed res116 af113 af172
theorem res115 : resF Try.prog 115 = some (26, k_atomOf, [.t 4]) := by kernel_rfl
theorem af115 : K_atomOf Try.prog 115 := a_atomOf mixed res115
theorem res114 : resF Try.prog 114 = some (22, k_runsOf11 115, [.t 7]) := by kernel_rfl
theorem af114 : K_runsOf11 Try.prog 114 := a_runsOf11 mixed res114 af115
theorem res112 : resF Try.prog 112 = some (9, k_runsOf1 113 114, [.t 4]) := by kernel_rfl
theorem af112 : K_runsOf1 Try.prog 112 := a_runsOf1 mixed res112 af113 af114
theorem res41 : resF Try.prog 41 = some (45, k_imRunsOf 80 111 116 112, [.t 4, .t 5]) := by kernel_rfl
theorem af41 : K_imRunsOf Try.prog 41 := a_imRunsOf mixed res41 af80 af111 af116 af112
theorem res117 : resF Try.prog 117 = some (26, cEqB, [.t 4]) := by kernel_rfl
theorem res42 : resF Try.prog 42 = some (27, cEqC 117 1 false, [.t 4]) := by kernel_rfl
theorem res83 : resF Try.prog 83 = some (15, k_eqSig, [.t 4]) := by kernel_rfl
theorem af83 : K_eqSig Try.prog 83 := a_eqSig mixed res83
theorem res84 : resF Try.prog 84 = some (27, cEqC 42 1 false, [.t 4]) := by kernel_rfl

def rc18 : RC :=
 (.seq
  (.reg false [⟨none, .box 2 5 (.t 0)⟩,
    ⟨none, .box 3 5 (.t 1)⟩,
    ⟨none, .mv 4 (.c (.sc (.bool false)))⟩])
  ((.seq
   ((.seq
    (.reg false [⟨none, .fa 5 0 (.t 2)⟩,
      ⟨none, .ld 6 true 2 (.t 5)⟩,
      ⟨none, .fa 7 0 (.t 3)⟩,
      ⟨none, .ld 8 true 2 (.t 7)⟩,
      ⟨none, .call (some 9) 83 [(.t 6), (.t 8)]⟩,
      ⟨none, .un 10 .not (.t 9)⟩])
    (.cond (.t 10)
     ((.seq
      (.reg false [⟨none, .mv 4 (.c (.sc (.bool false)))⟩])
      (.ret)))
     (.skip))))
   ((.seq
    ((.seq
     (.reg false [⟨none, .fa 11 2 (.t 2)⟩,
       ⟨none, .ld 12 false 1 (.t 11)⟩,
       ⟨none, .fa 13 2 (.t 3)⟩,
       ⟨none, .ld 14 false 1 (.t 13)⟩,
       ⟨none, .bin 15 .neq (.t 12) (.t 14)⟩])
     (.cond (.t 15)
      ((.seq
       (.reg false [⟨none, .mv 4 (.c (.sc (.bool false)))⟩])
       (.ret)))
      (.skip))))
    ((.seq
     ((.seq
      (.reg false [⟨none, .fa 16 3 (.t 2)⟩,
        ⟨none, .ld 17 false 1 (.t 16)⟩,
        ⟨none, .fa 18 3 (.t 3)⟩,
        ⟨none, .ld 19 false 1 (.t 18)⟩,
        ⟨none, .call (some 20) 42 [(.t 17), (.t 19)]⟩,
        ⟨none, .un 21 .not (.t 20)⟩])
      (.cond (.t 21)
       ((.seq
        (.reg false [⟨none, .mv 4 (.c (.sc (.bool false)))⟩])
        (.ret)))
       (.skip))))
     ((.seq
      ((.seq
       (.reg false [⟨none, .fa 22 4 (.t 2)⟩,
         ⟨none, .ld 23 false 1 (.t 22)⟩,
         ⟨none, .fa 24 4 (.t 3)⟩,
         ⟨none, .ld 25 false 1 (.t 24)⟩,
         ⟨none, .call (some 26) 84 [(.t 23), (.t 25)]⟩,
         ⟨none, .un 27 .not (.t 26)⟩])
       (.cond (.t 27)
        ((.seq
         (.reg false [⟨none, .mv 4 (.c (.sc (.bool false)))⟩])
         (.ret)))
        (.skip))))
      ((.seq
       (.reg false [⟨none, .mv 4 (.c (.sc (.bool true)))⟩])
       (.ret))))))))))))
theorem res18 : resF Try.prog 18 = some (28, rc18, [.t 4]) := by kernel_rfl
theorem res19 : resF Try.prog 19 = some (26, cEqS, [.t 4]) := by kernel_rfl

def rc43 : RC :=
 (.seq
  (.reg false [⟨none, .box 2 2 (.t 0)⟩,
    ⟨none, .box 3 2 (.t 1)⟩,
    ⟨none, .mv 4 (.c (.sc (.bool false)))⟩])
  ((.seq
   ((.seq
    (.reg false [⟨none, .fa 5 0 (.t 2)⟩,
      ⟨none, .ld 6 false 1 (.t 5)⟩,
      ⟨none, .fa 7 0 (.t 3)⟩,
      ⟨none, .ld 8 false 1 (.t 7)⟩,
      ⟨none, .call (some 9) 19 [(.t 6), (.t 8)]⟩,
      ⟨none, .un 10 .not (.t 9)⟩])
    (.cond (.t 10)
     ((.seq
      (.reg false [⟨none, .mv 4 (.c (.sc (.bool false)))⟩])
      (.ret)))
     (.skip))))
   ((.seq
    ((.seq
     (.reg false [⟨none, .fa 11 1 (.t 2)⟩,
       ⟨none, .ld 12 false 1 (.t 11)⟩,
       ⟨none, .fa 13 1 (.t 3)⟩,
       ⟨none, .ld 14 false 1 (.t 13)⟩,
       ⟨none, .call (some 15) 19 [(.t 12), (.t 14)]⟩,
       ⟨none, .un 16 .not (.t 15)⟩])
     (.cond (.t 16)
      ((.seq
       (.reg false [⟨none, .mv 4 (.c (.sc (.bool false)))⟩])
       (.ret)))
      (.skip))))
    ((.seq
     (.reg false [⟨none, .mv 4 (.c (.sc (.bool true)))⟩])
     (.ret))))))))
theorem res43 : resF Try.prog 43 = some (17, rc43, [.t 4]) := by kernel_rfl
theorem res119 : resF Try.prog 119 = some (23, cHdB, [.t 4]) := by kernel_rfl
theorem res46 : resF Try.prog 46 = some (21, cHdC 119, [.t 4]) := by kernel_rfl
theorem res118 : resF Try.prog 118 = some (21, cMkB, [.t 4]) := by kernel_rfl
theorem res45 : resF Try.prog 45 = some (19, cMkC 118, [.t 4]) := by kernel_rfl
theorem res85 : resF Try.prog 85 = some (19, cMkC 45, [.t 4]) := by kernel_rfl

def rc20 : RC :=
 (.seq
  (.reg false [⟨none, .box 2 5 (.t 0)⟩,
    ⟨none, .mv 4 (.c (.sc (.int .i64 0)))⟩])
  ((.seq
   (.reg false [⟨none, .fa 5 3 (.t 2)⟩,
     ⟨none, .ld 6 false 1 (.t 5)⟩,
     ⟨none, .mv 7 (.t 1)⟩,
     ⟨none, .mcl 8 45 (.t 6) (.t 7)⟩,
     ⟨none, .mv 1 (.t 8)⟩])
   ((.seq
    (.reg false [⟨none, .fa 9 4 (.t 2)⟩,
      ⟨none, .ld 10 false 1 (.t 9)⟩,
      ⟨none, .mv 11 (.t 1)⟩,
      ⟨none, .mcl 12 85 (.t 10) (.t 11)⟩,
      ⟨none, .mv 1 (.t 12)⟩])
    ((.seq
     (.reg false [⟨none, .mv 13 (.t 1)⟩,
       ⟨none, .mv 4 (.t 13)⟩])
     (.ret))))))))
theorem res20 : resF Try.prog 20 = some (14, rc20, [.t 4]) := by kernel_rfl
theorem res21 : resF Try.prog 21 = some (19, cMkI, [.t 4]) := by kernel_rfl

def rc44 : RC :=
 (.seq
  (.reg false [⟨none, .box 2 2 (.t 0)⟩,
    ⟨none, .mv 4 (.c (.sc (.int .i64 0)))⟩])
  ((.seq
   (.reg false [⟨none, .fa 5 0 (.t 2)⟩,
     ⟨none, .ld 6 false 1 (.t 5)⟩,
     ⟨none, .mv 7 (.t 1)⟩,
     ⟨none, .mcl 8 21 (.t 6) (.t 7)⟩,
     ⟨none, .mv 1 (.t 8)⟩])
   ((.seq
    (.reg false [⟨none, .fa 9 1 (.t 2)⟩,
      ⟨none, .ld 10 false 1 (.t 9)⟩,
      ⟨none, .mv 11 (.t 1)⟩,
      ⟨none, .mcl 12 21 (.t 10) (.t 11)⟩,
      ⟨none, .mv 1 (.t 12)⟩])
    ((.seq
     (.reg false [⟨none, .mv 13 (.t 1)⟩,
       ⟨none, .mv 4 (.t 13)⟩])
     (.ret))))))))
theorem res44 : resF Try.prog 44 = some (14, rc44, [.t 4]) := by kernel_rfl

def rc6 : RC :=
 (.seq
  (.reg false [⟨none, .box 2 5 (.t 0)⟩,
    ⟨none, .box 3 2 (.t 1)⟩,
    ⟨none, .mv 4 (.c (.sc (.bool false)))⟩])
  ((.seq
   (.reg false [⟨none, .mv 5 (.c (.sc (.int .i64 1048576)))⟩])
   ((.seq
    (.reg false [⟨none, .ld 17 true 5 (.t 2)⟩,
      ⟨none, .mv 18 (.t 5)⟩,
      ⟨none, .call (some 19) 13 [(.t 17), (.t 18)]⟩,
      ⟨none, .mv 5 (.t 19)⟩])
    ((.seq
     ((.seq
      (.reg false [⟨none, .mv 20 (.t 5)⟩,
        ⟨none, .bin 21 .lss (.t 20) (.c (.sc (.int .i64 0)))⟩])
      (.cond (.t 21)
       ((.seq
        (.reg false [⟨none, .mv 4 (.c (.sc (.bool true)))⟩])
        (.ret)))
       (.skip))))
     ((.seq
      (.reg false [⟨none, .ld 22 true 2 (.t 3)⟩,
        ⟨none, .mv 23 (.t 5)⟩,
        ⟨none, .call (some 24) 38 [(.t 22), (.t 23)]⟩,
        ⟨none, .mv 5 (.t 24)⟩])
      ((.seq
       ((.seq
        (.reg false [⟨none, .mv 25 (.t 5)⟩,
          ⟨none, .bin 26 .lss (.t 25) (.c (.sc (.int .i64 0)))⟩])
        (.cond (.t 26)
         ((.seq
          (.reg false [⟨none, .mv 4 (.c (.sc (.bool true)))⟩])
          (.ret)))
         (.skip))))
       ((.seq
        (.reg true [⟨none, .ld 28 true 5 (.t 2)⟩,
          ⟨none, .call (some 29) 15 [(.t 28)]⟩,
          ⟨none, .ld 30 true 2 (.t 3)⟩,
          ⟨none, .call (some 31) 40 [(.t 30)]⟩,
          ⟨none, .call (some 32) 39 [(.t 29), (.t 31)]⟩,
          ⟨none, .mv 27 (.t 32)⟩,
          ⟨none, .ext 33 (.t 27) 0⟩,
          ⟨none, .ext 34 (.t 27) 1⟩,
          ⟨none, .mv 6 (.t 33)⟩,
          ⟨none, .mv 7 (.t 34)⟩])
        ((.seq
         (.reg false [⟨none, .ld 35 true 5 (.t 2)⟩,
           ⟨none, .call (some 36) 15 [(.t 35)]⟩,
           ⟨none, .zer 8 5 (.ag [(.sc (.int .i64 0)), (.sc (.int .i64 0)), (.sc (.int .i64 0)), (.ls (some true) 1 []), (.ls (some true) 1 [])])⟩,
           ⟨none, .st 5 (.t 8) (.t 36)⟩])
         ((.seq
          (.reg false [⟨none, .ld 37 true 2 (.t 3)⟩,
            ⟨none, .call (some 38) 40 [(.t 37)]⟩,
            ⟨none, .zer 9 2 (.ag [(.ls (some true) 1 []), (.ls (some true) 1 [])])⟩,
            ⟨none, .st 2 (.t 9) (.t 38)⟩])
          ((.seq
           (.reg false [⟨none, .ld 40 true 5 (.t 8)⟩,
             ⟨none, .ld 41 true 2 (.t 9)⟩,
             ⟨none, .call (some 42) 41 [(.t 40), (.t 41)]⟩,
             ⟨none, .mv 39 (.t 42)⟩,
             ⟨none, .ext 43 (.t 39) 0⟩,
             ⟨none, .ext 44 (.t 39) 1⟩,
             ⟨none, .mv 10 (.t 43)⟩,
             ⟨none, .mv 11 (.t 44)⟩])
           ((.seq
            ((.seq
             (.reg false [⟨none, .mv 45 (.t 10)⟩,
               ⟨none, .mv 46 (.t 6)⟩,
               ⟨none, .call (some 47) 42 [(.t 45), (.t 46)]⟩,
               ⟨none, .un 48 .not (.t 47)⟩,
               ⟨none, .mv 49 (.t 48)⟩,
               ⟨some (49, false), .mv 50 (.t 11)⟩,
               ⟨some (49, false), .mv 51 (.t 7)⟩,
               ⟨some (49, false), .bin 52 .neq (.t 50) (.t 51)⟩,
               ⟨none, .pick 53 (.t 49) (.c (.sc (.bool true))) (.t 52)⟩])
             (.cond (.t 53)
              ((.seq
               (.reg false [⟨none, .mv 4 (.c (.sc (.bool false)))⟩])
               (.ret)))
              (.skip))))
            ((.seq
             ((.seq
              (.reg true [⟨none, .ld 54 true 5 (.t 8)⟩,
                ⟨none, .ld 55 true 5 (.t 2)⟩,
                ⟨none, .call (some 56) 15 [(.t 55)]⟩,
                ⟨none, .call (some 57) 18 [(.t 54), (.t 56)]⟩,
                ⟨none, .un 58 .not (.t 57)⟩])
              (.cond (.t 58)
               ((.seq
                (.reg false [⟨none, .mv 4 (.c (.sc (.bool false)))⟩])
                (.ret)))
               (.skip))))
             ((.seq
              ((.seq
               (.reg true [⟨none, .ld 59 true 2 (.t 9)⟩,
                 ⟨none, .ld 60 true 2 (.t 3)⟩,
                 ⟨none, .call (some 61) 40 [(.t 60)]⟩,
                 ⟨none, .call (some 62) 43 [(.t 59), (.t 61)]⟩,
                 ⟨none, .un 63 .not (.t 62)⟩])
               (.cond (.t 63)
                ((.seq
                 (.reg false [⟨none, .mv 4 (.c (.sc (.bool false)))⟩])
                 (.ret)))
                (.skip))))
              ((.seq
               (.reg false [⟨none, .mv 12 (.c (.sc (.int .i64 1)))⟩])
               ((.seq
                (.reg false [⟨none, .ld 64 true 5 (.t 8)⟩,
                  ⟨none, .mv 65 (.t 12)⟩,
                  ⟨none, .mcl 66 20 (.t 64) (.t 65)⟩,
                  ⟨none, .mv 12 (.t 66)⟩])
                ((.seq
                 (.reg false [⟨none, .ld 67 true 2 (.t 9)⟩,
                   ⟨none, .mv 68 (.t 12)⟩,
                   ⟨none, .mcl 69 44 (.t 67) (.t 68)⟩,
                   ⟨none, .mv 12 (.t 69)⟩])
                 ((.seq
                  ((.seq
                   (.reg false [⟨none, .mv 70 (.t 12)⟩,
                     ⟨none, .bin 71 .lss (.t 70) (.c (.sc (.int .i64 0)))⟩,
                     ⟨none, .mv 72 (.t 71)⟩,
                     ⟨some (72, false), .mv 73 (.t 10)⟩,
                     ⟨some (72, false), .mv 74 (.t 6)⟩,
                     ⟨some (72, false), .call (some 75) 42 [(.t 73), (.t 74)]⟩,
                     ⟨some (72, false), .un 76 .not (.t 75)⟩,
                     ⟨none, .pick 77 (.t 72) (.c (.sc (.bool true))) (.t 76)⟩,
                     ⟨none, .mv 78 (.t 77)⟩,
                     ⟨some (78, false), .mv 79 (.t 11)⟩,
                     ⟨some (78, false), .mv 80 (.t 7)⟩,
                     ⟨some (78, false), .bin 81 .neq (.t 79) (.t 80)⟩,
                     ⟨none, .pick 82 (.t 78) (.c (.sc (.bool true))) (.t 81)⟩])
                   (.cond (.t 82)
                    ((.seq
                     (.reg false [⟨none, .mv 4 (.c (.sc (.bool false)))⟩])
                     (.ret)))
                    (.skip))))
                  ((.seq
                   (.reg false [⟨none, .mv 13 (.c (.sc (.int .i64 1)))⟩])
                   ((.seq
                    (.reg false [⟨none, .mv 83 (.t 10)⟩,
                      ⟨none, .mv 84 (.t 13)⟩,
                      ⟨none, .mcl 85 45 (.t 83) (.t 84)⟩,
                      ⟨none, .mv 13 (.t 85)⟩])
                    ((.seq
                     (.reg false [⟨none, .mv 14 (.c (.sc (.int .i64 1)))⟩])
                     ((.seq
                      (.reg false [⟨none, .mv 86 (.t 10)⟩,
                        ⟨none, .mv 87 (.t 14)⟩,
                        ⟨none, .call (some 88) 46 [(.t 86), (.t 87)]⟩,
                        ⟨none, .mv 14 (.t 88)⟩])
                      ((.seq
                       ((.seq
                        (.reg false [⟨none, .mv 89 (.t 14)⟩,
                          ⟨none, .bin 90 .lss (.t 89) (.c (.sc (.int .i64 0)))⟩])
                        (.cond (.t 90)
                         ((.seq
                          (.reg false [⟨none, .mv 4 (.c (.sc (.bool false)))⟩])
                          (.ret)))
                         (.skip))))
                       ((.seq
                        ((.seq
                         (.reg false [⟨none, .mv 91 (.t 14)⟩,
                           ⟨none, .mv 92 (.t 13)⟩,
                           ⟨none, .bin 93 .neq (.t 91) (.t 92)⟩])
                         (.cond (.t 93)
                          ((.seq
                           (.reg false [⟨none, .mv 4 (.c (.sc (.bool false)))⟩])
                           (.ret)))
                          (.skip))))
                        ((.seq
                         (.reg true [⟨none, .ld 95 true 5 (.t 2)⟩,
                           ⟨none, .call (some 96) 15 [(.t 95)]⟩,
                           ⟨none, .ld 97 true 2 (.t 3)⟩,
                           ⟨none, .call (some 98) 40 [(.t 97)]⟩,
                           ⟨none, .call (some 99) 41 [(.t 96), (.t 98)]⟩,
                           ⟨none, .mv 94 (.t 99)⟩,
                           ⟨none, .ext 100 (.t 94) 0⟩,
                           ⟨none, .ext 101 (.t 94) 1⟩,
                           ⟨none, .mv 15 (.t 100)⟩,
                           ⟨none, .mv 16 (.t 101)⟩])
                         ((.seq
                          ((.seq
                           (.reg false [⟨none, .mv 102 (.t 15)⟩,
                             ⟨none, .mv 103 (.t 6)⟩,
                             ⟨none, .call (some 104) 42 [(.t 102), (.t 103)]⟩,
                             ⟨none, .un 105 .not (.t 104)⟩,
                             ⟨none, .mv 106 (.t 105)⟩,
                             ⟨some (106, false), .mv 107 (.t 16)⟩,
                             ⟨some (106, false), .mv 108 (.t 7)⟩,
                             ⟨some (106, false), .bin 109 .neq (.t 107) (.t 108)⟩,
                             ⟨none, .pick 110 (.t 106) (.c (.sc (.bool true))) (.t 109)⟩])
                           (.cond (.t 110)
                            ((.seq
                             (.reg false [⟨none, .mv 4 (.c (.sc (.bool false)))⟩])
                             (.ret)))
                            (.skip))))
                          ((.seq
                           (.reg false [⟨none, .mv 14 (.c (.sc (.int .i64 1)))⟩])
                           ((.seq
                            (.reg false [⟨none, .mv 111 (.t 10)⟩,
                              ⟨none, .mv 112 (.t 14)⟩,
                              ⟨none, .call (some 113) 46 [(.t 111), (.t 112)]⟩,
                              ⟨none, .mv 14 (.t 113)⟩])
                            ((.seq
                             ((.seq
                              (.reg false [⟨none, .mv 114 (.t 14)⟩,
                                ⟨none, .bin 115 .lss (.t 114) (.c (.sc (.int .i64 0)))⟩])
                              (.cond (.t 115)
                               ((.seq
                                (.reg false [⟨none, .mv 4 (.c (.sc (.bool false)))⟩])
                                (.ret)))
                               (.skip))))
                             ((.seq
                              ((.seq
                               (.reg false [⟨none, .mv 116 (.t 14)⟩,
                                 ⟨none, .mv 117 (.t 13)⟩,
                                 ⟨none, .bin 118 .neq (.t 116) (.t 117)⟩])
                               (.cond (.t 118)
                                ((.seq
                                 (.reg false [⟨none, .mv 4 (.c (.sc (.bool false)))⟩])
                                 (.ret)))
                                (.skip))))
                              ((.seq
                               (.reg false [⟨none, .mv 4 (.c (.sc (.bool true)))⟩])
                               (.ret))))))))))))))))))))))))))))))))))))))))))))))))))))))))))))
theorem res6 : resF Try.prog 6 = some (119, rc6, [.t 4]) := by kernel_rfl
noncomputable def famBoolS : Fam Try.prog (eS 1 eB) 148 151 117 := famP mixed encB noB ⟨rfl, rfl, rfl⟩ (by omega) res148 res151 (eqL fun x y => x == y) (fun _ => eqL_refl fun _ _ => by simp) fun a b => af_eqB mixed res117 a b
theorem famBoolS_t (x) : famBoolS.t x = (some false, x.2) := rfl
noncomputable def famBoolSS : Fam Try.prog (eS 1 (eS 1 eB)) 73 78 42 := famC mixed famBoolS (encS eB 1) ⟨rfl, rfl, rfl⟩ (by omega) res73 res78 res42
theorem famBoolSS_t (x) : famBoolSS.t x = (some false, x.2.map famBoolS.t) := rfl
noncomputable def famBoolSSS : Fam Try.prog (eS 1 (eS 1 (eS 1 eB))) 74 79 84 := famC mixed famBoolSS (encS (eS 1 eB) 1) ⟨rfl, rfl, rfl⟩ (by omega) res74 res79 res84
theorem famBoolSSS_t (x) : famBoolSSS.t x = (some false, x.2.map famBoolSS.t) := rfl
noncomputable def szModel (m : Mo) : Int → Int := fun l => nx (famBoolSS.s m.2.2.1 l) (fun l => nx (famBoolSSS.s m.2.2.2 l) (fun l => l))
def fitModel (m : Mo) : Prop := famBoolSS.fit m.2.2.1 ∧ famBoolSSS.fit m.2.2.2
noncomputable def tModel (m : Mo) : Mo := (m.1, m.2.1, famBoolSS.t m.2.2.1, famBoolSSS.t m.2.2.2)
noncomputable def qModel (a b : Mo) : Bool := (qG a.1 b.1 && ((a.2.1 == b.2.1) && (famBoolSS.q a.2.2.1 b.2.2.1 && famBoolSSS.q a.2.2.2 b.2.2.2)))
theorem szModel_in (m : Mo) (l : Int) (h1 : 0 ≤ l) (h2 : l ≤ 1048576) : -1 ≤ szModel m l ∧ szModel m l ≤ l := by
  refine in_tr (Int.le_refl l) (nx_in (famBoolSS.s_in m.2.2.1 l h1 (by omega)) h1 (by omega) fun y0 a0 b0 => ?_)
  refine in_tr b0 (nx_in (famBoolSSS.s_in m.2.2.2 y0 a0 (by omega)) a0 (by omega) fun y1 a1 b1 => ?_)
  exact ⟨by omega, b1⟩
theorem szModel_fit (m : Mo) (l : Int) (h2 : l ≤ 1048576) (h1 : 0 ≤ l) (h : 0 ≤ szModel m l) : fitModel m := by
  obtain ⟨p0, h⟩ := nx_fit h
  have e0 := famBoolSS.s_fit m.2.2.1 l (by omega) h1 p0
  have b0 := famBoolSS.s_in m.2.2.1 l h1 (by omega)
  obtain ⟨p1, h⟩ := nx_fit h
  have e1 := famBoolSSS.s_fit m.2.2.2 _ (by omega) p0 p1
  have b1 := famBoolSSS.s_in m.2.2.2 (famBoolSS.s m.2.2.1 l) p0 (by omega)
  exact ⟨e0, e1⟩
theorem af13 (m : Mo) (l : Int) (h1 : 0 ≤ l) (h2 : l ≤ 1048576) : AF Try.prog 13 [eM m, eI l] (.own (eI (szModel m l))) := by
  refine af_of_res res13 mixed rfl fun _ => ?_
  simp +contextual -implicitDefEqProofs only [rc13, eM, eG, eS, go_sem, eI, eB, ↓reduceIte, Nat.reduceEqDiff, Nat.reduceAdd, Nat.reduceLeDiff, Nat.reduceMul, Nat.reduceBEq, Nat.reduceBneDiff, Nat.reduceLT, Nat.reduceSub, decide_true, decide_false, and_self, true_and, and_true, false_and, and_false, not_true_eq_false, not_false_eq_true, false_implies, true_implies, implies_true, ge_iff_le, Bool.false_eq_true, List.cons_append, List.nil_append]
  refine callQ_self ?_ (famBoolSS.afS m.2.2.1 l (by omega) (by omega)) ?_
  · exact rfl
  simp +contextual -implicitDefEqProofs only [eM, eG, eS, go_sem, eI, eB, ↓reduceIte, Nat.reduceEqDiff, Nat.reduceAdd, Nat.reduceLeDiff, Nat.reduceMul, Nat.reduceBEq, Nat.reduceBneDiff, Nat.reduceLT, Nat.reduceSub, decide_true, decide_false, and_self, true_and, and_true, false_and, and_false, not_true_eq_false, not_false_eq_true, false_implies, true_implies, implies_true, ge_iff_le, Bool.false_eq_true, List.cons_append, List.nil_append]
  have b0 := famBoolSS.s_in m.2.2.1 l (by omega) (by omega)
  refine ⟨fun h => D.Le.sc_eq (by simp only [szModel]; rw [nx_neg h]), fun g0 => ?_⟩
  refine callQ_self ?_ (famBoolSSS.afS m.2.2.2 (famBoolSS.s m.2.2.1 l) (by omega) (by omega)) ?_
  · exact rfl
  simp +contextual -implicitDefEqProofs only [eM, eG, eS, go_sem, eI, eB, ↓reduceIte, Nat.reduceEqDiff, Nat.reduceAdd, Nat.reduceLeDiff, Nat.reduceMul, Nat.reduceBEq, Nat.reduceBneDiff, Nat.reduceLT, Nat.reduceSub, decide_true, decide_false, and_self, true_and, and_true, false_and, and_false, not_true_eq_false, not_false_eq_true, false_implies, true_implies, implies_true, ge_iff_le, Bool.false_eq_true, List.cons_append, List.nil_append]
  have b1 := famBoolSSS.s_in m.2.2.2 (famBoolSS.s m.2.2.1 l) (by omega) (by omega)
  refine ⟨fun h => D.Le.sc_eq (by simp only [szModel]; rw [nx_pos g0, nx_neg h]), fun g1 => ?_⟩
  exact D.Le.sc_eq (by simp only [szModel]; rw [nx_pos g0, nx_pos g1])
theorem af15 (m : Mo) (h : fitModel m) : AF Try.prog 15 [eM m] (.own (eM (tModel m))) := by
  refine af_of_res res15 mixed rfl fun _ => ?_
  simp +contextual -implicitDefEqProofs only [rc15, eM, eG, eS, tModel, famBoolSS_t, famBoolSSS_t, go_sem, eI, eB, ↓reduceIte, Nat.reduceEqDiff, Nat.reduceAdd, Nat.reduceLeDiff, Nat.reduceMul, Nat.reduceBEq, Nat.reduceBneDiff, Nat.reduceLT, Nat.reduceSub, decide_true, decide_false, and_self, true_and, and_true, false_and, and_false, not_true_eq_false, not_false_eq_true, false_implies, true_implies, implies_true, ge_iff_le, Bool.false_eq_true, List.cons_append, List.nil_append]
  refine callQ_self ?_ (af26 m.1) ?_
  · exact rfl
  simp +contextual -implicitDefEqProofs only [eM, eG, eS, tModel, famBoolSS_t, famBoolSSS_t, go_sem, eI, eB, ↓reduceIte, Nat.reduceEqDiff, Nat.reduceAdd, Nat.reduceLeDiff, Nat.reduceMul, Nat.reduceBEq, Nat.reduceBneDiff, Nat.reduceLT, Nat.reduceSub, decide_true, decide_false, and_self, true_and, and_true, false_and, and_false, not_true_eq_false, not_false_eq_true, false_implies, true_implies, implies_true, ge_iff_le, Bool.false_eq_true, List.cons_append, List.nil_append]
  refine callQ_self ?_ (famBoolSS.afT m.2.2.1 h.1) ?_
  · exact rfl
  simp +contextual -implicitDefEqProofs only [eM, eG, eS, tModel, famBoolSS_t, famBoolSSS_t, go_sem, eI, eB, ↓reduceIte, Nat.reduceEqDiff, Nat.reduceAdd, Nat.reduceLeDiff, Nat.reduceMul, Nat.reduceBEq, Nat.reduceBneDiff, Nat.reduceLT, Nat.reduceSub, decide_true, decide_false, and_self, true_and, and_true, false_and, and_false, not_true_eq_false, not_false_eq_true, false_implies, true_implies, implies_true, ge_iff_le, Bool.false_eq_true, List.cons_append, List.nil_append]
  refine callQ_self ?_ (famBoolSSS.afT m.2.2.2 h.2) ?_
  · exact rfl
  simp +contextual -implicitDefEqProofs only [eM, eG, eS, tModel, famBoolSS_t, famBoolSSS_t, go_sem, eI, eB, ↓reduceIte, Nat.reduceEqDiff, Nat.reduceAdd, Nat.reduceLeDiff, Nat.reduceMul, Nat.reduceBEq, Nat.reduceBneDiff, Nat.reduceLT, Nat.reduceSub, decide_true, decide_false, and_self, true_and, and_true, false_and, and_false, not_true_eq_false, not_false_eq_true, false_implies, true_implies, implies_true, ge_iff_le, Bool.false_eq_true, List.cons_append, List.nil_append]
theorem af18 (a b : Mo) : AF Try.prog 18 [eM a, eM b] (.own (eB (qModel a b))) := by
  refine af_of_res res18 mixed rfl fun _ => ?_
  simp +contextual -implicitDefEqProofs only [rc18, qModel, bne, Bool.not_true, Bool.not_false, Bool.true_and, Bool.false_and, Bool.and_true, Bool.and_false, eM, eG, eS, go_sem, eI, eB, ↓reduceIte, Nat.reduceEqDiff, Nat.reduceAdd, Nat.reduceLeDiff, Nat.reduceMul, Nat.reduceBEq, Nat.reduceBneDiff, Nat.reduceLT, Nat.reduceSub, decide_true, decide_false, and_self, true_and, and_true, false_and, and_false, not_true_eq_false, not_false_eq_true, false_implies, true_implies, implies_true, ge_iff_le, Bool.false_eq_true, List.cons_append, List.nil_append]
  refine callQ_self ?_ (af83 a.1 b.1) ?_
  · exact rfl
  cases e0 : qG a.1 b.1
  · simp +contextual -implicitDefEqProofs only [qModel, bne, Bool.not_true, Bool.not_false, Bool.true_and, Bool.false_and, Bool.and_true, Bool.and_false, eM, eG, eS, e0, go_sem, eI, eB, ↓reduceIte, Nat.reduceEqDiff, Nat.reduceAdd, Nat.reduceLeDiff, Nat.reduceMul, Nat.reduceBEq, Nat.reduceBneDiff, Nat.reduceLT, Nat.reduceSub, decide_true, decide_false, and_self, true_and, and_true, false_and, and_false, not_true_eq_false, not_false_eq_true, false_implies, true_implies, implies_true, ge_iff_le, Bool.false_eq_true, List.cons_append, List.nil_append]
  cases e1 : (a.2.1 == b.2.1)
  · simp +contextual -implicitDefEqProofs only [qModel, bne, Bool.not_true, Bool.not_false, Bool.true_and, Bool.false_and, Bool.and_true, Bool.and_false, eM, eG, eS, e0, e1, go_sem, eI, eB, ↓reduceIte, Nat.reduceEqDiff, Nat.reduceAdd, Nat.reduceLeDiff, Nat.reduceMul, Nat.reduceBEq, Nat.reduceBneDiff, Nat.reduceLT, Nat.reduceSub, decide_true, decide_false, and_self, true_and, and_true, false_and, and_false, not_true_eq_false, not_false_eq_true, false_implies, true_implies, implies_true, ge_iff_le, Bool.false_eq_true, List.cons_append, List.nil_append]
  simp +contextual -implicitDefEqProofs only [qModel, bne, Bool.not_true, Bool.not_false, Bool.true_and, Bool.false_and, Bool.and_true, Bool.and_false, eM, eG, eS, e0, e1, go_sem, eI, eB, ↓reduceIte, Nat.reduceEqDiff, Nat.reduceAdd, Nat.reduceLeDiff, Nat.reduceMul, Nat.reduceBEq, Nat.reduceBneDiff, Nat.reduceLT, Nat.reduceSub, decide_true, decide_false, and_self, true_and, and_true, false_and, and_false, not_true_eq_false, not_false_eq_true, false_implies, true_implies, implies_true, ge_iff_le, Bool.false_eq_true, List.cons_append, List.nil_append]
  refine callQ_self ?_ (famBoolSS.afQ a.2.2.1 b.2.2.1) ?_
  · exact rfl
  cases e2 : famBoolSS.q a.2.2.1 b.2.2.1
  · simp +contextual -implicitDefEqProofs only [qModel, bne, Bool.not_true, Bool.not_false, Bool.true_and, Bool.false_and, Bool.and_true, Bool.and_false, eM, eG, eS, e0, e1, e2, go_sem, eI, eB, ↓reduceIte, Nat.reduceEqDiff, Nat.reduceAdd, Nat.reduceLeDiff, Nat.reduceMul, Nat.reduceBEq, Nat.reduceBneDiff, Nat.reduceLT, Nat.reduceSub, decide_true, decide_false, and_self, true_and, and_true, false_and, and_false, not_true_eq_false, not_false_eq_true, false_implies, true_implies, implies_true, ge_iff_le, Bool.false_eq_true, List.cons_append, List.nil_append]
  simp +contextual -implicitDefEqProofs only [qModel, bne, Bool.not_true, Bool.not_false, Bool.true_and, Bool.false_and, Bool.and_true, Bool.and_false, eM, eG, eS, e0, e1, e2, go_sem, eI, eB, ↓reduceIte, Nat.reduceEqDiff, Nat.reduceAdd, Nat.reduceLeDiff, Nat.reduceMul, Nat.reduceBEq, Nat.reduceBneDiff, Nat.reduceLT, Nat.reduceSub, decide_true, decide_false, and_self, true_and, and_true, false_and, and_false, not_true_eq_false, not_false_eq_true, false_implies, true_implies, implies_true, ge_iff_le, Bool.false_eq_true, List.cons_append, List.nil_append]
  refine callQ_self ?_ (famBoolSSS.afQ a.2.2.2 b.2.2.2) ?_
  · exact rfl
  cases e3 : famBoolSSS.q a.2.2.2 b.2.2.2
  · simp +contextual -implicitDefEqProofs only [qModel, bne, Bool.not_true, Bool.not_false, Bool.true_and, Bool.false_and, Bool.and_true, Bool.and_false, eM, eG, eS, e0, e1, e2, e3, go_sem, eI, eB, ↓reduceIte, Nat.reduceEqDiff, Nat.reduceAdd, Nat.reduceLeDiff, Nat.reduceMul, Nat.reduceBEq, Nat.reduceBneDiff, Nat.reduceLT, Nat.reduceSub, decide_true, decide_false, and_self, true_and, and_true, false_and, and_false, not_true_eq_false, not_false_eq_true, false_implies, true_implies, implies_true, ge_iff_le, Bool.false_eq_true, List.cons_append, List.nil_append]
  · simp +contextual -implicitDefEqProofs only [qModel, bne, Bool.not_true, Bool.not_false, Bool.true_and, Bool.false_and, Bool.and_true, Bool.and_false, eM, eG, eS, e0, e1, e2, e3, go_sem, eI, eB, ↓reduceIte, Nat.reduceEqDiff, Nat.reduceAdd, Nat.reduceLeDiff, Nat.reduceMul, Nat.reduceBEq, Nat.reduceBneDiff, Nat.reduceLT, Nat.reduceSub, decide_true, decide_false, and_self, true_and, and_true, false_and, and_false, not_true_eq_false, not_false_eq_true, false_implies, true_implies, implies_true, ge_iff_le, Bool.false_eq_true, List.cons_append, List.nil_append]
theorem qModel_refl (m : Mo) : qModel m m = true := by simp [qModel, qG, famBoolSS.q_refl, famBoolSSS.q_refl]
noncomputable def famModel : Fam Try.prog eM 13 15 18 := ⟨szModel, tModel, qModel, fitModel, szModel_in, szModel_fit, qModel_refl, af13, af15, af18⟩
theorem famModel_t (x) : famModel.t x = tModel x := rfl
noncomputable def famInt64S : Fam Try.prog (eS 1 eI) 106 16 19 := famP mixed encI noI ⟨rfl, rfl, rfl⟩ (by omega) res106 res16 (eqL fun x y => x == y) (fun _ => eqL_refl fun _ _ => by simp) fun a b => af_eqS mixed res19 a b
theorem famInt64S_t (x) : famInt64S.t x = (some false, x.2) := rfl
noncomputable def szWord (m : Wo) : Int → Int := fun l => nx (famInt64S.s m.1 l) (fun l => nx (famInt64S.s m.2 l) (fun l => l))
def fitWord (m : Wo) : Prop := famInt64S.fit m.1 ∧ famInt64S.fit m.2
noncomputable def tWord (m : Wo) : Wo := (famInt64S.t m.1, famInt64S.t m.2)
noncomputable def qWord (a b : Wo) : Bool := (famInt64S.q a.1 b.1 && famInt64S.q a.2 b.2)
theorem szWord_in (m : Wo) (l : Int) (h1 : 0 ≤ l) (h2 : l ≤ 1048576) : -1 ≤ szWord m l ∧ szWord m l ≤ l := by
  refine in_tr (Int.le_refl l) (nx_in (famInt64S.s_in m.1 l h1 (by omega)) h1 (by omega) fun y0 a0 b0 => ?_)
  refine in_tr b0 (nx_in (famInt64S.s_in m.2 y0 a0 (by omega)) a0 (by omega) fun y1 a1 b1 => ?_)
  exact ⟨by omega, b1⟩
theorem szWord_fit (m : Wo) (l : Int) (h2 : l ≤ 1048576) (h1 : 0 ≤ l) (h : 0 ≤ szWord m l) : fitWord m := by
  obtain ⟨p0, h⟩ := nx_fit h
  have e0 := famInt64S.s_fit m.1 l (by omega) h1 p0
  have b0 := famInt64S.s_in m.1 l h1 (by omega)
  obtain ⟨p1, h⟩ := nx_fit h
  have e1 := famInt64S.s_fit m.2 _ (by omega) p0 p1
  have b1 := famInt64S.s_in m.2 (famInt64S.s m.1 l) p0 (by omega)
  exact ⟨e0, e1⟩
theorem af38 (m : Wo) (l : Int) (h1 : 0 ≤ l) (h2 : l ≤ 1048576) : AF Try.prog 38 [eWo m, eI l] (.own (eI (szWord m l))) := by
  refine af_of_res res38 mixed rfl fun _ => ?_
  simp +contextual -implicitDefEqProofs only [rc38, eWo, eS, go_sem, eI, eB, ↓reduceIte, Nat.reduceEqDiff, Nat.reduceAdd, Nat.reduceLeDiff, Nat.reduceMul, Nat.reduceBEq, Nat.reduceBneDiff, Nat.reduceLT, Nat.reduceSub, decide_true, decide_false, and_self, true_and, and_true, false_and, and_false, not_true_eq_false, not_false_eq_true, false_implies, true_implies, implies_true, ge_iff_le, Bool.false_eq_true, List.cons_append, List.nil_append]
  refine callQ_self ?_ (famInt64S.afS m.1 l (by omega) (by omega)) ?_
  · exact rfl
  simp +contextual -implicitDefEqProofs only [eWo, eS, go_sem, eI, eB, ↓reduceIte, Nat.reduceEqDiff, Nat.reduceAdd, Nat.reduceLeDiff, Nat.reduceMul, Nat.reduceBEq, Nat.reduceBneDiff, Nat.reduceLT, Nat.reduceSub, decide_true, decide_false, and_self, true_and, and_true, false_and, and_false, not_true_eq_false, not_false_eq_true, false_implies, true_implies, implies_true, ge_iff_le, Bool.false_eq_true, List.cons_append, List.nil_append]
  have b0 := famInt64S.s_in m.1 l (by omega) (by omega)
  refine ⟨fun h => D.Le.sc_eq (by simp only [szWord]; rw [nx_neg h]), fun g0 => ?_⟩
  refine callQ_self ?_ (famInt64S.afS m.2 (famInt64S.s m.1 l) (by omega) (by omega)) ?_
  · exact rfl
  simp +contextual -implicitDefEqProofs only [eWo, eS, go_sem, eI, eB, ↓reduceIte, Nat.reduceEqDiff, Nat.reduceAdd, Nat.reduceLeDiff, Nat.reduceMul, Nat.reduceBEq, Nat.reduceBneDiff, Nat.reduceLT, Nat.reduceSub, decide_true, decide_false, and_self, true_and, and_true, false_and, and_false, not_true_eq_false, not_false_eq_true, false_implies, true_implies, implies_true, ge_iff_le, Bool.false_eq_true, List.cons_append, List.nil_append]
  have b1 := famInt64S.s_in m.2 (famInt64S.s m.1 l) (by omega) (by omega)
  refine ⟨fun h => D.Le.sc_eq (by simp only [szWord]; rw [nx_pos g0, nx_neg h]), fun g1 => ?_⟩
  exact D.Le.sc_eq (by simp only [szWord]; rw [nx_pos g0, nx_pos g1])
theorem af40 (m : Wo) (h : fitWord m) : AF Try.prog 40 [eWo m] (.own (eWo (tWord m))) := by
  refine af_of_res res40 mixed rfl fun _ => ?_
  simp +contextual -implicitDefEqProofs only [rc40, eWo, eS, tWord, famInt64S_t, famInt64S_t, go_sem, eI, eB, ↓reduceIte, Nat.reduceEqDiff, Nat.reduceAdd, Nat.reduceLeDiff, Nat.reduceMul, Nat.reduceBEq, Nat.reduceBneDiff, Nat.reduceLT, Nat.reduceSub, decide_true, decide_false, and_self, true_and, and_true, false_and, and_false, not_true_eq_false, not_false_eq_true, false_implies, true_implies, implies_true, ge_iff_le, Bool.false_eq_true, List.cons_append, List.nil_append]
  refine callQ_self ?_ (famInt64S.afT m.1 h.1) ?_
  · exact rfl
  simp +contextual -implicitDefEqProofs only [eWo, eS, tWord, famInt64S_t, famInt64S_t, go_sem, eI, eB, ↓reduceIte, Nat.reduceEqDiff, Nat.reduceAdd, Nat.reduceLeDiff, Nat.reduceMul, Nat.reduceBEq, Nat.reduceBneDiff, Nat.reduceLT, Nat.reduceSub, decide_true, decide_false, and_self, true_and, and_true, false_and, and_false, not_true_eq_false, not_false_eq_true, false_implies, true_implies, implies_true, ge_iff_le, Bool.false_eq_true, List.cons_append, List.nil_append]
  refine callQ_self ?_ (famInt64S.afT m.2 h.2) ?_
  · exact rfl
  simp +contextual -implicitDefEqProofs only [eWo, eS, tWord, famInt64S_t, famInt64S_t, go_sem, eI, eB, ↓reduceIte, Nat.reduceEqDiff, Nat.reduceAdd, Nat.reduceLeDiff, Nat.reduceMul, Nat.reduceBEq, Nat.reduceBneDiff, Nat.reduceLT, Nat.reduceSub, decide_true, decide_false, and_self, true_and, and_true, false_and, and_false, not_true_eq_false, not_false_eq_true, false_implies, true_implies, implies_true, ge_iff_le, Bool.false_eq_true, List.cons_append, List.nil_append]
theorem af43 (a b : Wo) : AF Try.prog 43 [eWo a, eWo b] (.own (eB (qWord a b))) := by
  refine af_of_res res43 mixed rfl fun _ => ?_
  simp +contextual -implicitDefEqProofs only [rc43, qWord, bne, Bool.not_true, Bool.not_false, Bool.true_and, Bool.false_and, Bool.and_true, Bool.and_false, eWo, eS, go_sem, eI, eB, ↓reduceIte, Nat.reduceEqDiff, Nat.reduceAdd, Nat.reduceLeDiff, Nat.reduceMul, Nat.reduceBEq, Nat.reduceBneDiff, Nat.reduceLT, Nat.reduceSub, decide_true, decide_false, and_self, true_and, and_true, false_and, and_false, not_true_eq_false, not_false_eq_true, false_implies, true_implies, implies_true, ge_iff_le, Bool.false_eq_true, List.cons_append, List.nil_append]
  refine callQ_self ?_ (famInt64S.afQ a.1 b.1) ?_
  · exact rfl
  cases e0 : famInt64S.q a.1 b.1
  · simp +contextual -implicitDefEqProofs only [qWord, bne, Bool.not_true, Bool.not_false, Bool.true_and, Bool.false_and, Bool.and_true, Bool.and_false, eWo, eS, e0, go_sem, eI, eB, ↓reduceIte, Nat.reduceEqDiff, Nat.reduceAdd, Nat.reduceLeDiff, Nat.reduceMul, Nat.reduceBEq, Nat.reduceBneDiff, Nat.reduceLT, Nat.reduceSub, decide_true, decide_false, and_self, true_and, and_true, false_and, and_false, not_true_eq_false, not_false_eq_true, false_implies, true_implies, implies_true, ge_iff_le, Bool.false_eq_true, List.cons_append, List.nil_append]
  simp +contextual -implicitDefEqProofs only [qWord, bne, Bool.not_true, Bool.not_false, Bool.true_and, Bool.false_and, Bool.and_true, Bool.and_false, eWo, eS, e0, go_sem, eI, eB, ↓reduceIte, Nat.reduceEqDiff, Nat.reduceAdd, Nat.reduceLeDiff, Nat.reduceMul, Nat.reduceBEq, Nat.reduceBneDiff, Nat.reduceLT, Nat.reduceSub, decide_true, decide_false, and_self, true_and, and_true, false_and, and_false, not_true_eq_false, not_false_eq_true, false_implies, true_implies, implies_true, ge_iff_le, Bool.false_eq_true, List.cons_append, List.nil_append]
  refine callQ_self ?_ (famInt64S.afQ a.2 b.2) ?_
  · exact rfl
  cases e1 : famInt64S.q a.2 b.2
  · simp +contextual -implicitDefEqProofs only [qWord, bne, Bool.not_true, Bool.not_false, Bool.true_and, Bool.false_and, Bool.and_true, Bool.and_false, eWo, eS, e0, e1, go_sem, eI, eB, ↓reduceIte, Nat.reduceEqDiff, Nat.reduceAdd, Nat.reduceLeDiff, Nat.reduceMul, Nat.reduceBEq, Nat.reduceBneDiff, Nat.reduceLT, Nat.reduceSub, decide_true, decide_false, and_self, true_and, and_true, false_and, and_false, not_true_eq_false, not_false_eq_true, false_implies, true_implies, implies_true, ge_iff_le, Bool.false_eq_true, List.cons_append, List.nil_append]
  · simp +contextual -implicitDefEqProofs only [qWord, bne, Bool.not_true, Bool.not_false, Bool.true_and, Bool.false_and, Bool.and_true, Bool.and_false, eWo, eS, e0, e1, go_sem, eI, eB, ↓reduceIte, Nat.reduceEqDiff, Nat.reduceAdd, Nat.reduceLeDiff, Nat.reduceMul, Nat.reduceBEq, Nat.reduceBneDiff, Nat.reduceLT, Nat.reduceSub, decide_true, decide_false, and_self, true_and, and_true, false_and, and_false, not_true_eq_false, not_false_eq_true, false_implies, true_implies, implies_true, ge_iff_le, Bool.false_eq_true, List.cons_append, List.nil_append]
theorem qWord_refl (m : Wo) : qWord m m = true := by simp [qWord, famInt64S.q_refl, famInt64S.q_refl]
noncomputable def famWord : Fam Try.prog eWo 38 40 43 := ⟨szWord, tWord, qWord, fitWord, szWord_in, szWord_fit, qWord_refl, af38, af40, af43⟩
theorem famWord_t (x) : famWord.t x = tWord x := rfl
noncomputable def hfBoolS : HFam Try.prog (eS 1 eB) famBoolS.s famBoolS.t 118 119 := hfB mixed (fun _ _ => rfl) (fun _ => rfl) res118 res119
noncomputable def hfBoolSS : HFam Try.prog (eS 1 (eS 1 eB)) famBoolSS.s famBoolSS.t 45 46 := hfC mixed famBoolS (encS eB 1) hfBoolS (fun _ => rfl) res45 res46
noncomputable def hfBoolSSS : MFam Try.prog (eS 1 (eS 1 (eS 1 eB))) famBoolSSS.s famBoolSSS.t 85 := mfC famBoolSS (encS (eS 1 eB) 1) hfBoolSS.toM (fun _ => rfl) res85
noncomputable def mrkModel (m : Mo) (k : Int) : Mo := (m.1, m.2.1, hfBoolSS.mrk m.2.2.1 k, hfBoolSSS.mrk m.2.2.2 (k + hfBoolSS.cnt m.2.2.1))
noncomputable def cntModel (m : Mo) : Nat := hfBoolSS.cnt m.2.2.1 + hfBoolSSS.cnt m.2.2.2
theorem mk_Model (m : Mo) (k : Int) (h0 : 0 ≤ k) (h1 : k + cntModel m ≤ maxK) : AFM Try.prog 20 (eM m) k (eM (mrkModel m k)) (k + cntModel m) := by
  unfold cntModel at h1 ⊢
  refine afm_ag res20 (by omega) rfl fun hbd => ?_
  simp +contextual -implicitDefEqProofs only [rc20, eM, eG, eS, eI, D.at, D.sub, D.put, D.cells, D.size, D.sizeL, D.isAg, go_sem, eI, eB, ↓reduceIte, Nat.reduceEqDiff, Nat.reduceAdd, Nat.reduceLeDiff, Nat.reduceMul, Nat.reduceBEq, Nat.reduceBneDiff, Nat.reduceLT, Nat.reduceSub, decide_true, decide_false, and_self, true_and, and_true, false_and, and_false, not_true_eq_false, not_false_eq_true, false_implies, true_implies, implies_true, ge_iff_le, Bool.false_eq_true, List.cons_append, List.nil_append, Int.ofNat_lt, List.length_map, Int.natCast_nonneg]
  refine mMcl_self (e' := eS 1 (eS 1 eB) (hfBoolSS.mrk m.2.2.1 k)) (n' := k + hfBoolSS.cnt m.2.2.1) ?_ rfl (.inr rfl) ?_
  · exact hfBoolSS.afM m.2.2.1 k (by omega) (by omega)
  simp +contextual -implicitDefEqProofs only [eM, eG, eS, eI, D.at, D.sub, D.put, D.cells, D.size, D.sizeL, D.isAg, mrkModel, go_sem, eI, eB, ↓reduceIte, Nat.reduceEqDiff, Nat.reduceAdd, Nat.reduceLeDiff, Nat.reduceMul, Nat.reduceBEq, Nat.reduceBneDiff, Nat.reduceLT, Nat.reduceSub, decide_true, decide_false, and_self, true_and, and_true, false_and, and_false, not_true_eq_false, not_false_eq_true, false_implies, true_implies, implies_true, ge_iff_le, Bool.false_eq_true, List.cons_append, List.nil_append, Int.ofNat_lt, List.length_map, Int.natCast_nonneg]
  refine mMcl_self (e' := eS 1 (eS 1 (eS 1 eB)) (hfBoolSSS.mrk m.2.2.2 (k + hfBoolSS.cnt m.2.2.1))) (n' := k + hfBoolSS.cnt m.2.2.1 + hfBoolSSS.cnt m.2.2.2) ?_ rfl (.inr rfl) ?_
  · exact hfBoolSSS.afM m.2.2.2 (k + hfBoolSS.cnt m.2.2.1) (by omega) (by omega)
  simp +contextual -implicitDefEqProofs only [eM, eG, eS, eI, D.at, D.sub, D.put, D.cells, D.size, D.sizeL, D.isAg, mrkModel, go_sem, eI, eB, ↓reduceIte, Nat.reduceEqDiff, Nat.reduceAdd, Nat.reduceLeDiff, Nat.reduceMul, Nat.reduceBEq, Nat.reduceBneDiff, Nat.reduceLT, Nat.reduceSub, decide_true, decide_false, and_self, true_and, and_true, false_and, and_false, not_true_eq_false, not_false_eq_true, false_implies, true_implies, implies_true, ge_iff_le, Bool.false_eq_true, List.cons_append, List.nil_append, Int.ofNat_lt, List.length_map, Int.natCast_nonneg]
  try simp only [Int.natCast_add, Int.add_assoc]
  try trivial
noncomputable def hfModel : MFam Try.prog eM szModel tModel 20 where
  mrk := mrkModel
  cnt := cntModel
  cnt_s m l h1 h2 h := by
    unfold szModel at h ⊢
    unfold cntModel
    obtain ⟨p0, h⟩ := nx_fit h
    rw [nx_pos (by omega)]
    have b0 := famBoolSS.s_in m.2.2.1 l (by omega) (by omega)
    have c0 := hfBoolSS.cnt_s m.2.2.1 l (by omega) (by omega) p0
    obtain ⟨p1, h⟩ := nx_fit h
    rw [nx_pos (by omega)]
    have b1 := famBoolSSS.s_in m.2.2.2 (famBoolSS.s m.2.2.1 l) (by omega) (by omega)
    have c1 := hfBoolSSS.cnt_s m.2.2.2 (famBoolSS.s m.2.2.1 l) (by omega) (by omega) p1
    push_cast
    omega
  cnt_t m := by unfold cntModel tModel; simp only [hfBoolSS.cnt_t, hfBoolSSS.cnt_t]
  afM := mk_Model
noncomputable def hfInt64S : MFam Try.prog (eS 1 eI) famInt64S.s famInt64S.t 21 := mfI (fun _ _ => rfl) (fun _ => rfl) res21
noncomputable def mrkWord (m : Wo) (k : Int) : Wo := (hfInt64S.mrk m.1 k, hfInt64S.mrk m.2 (k + hfInt64S.cnt m.1))
noncomputable def cntWord (m : Wo) : Nat := hfInt64S.cnt m.1 + hfInt64S.cnt m.2
theorem mk_Word (m : Wo) (k : Int) (h0 : 0 ≤ k) (h1 : k + cntWord m ≤ maxK) : AFM Try.prog 44 (eWo m) k (eWo (mrkWord m k)) (k + cntWord m) := by
  unfold cntWord at h1 ⊢
  refine afm_ag res44 (by omega) rfl fun hbd => ?_
  simp +contextual -implicitDefEqProofs only [rc44, eWo, eS, eI, D.at, D.sub, D.put, D.cells, D.size, D.sizeL, D.isAg, go_sem, eI, eB, ↓reduceIte, Nat.reduceEqDiff, Nat.reduceAdd, Nat.reduceLeDiff, Nat.reduceMul, Nat.reduceBEq, Nat.reduceBneDiff, Nat.reduceLT, Nat.reduceSub, decide_true, decide_false, and_self, true_and, and_true, false_and, and_false, not_true_eq_false, not_false_eq_true, false_implies, true_implies, implies_true, ge_iff_le, Bool.false_eq_true, List.cons_append, List.nil_append, Int.ofNat_lt, List.length_map, Int.natCast_nonneg]
  refine mMcl_self (e' := eS 1 eI (hfInt64S.mrk m.1 k)) (n' := k + hfInt64S.cnt m.1) ?_ rfl (.inr rfl) ?_
  · exact hfInt64S.afM m.1 k (by omega) (by omega)
  simp +contextual -implicitDefEqProofs only [eWo, eS, eI, D.at, D.sub, D.put, D.cells, D.size, D.sizeL, D.isAg, mrkWord, go_sem, eI, eB, ↓reduceIte, Nat.reduceEqDiff, Nat.reduceAdd, Nat.reduceLeDiff, Nat.reduceMul, Nat.reduceBEq, Nat.reduceBneDiff, Nat.reduceLT, Nat.reduceSub, decide_true, decide_false, and_self, true_and, and_true, false_and, and_false, not_true_eq_false, not_false_eq_true, false_implies, true_implies, implies_true, ge_iff_le, Bool.false_eq_true, List.cons_append, List.nil_append, Int.ofNat_lt, List.length_map, Int.natCast_nonneg]
  refine mMcl_self (e' := eS 1 eI (hfInt64S.mrk m.2 (k + hfInt64S.cnt m.1))) (n' := k + hfInt64S.cnt m.1 + hfInt64S.cnt m.2) ?_ rfl (.inr rfl) ?_
  · exact hfInt64S.afM m.2 (k + hfInt64S.cnt m.1) (by omega) (by omega)
  simp +contextual -implicitDefEqProofs only [eWo, eS, eI, D.at, D.sub, D.put, D.cells, D.size, D.sizeL, D.isAg, mrkWord, go_sem, eI, eB, ↓reduceIte, Nat.reduceEqDiff, Nat.reduceAdd, Nat.reduceLeDiff, Nat.reduceMul, Nat.reduceBEq, Nat.reduceBneDiff, Nat.reduceLT, Nat.reduceSub, decide_true, decide_false, and_self, true_and, and_true, false_and, and_false, not_true_eq_false, not_false_eq_true, false_implies, true_implies, implies_true, ge_iff_le, Bool.false_eq_true, List.cons_append, List.nil_append, Int.ofNat_lt, List.length_map, Int.natCast_nonneg]
  try simp only [Int.natCast_add, Int.add_assoc]
  try trivial
noncomputable def hfWord : MFam Try.prog eWo szWord tWord 44 where
  mrk := mrkWord
  cnt := cntWord
  cnt_s m l h1 h2 h := by
    unfold szWord at h ⊢
    unfold cntWord
    obtain ⟨p0, h⟩ := nx_fit h
    rw [nx_pos (by omega)]
    have b0 := famInt64S.s_in m.1 l (by omega) (by omega)
    have c0 := hfInt64S.cnt_s m.1 l (by omega) (by omega) p0
    obtain ⟨p1, h⟩ := nx_fit h
    rw [nx_pos (by omega)]
    have b1 := famInt64S.s_in m.2 (famInt64S.s m.1 l) (by omega) (by omega)
    have c1 := hfInt64S.cnt_s m.2 (famInt64S.s m.1 l) (by omega) (by omega) p1
    push_cast
    omega
  cnt_t m := by unfold cntWord tWord; simp only [hfInt64S.cnt_t]
  afM := mk_Word

theorem runS_two (m : Mo) (e : Wo) : ∃ n1 n2 l c, runS (some false) m e = ((n1, l), c) ∧ runS (some true) m e = ((n2, l), c) := by
  unfold runS
  split
  · exact ⟨_, _, _, _, rfl, rfl⟩
  · exact ⟨_, _, _, _, rfl, rfl⟩
theorem runS_cnt (z : Option Bool) (m : Mo) (e : Wo) : hfBoolSS.cnt (runS z m e).1 ≤ 1000000 := by
  unfold runS
  split
  · next h =>
    obtain ⟨n, hM⟩ := okMo_ok h.1
    have n8 := hM.n8
    have hn : m.2.1.toNat = n := by rw [hM.pts]; rfl
    rw [hn]
    have sq : Sq n (rTab n (runU m n e e.2.2.length)) := rTab_sq
    show cntL (fun x : SL Bool => x.2.length) (rTab n (runU m n e e.2.2.length)).2 ≤ _
    have := cntL_bd (cnt := fun x : SL Bool => x.2.length) (l := (rTab n (runU m n e e.2.2.length)).2) (c := 8) (fun x hx => by have := sq.row x hx; omega)
    have hl := sq.len
    omega
  · exact Nat.zero_le _
theorem law (m : Mo) (e : Wo) : AF Try.prog 6 [eM m, eWo e] (.own (eB true)) := by
  refine af_of_res res6 mixed rfl fun hbd => ?_
  simp +contextual -implicitDefEqProofs only [rc6, eM, eG, eS, eI, eB, famModel_t, tModel, famBoolSS_t, famBoolSSS_t, famWord_t, tWord, famInt64S_t, eWo, bne_self_eq_false, go_sem, eI, eB, ↓reduceIte, Nat.reduceEqDiff, Nat.reduceAdd, Nat.reduceLeDiff, Nat.reduceMul, Nat.reduceBEq, Nat.reduceBneDiff, Nat.reduceLT, Nat.reduceSub, decide_true, decide_false, and_self, true_and, and_true, false_and, and_false, not_true_eq_false, not_false_eq_true, false_implies, true_implies, implies_true, ge_iff_le, Bool.false_eq_true, List.cons_append, List.nil_append]
  refine callQ_self (ds := [eM m, eI 1048576]) ?_ (famModel.afS m 1048576 (by omega) (by omega)) ?_
  · simp only [eM, eG, eS, eI, eB, famModel_t, tModel, famBoolSS_t, famBoolSSS_t, famWord_t, tWord, famInt64S_t, eWo, bne_self_eq_false]; exact rfl
  simp +contextual -implicitDefEqProofs only [eM, eG, eS, eI, eB, famModel_t, tModel, famBoolSS_t, famBoolSSS_t, famWord_t, tWord, famInt64S_t, eWo, bne_self_eq_false, go_sem, eI, eB, ↓reduceIte, Nat.reduceEqDiff, Nat.reduceAdd, Nat.reduceLeDiff, Nat.reduceMul, Nat.reduceBEq, Nat.reduceBneDiff, Nat.reduceLT, Nat.reduceSub, decide_true, decide_false, and_self, true_and, and_true, false_and, and_false, not_true_eq_false, not_false_eq_true, false_implies, true_implies, implies_true, ge_iff_le, Bool.false_eq_true, List.cons_append, List.nil_append]
  have sb0 := famModel.s_in m 1048576 (by omega) (by omega)
  refine fun hs0 => ?_
  have hf0 := famModel.s_fit m 1048576 (by omega) (by omega) (by omega)
  refine callQ_self (ds := [eWo e, eI (famModel.s m 1048576)]) ?_ (famWord.afS e (famModel.s m 1048576) (by omega) (by omega)) ?_
  · simp only [eM, eG, eS, eI, eB, famModel_t, tModel, famBoolSS_t, famBoolSSS_t, famWord_t, tWord, famInt64S_t, eWo, bne_self_eq_false]; exact rfl
  simp +contextual -implicitDefEqProofs only [eM, eG, eS, eI, eB, famModel_t, tModel, famBoolSS_t, famBoolSSS_t, famWord_t, tWord, famInt64S_t, eWo, bne_self_eq_false, go_sem, eI, eB, ↓reduceIte, Nat.reduceEqDiff, Nat.reduceAdd, Nat.reduceLeDiff, Nat.reduceMul, Nat.reduceBEq, Nat.reduceBneDiff, Nat.reduceLT, Nat.reduceSub, decide_true, decide_false, and_self, true_and, and_true, false_and, and_false, not_true_eq_false, not_false_eq_true, false_implies, true_implies, implies_true, ge_iff_le, Bool.false_eq_true, List.cons_append, List.nil_append]
  have sb1 := famWord.s_in e (famModel.s m 1048576) (by omega) (by omega)
  refine fun hs1 => ?_
  have hf1 := famWord.s_fit e (famModel.s m 1048576) (by omega) (by omega) (by omega)
  refine callQ_self (ds := [eM m]) ?_ (famModel.afT m hf0) ?_
  · simp only [eM, eG, eS, eI, eB, famModel_t, tModel, famBoolSS_t, famBoolSSS_t, famWord_t, tWord, famInt64S_t, eWo, bne_self_eq_false]; exact rfl
  simp +contextual -implicitDefEqProofs only [eM, eG, eS, eI, eB, famModel_t, tModel, famBoolSS_t, famBoolSSS_t, famWord_t, tWord, famInt64S_t, eWo, bne_self_eq_false, go_sem, eI, eB, ↓reduceIte, Nat.reduceEqDiff, Nat.reduceAdd, Nat.reduceLeDiff, Nat.reduceMul, Nat.reduceBEq, Nat.reduceBneDiff, Nat.reduceLT, Nat.reduceSub, decide_true, decide_false, and_self, true_and, and_true, false_and, and_false, not_true_eq_false, not_false_eq_true, false_implies, true_implies, implies_true, ge_iff_le, Bool.false_eq_true, List.cons_append, List.nil_append]
  refine callQ_self (ds := [eWo e]) ?_ (famWord.afT e hf1) ?_
  · simp only [eM, eG, eS, eI, eB, famModel_t, tModel, famBoolSS_t, famBoolSSS_t, famWord_t, tWord, famInt64S_t, eWo, bne_self_eq_false]; exact rfl
  simp +contextual -implicitDefEqProofs only [eM, eG, eS, eI, eB, famModel_t, tModel, famBoolSS_t, famBoolSSS_t, famWord_t, tWord, famInt64S_t, eWo, bne_self_eq_false, go_sem, eI, eB, ↓reduceIte, Nat.reduceEqDiff, Nat.reduceAdd, Nat.reduceLeDiff, Nat.reduceMul, Nat.reduceBEq, Nat.reduceBneDiff, Nat.reduceLT, Nat.reduceSub, decide_true, decide_false, and_self, true_and, and_true, false_and, and_false, not_true_eq_false, not_false_eq_true, false_implies, true_implies, implies_true, ge_iff_le, Bool.false_eq_true, List.cons_append, List.nil_append]
  have hsp := af39 (famModel.t m) (famWord.t e)
  have him := af41 (famModel.t m) (famWord.t e)
  have hqM := famModel.afQ (famModel.t m) (famModel.t m)
  rw [famModel.q_refl] at hqM
  have hqE := famWord.afQ (famWord.t e) (famWord.t e)
  rw [famWord.q_refl] at hqE
  have hc0 : (hfModel.cnt (famModel.t m) : Int) ≤ 8388608 := by
    have h := hfModel.cnt_s m 1048576 (by omega) (by omega) (Int.not_lt.1 hs0)
    have e : hfModel.cnt (famModel.t m) = hfModel.cnt m := hfModel.cnt_t m
    have h' : 0 ≤ szModel m 1048576 := Int.not_lt.1 hs0
    rw [e]; omega
  have hcE : (hfWord.cnt (famWord.t e) : Int) ≤ 8388608 := by
    have h := hfWord.cnt_s e (famModel.s m 1048576) (by omega) (by omega) (Int.not_lt.1 hs1)
    have h' : 0 ≤ szWord e (famModel.s m 1048576) := Int.not_lt.1 hs1
    have e : hfWord.cnt (famWord.t e) = hfWord.cnt e := hfWord.cnt_t e
    rw [e]; omega
  have hc1 := runS_cnt (some true) (famModel.t m) (famWord.t e)
  obtain ⟨n1, n2, l, c, e1, e2⟩ := runS_two (famModel.t m) (famWord.t e)
  rw [e1] at hsp
  rw [e2] at him hc1
  simp only at hsp him hc1
  have hqR := famBoolSS.afQ (n2, l) (n1, l)
  rw [show famBoolSS.q (n2, l) (n1, l) = true from famBoolSS.q_refl (n2, l)] at hqR
  have hM0 := hfModel.afM (famModel.t m) 1 (by omega) (by unfold maxK; omega)
  generalize hfModel.cnt (famModel.t m) = cT at hM0 hc0
  generalize hfModel.mrk (famModel.t m) 1 = mT at hM0
  have hME := hfWord.afM (famWord.t e) (1 + cT) (by omega) (by unfold maxK; omega)
  generalize hfWord.cnt (famWord.t e) = cE at hME hcE
  generalize hfWord.mrk (famWord.t e) (1 + cT) = mE at hME
  have hM1 := hfBoolSS.afM (n2, l) 1 (by omega) (by unfold maxK; omega)
  have hH1 := hfBoolSS.afH (n2, l) 1 (by omega) (by unfold maxK; omega)
  generalize hfBoolSS.cnt (n2, l) = cR at hM1 hH1 hc1
  generalize hfBoolSS.mrk (n2, l) 1 = mR at hM1 hH1
  have hk0 : ¬ (1 + (cT : Int) + (cE : Int) < 0) := by omega
  have hk1 : ¬ (1 + (cR : Int) < 0) := by omega
  refine callQ_self (ds := [eM (famModel.t m), eWo (famWord.t e)]) ?_ (hsp) ?_
  · simp only [eM, eG, eS, eI, eB, famModel_t, tModel, famBoolSS_t, famBoolSSS_t, famWord_t, tWord, famInt64S_t, eWo, bne_self_eq_false]; exact rfl
  simp +contextual -implicitDefEqProofs only [eM, eG, eS, eI, eB, famModel_t, tModel, famBoolSS_t, famBoolSSS_t, famWord_t, tWord, famInt64S_t, eWo, bne_self_eq_false, go_sem, eI, eB, ↓reduceIte, Nat.reduceEqDiff, Nat.reduceAdd, Nat.reduceLeDiff, Nat.reduceMul, Nat.reduceBEq, Nat.reduceBneDiff, Nat.reduceLT, Nat.reduceSub, decide_true, decide_false, and_self, true_and, and_true, false_and, and_false, not_true_eq_false, not_false_eq_true, false_implies, true_implies, implies_true, ge_iff_le, Bool.false_eq_true, List.cons_append, List.nil_append]
  refine callQ_self (ds := [eM m]) ?_ (famModel.afT m hf0) ?_
  · simp only [eM, eG, eS, eI, eB, famModel_t, tModel, famBoolSS_t, famBoolSSS_t, famWord_t, tWord, famInt64S_t, eWo, bne_self_eq_false]; exact rfl
  simp +contextual -implicitDefEqProofs only [eM, eG, eS, eI, eB, famModel_t, tModel, famBoolSS_t, famBoolSSS_t, famWord_t, tWord, famInt64S_t, eWo, bne_self_eq_false, go_sem, eI, eB, ↓reduceIte, Nat.reduceEqDiff, Nat.reduceAdd, Nat.reduceLeDiff, Nat.reduceMul, Nat.reduceBEq, Nat.reduceBneDiff, Nat.reduceLT, Nat.reduceSub, decide_true, decide_false, and_self, true_and, and_true, false_and, and_false, not_true_eq_false, not_false_eq_true, false_implies, true_implies, implies_true, ge_iff_le, Bool.false_eq_true, List.cons_append, List.nil_append]
  refine callQ_self (ds := [eWo e]) ?_ (famWord.afT e hf1) ?_
  · simp only [eM, eG, eS, eI, eB, famModel_t, tModel, famBoolSS_t, famBoolSSS_t, famWord_t, tWord, famInt64S_t, eWo, bne_self_eq_false]; exact rfl
  simp +contextual -implicitDefEqProofs only [eM, eG, eS, eI, eB, famModel_t, tModel, famBoolSS_t, famBoolSSS_t, famWord_t, tWord, famInt64S_t, eWo, bne_self_eq_false, go_sem, eI, eB, ↓reduceIte, Nat.reduceEqDiff, Nat.reduceAdd, Nat.reduceLeDiff, Nat.reduceMul, Nat.reduceBEq, Nat.reduceBneDiff, Nat.reduceLT, Nat.reduceSub, decide_true, decide_false, and_self, true_and, and_true, false_and, and_false, not_true_eq_false, not_false_eq_true, false_implies, true_implies, implies_true, ge_iff_le, Bool.false_eq_true, List.cons_append, List.nil_append]
  refine callQ_self (ds := [eM (famModel.t m), eWo (famWord.t e)]) ?_ (him) ?_
  · simp only [eM, eG, eS, eI, eB, famModel_t, tModel, famBoolSS_t, famBoolSSS_t, famWord_t, tWord, famInt64S_t, eWo, bne_self_eq_false]; exact rfl
  simp +contextual -implicitDefEqProofs only [eM, eG, eS, eI, eB, famModel_t, tModel, famBoolSS_t, famBoolSSS_t, famWord_t, tWord, famInt64S_t, eWo, bne_self_eq_false, go_sem, eI, eB, ↓reduceIte, Nat.reduceEqDiff, Nat.reduceAdd, Nat.reduceLeDiff, Nat.reduceMul, Nat.reduceBEq, Nat.reduceBneDiff, Nat.reduceLT, Nat.reduceSub, decide_true, decide_false, and_self, true_and, and_true, false_and, and_false, not_true_eq_false, not_false_eq_true, false_implies, true_implies, implies_true, ge_iff_le, Bool.false_eq_true, List.cons_append, List.nil_append]
  refine callQ_self (ds := [eS 1 (eS 1 eB) (n2, l), eS 1 (eS 1 eB) (n1, l)]) ?_ (hqR) ?_
  · simp only [eM, eG, eS, eI, eB, famModel_t, tModel, famBoolSS_t, famBoolSSS_t, famWord_t, tWord, famInt64S_t, eWo, bne_self_eq_false]; exact rfl
  simp +contextual -implicitDefEqProofs only [Bool.not_true, eM, eG, eS, eI, eB, famModel_t, tModel, famBoolSS_t, famBoolSSS_t, famWord_t, tWord, famInt64S_t, eWo, bne_self_eq_false, go_sem, eI, eB, ↓reduceIte, Nat.reduceEqDiff, Nat.reduceAdd, Nat.reduceLeDiff, Nat.reduceMul, Nat.reduceBEq, Nat.reduceBneDiff, Nat.reduceLT, Nat.reduceSub, decide_true, decide_false, and_self, true_and, and_true, false_and, and_false, not_true_eq_false, not_false_eq_true, false_implies, true_implies, implies_true, ge_iff_le, Bool.false_eq_true, List.cons_append, List.nil_append]
  refine callQ_self (ds := [eM m]) ?_ (famModel.afT m hf0) ?_
  · simp only [eM, eG, eS, eI, eB, famModel_t, tModel, famBoolSS_t, famBoolSSS_t, famWord_t, tWord, famInt64S_t, eWo, bne_self_eq_false]; exact rfl
  simp +contextual -implicitDefEqProofs only [eM, eG, eS, eI, eB, famModel_t, tModel, famBoolSS_t, famBoolSSS_t, famWord_t, tWord, famInt64S_t, eWo, bne_self_eq_false, go_sem, eI, eB, ↓reduceIte, Nat.reduceEqDiff, Nat.reduceAdd, Nat.reduceLeDiff, Nat.reduceMul, Nat.reduceBEq, Nat.reduceBneDiff, Nat.reduceLT, Nat.reduceSub, decide_true, decide_false, and_self, true_and, and_true, false_and, and_false, not_true_eq_false, not_false_eq_true, false_implies, true_implies, implies_true, ge_iff_le, Bool.false_eq_true, List.cons_append, List.nil_append]
  refine callQ_self (ds := [eM (famModel.t m), eM (famModel.t m)]) ?_ (hqM) ?_
  · simp only [eM, eG, eS, eI, eB, famModel_t, tModel, famBoolSS_t, famBoolSSS_t, famWord_t, tWord, famInt64S_t, eWo, bne_self_eq_false]; exact rfl
  simp +contextual -implicitDefEqProofs only [Bool.not_true, eM, eG, eS, eI, eB, famModel_t, tModel, famBoolSS_t, famBoolSSS_t, famWord_t, tWord, famInt64S_t, eWo, bne_self_eq_false, go_sem, eI, eB, ↓reduceIte, Nat.reduceEqDiff, Nat.reduceAdd, Nat.reduceLeDiff, Nat.reduceMul, Nat.reduceBEq, Nat.reduceBneDiff, Nat.reduceLT, Nat.reduceSub, decide_true, decide_false, and_self, true_and, and_true, false_and, and_false, not_true_eq_false, not_false_eq_true, false_implies, true_implies, implies_true, ge_iff_le, Bool.false_eq_true, List.cons_append, List.nil_append]
  refine callQ_self (ds := [eWo e]) ?_ (famWord.afT e hf1) ?_
  · simp only [eM, eG, eS, eI, eB, famModel_t, tModel, famBoolSS_t, famBoolSSS_t, famWord_t, tWord, famInt64S_t, eWo, bne_self_eq_false]; exact rfl
  simp +contextual -implicitDefEqProofs only [eM, eG, eS, eI, eB, famModel_t, tModel, famBoolSS_t, famBoolSSS_t, famWord_t, tWord, famInt64S_t, eWo, bne_self_eq_false, go_sem, eI, eB, ↓reduceIte, Nat.reduceEqDiff, Nat.reduceAdd, Nat.reduceLeDiff, Nat.reduceMul, Nat.reduceBEq, Nat.reduceBneDiff, Nat.reduceLT, Nat.reduceSub, decide_true, decide_false, and_self, true_and, and_true, false_and, and_false, not_true_eq_false, not_false_eq_true, false_implies, true_implies, implies_true, ge_iff_le, Bool.false_eq_true, List.cons_append, List.nil_append]
  refine callQ_self (ds := [eWo (famWord.t e), eWo (famWord.t e)]) ?_ (hqE) ?_
  · simp only [eM, eG, eS, eI, eB, famModel_t, tModel, famBoolSS_t, famBoolSSS_t, famWord_t, tWord, famInt64S_t, eWo, bne_self_eq_false]; exact rfl
  simp +contextual -implicitDefEqProofs only [Bool.not_true, eM, eG, eS, eI, eB, famModel_t, tModel, famBoolSS_t, famBoolSSS_t, famWord_t, tWord, famInt64S_t, eWo, bne_self_eq_false, go_sem, eI, eB, ↓reduceIte, Nat.reduceEqDiff, Nat.reduceAdd, Nat.reduceLeDiff, Nat.reduceMul, Nat.reduceBEq, Nat.reduceBneDiff, Nat.reduceLT, Nat.reduceSub, decide_true, decide_false, and_self, true_and, and_true, false_and, and_false, not_true_eq_false, not_false_eq_true, false_implies, true_implies, implies_true, ge_iff_le, Bool.false_eq_true, List.cons_append, List.nil_append]
  refine ⟨eM mT, 1 + cT, hM0, ⟨rfl, fun _ => rfl, rfl⟩, ?_⟩
  simp +contextual -implicitDefEqProofs only [D.put, D.cells, D.size, D.sizeL, D.isAg, D.at, D.sub, eM, eG, eS, eI, eB, famModel_t, tModel, famBoolSS_t, famBoolSSS_t, famWord_t, tWord, famInt64S_t, eWo, bne_self_eq_false, go_sem, eI, eB, ↓reduceIte, Nat.reduceEqDiff, Nat.reduceAdd, Nat.reduceLeDiff, Nat.reduceMul, Nat.reduceBEq, Nat.reduceBneDiff, Nat.reduceLT, Nat.reduceSub, decide_true, decide_false, and_self, true_and, and_true, false_and, and_false, not_true_eq_false, not_false_eq_true, false_implies, true_implies, implies_true, ge_iff_le, Bool.false_eq_true, List.cons_append, List.nil_append]
  refine ⟨eWo mE, 1 + cT + cE, hME, ⟨rfl, fun _ => rfl, rfl⟩, ?_⟩
  simp +contextual -implicitDefEqProofs only [hk0, D.put, D.cells, D.size, D.sizeL, D.isAg, D.at, D.sub, eM, eG, eS, eI, eB, famModel_t, tModel, famBoolSS_t, famBoolSSS_t, famWord_t, tWord, famInt64S_t, eWo, bne_self_eq_false, go_sem, eI, eB, ↓reduceIte, Nat.reduceEqDiff, Nat.reduceAdd, Nat.reduceLeDiff, Nat.reduceMul, Nat.reduceBEq, Nat.reduceBneDiff, Nat.reduceLT, Nat.reduceSub, decide_true, decide_false, and_self, true_and, and_true, false_and, and_false, not_true_eq_false, not_false_eq_true, false_implies, true_implies, implies_true, ge_iff_le, Bool.false_eq_true, List.cons_append, List.nil_append]
  refine callQ_self (ds := [eS 1 (eS 1 eB) (n2, l), eS 1 (eS 1 eB) (n1, l)]) ?_ (hqR) ?_
  · simp only [eM, eG, eS, eI, eB, famModel_t, tModel, famBoolSS_t, famBoolSSS_t, famWord_t, tWord, famInt64S_t, eWo, bne_self_eq_false]; exact rfl
  simp +contextual -implicitDefEqProofs only [Bool.not_true, eM, eG, eS, eI, eB, famModel_t, tModel, famBoolSS_t, famBoolSSS_t, famWord_t, tWord, famInt64S_t, eWo, bne_self_eq_false, go_sem, eI, eB, ↓reduceIte, Nat.reduceEqDiff, Nat.reduceAdd, Nat.reduceLeDiff, Nat.reduceMul, Nat.reduceBEq, Nat.reduceBneDiff, Nat.reduceLT, Nat.reduceSub, decide_true, decide_false, and_self, true_and, and_true, false_and, and_false, not_true_eq_false, not_false_eq_true, false_implies, true_implies, implies_true, ge_iff_le, Bool.false_eq_true, List.cons_append, List.nil_append]
  refine ⟨eS 1 (eS 1 eB) mR, 1 + cR, hM1, rfl, ?_⟩
  simp +contextual -implicitDefEqProofs only [D.put, D.cells, D.size, D.sizeL, D.isAg, D.at, D.sub, eM, eG, eS, eI, eB, famModel_t, tModel, famBoolSS_t, famBoolSSS_t, famWord_t, tWord, famInt64S_t, eWo, bne_self_eq_false, go_sem, eI, eB, ↓reduceIte, Nat.reduceEqDiff, Nat.reduceAdd, Nat.reduceLeDiff, Nat.reduceMul, Nat.reduceBEq, Nat.reduceBneDiff, Nat.reduceLT, Nat.reduceSub, decide_true, decide_false, and_self, true_and, and_true, false_and, and_false, not_true_eq_false, not_false_eq_true, false_implies, true_implies, implies_true, ge_iff_le, Bool.false_eq_true, List.cons_append, List.nil_append]
  refine callQ_self (ds := [eS 1 (eS 1 eB) mR, eI 1]) ?_ (hH1) ?_
  · simp only [eM, eG, eS, eI, eB, famModel_t, tModel, famBoolSS_t, famBoolSSS_t, famWord_t, tWord, famInt64S_t, eWo, bne_self_eq_false]; exact rfl
  simp +contextual -implicitDefEqProofs only [hk1, eM, eG, eS, eI, eB, famModel_t, tModel, famBoolSS_t, famBoolSSS_t, famWord_t, tWord, famInt64S_t, eWo, bne_self_eq_false, go_sem, eI, eB, ↓reduceIte, Nat.reduceEqDiff, Nat.reduceAdd, Nat.reduceLeDiff, Nat.reduceMul, Nat.reduceBEq, Nat.reduceBneDiff, Nat.reduceLT, Nat.reduceSub, decide_true, decide_false, and_self, true_and, and_true, false_and, and_false, not_true_eq_false, not_false_eq_true, false_implies, true_implies, implies_true, ge_iff_le, Bool.false_eq_true, List.cons_append, List.nil_append]
  refine callQ_self (ds := [eM m]) ?_ (famModel.afT m hf0) ?_
  · simp only [eM, eG, eS, eI, eB, famModel_t, tModel, famBoolSS_t, famBoolSSS_t, famWord_t, tWord, famInt64S_t, eWo, bne_self_eq_false]; exact rfl
  simp +contextual -implicitDefEqProofs only [eM, eG, eS, eI, eB, famModel_t, tModel, famBoolSS_t, famBoolSSS_t, famWord_t, tWord, famInt64S_t, eWo, bne_self_eq_false, go_sem, eI, eB, ↓reduceIte, Nat.reduceEqDiff, Nat.reduceAdd, Nat.reduceLeDiff, Nat.reduceMul, Nat.reduceBEq, Nat.reduceBneDiff, Nat.reduceLT, Nat.reduceSub, decide_true, decide_false, and_self, true_and, and_true, false_and, and_false, not_true_eq_false, not_false_eq_true, false_implies, true_implies, implies_true, ge_iff_le, Bool.false_eq_true, List.cons_append, List.nil_append]
  refine callQ_self (ds := [eWo e]) ?_ (famWord.afT e hf1) ?_
  · simp only [eM, eG, eS, eI, eB, famModel_t, tModel, famBoolSS_t, famBoolSSS_t, famWord_t, tWord, famInt64S_t, eWo, bne_self_eq_false]; exact rfl
  simp +contextual -implicitDefEqProofs only [eM, eG, eS, eI, eB, famModel_t, tModel, famBoolSS_t, famBoolSSS_t, famWord_t, tWord, famInt64S_t, eWo, bne_self_eq_false, go_sem, eI, eB, ↓reduceIte, Nat.reduceEqDiff, Nat.reduceAdd, Nat.reduceLeDiff, Nat.reduceMul, Nat.reduceBEq, Nat.reduceBneDiff, Nat.reduceLT, Nat.reduceSub, decide_true, decide_false, and_self, true_and, and_true, false_and, and_false, not_true_eq_false, not_false_eq_true, false_implies, true_implies, implies_true, ge_iff_le, Bool.false_eq_true, List.cons_append, List.nil_append]
  refine callQ_self (ds := [eM (famModel.t m), eWo (famWord.t e)]) ?_ (him) ?_
  · simp only [eM, eG, eS, eI, eB, famModel_t, tModel, famBoolSS_t, famBoolSSS_t, famWord_t, tWord, famInt64S_t, eWo, bne_self_eq_false]; exact rfl
  simp +contextual -implicitDefEqProofs only [eM, eG, eS, eI, eB, famModel_t, tModel, famBoolSS_t, famBoolSSS_t, famWord_t, tWord, famInt64S_t, eWo, bne_self_eq_false, go_sem, eI, eB, ↓reduceIte, Nat.reduceEqDiff, Nat.reduceAdd, Nat.reduceLeDiff, Nat.reduceMul, Nat.reduceBEq, Nat.reduceBneDiff, Nat.reduceLT, Nat.reduceSub, decide_true, decide_false, and_self, true_and, and_true, false_and, and_false, not_true_eq_false, not_false_eq_true, false_implies, true_implies, implies_true, ge_iff_le, Bool.false_eq_true, List.cons_append, List.nil_append]
  refine callQ_self (ds := [eS 1 (eS 1 eB) (n2, l), eS 1 (eS 1 eB) (n1, l)]) ?_ (hqR) ?_
  · simp only [eM, eG, eS, eI, eB, famModel_t, tModel, famBoolSS_t, famBoolSSS_t, famWord_t, tWord, famInt64S_t, eWo, bne_self_eq_false]; exact rfl
  simp +contextual -implicitDefEqProofs only [Bool.not_true, eM, eG, eS, eI, eB, famModel_t, tModel, famBoolSS_t, famBoolSSS_t, famWord_t, tWord, famInt64S_t, eWo, bne_self_eq_false, go_sem, eI, eB, ↓reduceIte, Nat.reduceEqDiff, Nat.reduceAdd, Nat.reduceLeDiff, Nat.reduceMul, Nat.reduceBEq, Nat.reduceBneDiff, Nat.reduceLT, Nat.reduceSub, decide_true, decide_false, and_self, true_and, and_true, false_and, and_false, not_true_eq_false, not_false_eq_true, false_implies, true_implies, implies_true, ge_iff_le, Bool.false_eq_true, List.cons_append, List.nil_append]
  refine callQ_self (ds := [eS 1 (eS 1 eB) mR, eI 1]) ?_ (hH1) ?_
  · simp only [eM, eG, eS, eI, eB, famModel_t, tModel, famBoolSS_t, famBoolSSS_t, famWord_t, tWord, famInt64S_t, eWo, bne_self_eq_false]; exact rfl
  simp +contextual -implicitDefEqProofs only [hk1, eM, eG, eS, eI, eB, famModel_t, tModel, famBoolSS_t, famBoolSSS_t, famWord_t, tWord, famInt64S_t, eWo, bne_self_eq_false, go_sem, eI, eB, ↓reduceIte, Nat.reduceEqDiff, Nat.reduceAdd, Nat.reduceLeDiff, Nat.reduceMul, Nat.reduceBEq, Nat.reduceBneDiff, Nat.reduceLT, Nat.reduceSub, decide_true, decide_false, and_self, true_and, and_true, false_and, and_false, not_true_eq_false, not_false_eq_true, false_implies, true_implies, implies_true, ge_iff_le, Bool.false_eq_true, List.cons_append, List.nil_append]
end Go.Ax
