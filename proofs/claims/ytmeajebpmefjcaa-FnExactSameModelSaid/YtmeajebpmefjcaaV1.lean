/- Contracts of functions of the seat, proved over the engine. No condition. -/
import Derived.Test.YtmeajebpmefjcaaAxD
import Derived.Test.YtmeajebpmefjcaaChecked
namespace Go.Ax
open Go.Proofs
def rc3 : RC :=
 (.seq
  (.reg false [⟨none, .box 2 2 (.t 0)⟩,
    ⟨none, .box 3 2 (.t 1)⟩,
    ⟨none, .mv 4 (.c (.sc (.bool false)))⟩])
  ((.seq
   (.reg false [⟨none, .mv 5 (.c (.sc (.int .i64 1048576)))⟩])
   ((.seq
    (.reg false [⟨none, .ld 9 true 2 (.t 3)⟩,
      ⟨none, .mv 10 (.t 5)⟩,
      ⟨none, .call (some 11) 7 [(.t 9), (.t 10)]⟩,
      ⟨none, .mv 5 (.t 11)⟩])
    ((.seq
     ((.seq
      (.reg false [⟨none, .mv 12 (.t 5)⟩,
        ⟨none, .bin 13 .lss (.t 12) (.c (.sc (.int .i64 0)))⟩])
      (.cond (.t 13)
       ((.seq
        (.reg false [⟨none, .mv 4 (.c (.sc (.bool true)))⟩])
        (.ret)))
       (.skip))))
     ((.seq
      (.reg true [⟨none, .ld 14 true 2 (.t 2)⟩,
        ⟨none, .call (some 15) 9 [(.t 14)]⟩,
        ⟨none, .ld 16 true 2 (.t 3)⟩,
        ⟨none, .call (some 17) 10 [(.t 16)]⟩,
        ⟨none, .call (some 18) 8 [(.t 15), (.t 17)]⟩,
        ⟨none, .mv 6 (.t 18)⟩])
      ((.seq
       (.reg false [⟨none, .ld 19 true 2 (.t 3)⟩,
         ⟨none, .call (some 20) 10 [(.t 19)]⟩,
         ⟨none, .zer 7 2 (.ag [(.ls (some true) 1 []), (.ls (some true) 1 [])])⟩,
         ⟨none, .st 2 (.t 7) (.t 20)⟩])
       ((.seq
        (.reg true [⟨none, .ld 21 true 2 (.t 2)⟩,
          ⟨none, .call (some 22) 9 [(.t 21)]⟩,
          ⟨none, .ld 23 true 2 (.t 7)⟩,
          ⟨none, .call (some 24) 11 [(.t 22), (.t 23)]⟩,
          ⟨none, .mv 8 (.t 24)⟩])
        ((.seq
         ((.seq
          (.reg false [⟨none, .mv 25 (.t 8)⟩,
            ⟨none, .mv 26 (.t 6)⟩,
            ⟨none, .beq 27 true (.t 25) (.t 26)⟩])
          (.cond (.t 27)
           ((.seq
            (.reg false [⟨none, .mv 4 (.c (.sc (.bool false)))⟩])
            (.ret)))
           (.skip))))
         ((.seq
          ((.seq
           (.reg true [⟨none, .ld 28 true 2 (.t 7)⟩,
             ⟨none, .ld 29 true 2 (.t 3)⟩,
             ⟨none, .call (some 30) 10 [(.t 29)]⟩,
             ⟨none, .call (some 31) 12 [(.t 28), (.t 30)]⟩,
             ⟨none, .un 32 .not (.t 31)⟩])
           (.cond (.t 32)
            ((.seq
             (.reg false [⟨none, .mv 4 (.c (.sc (.bool false)))⟩])
             (.ret)))
            (.skip))))
          ((.seq
           (.reg false [⟨none, .mv 4 (.c (.sc (.bool true)))⟩])
           (.ret))))))))))))))))))))
theorem res3 : resF Try.prog 3 = some (33, rc3, [.t 4]) := by kernel_rfl
def rc7 : RC :=
 (.seq
  (.reg false [⟨none, .box 2 2 (.t 0)⟩,
    ⟨none, .mv 4 (.c (.sc (.int .i64 0)))⟩])
  ((.seq
   (.reg false [⟨none, .fa 5 0 (.t 2)⟩,
     ⟨none, .ld 6 false 1 (.t 5)⟩,
     ⟨none, .mv 7 (.t 1)⟩,
     ⟨none, .call (some 8) 25 [(.t 6), (.t 7)]⟩,
     ⟨none, .mv 1 (.t 8)⟩])
   ((.seq
    ((.seq
     (.reg false [⟨none, .mv 9 (.t 1)⟩,
       ⟨none, .bin 10 .lss (.t 9) (.c (.sc (.int .i64 0)))⟩])
     (.cond (.t 10)
      ((.seq
       (.reg false [⟨none, .mv 4 (.c (.sc (.int .i64 (-1))))⟩])
       (.ret)))
      (.skip))))
    ((.seq
     (.reg false [⟨none, .fa 11 1 (.t 2)⟩,
       ⟨none, .ld 12 false 1 (.t 11)⟩,
       ⟨none, .mv 13 (.t 1)⟩,
       ⟨none, .call (some 14) 26 [(.t 12), (.t 13)]⟩,
       ⟨none, .mv 1 (.t 14)⟩])
     ((.seq
      ((.seq
       (.reg false [⟨none, .mv 15 (.t 1)⟩,
         ⟨none, .bin 16 .lss (.t 15) (.c (.sc (.int .i64 0)))⟩])
       (.cond (.t 16)
        ((.seq
         (.reg false [⟨none, .mv 4 (.c (.sc (.int .i64 (-1))))⟩])
         (.ret)))
        (.skip))))
      ((.seq
       (.reg false [⟨none, .mv 17 (.t 1)⟩,
         ⟨none, .mv 4 (.t 17)⟩])
       (.ret))))))))))))
theorem res7 : resF Try.prog 7 = some (18, rc7, [.t 4]) := by kernel_rfl
def rc8 : RC :=
 (.seq
  (.reg false [⟨none, .box 2 2 (.t 0)⟩,
    ⟨none, .box 3 2 (.t 1)⟩,
    ⟨none, .mv 4 (.c (.sc (.bool false)))⟩])
  ((.seq
   (.reg false [⟨none, .ld 5 true 2 (.t 2)⟩,
     ⟨none, .call (some 6) 27 [(.t 5), (.t 3)]⟩,
     ⟨none, .mv 4 (.t 6)⟩])
   (.ret))))
theorem res8 : resF Try.prog 8 = some (7, rc8, [.t 4]) := by kernel_rfl
def rc9 : RC :=
 (.seq
  (.reg false [⟨none, .box 1 2 (.t 0)⟩,
    ⟨none, .zer 2 2 (.ag [(.sc (.int .i64 0)), (.sc (.int .i64 0))])⟩])
  ((.seq
   (.reg false [⟨none, .zer 3 2 (.ag [(.sc (.int .i64 0)), (.sc (.int .i64 0))])⟩])
   ((.seq
    (.reg false [⟨none, .fa 4 0 (.t 1)⟩,
      ⟨none, .ld 5 false 1 (.t 4)⟩,
      ⟨none, .fa 6 0 (.t 3)⟩,
      ⟨none, .st 1 (.t 6) (.t 5)⟩])
    ((.seq
     (.reg false [⟨none, .fa 7 1 (.t 1)⟩,
       ⟨none, .ld 8 false 1 (.t 7)⟩,
       ⟨none, .fa 9 1 (.t 3)⟩,
       ⟨none, .st 1 (.t 9) (.t 8)⟩])
     ((.seq
      (.reg false [⟨none, .ld 10 true 2 (.t 3)⟩,
        ⟨none, .st 2 (.t 2) (.t 10)⟩])
      (.ret))))))))))
theorem res9 : resF Try.prog 9 = some (11, rc9, [.c 2 2 true]) := by kernel_rfl
def rc10 : RC :=
 (.seq
  (.reg false [⟨none, .box 1 2 (.t 0)⟩,
    ⟨none, .zer 2 2 (.ag [(.ls (some true) 1 []), (.ls (some true) 1 [])])⟩])
  ((.seq
   (.reg false [⟨none, .zer 3 2 (.ag [(.ls (some true) 1 []), (.ls (some true) 1 [])])⟩])
   ((.seq
    (.reg false [⟨none, .fa 4 0 (.t 1)⟩,
      ⟨none, .ld 5 false 1 (.t 4)⟩,
      ⟨none, .call (some 6) 28 [(.t 5)]⟩,
      ⟨none, .fa 7 0 (.t 3)⟩,
      ⟨none, .st 1 (.t 7) (.t 6)⟩])
    ((.seq
     (.reg false [⟨none, .fa 8 1 (.t 1)⟩,
       ⟨none, .ld 9 false 1 (.t 8)⟩,
       ⟨none, .call (some 10) 29 [(.t 9)]⟩,
       ⟨none, .fa 11 1 (.t 3)⟩,
       ⟨none, .st 1 (.t 11) (.t 10)⟩])
     ((.seq
      (.reg false [⟨none, .ld 12 true 2 (.t 3)⟩,
        ⟨none, .st 2 (.t 2) (.t 12)⟩])
      (.ret))))))))))
theorem res10 : resF Try.prog 10 = some (13, rc10, [.c 2 2 true]) := by kernel_rfl
def rc11 : RC :=
 (.seq
  (.reg false [⟨none, .box 2 2 (.t 0)⟩,
    ⟨none, .box 3 2 (.t 1)⟩,
    ⟨none, .mv 4 (.c (.sc (.bool false)))⟩])
  ((.seq
   (.reg false [⟨none, .ld 5 true 2 (.t 2)⟩,
     ⟨none, .call (some 6) 30 [(.t 5)]⟩,
     ⟨none, .mv 7 (.t 6)⟩,
     ⟨some (7, true), .ld 8 true 2 (.t 2)⟩,
     ⟨some (7, true), .ld 9 true 2 (.t 3)⟩,
     ⟨some (7, true), .call (some 10) 31 [(.t 8), (.t 9)]⟩,
     ⟨none, .pick 11 (.t 7) (.t 10) (.c (.sc (.bool false)))⟩,
     ⟨none, .mv 4 (.t 11)⟩])
   (.ret))))
theorem res11 : resF Try.prog 11 = some (12, rc11, [.t 4]) := by kernel_rfl
def rc12 : RC :=
 (.seq
  (.reg false [⟨none, .box 2 2 (.t 0)⟩,
    ⟨none, .box 3 2 (.t 1)⟩,
    ⟨none, .mv 4 (.c (.sc (.bool false)))⟩])
  ((.seq
   ((.seq
    (.reg false [⟨none, .fa 5 0 (.t 2)⟩,
      ⟨none, .ld 6 false 1 (.t 5)⟩,
      ⟨none, .fa 7 0 (.t 3)⟩,
      ⟨none, .ld 8 false 1 (.t 7)⟩,
      ⟨none, .call (some 9) 32 [(.t 6), (.t 8)]⟩,
      ⟨none, .un 10 .not (.t 9)⟩])
    (.cond (.t 10)
     ((.seq
      (.reg false [⟨none, .mv 4 (.c (.sc (.bool false)))⟩])
      (.ret)))
     (.skip))))
   ((.seq
    ((.seq
     (.reg false [⟨none, .fa 11 1 (.t 2)⟩,
       ⟨none, .ld 12 false 1 (.t 11)⟩,
       ⟨none, .fa 13 1 (.t 3)⟩,
       ⟨none, .ld 14 false 1 (.t 13)⟩,
       ⟨none, .call (some 15) 33 [(.t 12), (.t 14)]⟩,
       ⟨none, .un 16 .not (.t 15)⟩])
     (.cond (.t 16)
      ((.seq
       (.reg false [⟨none, .mv 4 (.c (.sc (.bool false)))⟩])
       (.ret)))
      (.skip))))
    ((.seq
     (.reg false [⟨none, .mv 4 (.c (.sc (.bool true)))⟩])
     (.ret))))))))
theorem res12 : resF Try.prog 12 = some (17, rc12, [.t 4]) := by kernel_rfl
def rc27 : RC :=
 (.seq
  (.reg false [⟨none, .box 2 2 (.t 0)⟩,
    ⟨none, .mv 4 (.c (.sc (.bool false)))⟩])
  ((.seq
   (.reg false [⟨none, .mv 9 (.t 1)⟩,
     ⟨none, .nck 10 (.t 9)⟩,
     ⟨none, .fa 11 0 (.t 10)⟩,
     ⟨none, .ld 12 false 1 (.t 11)⟩,
     ⟨none, .len 13 (.t 12)⟩,
     ⟨none, .mv 5 (.t 13)⟩])
   ((.seq
    ((.seq
     (.reg true [⟨none, .ld 14 true 2 (.t 2)⟩,
       ⟨none, .call (some 15) 55 [(.t 14)]⟩,
       ⟨none, .un 16 .not (.t 15)⟩,
       ⟨none, .mv 17 (.t 16)⟩,
       ⟨some (17, false), .mv 18 (.t 5)⟩,
       ⟨some (17, false), .call (some 19) 56 [(.t 18), (.c (.sc (.int .i64 1))), (.c (.sc (.int .i64 12)))]⟩,
       ⟨some (17, false), .un 20 .not (.t 19)⟩,
       ⟨none, .pick 21 (.t 17) (.c (.sc (.bool true))) (.t 20)⟩,
       ⟨none, .mv 22 (.t 21)⟩,
       ⟨some (22, false), .mv 23 (.t 1)⟩,
       ⟨some (22, false), .nck 24 (.t 23)⟩,
       ⟨some (22, false), .fa 25 1 (.t 24)⟩,
       ⟨some (22, false), .ld 26 false 1 (.t 25)⟩,
       ⟨some (22, false), .len 27 (.t 26)⟩,
       ⟨some (22, false), .fa 28 1 (.t 2)⟩,
       ⟨some (22, false), .ld 29 false 1 (.t 28)⟩,
       ⟨some (22, false), .bin 30 .neq (.t 27) (.t 29)⟩,
       ⟨none, .pick 31 (.t 22) (.c (.sc (.bool true))) (.t 30)⟩])
     (.cond (.t 31)
      ((.seq
       (.reg false [⟨none, .mv 4 (.c (.sc (.bool false)))⟩])
       (.ret)))
      (.skip))))
    ((.seq
     ((.seq
      (.reg false [⟨none, .mv 6 (.c (.sc (.int .i64 0)))⟩])
      (.blk 0
       (.loop
        ((.seq
         ((.seq
          (.reg false [⟨none, .mv 32 (.t 6)⟩,
            ⟨none, .mv 33 (.t 1)⟩,
            ⟨none, .nck 34 (.t 33)⟩,
            ⟨none, .fa 35 0 (.t 34)⟩,
            ⟨none, .ld 36 false 1 (.t 35)⟩,
            ⟨none, .len 37 (.t 36)⟩,
            ⟨none, .bin 38 .lss (.t 32) (.t 37)⟩])
          (.cond (.t 38)
           (.skip)
           (.exit 0))))
         ((.seq
          (.blk 1
           ((.seq
            (.reg true [⟨none, .ld 41 true 2 (.t 2)⟩,
              ⟨none, .mv 42 (.t 1)⟩,
              ⟨none, .nck 43 (.t 42)⟩,
              ⟨none, .fa 44 0 (.t 43)⟩,
              ⟨none, .ld 45 false 1 (.t 44)⟩,
              ⟨none, .mv 46 (.t 6)⟩,
              ⟨none, .ia 47 1 (.t 45) (.t 46)⟩,
              ⟨none, .ld 48 false 1 (.t 47)⟩,
              ⟨none, .call (some 49) 57 [(.t 41), (.t 48)]⟩,
              ⟨none, .un 50 .not (.t 49)⟩])
            (.cond (.t 50)
             ((.seq
              (.reg false [⟨none, .mv 4 (.c (.sc (.bool false)))⟩])
              (.ret)))
             (.skip)))))
          (.reg false [⟨none, .mv 39 (.t 6)⟩,
            ⟨none, .bin 40 .add (.t 39) (.c (.sc (.int .i64 1)))⟩,
            ⟨none, .mv 6 (.t 40)⟩])))))))))
     ((.seq
      ((.seq
       (.reg false [⟨none, .mv 7 (.c (.sc (.int .i64 0)))⟩])
       (.blk 2
        (.loop
         ((.seq
          ((.seq
           (.reg false [⟨none, .mv 51 (.t 7)⟩,
             ⟨none, .mv 52 (.t 1)⟩,
             ⟨none, .nck 53 (.t 52)⟩,
             ⟨none, .fa 54 1 (.t 53)⟩,
             ⟨none, .ld 55 false 1 (.t 54)⟩,
             ⟨none, .len 56 (.t 55)⟩,
             ⟨none, .bin 57 .lss (.t 51) (.t 56)⟩])
           (.cond (.t 57)
            (.skip)
            (.exit 2))))
          ((.seq
           (.blk 3
            ((.seq
             ((.seq
              (.reg false [⟨none, .mv 60 (.t 1)⟩,
                ⟨none, .nck 61 (.t 60)⟩,
                ⟨none, .fa 62 1 (.t 61)⟩,
                ⟨none, .ld 63 false 1 (.t 62)⟩,
                ⟨none, .mv 64 (.t 7)⟩,
                ⟨none, .ia 65 1 (.t 63) (.t 64)⟩,
                ⟨none, .ld 66 false 1 (.t 65)⟩,
                ⟨none, .len 67 (.t 66)⟩,
                ⟨none, .mv 68 (.t 5)⟩,
                ⟨none, .bin 69 .neq (.t 67) (.t 68)⟩])
              (.cond (.t 69)
               ((.seq
                (.reg false [⟨none, .mv 4 (.c (.sc (.bool false)))⟩])
                (.ret)))
               (.skip))))
             ((.seq
              (.reg false [⟨none, .mv 8 (.c (.sc (.int .i64 0)))⟩])
              (.blk 4
               (.loop
                ((.seq
                 ((.seq
                  (.reg false [⟨none, .mv 70 (.t 8)⟩,
                    ⟨none, .mv 71 (.t 1)⟩,
                    ⟨none, .nck 72 (.t 71)⟩,
                    ⟨none, .fa 73 1 (.t 72)⟩,
                    ⟨none, .ld 74 false 1 (.t 73)⟩,
                    ⟨none, .mv 75 (.t 7)⟩,
                    ⟨none, .ia 76 1 (.t 74) (.t 75)⟩,
                    ⟨none, .ld 77 false 1 (.t 76)⟩,
                    ⟨none, .len 78 (.t 77)⟩,
                    ⟨none, .bin 79 .lss (.t 70) (.t 78)⟩])
                  (.cond (.t 79)
                   (.skip)
                   (.exit 4))))
                 ((.seq
                  (.blk 5
                   ((.seq
                    (.reg false [⟨none, .mv 82 (.t 1)⟩,
                      ⟨none, .nck 83 (.t 82)⟩,
                      ⟨none, .fa 84 1 (.t 83)⟩,
                      ⟨none, .ld 85 false 1 (.t 84)⟩,
                      ⟨none, .mv 86 (.t 7)⟩,
                      ⟨none, .ia 87 1 (.t 85) (.t 86)⟩,
                      ⟨none, .ld 88 false 1 (.t 87)⟩,
                      ⟨none, .mv 89 (.t 8)⟩,
                      ⟨none, .ia 90 1 (.t 88) (.t 89)⟩,
                      ⟨none, .ld 91 false 1 (.t 90)⟩,
                      ⟨none, .mv 92 (.t 5)⟩,
                      ⟨none, .bin 93 .sub (.t 92) (.c (.sc (.int .i64 1)))⟩,
                      ⟨none, .call (some 94) 56 [(.t 91), (.c (.sc (.int .i64 (-1)))), (.t 93)]⟩,
                      ⟨none, .un 95 .not (.t 94)⟩])
                    (.cond (.t 95)
                     ((.seq
                      (.reg false [⟨none, .mv 4 (.c (.sc (.bool false)))⟩])
                      (.ret)))
                     (.skip)))))
                  (.reg false [⟨none, .mv 80 (.t 8)⟩,
                    ⟨none, .bin 81 .add (.t 80) (.c (.sc (.int .i64 1)))⟩,
                    ⟨none, .mv 8 (.t 81)⟩]))))))))))))
           (.reg false [⟨none, .mv 58 (.t 7)⟩,
             ⟨none, .bin 59 .add (.t 58) (.c (.sc (.int .i64 1)))⟩,
             ⟨none, .mv 7 (.t 59)⟩])))))))))
      ((.seq
       (.reg false [⟨none, .mv 4 (.c (.sc (.bool true)))⟩])
       (.ret))))))))))))
theorem res27 : resF Try.prog 27 = some (96, rc27, [.t 4]) := by kernel_rfl
def rc30 : RC :=
 (.seq
  (.reg false [⟨none, .box 1 2 (.t 0)⟩,
    ⟨none, .mv 2 (.c (.sc (.bool false)))⟩])
  ((.seq
   (.reg false [⟨none, .fa 3 0 (.t 1)⟩,
     ⟨none, .ld 4 false 1 (.t 3)⟩,
     ⟨none, .call (some 5) 58 [(.t 4), (.c (.sc (.int .i64 0))), (.c (.sc (.int .i64 3)))]⟩,
     ⟨none, .mv 6 (.t 5)⟩,
     ⟨some (6, true), .fa 7 1 (.t 1)⟩,
     ⟨some (6, true), .ld 8 false 1 (.t 7)⟩,
     ⟨some (6, true), .call (some 9) 58 [(.t 8), (.c (.sc (.int .i64 0))), (.c (.sc (.int .i64 4)))]⟩,
     ⟨none, .pick 10 (.t 6) (.t 9) (.c (.sc (.bool false)))⟩,
     ⟨none, .mv 2 (.t 10)⟩])
   (.ret))))
theorem res30 : resF Try.prog 30 = some (11, rc30, [.t 2]) := by kernel_rfl
def rc31 : RC :=
 (.seq
  (.reg false [⟨none, .box 2 2 (.t 0)⟩,
    ⟨none, .box 3 2 (.t 1)⟩,
    ⟨none, .mv 4 (.c (.sc (.bool false)))⟩])
  ((.seq
   (.reg false [⟨none, .fa 10 0 (.t 3)⟩,
     ⟨none, .ld 11 false 1 (.t 10)⟩,
     ⟨none, .len 12 (.t 11)⟩,
     ⟨none, .mv 5 (.t 12)⟩])
   ((.seq
    ((.seq
     (.reg true [⟨none, .mv 13 (.t 5)⟩,
       ⟨none, .call (some 14) 58 [(.t 13), (.c (.sc (.int .i64 1))), (.c (.sc (.int .i64 12)))]⟩,
       ⟨none, .un 15 .not (.t 14)⟩,
       ⟨none, .mv 16 (.t 15)⟩,
       ⟨some (16, false), .fa 17 0 (.t 3)⟩,
       ⟨some (16, false), .ld 18 false 1 (.t 17)⟩,
       ⟨some (16, false), .ld 19 true 2 (.t 2)⟩,
       ⟨some (16, false), .call (some 20) 60 [(.t 19)]⟩,
       ⟨some (16, false), .call (some 21) 59 [(.t 18), (.t 20)]⟩,
       ⟨some (16, false), .un 22 .not (.t 21)⟩,
       ⟨none, .pick 23 (.t 16) (.c (.sc (.bool true))) (.t 22)⟩,
       ⟨none, .mv 24 (.t 23)⟩,
       ⟨some (24, false), .fa 25 1 (.t 3)⟩,
       ⟨some (24, false), .ld 26 false 1 (.t 25)⟩,
       ⟨some (24, false), .len 27 (.t 26)⟩,
       ⟨some (24, false), .fa 28 1 (.t 2)⟩,
       ⟨some (24, false), .ld 29 false 1 (.t 28)⟩,
       ⟨some (24, false), .bin 30 .neq (.t 27) (.t 29)⟩,
       ⟨none, .pick 31 (.t 24) (.c (.sc (.bool true))) (.t 30)⟩])
     (.cond (.t 31)
      ((.seq
       (.reg false [⟨none, .mv 4 (.c (.sc (.bool false)))⟩])
       (.ret)))
      (.skip))))
    ((.seq
     ((.seq
      (.reg false [⟨none, .fa 32 1 (.t 3)⟩,
        ⟨none, .ld 33 false 1 (.t 32)⟩,
        ⟨none, .len 34 (.t 33)⟩,
        ⟨none, .mv 35 (.c (.sc (.int .i64 0)))⟩])
      (.blk 0
       (.loop
        ((.seq
         (.reg false [⟨none, .bin 36 .lss (.t 35) (.t 34)⟩])
         ((.seq
          (.cond (.t 36)
           (.skip)
           (.exit 0))
          ((.seq
           (.blk 1
            ((.seq
             (.reg false [⟨none, .ia 37 1 (.t 33) (.t 35)⟩,
               ⟨none, .ld 38 false 1 (.t 37)⟩,
               ⟨none, .mv 7 (.t 38)⟩])
             ((.seq
              ((.seq
               (.reg false [⟨none, .mv 39 (.t 7)⟩,
                 ⟨none, .len 40 (.t 39)⟩,
                 ⟨none, .mv 41 (.t 5)⟩,
                 ⟨none, .bin 42 .neq (.t 40) (.t 41)⟩])
               (.cond (.t 42)
                ((.seq
                 (.reg false [⟨none, .mv 4 (.c (.sc (.bool false)))⟩])
                 (.ret)))
                (.skip))))
              ((.seq
               (.reg false [⟨none, .mv 43 (.t 7)⟩,
                 ⟨none, .len 44 (.t 43)⟩,
                 ⟨none, .mv 45 (.c (.sc (.int .i64 0)))⟩])
               (.blk 2
                (.loop
                 ((.seq
                  (.reg false [⟨none, .bin 46 .lss (.t 45) (.t 44)⟩])
                  ((.seq
                   (.cond (.t 46)
                    (.skip)
                    (.exit 2))
                   ((.seq
                    (.blk 3
                     ((.seq
                      (.reg false [⟨none, .ia 47 1 (.t 43) (.t 45)⟩,
                        ⟨none, .ld 48 false 1 (.t 47)⟩,
                        ⟨none, .mv 9 (.t 48)⟩])
                      ((.seq
                       (.reg false [⟨none, .mv 49 (.t 9)⟩,
                         ⟨none, .mv 50 (.t 5)⟩,
                         ⟨none, .bin 51 .sub (.t 50) (.c (.sc (.int .i64 1)))⟩,
                         ⟨none, .call (some 52) 58 [(.t 49), (.c (.sc (.int .i64 (-1)))), (.t 51)]⟩,
                         ⟨none, .un 53 .not (.t 52)⟩])
                       (.cond (.t 53)
                        ((.seq
                         (.reg false [⟨none, .mv 4 (.c (.sc (.bool false)))⟩])
                         (.ret)))
                        (.skip)))))))
                    (.reg false [⟨none, .bin 54 .add (.t 45) (.c (.sc (.int .i64 1)))⟩,
                      ⟨none, .mv 45 (.t 54)⟩]))))))))))))))))
           (.reg false [⟨none, .bin 55 .add (.t 35) (.c (.sc (.int .i64 1)))⟩,
             ⟨none, .mv 35 (.t 55)⟩])))))))))))
     ((.seq
      (.reg false [⟨none, .mv 4 (.c (.sc (.bool true)))⟩])
      (.ret))))))))))
theorem res31 : resF Try.prog 31 = some (56, rc31, [.t 4]) := by kernel_rfl
def rc55 : RC :=
 (.seq
  (.reg false [⟨none, .box 1 2 (.t 0)⟩,
    ⟨none, .mv 2 (.c (.sc (.bool false)))⟩])
  ((.seq
   (.reg false [⟨none, .fa 3 0 (.t 1)⟩,
     ⟨none, .ld 4 false 1 (.t 3)⟩,
     ⟨none, .call (some 5) 56 [(.t 4), (.c (.sc (.int .i64 0))), (.c (.sc (.int .i64 3)))]⟩,
     ⟨none, .mv 6 (.t 5)⟩,
     ⟨some (6, true), .fa 7 1 (.t 1)⟩,
     ⟨some (6, true), .ld 8 false 1 (.t 7)⟩,
     ⟨some (6, true), .call (some 9) 56 [(.t 8), (.c (.sc (.int .i64 0))), (.c (.sc (.int .i64 4)))]⟩,
     ⟨none, .pick 10 (.t 6) (.t 9) (.c (.sc (.bool false)))⟩,
     ⟨none, .mv 2 (.t 10)⟩])
   (.ret))))
theorem res55 : resF Try.prog 55 = some (11, rc55, [.t 2]) := by kernel_rfl
def rc56 : RC :=
 (.seq
  (.reg false [⟨none, .mv 6 (.c (.sc (.bool false)))⟩])
  ((.seq
   (.reg false [⟨none, .mv 7 (.t 0)⟩,
     ⟨none, .mv 8 (.t 1)⟩,
     ⟨none, .bin 9 .geq (.t 7) (.t 8)⟩,
     ⟨none, .mv 10 (.t 9)⟩,
     ⟨some (10, true), .mv 11 (.t 0)⟩,
     ⟨some (10, true), .mv 12 (.t 2)⟩,
     ⟨some (10, true), .bin 13 .leq (.t 11) (.t 12)⟩,
     ⟨none, .pick 14 (.t 10) (.t 13) (.c (.sc (.bool false)))⟩,
     ⟨none, .mv 6 (.t 14)⟩])
   (.ret))))
theorem res56 : resF Try.prog 56 = some (15, rc56, [.t 6]) := by kernel_rfl
def rc57 : RC :=
 (.seq
  (.reg false [⟨none, .box 2 2 (.t 0)⟩,
    ⟨none, .mv 4 (.c (.sc (.bool false)))⟩])
  ((.seq
   (.reg false [⟨none, .mv 5 (.t 1)⟩,
     ⟨none, .ld 6 true 2 (.t 2)⟩,
     ⟨none, .call (some 7) 74 [(.t 6)]⟩,
     ⟨none, .bin 8 .sub (.t 7) (.c (.sc (.int .i64 1)))⟩,
     ⟨none, .call (some 9) 56 [(.t 5), (.c (.sc (.int .i64 0))), (.t 8)]⟩,
     ⟨none, .mv 4 (.t 9)⟩])
   (.ret))))
theorem res57 : resF Try.prog 57 = some (10, rc57, [.t 4]) := by kernel_rfl
def rc58 : RC :=
 (.seq
  (.reg false [⟨none, .mv 6 (.c (.sc (.bool false)))⟩])
  ((.seq
   (.reg false [⟨none, .mv 7 (.t 1)⟩,
     ⟨none, .mv 8 (.t 0)⟩,
     ⟨none, .bin 9 .leq (.t 7) (.t 8)⟩,
     ⟨none, .mv 10 (.t 9)⟩,
     ⟨some (10, true), .mv 11 (.t 0)⟩,
     ⟨some (10, true), .mv 12 (.t 2)⟩,
     ⟨some (10, true), .bin 13 .leq (.t 11) (.t 12)⟩,
     ⟨none, .pick 14 (.t 10) (.t 13) (.c (.sc (.bool false)))⟩,
     ⟨none, .mv 6 (.t 14)⟩])
   (.ret))))
theorem res58 : resF Try.prog 58 = some (15, rc58, [.t 6]) := by kernel_rfl
def rc59 : RC :=
 (.seq
  (.reg false [⟨none, .mv 4 (.c (.sc (.bool false)))⟩])
  ((.seq
   ((.seq
    (.reg false [⟨none, .mv 7 (.t 0)⟩,
      ⟨none, .len 8 (.t 7)⟩,
      ⟨none, .mv 9 (.c (.sc (.int .i64 0)))⟩])
    (.blk 0
     (.loop
      ((.seq
       (.reg false [⟨none, .bin 10 .lss (.t 9) (.t 8)⟩])
       ((.seq
        (.cond (.t 10)
         (.skip)
         (.exit 0))
        ((.seq
         (.blk 1
          ((.seq
           (.reg false [⟨none, .ia 11 1 (.t 7) (.t 9)⟩,
             ⟨none, .ld 12 false 1 (.t 11)⟩,
             ⟨none, .mv 6 (.t 12)⟩])
           ((.seq
            (.reg false [⟨none, .mv 13 (.t 6)⟩,
              ⟨none, .mv 14 (.t 1)⟩,
              ⟨none, .bin 15 .sub (.t 14) (.c (.sc (.int .i64 1)))⟩,
              ⟨none, .call (some 16) 58 [(.t 13), (.c (.sc (.int .i64 0))), (.t 15)]⟩,
              ⟨none, .un 17 .not (.t 16)⟩])
            (.cond (.t 17)
             ((.seq
              (.reg false [⟨none, .mv 4 (.c (.sc (.bool false)))⟩])
              (.ret)))
             (.skip)))))))
         (.reg false [⟨none, .bin 18 .add (.t 9) (.c (.sc (.int .i64 1)))⟩,
           ⟨none, .mv 9 (.t 18)⟩])))))))))))
   ((.seq
    (.reg false [⟨none, .mv 4 (.c (.sc (.bool true)))⟩])
    (.ret))))))
theorem res59 : resF Try.prog 59 = some (19, rc59, [.t 4]) := by kernel_rfl
def rc60 : RC :=
 (.seq
  (.reg false [⟨none, .box 1 2 (.t 0)⟩,
    ⟨none, .mv 2 (.c (.sc (.int .i64 0)))⟩])
  ((.seq
   (.reg false [⟨none, .fa 3 0 (.t 1)⟩,
     ⟨none, .ld 4 false 1 (.t 3)⟩,
     ⟨none, .bin 5 .shl (.c (.sc (.int .i64 1))) (.t 4)⟩,
     ⟨none, .mv 2 (.t 5)⟩])
   (.ret))))
theorem res60 : resF Try.prog 60 = some (6, rc60, [.t 2]) := by kernel_rfl
def rc74 : RC :=
 (.seq
  (.reg false [⟨none, .box 1 2 (.t 0)⟩,
    ⟨none, .mv 2 (.c (.sc (.int .i64 0)))⟩])
  ((.seq
   (.reg false [⟨none, .fa 3 0 (.t 1)⟩,
     ⟨none, .ld 4 false 1 (.t 3)⟩,
     ⟨none, .cvt 5 .u64 (.t 4)⟩,
     ⟨none, .bin 6 .shl (.c (.sc (.int .i64 1))) (.t 5)⟩,
     ⟨none, .mv 2 (.t 6)⟩])
   (.ret))))
theorem res74 : resF Try.prog 74 = some (7, rc74, [.t 2]) := by kernel_rfl
theorem mixed : Try.prog.follows .mixedOrders = true := by kernel_rfl
theorem res25 : resF Try.prog 25 = some (12, cSzP, [.t 4]) := by kernel_rfl
theorem res26 : resF Try.prog 26 = some (27, cSzC 25 1 false, [.t 4]) := by kernel_rfl
theorem res28 : resF Try.prog 28 = some (22, cToS 8 (eI 0), [.t 2]) := by kernel_rfl
theorem res29 : resF Try.prog 29 = some (23, cToC 28 1 24 false (.ls (some true) 1 []), [.t 2]) := by kernel_rfl
theorem res32 : resF Try.prog 32 = some (26, cEqS, [.t 4]) := by kernel_rfl
theorem res33 : resF Try.prog 33 = some (27, cEqC 32 1 false, [.t 4]) := by kernel_rfl
end Go.Ax
