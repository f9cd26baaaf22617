/- Contracts of functions of the seat, proved over the engine. No condition. -/
import Derived.Test.YtmeajebpmefjcaaV1
import Derived.Test.YtmeajebpmefjcaaAxD
namespace Go.Ax
open Go.Proofs

def rc4 : RC :=
 (.seq
  (.reg false [⟨none, .box 2 6 (.t 0)⟩,
    ⟨none, .box 3 6 (.t 1)⟩,
    ⟨none, .mv 4 (.c (.sc (.bool false)))⟩])
  ((.seq
   (.reg false [⟨none, .mv 5 (.c (.sc (.int .i64 1048576)))⟩])
   ((.seq
    (.reg false [⟨none, .ld 10 true 6 (.t 2)⟩,
      ⟨none, .mv 11 (.t 5)⟩,
      ⟨none, .call (some 12) 13 [(.t 10), (.t 11)]⟩,
      ⟨none, .mv 5 (.t 12)⟩])
    ((.seq
     ((.seq
      (.reg false [⟨none, .mv 13 (.t 5)⟩,
        ⟨none, .bin 14 .lss (.t 13) (.c (.sc (.int .i64 0)))⟩])
      (.cond (.t 14)
       ((.seq
        (.reg false [⟨none, .mv 4 (.c (.sc (.bool true)))⟩])
        (.ret)))
       (.skip))))
     ((.seq
      (.reg false [⟨none, .ld 15 true 6 (.t 3)⟩,
        ⟨none, .mv 16 (.t 5)⟩,
        ⟨none, .call (some 17) 13 [(.t 15), (.t 16)]⟩,
        ⟨none, .mv 5 (.t 17)⟩])
      ((.seq
       ((.seq
        (.reg false [⟨none, .mv 18 (.t 5)⟩,
          ⟨none, .bin 19 .lss (.t 18) (.c (.sc (.int .i64 0)))⟩])
        (.cond (.t 19)
         ((.seq
          (.reg false [⟨none, .mv 4 (.c (.sc (.bool true)))⟩])
          (.ret)))
         (.skip))))
       ((.seq
        (.reg true [⟨none, .ld 20 true 6 (.t 2)⟩,
          ⟨none, .call (some 21) 15 [(.t 20)]⟩,
          ⟨none, .ld 22 true 6 (.t 3)⟩,
          ⟨none, .call (some 23) 15 [(.t 22)]⟩,
          ⟨none, .call (some 24) 14 [(.t 21), (.t 23)]⟩,
          ⟨none, .mv 6 (.t 24)⟩])
        ((.seq
         (.reg false [⟨none, .ld 25 true 6 (.t 2)⟩,
           ⟨none, .call (some 26) 15 [(.t 25)]⟩,
           ⟨none, .zer 7 6 (.ag [(.sc (.int .i64 0)), (.sc (.int .i64 0)), (.sc (.int .i64 0)), (.sc (.int .i64 0)), (.ls (some true) 3 []), (.ls (some true) 6 [])])⟩,
           ⟨none, .st 6 (.t 7) (.t 26)⟩])
         ((.seq
          (.reg false [⟨none, .ld 27 true 6 (.t 3)⟩,
            ⟨none, .call (some 28) 15 [(.t 27)]⟩,
            ⟨none, .zer 8 6 (.ag [(.sc (.int .i64 0)), (.sc (.int .i64 0)), (.sc (.int .i64 0)), (.sc (.int .i64 0)), (.ls (some true) 3 []), (.ls (some true) 6 [])])⟩,
            ⟨none, .st 6 (.t 8) (.t 28)⟩])
          ((.seq
           (.reg false [⟨none, .ld 29 true 6 (.t 7)⟩,
             ⟨none, .ld 30 true 6 (.t 8)⟩,
             ⟨none, .call (some 31) 16 [(.t 29), (.t 30)]⟩,
             ⟨none, .mv 9 (.t 31)⟩])
           ((.seq
            ((.seq
             (.reg false [⟨none, .mv 32 (.t 9)⟩,
               ⟨none, .mv 33 (.t 6)⟩,
               ⟨none, .beq 34 true (.t 32) (.t 33)⟩])
             (.cond (.t 34)
              ((.seq
               (.reg false [⟨none, .mv 4 (.c (.sc (.bool false)))⟩])
               (.ret)))
              (.skip))))
            ((.seq
             ((.seq
              (.reg true [⟨none, .ld 35 true 6 (.t 7)⟩,
                ⟨none, .ld 36 true 6 (.t 2)⟩,
                ⟨none, .call (some 37) 15 [(.t 36)]⟩,
                ⟨none, .call (some 38) 17 [(.t 35), (.t 37)]⟩,
                ⟨none, .un 39 .not (.t 38)⟩])
              (.cond (.t 39)
               ((.seq
                (.reg false [⟨none, .mv 4 (.c (.sc (.bool false)))⟩])
                (.ret)))
               (.skip))))
             ((.seq
              ((.seq
               (.reg true [⟨none, .ld 40 true 6 (.t 8)⟩,
                 ⟨none, .ld 41 true 6 (.t 3)⟩,
                 ⟨none, .call (some 42) 15 [(.t 41)]⟩,
                 ⟨none, .call (some 43) 17 [(.t 40), (.t 42)]⟩,
                 ⟨none, .un 44 .not (.t 43)⟩])
               (.cond (.t 44)
                ((.seq
                 (.reg false [⟨none, .mv 4 (.c (.sc (.bool false)))⟩])
                 (.ret)))
                (.skip))))
              ((.seq
               (.reg false [⟨none, .mv 4 (.c (.sc (.bool true)))⟩])
               (.ret))))))))))))))))))))))))))))
theorem res4 : resF Try.prog 4 = some (45, rc4, [.t 4]) := by kernel_rfl

def rc5 : RC :=
 (.seq
  (.reg false [⟨none, .box 1 5 (.t 0)⟩,
    ⟨none, .mv 2 (.c (.sc (.bool false)))⟩])
  ((.seq
   (.reg false [⟨none, .mv 3 (.c (.sc (.int .i64 1048576)))⟩])
   ((.seq
    (.reg false [⟨none, .ld 7 true 5 (.t 1)⟩,
      ⟨none, .mv 8 (.t 3)⟩,
      ⟨none, .call (some 9) 18 [(.t 7), (.t 8)]⟩,
      ⟨none, .mv 3 (.t 9)⟩])
    ((.seq
     ((.seq
      (.reg false [⟨none, .mv 10 (.t 3)⟩,
        ⟨none, .bin 11 .lss (.t 10) (.c (.sc (.int .i64 0)))⟩])
      (.cond (.t 11)
       ((.seq
        (.reg false [⟨none, .mv 2 (.c (.sc (.bool true)))⟩])
        (.ret)))
       (.skip))))
     ((.seq
      (.reg false [⟨none, .ld 12 true 5 (.t 1)⟩,
        ⟨none, .call (some 13) 20 [(.t 12)]⟩,
        ⟨none, .call (some 14) 19 [(.t 13)]⟩,
        ⟨none, .mv 4 (.t 14)⟩])
      ((.seq
       (.reg false [⟨none, .ld 15 true 5 (.t 1)⟩,
         ⟨none, .call (some 16) 20 [(.t 15)]⟩,
         ⟨none, .zer 5 5 (.ag [(.sc (.int .i64 0)), (.sc (.int .i64 0)), (.sc (.int .i64 0)), (.ls (some true) 1 []), (.ls (some true) 1 [])])⟩,
         ⟨none, .st 5 (.t 5) (.t 16)⟩])
       ((.seq
        (.reg false [⟨none, .ld 17 true 5 (.t 5)⟩,
          ⟨none, .call (some 18) 21 [(.t 17)]⟩,
          ⟨none, .mv 6 (.t 18)⟩])
        ((.seq
         ((.seq
          (.reg false [⟨none, .mv 19 (.t 6)⟩,
            ⟨none, .mv 20 (.t 4)⟩,
            ⟨none, .beq 21 true (.t 19) (.t 20)⟩])
          (.cond (.t 21)
           ((.seq
            (.reg false [⟨none, .mv 2 (.c (.sc (.bool false)))⟩])
            (.ret)))
           (.skip))))
         ((.seq
          ((.seq
           (.reg true [⟨none, .ld 22 true 5 (.t 5)⟩,
             ⟨none, .ld 23 true 5 (.t 1)⟩,
             ⟨none, .call (some 24) 20 [(.t 23)]⟩,
             ⟨none, .call (some 25) 22 [(.t 22), (.t 24)]⟩,
             ⟨none, .un 26 .not (.t 25)⟩])
           (.cond (.t 26)
            ((.seq
             (.reg false [⟨none, .mv 2 (.c (.sc (.bool false)))⟩])
             (.ret)))
            (.skip))))
          ((.seq
           (.reg false [⟨none, .mv 2 (.c (.sc (.bool true)))⟩])
           (.ret))))))))))))))))))))
theorem res5 : resF Try.prog 5 = some (27, rc5, [.t 2]) := by kernel_rfl

def rc6 : RC :=
 (.seq
  (.reg false [⟨none, .box 2 5 (.t 0)⟩,
    ⟨none, .box 3 5 (.t 1)⟩,
    ⟨none, .mv 4 (.c (.sc (.bool false)))⟩])
  ((.seq
   (.reg false [⟨none, .mv 5 (.c (.sc (.int .i64 1048576)))⟩])
   ((.seq
    (.reg false [⟨none, .ld 10 true 5 (.t 2)⟩,
      ⟨none, .mv 11 (.t 5)⟩,
      ⟨none, .call (some 12) 18 [(.t 10), (.t 11)]⟩,
      ⟨none, .mv 5 (.t 12)⟩])
    ((.seq
     ((.seq
      (.reg false [⟨none, .mv 13 (.t 5)⟩,
        ⟨none, .bin 14 .lss (.t 13) (.c (.sc (.int .i64 0)))⟩])
      (.cond (.t 14)
       ((.seq
        (.reg false [⟨none, .mv 4 (.c (.sc (.bool true)))⟩])
        (.ret)))
       (.skip))))
     ((.seq
      (.reg false [⟨none, .ld 15 true 5 (.t 3)⟩,
        ⟨none, .mv 16 (.t 5)⟩,
        ⟨none, .call (some 17) 18 [(.t 15), (.t 16)]⟩,
        ⟨none, .mv 5 (.t 17)⟩])
      ((.seq
       ((.seq
        (.reg false [⟨none, .mv 18 (.t 5)⟩,
          ⟨none, .bin 19 .lss (.t 18) (.c (.sc (.int .i64 0)))⟩])
        (.cond (.t 19)
         ((.seq
          (.reg false [⟨none, .mv 4 (.c (.sc (.bool true)))⟩])
          (.ret)))
         (.skip))))
       ((.seq
        (.reg true [⟨none, .ld 20 true 5 (.t 2)⟩,
          ⟨none, .call (some 21) 20 [(.t 20)]⟩,
          ⟨none, .ld 22 true 5 (.t 3)⟩,
          ⟨none, .call (some 23) 20 [(.t 22)]⟩,
          ⟨none, .call (some 24) 23 [(.t 21), (.t 23)]⟩,
          ⟨none, .mv 6 (.t 24)⟩])
        ((.seq
         (.reg false [⟨none, .ld 25 true 5 (.t 2)⟩,
           ⟨none, .call (some 26) 20 [(.t 25)]⟩,
           ⟨none, .zer 7 5 (.ag [(.sc (.int .i64 0)), (.sc (.int .i64 0)), (.sc (.int .i64 0)), (.ls (some true) 1 []), (.ls (some true) 1 [])])⟩,
           ⟨none, .st 5 (.t 7) (.t 26)⟩])
         ((.seq
          (.reg false [⟨none, .ld 27 true 5 (.t 3)⟩,
            ⟨none, .call (some 28) 20 [(.t 27)]⟩,
            ⟨none, .zer 8 5 (.ag [(.sc (.int .i64 0)), (.sc (.int .i64 0)), (.sc (.int .i64 0)), (.ls (some true) 1 []), (.ls (some true) 1 [])])⟩,
            ⟨none, .st 5 (.t 8) (.t 28)⟩])
          ((.seq
           (.reg false [⟨none, .ld 29 true 5 (.t 7)⟩,
             ⟨none, .ld 30 true 5 (.t 8)⟩,
             ⟨none, .call (some 31) 24 [(.t 29), (.t 30)]⟩,
             ⟨none, .mv 9 (.t 31)⟩])
           ((.seq
            ((.seq
             (.reg false [⟨none, .mv 32 (.t 9)⟩,
               ⟨none, .mv 33 (.t 6)⟩,
               ⟨none, .beq 34 true (.t 32) (.t 33)⟩])
             (.cond (.t 34)
              ((.seq
               (.reg false [⟨none, .mv 4 (.c (.sc (.bool false)))⟩])
               (.ret)))
              (.skip))))
            ((.seq
             ((.seq
              (.reg true [⟨none, .ld 35 true 5 (.t 7)⟩,
                ⟨none, .ld 36 true 5 (.t 2)⟩,
                ⟨none, .call (some 37) 20 [(.t 36)]⟩,
                ⟨none, .call (some 38) 22 [(.t 35), (.t 37)]⟩,
                ⟨none, .un 39 .not (.t 38)⟩])
              (.cond (.t 39)
               ((.seq
                (.reg false [⟨none, .mv 4 (.c (.sc (.bool false)))⟩])
                (.ret)))
               (.skip))))
             ((.seq
              ((.seq
               (.reg true [⟨none, .ld 40 true 5 (.t 8)⟩,
                 ⟨none, .ld 41 true 5 (.t 3)⟩,
                 ⟨none, .call (some 42) 20 [(.t 41)]⟩,
                 ⟨none, .call (some 43) 22 [(.t 40), (.t 42)]⟩,
                 ⟨none, .un 44 .not (.t 43)⟩])
               (.cond (.t 44)
                ((.seq
                 (.reg false [⟨none, .mv 4 (.c (.sc (.bool false)))⟩])
                 (.ret)))
                (.skip))))
              ((.seq
               (.reg false [⟨none, .mv 4 (.c (.sc (.bool true)))⟩])
               (.ret))))))))))))))))))))))))))))
theorem res6 : resF Try.prog 6 = some (45, rc6, [.t 4]) := by kernel_rfl

def rc13 : RC :=
 (.seq
  (.reg false [⟨none, .box 2 6 (.t 0)⟩,
    ⟨none, .mv 4 (.c (.sc (.int .i64 0)))⟩])
  ((.seq
   (.reg false [⟨none, .fa 5 2 (.t 2)⟩,
     ⟨none, .ld 6 true 3 (.t 5)⟩,
     ⟨none, .mv 7 (.t 1)⟩,
     ⟨none, .call (some 8) 34 [(.t 6), (.t 7)]⟩,
     ⟨none, .mv 1 (.t 8)⟩])
   ((.seq
    ((.seq
     (.reg false [⟨none, .mv 9 (.t 1)⟩,
       ⟨none, .bin 10 .lss (.t 9) (.c (.sc (.int .i64 0)))⟩])
     (.cond (.t 10)
      ((.seq
       (.reg false [⟨none, .mv 4 (.c (.sc (.int .i64 (-1))))⟩])
       (.ret)))
      (.skip))))
    ((.seq
     (.reg false [⟨none, .fa 11 5 (.t 2)⟩,
       ⟨none, .ld 12 false 1 (.t 11)⟩,
       ⟨none, .mv 13 (.t 1)⟩,
       ⟨none, .call (some 14) 35 [(.t 12), (.t 13)]⟩,
       ⟨none, .mv 1 (.t 14)⟩])
     ((.seq
      ((.seq
       (.reg false [⟨none, .mv 15 (.t 1)⟩,
         ⟨none, .bin 16 .lss (.t 15) (.c (.sc (.int .i64 0)))⟩])
       (.cond (.t 16)
        ((.seq
         (.reg false [⟨none, .mv 4 (.c (.sc (.int .i64 (-1))))⟩])
         (.ret)))
        (.skip))))
      ((.seq
       (.reg false [⟨none, .mv 17 (.t 1)⟩,
         ⟨none, .mv 4 (.t 17)⟩])
       (.ret))))))))))))
theorem res13 : resF Try.prog 13 = some (18, rc13, [.t 4]) := by kernel_rfl

def rc14 : RC :=
 (.seq
  (.reg false [⟨none, .box 2 6 (.t 0)⟩,
    ⟨none, .box 3 6 (.t 1)⟩,
    ⟨none, .mv 4 (.c (.sc (.bool false)))⟩])
  ((.seq
   (.reg false [⟨none, .call (some 5) 36 [(.t 2), (.t 3)]⟩,
     ⟨none, .mv 4 (.t 5)⟩])
   (.ret))))
theorem res14 : resF Try.prog 14 = some (6, rc14, [.t 4]) := by kernel_rfl

def rc15 : RC :=
 (.seq
  (.reg false [⟨none, .box 1 6 (.t 0)⟩,
    ⟨none, .zer 2 6 (.ag [(.sc (.int .i64 0)), (.sc (.int .i64 0)), (.sc (.int .i64 0)), (.sc (.int .i64 0)), (.ls (some true) 3 []), (.ls (some true) 6 [])])⟩])
  ((.seq
   (.reg false [⟨none, .zer 3 6 (.ag [(.sc (.int .i64 0)), (.sc (.int .i64 0)), (.sc (.int .i64 0)), (.sc (.int .i64 0)), (.ls (some true) 3 []), (.ls (some true) 6 [])])⟩])
   ((.seq
    (.reg false [⟨none, .fa 4 0 (.t 1)⟩,
      ⟨none, .ld 5 false 1 (.t 4)⟩,
      ⟨none, .fa 6 0 (.t 3)⟩,
      ⟨none, .st 1 (.t 6) (.t 5)⟩])
    ((.seq
     (.reg false [⟨none, .fa 7 1 (.t 1)⟩,
       ⟨none, .ld 8 false 1 (.t 7)⟩,
       ⟨none, .fa 9 1 (.t 3)⟩,
       ⟨none, .st 1 (.t 9) (.t 8)⟩])
     ((.seq
      (.reg false [⟨none, .fa 10 2 (.t 1)⟩,
        ⟨none, .ld 11 true 3 (.t 10)⟩,
        ⟨none, .call (some 12) 37 [(.t 11)]⟩,
        ⟨none, .fa 13 2 (.t 3)⟩,
        ⟨none, .st 3 (.t 13) (.t 12)⟩])
      ((.seq
       (.reg false [⟨none, .fa 14 5 (.t 1)⟩,
         ⟨none, .ld 15 false 1 (.t 14)⟩,
         ⟨none, .call (some 16) 38 [(.t 15)]⟩,
         ⟨none, .fa 17 5 (.t 3)⟩,
         ⟨none, .st 1 (.t 17) (.t 16)⟩])
       ((.seq
        (.reg false [⟨none, .ld 18 true 6 (.t 3)⟩,
          ⟨none, .st 6 (.t 2) (.t 18)⟩])
        (.ret))))))))))))))
theorem res15 : resF Try.prog 15 = some (19, rc15, [.c 2 6 true]) := by kernel_rfl

def rc16 : RC :=
 (.seq
  (.reg false [⟨none, .box 2 6 (.t 0)⟩,
    ⟨none, .box 3 6 (.t 1)⟩,
    ⟨none, .mv 4 (.c (.sc (.bool false)))⟩])
  ((.seq
   (.reg false [⟨none, .fa 5 0 (.t 2)⟩,
     ⟨none, .ld 6 false 1 (.t 5)⟩,
     ⟨none, .fa 7 0 (.t 3)⟩,
     ⟨none, .ld 8 false 1 (.t 7)⟩,
     ⟨none, .bin 9 .eql (.t 6) (.t 8)⟩,
     ⟨none, .mv 10 (.t 9)⟩,
     ⟨some (10, true), .fa 11 1 (.t 2)⟩,
     ⟨some (10, true), .ld 12 false 1 (.t 11)⟩,
     ⟨some (10, true), .fa 13 1 (.t 3)⟩,
     ⟨some (10, true), .ld 14 false 1 (.t 13)⟩,
     ⟨some (10, true), .bin 15 .eql (.t 12) (.t 14)⟩,
     ⟨none, .pick 16 (.t 10) (.t 15) (.c (.sc (.bool false)))⟩,
     ⟨none, .mv 17 (.t 16)⟩,
     ⟨some (17, true), .fa 18 2 (.t 2)⟩,
     ⟨some (17, true), .ld 19 true 3 (.t 18)⟩,
     ⟨some (17, true), .fa 20 2 (.t 3)⟩,
     ⟨some (17, true), .ld 21 true 3 (.t 20)⟩,
     ⟨some (17, true), .call (some 22) 39 [(.t 19), (.t 21)]⟩,
     ⟨none, .pick 23 (.t 17) (.t 22) (.c (.sc (.bool false)))⟩,
     ⟨none, .mv 24 (.t 23)⟩,
     ⟨some (24, true), .fa 25 5 (.t 2)⟩,
     ⟨some (24, true), .ld 26 false 1 (.t 25)⟩,
     ⟨some (24, true), .fa 27 5 (.t 3)⟩,
     ⟨some (24, true), .ld 28 false 1 (.t 27)⟩,
     ⟨some (24, true), .call (some 29) 40 [(.t 26), (.t 28), (.c (.sc (.func (.func 16) #[] #[])))]⟩,
     ⟨none, .pick 30 (.t 24) (.t 29) (.c (.sc (.bool false)))⟩,
     ⟨none, .mv 4 (.t 30)⟩])
   (.ret))))
theorem res16 : resF Try.prog 16 = some (31, rc16, [.t 4]) := by kernel_rfl

def rc17 : RC :=
 (.seq
  (.reg false [⟨none, .box 2 6 (.t 0)⟩,
    ⟨none, .box 3 6 (.t 1)⟩,
    ⟨none, .mv 4 (.c (.sc (.bool false)))⟩])
  ((.seq
   ((.seq
    (.reg false [⟨none, .fa 5 0 (.t 2)⟩,
      ⟨none, .ld 6 false 1 (.t 5)⟩,
      ⟨none, .fa 7 0 (.t 3)⟩,
      ⟨none, .ld 8 false 1 (.t 7)⟩,
      ⟨none, .bin 9 .neq (.t 6) (.t 8)⟩])
    (.cond (.t 9)
     ((.seq
      (.reg false [⟨none, .mv 4 (.c (.sc (.bool false)))⟩])
      (.ret)))
     (.skip))))
   ((.seq
    ((.seq
     (.reg false [⟨none, .fa 10 1 (.t 2)⟩,
       ⟨none, .ld 11 false 1 (.t 10)⟩,
       ⟨none, .fa 12 1 (.t 3)⟩,
       ⟨none, .ld 13 false 1 (.t 12)⟩,
       ⟨none, .bin 14 .neq (.t 11) (.t 13)⟩])
     (.cond (.t 14)
      ((.seq
       (.reg false [⟨none, .mv 4 (.c (.sc (.bool false)))⟩])
       (.ret)))
      (.skip))))
    ((.seq
     ((.seq
      (.reg false [⟨none, .fa 15 2 (.t 2)⟩,
        ⟨none, .ld 16 true 3 (.t 15)⟩,
        ⟨none, .fa 17 2 (.t 3)⟩,
        ⟨none, .ld 18 true 3 (.t 17)⟩,
        ⟨none, .call (some 19) 41 [(.t 16), (.t 18)]⟩,
        ⟨none, .un 20 .not (.t 19)⟩])
      (.cond (.t 20)
       ((.seq
        (.reg false [⟨none, .mv 4 (.c (.sc (.bool false)))⟩])
        (.ret)))
       (.skip))))
     ((.seq
      ((.seq
       (.reg false [⟨none, .fa 21 5 (.t 2)⟩,
         ⟨none, .ld 22 false 1 (.t 21)⟩,
         ⟨none, .fa 23 5 (.t 3)⟩,
         ⟨none, .ld 24 false 1 (.t 23)⟩,
         ⟨none, .call (some 25) 42 [(.t 22), (.t 24)]⟩,
         ⟨none, .un 26 .not (.t 25)⟩])
       (.cond (.t 26)
        ((.seq
         (.reg false [⟨none, .mv 4 (.c (.sc (.bool false)))⟩])
         (.ret)))
        (.skip))))
      ((.seq
       (.reg false [⟨none, .mv 4 (.c (.sc (.bool true)))⟩])
       (.ret))))))))))))
theorem res17 : resF Try.prog 17 = some (27, rc17, [.t 4]) := by kernel_rfl

def rc18 : RC :=
 (.seq
  (.reg false [⟨none, .box 2 5 (.t 0)⟩,
    ⟨none, .mv 4 (.c (.sc (.int .i64 0)))⟩])
  ((.seq
   (.reg false [⟨none, .fa 5 3 (.t 2)⟩,
     ⟨none, .ld 6 false 1 (.t 5)⟩,
     ⟨none, .mv 7 (.t 1)⟩,
     ⟨none, .call (some 8) 43 [(.t 6), (.t 7)]⟩,
     ⟨none, .mv 1 (.t 8)⟩])
   ((.seq
    ((.seq
     (.reg false [⟨none, .mv 9 (.t 1)⟩,
       ⟨none, .bin 10 .lss (.t 9) (.c (.sc (.int .i64 0)))⟩])
     (.cond (.t 10)
      ((.seq
       (.reg false [⟨none, .mv 4 (.c (.sc (.int .i64 (-1))))⟩])
       (.ret)))
      (.skip))))
    ((.seq
     (.reg false [⟨none, .fa 11 4 (.t 2)⟩,
       ⟨none, .ld 12 false 1 (.t 11)⟩,
       ⟨none, .mv 13 (.t 1)⟩,
       ⟨none, .call (some 14) 44 [(.t 12), (.t 13)]⟩,
       ⟨none, .mv 1 (.t 14)⟩])
     ((.seq
      ((.seq
       (.reg false [⟨none, .mv 15 (.t 1)⟩,
         ⟨none, .bin 16 .lss (.t 15) (.c (.sc (.int .i64 0)))⟩])
       (.cond (.t 16)
        ((.seq
         (.reg false [⟨none, .mv 4 (.c (.sc (.int .i64 (-1))))⟩])
         (.ret)))
        (.skip))))
      ((.seq
       (.reg false [⟨none, .mv 17 (.t 1)⟩,
         ⟨none, .mv 4 (.t 17)⟩])
       (.ret))))))))))))
theorem res18 : resF Try.prog 18 = some (18, rc18, [.t 4]) := by kernel_rfl

def rc19 : RC :=
 (.seq
  (.reg false [⟨none, .box 1 5 (.t 0)⟩,
    ⟨none, .mv 2 (.c (.sc (.bool false)))⟩])
  ((.seq
   (.reg false [⟨none, .call (some 3) 45 [(.t 1)]⟩,
     ⟨none, .mv 2 (.t 3)⟩])
   (.ret))))
theorem res19 : resF Try.prog 19 = some (4, rc19, [.t 2]) := by kernel_rfl

def rc20 : RC :=
 (.seq
  (.reg false [⟨none, .box 1 5 (.t 0)⟩,
    ⟨none, .zer 2 5 (.ag [(.sc (.int .i64 0)), (.sc (.int .i64 0)), (.sc (.int .i64 0)), (.ls (some true) 1 []), (.ls (some true) 1 [])])⟩])
  ((.seq
   (.reg false [⟨none, .zer 3 5 (.ag [(.sc (.int .i64 0)), (.sc (.int .i64 0)), (.sc (.int .i64 0)), (.ls (some true) 1 []), (.ls (some true) 1 [])])⟩])
   ((.seq
    (.reg false [⟨none, .fa 4 0 (.t 1)⟩,
      ⟨none, .ld 5 true 2 (.t 4)⟩,
      ⟨none, .call (some 6) 9 [(.t 5)]⟩,
      ⟨none, .fa 7 0 (.t 3)⟩,
      ⟨none, .st 2 (.t 7) (.t 6)⟩])
    ((.seq
     (.reg false [⟨none, .fa 8 2 (.t 1)⟩,
       ⟨none, .ld 9 false 1 (.t 8)⟩,
       ⟨none, .fa 10 2 (.t 3)⟩,
       ⟨none, .st 1 (.t 10) (.t 9)⟩])
     ((.seq
      (.reg false [⟨none, .fa 11 3 (.t 1)⟩,
        ⟨none, .ld 12 false 1 (.t 11)⟩,
        ⟨none, .call (some 13) 46 [(.t 12)]⟩,
        ⟨none, .fa 14 3 (.t 3)⟩,
        ⟨none, .st 1 (.t 14) (.t 13)⟩])
      ((.seq
       (.reg false [⟨none, .fa 15 4 (.t 1)⟩,
         ⟨none, .ld 16 false 1 (.t 15)⟩,
         ⟨none, .call (some 17) 47 [(.t 16)]⟩,
         ⟨none, .fa 18 4 (.t 3)⟩,
         ⟨none, .st 1 (.t 18) (.t 17)⟩])
       ((.seq
        (.reg false [⟨none, .ld 19 true 5 (.t 3)⟩,
          ⟨none, .st 5 (.t 2) (.t 19)⟩])
        (.ret))))))))))))))
theorem res20 : resF Try.prog 20 = some (20, rc20, [.c 2 5 true]) := by kernel_rfl

def rc21 : RC :=
 (.seq
  (.reg false [⟨none, .box 1 5 (.t 0)⟩,
    ⟨none, .mv 2 (.c (.sc (.bool false)))⟩])
  ((.seq
   (.reg false [⟨none, .fa 3 0 (.t 1)⟩,
     ⟨none, .ld 4 true 2 (.t 3)⟩,
     ⟨none, .fa 5 2 (.t 1)⟩,
     ⟨none, .ld 6 false 1 (.t 5)⟩,
     ⟨none, .fa 7 3 (.t 1)⟩,
     ⟨none, .ld 8 false 1 (.t 7)⟩,
     ⟨none, .fa 9 4 (.t 1)⟩,
     ⟨none, .ld 10 false 1 (.t 9)⟩,
     ⟨none, .call (some 11) 48 [(.t 4), (.t 6), (.t 8), (.t 10)]⟩,
     ⟨none, .mv 2 (.t 11)⟩])
   (.ret))))
theorem res21 : resF Try.prog 21 = some (12, rc21, [.t 2]) := by kernel_rfl

def rc22 : RC :=
 (.seq
  (.reg false [⟨none, .box 2 5 (.t 0)⟩,
    ⟨none, .box 3 5 (.t 1)⟩,
    ⟨none, .mv 4 (.c (.sc (.bool false)))⟩])
  ((.seq
   ((.seq
    (.reg false [⟨none, .fa 5 0 (.t 2)⟩,
      ⟨none, .ld 6 true 2 (.t 5)⟩,
      ⟨none, .fa 7 0 (.t 3)⟩,
      ⟨none, .ld 8 true 2 (.t 7)⟩,
      ⟨none, .call (some 9) 49 [(.t 6), (.t 8)]⟩,
      ⟨none, .un 10 .not (.t 9)⟩])
    (.cond (.t 10)
     ((.seq
      (.reg false [⟨none, .mv 4 (.c (.sc (.bool false)))⟩])
      (.ret)))
     (.skip))))
   ((.seq
    ((.seq
     (.reg false [⟨none, .fa 11 2 (.t 2)⟩,
       ⟨none, .ld 12 false 1 (.t 11)⟩,
       ⟨none, .fa 13 2 (.t 3)⟩,
       ⟨none, .ld 14 false 1 (.t 13)⟩,
       ⟨none, .bin 15 .neq (.t 12) (.t 14)⟩])
     (.cond (.t 15)
      ((.seq
       (.reg false [⟨none, .mv 4 (.c (.sc (.bool false)))⟩])
       (.ret)))
      (.skip))))
    ((.seq
     ((.seq
      (.reg false [⟨none, .fa 16 3 (.t 2)⟩,
        ⟨none, .ld 17 false 1 (.t 16)⟩,
        ⟨none, .fa 18 3 (.t 3)⟩,
        ⟨none, .ld 19 false 1 (.t 18)⟩,
        ⟨none, .call (some 20) 50 [(.t 17), (.t 19)]⟩,
        ⟨none, .un 21 .not (.t 20)⟩])
      (.cond (.t 21)
       ((.seq
        (.reg false [⟨none, .mv 4 (.c (.sc (.bool false)))⟩])
        (.ret)))
       (.skip))))
     ((.seq
      ((.seq
       (.reg false [⟨none, .fa 22 4 (.t 2)⟩,
         ⟨none, .ld 23 false 1 (.t 22)⟩,
         ⟨none, .fa 24 4 (.t 3)⟩,
         ⟨none, .ld 25 false 1 (.t 24)⟩,
         ⟨none, .call (some 26) 51 [(.t 23), (.t 25)]⟩,
         ⟨none, .un 27 .not (.t 26)⟩])
       (.cond (.t 27)
        ((.seq
         (.reg false [⟨none, .mv 4 (.c (.sc (.bool false)))⟩])
         (.ret)))
        (.skip))))
      ((.seq
       (.reg false [⟨none, .mv 4 (.c (.sc (.bool true)))⟩])
       (.ret))))))))))))
theorem res22 : resF Try.prog 22 = some (28, rc22, [.t 4]) := by kernel_rfl

def rc23 : RC :=
 (.seq
  (.reg false [⟨none, .box 2 5 (.t 0)⟩,
    ⟨none, .box 3 5 (.t 1)⟩,
    ⟨none, .mv 4 (.c (.sc (.bool false)))⟩])
  ((.seq
   ((.seq
    (.reg false [⟨none, .fa 6 0 (.t 2)⟩,
      ⟨none, .ld 7 true 2 (.t 6)⟩,
      ⟨none, .fa 8 0 (.t 3)⟩,
      ⟨none, .ld 9 true 2 (.t 8)⟩,
      ⟨none, .ceq 10 true 2 (.t 7) (.t 9)⟩,
      ⟨none, .mv 11 (.t 10)⟩,
      ⟨some (11, false), .fa 12 2 (.t 2)⟩,
      ⟨some (11, false), .ld 13 false 1 (.t 12)⟩,
      ⟨some (11, false), .fa 14 2 (.t 3)⟩,
      ⟨some (11, false), .ld 15 false 1 (.t 14)⟩,
      ⟨some (11, false), .bin 16 .neq (.t 13) (.t 15)⟩,
      ⟨none, .pick 17 (.t 11) (.c (.sc (.bool true))) (.t 16)⟩,
      ⟨none, .mv 18 (.t 17)⟩,
      ⟨some (18, false), .fa 19 3 (.t 2)⟩,
      ⟨some (18, false), .ld 20 false 1 (.t 19)⟩,
      ⟨some (18, false), .fa 21 3 (.t 3)⟩,
      ⟨some (18, false), .ld 22 false 1 (.t 21)⟩,
      ⟨some (18, false), .call (some 23) 52 [(.t 20), (.t 22)]⟩,
      ⟨some (18, false), .un 24 .not (.t 23)⟩,
      ⟨none, .pick 25 (.t 18) (.c (.sc (.bool true))) (.t 24)⟩,
      ⟨none, .mv 26 (.t 25)⟩,
      ⟨some (26, false), .fa 27 4 (.t 2)⟩,
      ⟨some (26, false), .ld 28 false 1 (.t 27)⟩,
      ⟨some (26, false), .len 29 (.t 28)⟩,
      ⟨some (26, false), .fa 30 4 (.t 3)⟩,
      ⟨some (26, false), .ld 31 false 1 (.t 30)⟩,
      ⟨some (26, false), .len 32 (.t 31)⟩,
      ⟨some (26, false), .bin 33 .neq (.t 29) (.t 32)⟩,
      ⟨none, .pick 34 (.t 26) (.c (.sc (.bool true))) (.t 33)⟩])
    (.cond (.t 34)
     ((.seq
      (.reg false [⟨none, .mv 4 (.c (.sc (.bool false)))⟩])
      (.ret)))
     (.skip))))
   ((.seq
    ((.seq
     (.reg false [⟨none, .mv 5 (.c (.sc (.int .i64 0)))⟩])
     (.blk 0
      (.loop
       ((.seq
        ((.seq
         (.reg false [⟨none, .mv 35 (.t 5)⟩,
           ⟨none, .fa 36 4 (.t 2)⟩,
           ⟨none, .ld 37 false 1 (.t 36)⟩,
           ⟨none, .len 38 (.t 37)⟩,
           ⟨none, .bin 39 .lss (.t 35) (.t 38)⟩])
         (.cond (.t 39)
          (.skip)
          (.exit 0))))
        ((.seq
         (.blk 1
          ((.seq
           (.reg true [⟨none, .fa 42 4 (.t 2)⟩,
             ⟨none, .ld 43 false 1 (.t 42)⟩,
             ⟨none, .mv 44 (.t 5)⟩,
             ⟨none, .ia 45 1 (.t 43) (.t 44)⟩,
             ⟨none, .ld 46 false 1 (.t 45)⟩,
             ⟨none, .fa 47 4 (.t 3)⟩,
             ⟨none, .ld 48 false 1 (.t 47)⟩,
             ⟨none, .mv 49 (.t 5)⟩,
             ⟨none, .ia 50 1 (.t 48) (.t 49)⟩,
             ⟨none, .ld 51 false 1 (.t 50)⟩,
             ⟨none, .call (some 52) 52 [(.t 46), (.t 51)]⟩,
             ⟨none, .un 53 .not (.t 52)⟩])
           (.cond (.t 53)
            ((.seq
             (.reg false [⟨none, .mv 4 (.c (.sc (.bool false)))⟩])
             (.ret)))
            (.skip)))))
         (.reg false [⟨none, .mv 40 (.t 5)⟩,
           ⟨none, .bin 41 .add (.t 40) (.c (.sc (.int .i64 1)))⟩,
           ⟨none, .mv 5 (.t 41)⟩])))))))))
    ((.seq
     (.reg false [⟨none, .mv 4 (.c (.sc (.bool true)))⟩])
     (.ret))))))))
theorem res23 : resF Try.prog 23 = some (54, rc23, [.t 4]) := by kernel_rfl

def rc24 : RC :=
 (.seq
  (.reg false [⟨none, .box 2 5 (.t 0)⟩,
    ⟨none, .box 3 5 (.t 1)⟩,
    ⟨none, .mv 4 (.c (.sc (.bool false)))⟩])
  ((.seq
   (.reg false [⟨none, .fa 5 0 (.t 2)⟩,
     ⟨none, .ld 6 true 2 (.t 5)⟩,
     ⟨none, .fa 7 0 (.t 3)⟩,
     ⟨none, .ld 8 true 2 (.t 7)⟩,
     ⟨none, .ceq 9 false 2 (.t 6) (.t 8)⟩,
     ⟨none, .mv 10 (.t 9)⟩,
     ⟨some (10, true), .fa 11 2 (.t 2)⟩,
     ⟨some (10, true), .ld 12 false 1 (.t 11)⟩,
     ⟨some (10, true), .fa 13 2 (.t 3)⟩,
     ⟨some (10, true), .ld 14 false 1 (.t 13)⟩,
     ⟨some (10, true), .bin 15 .eql (.t 12) (.t 14)⟩,
     ⟨none, .pick 16 (.t 10) (.t 15) (.c (.sc (.bool false)))⟩,
     ⟨none, .mv 17 (.t 16)⟩,
     ⟨some (17, true), .fa 18 3 (.t 2)⟩,
     ⟨some (17, true), .ld 19 false 1 (.t 18)⟩,
     ⟨some (17, true), .fa 20 3 (.t 3)⟩,
     ⟨some (17, true), .ld 21 false 1 (.t 20)⟩,
     ⟨some (17, true), .call (some 22) 53 [(.t 19), (.t 21)]⟩,
     ⟨none, .pick 23 (.t 17) (.t 22) (.c (.sc (.bool false)))⟩,
     ⟨none, .mv 24 (.t 23)⟩,
     ⟨some (24, true), .fa 25 4 (.t 2)⟩,
     ⟨some (24, true), .ld 26 false 1 (.t 25)⟩,
     ⟨some (24, true), .fa 27 4 (.t 3)⟩,
     ⟨some (24, true), .ld 28 false 1 (.t 27)⟩,
     ⟨some (24, true), .call (some 29) 54 [(.t 26), (.t 28), (.c (.sc (.func (.func 53) #[] #[])))]⟩,
     ⟨none, .pick 30 (.t 24) (.t 29) (.c (.sc (.bool false)))⟩,
     ⟨none, .mv 4 (.t 30)⟩])
   (.ret))))
theorem res24 : resF Try.prog 24 = some (31, rc24, [.t 4]) := by kernel_rfl

def rc34 : RC :=
 (.seq
  (.reg false [⟨none, .box 2 3 (.t 0)⟩,
    ⟨none, .mv 4 (.c (.sc (.int .i64 0)))⟩])
  ((.seq
   (.reg false [⟨none, .fa 5 2 (.t 2)⟩,
     ⟨none, .ld 6 false 1 (.t 5)⟩,
     ⟨none, .mv 7 (.t 1)⟩,
     ⟨none, .call (some 8) 61 [(.t 6), (.t 7)]⟩,
     ⟨none, .mv 1 (.t 8)⟩])
   ((.seq
    ((.seq
     (.reg false [⟨none, .mv 9 (.t 1)⟩,
       ⟨none, .bin 10 .lss (.t 9) (.c (.sc (.int .i64 0)))⟩])
     (.cond (.t 10)
      ((.seq
       (.reg false [⟨none, .mv 4 (.c (.sc (.int .i64 (-1))))⟩])
       (.ret)))
      (.skip))))
    ((.seq
     (.reg false [⟨none, .mv 11 (.t 1)⟩,
       ⟨none, .mv 4 (.t 11)⟩])
     (.ret))))))))
theorem res34 : resF Try.prog 34 = some (12, rc34, [.t 4]) := by kernel_rfl
theorem res35 : resF Try.prog 35 = some (27, cSzC 13 6 true, [.t 4]) := by kernel_rfl

def rc36 : RC :=
 (.seq
  (.reg false [⟨none, .mv 4 (.c (.sc (.bool false)))⟩])
  ((.seq
   ((.seq
    (.reg true [⟨none, .mv 6 (.t 0)⟩,
      ⟨none, .nck 7 (.t 6)⟩,
      ⟨none, .fa 8 0 (.t 7)⟩,
      ⟨none, .ld 9 false 1 (.t 8)⟩,
      ⟨none, .mv 10 (.t 1)⟩,
      ⟨none, .nck 11 (.t 10)⟩,
      ⟨none, .fa 12 0 (.t 11)⟩,
      ⟨none, .ld 13 false 1 (.t 12)⟩,
      ⟨none, .bin 14 .neq (.t 9) (.t 13)⟩,
      ⟨none, .mv 15 (.t 14)⟩,
      ⟨some (15, false), .mv 16 (.t 0)⟩,
      ⟨some (15, false), .nck 17 (.t 16)⟩,
      ⟨some (15, false), .fa 18 1 (.t 17)⟩,
      ⟨some (15, false), .ld 19 false 1 (.t 18)⟩,
      ⟨some (15, false), .mv 20 (.t 1)⟩,
      ⟨some (15, false), .nck 21 (.t 20)⟩,
      ⟨some (15, false), .fa 22 1 (.t 21)⟩,
      ⟨some (15, false), .ld 23 false 1 (.t 22)⟩,
      ⟨some (15, false), .bin 24 .neq (.t 19) (.t 23)⟩,
      ⟨none, .pick 25 (.t 15) (.c (.sc (.bool true))) (.t 24)⟩,
      ⟨none, .mv 26 (.t 25)⟩,
      ⟨some (26, false), .mv 27 (.t 0)⟩,
      ⟨some (26, false), .nck 28 (.t 27)⟩,
      ⟨some (26, false), .fa 29 5 (.t 28)⟩,
      ⟨some (26, false), .ld 30 false 1 (.t 29)⟩,
      ⟨some (26, false), .len 31 (.t 30)⟩,
      ⟨some (26, false), .mv 32 (.t 1)⟩,
      ⟨some (26, false), .nck 33 (.t 32)⟩,
      ⟨some (26, false), .fa 34 5 (.t 33)⟩,
      ⟨some (26, false), .ld 35 false 1 (.t 34)⟩,
      ⟨some (26, false), .len 36 (.t 35)⟩,
      ⟨some (26, false), .bin 37 .neq (.t 31) (.t 36)⟩,
      ⟨none, .pick 38 (.t 26) (.c (.sc (.bool true))) (.t 37)⟩,
      ⟨none, .mv 39 (.t 38)⟩,
      ⟨some (39, false), .mv 40 (.t 0)⟩,
      ⟨some (39, false), .nck 41 (.t 40)⟩,
      ⟨some (39, false), .fa 42 2 (.t 41)⟩,
      ⟨some (39, false), .mv 43 (.t 1)⟩,
      ⟨some (39, false), .nck 44 (.t 43)⟩,
      ⟨some (39, false), .fa 45 2 (.t 44)⟩,
      ⟨some (39, false), .call (some 46) 62 [(.t 42), (.t 45)]⟩,
      ⟨some (39, false), .un 47 .not (.t 46)⟩,
      ⟨none, .pick 48 (.t 39) (.c (.sc (.bool true))) (.t 47)⟩])
    (.cond (.t 48)
     ((.seq
      (.reg false [⟨none, .mv 4 (.c (.sc (.bool false)))⟩])
      (.ret)))
     (.skip))))
   ((.seq
    ((.seq
     (.reg false [⟨none, .mv 5 (.c (.sc (.int .i64 0)))⟩])
     (.blk 0
      (.loop
       ((.seq
        ((.seq
         (.reg false [⟨none, .mv 49 (.t 5)⟩,
           ⟨none, .mv 50 (.t 0)⟩,
           ⟨none, .nck 51 (.t 50)⟩,
           ⟨none, .fa 52 5 (.t 51)⟩,
           ⟨none, .ld 53 false 1 (.t 52)⟩,
           ⟨none, .len 54 (.t 53)⟩,
           ⟨none, .bin 55 .lss (.t 49) (.t 54)⟩])
         (.cond (.t 55)
          (.skip)
          (.exit 0))))
        ((.seq
         (.blk 1
          ((.seq
           (.reg true [⟨none, .mv 58 (.t 0)⟩,
             ⟨none, .nck 59 (.t 58)⟩,
             ⟨none, .fa 60 5 (.t 59)⟩,
             ⟨none, .ld 61 false 1 (.t 60)⟩,
             ⟨none, .mv 62 (.t 5)⟩,
             ⟨none, .ia 63 6 (.t 61) (.t 62)⟩,
             ⟨none, .mv 64 (.t 1)⟩,
             ⟨none, .nck 65 (.t 64)⟩,
             ⟨none, .fa 66 5 (.t 65)⟩,
             ⟨none, .ld 67 false 1 (.t 66)⟩,
             ⟨none, .mv 68 (.t 5)⟩,
             ⟨none, .ia 69 6 (.t 67) (.t 68)⟩,
             ⟨none, .call (some 70) 36 [(.t 63), (.t 69)]⟩,
             ⟨none, .un 71 .not (.t 70)⟩])
           (.cond (.t 71)
            ((.seq
             (.reg false [⟨none, .mv 4 (.c (.sc (.bool false)))⟩])
             (.ret)))
            (.skip)))))
         (.reg false [⟨none, .mv 56 (.t 5)⟩,
           ⟨none, .bin 57 .add (.t 56) (.c (.sc (.int .i64 1)))⟩,
           ⟨none, .mv 5 (.t 57)⟩])))))))))
    ((.seq
     (.reg false [⟨none, .mv 4 (.c (.sc (.bool true)))⟩])
     (.ret))))))))
theorem res36 : resF Try.prog 36 = some (72, rc36, [.t 4]) := by kernel_rfl

def rc37 : RC :=
 (.seq
  (.reg false [⟨none, .box 1 3 (.t 0)⟩,
    ⟨none, .zer 2 3 (.ag [(.sc (.int .i64 0)), (.sc (.int .i64 0)), (.ls (some true) 3 [])])⟩])
  ((.seq
   (.reg false [⟨none, .zer 3 3 (.ag [(.sc (.int .i64 0)), (.sc (.int .i64 0)), (.ls (some true) 3 [])])⟩])
   ((.seq
    (.reg false [⟨none, .fa 4 0 (.t 1)⟩,
      ⟨none, .ld 5 false 1 (.t 4)⟩,
      ⟨none, .fa 6 0 (.t 3)⟩,
      ⟨none, .st 1 (.t 6) (.t 5)⟩])
    ((.seq
     (.reg false [⟨none, .fa 7 1 (.t 1)⟩,
       ⟨none, .ld 8 false 1 (.t 7)⟩,
       ⟨none, .fa 9 1 (.t 3)⟩,
       ⟨none, .st 1 (.t 9) (.t 8)⟩])
     ((.seq
      (.reg false [⟨none, .fa 10 2 (.t 1)⟩,
        ⟨none, .ld 11 false 1 (.t 10)⟩,
        ⟨none, .call (some 12) 63 [(.t 11)]⟩,
        ⟨none, .fa 13 2 (.t 3)⟩,
        ⟨none, .st 1 (.t 13) (.t 12)⟩])
      ((.seq
       (.reg false [⟨none, .ld 14 true 3 (.t 3)⟩,
         ⟨none, .st 3 (.t 2) (.t 14)⟩])
       (.ret))))))))))))
theorem res37 : resF Try.prog 37 = some (15, rc37, [.c 2 3 true]) := by kernel_rfl
theorem res38 : resF Try.prog 38 = some (23, cToC 15 6 80 true (.ag [(.sc (.int .i64 0)), (.sc (.int .i64 0)), (.sc (.int .i64 0)), (.sc (.int .i64 0)), (.ls (some true) 3 []), (.ls (some true) 6 [])]), [.t 2]) := by kernel_rfl

def rc39 : RC :=
 (.seq
  (.reg false [⟨none, .box 2 3 (.t 0)⟩,
    ⟨none, .box 3 3 (.t 1)⟩,
    ⟨none, .mv 4 (.c (.sc (.bool false)))⟩])
  ((.seq
   (.reg false [⟨none, .fa 5 0 (.t 2)⟩,
     ⟨none, .ld 6 false 1 (.t 5)⟩,
     ⟨none, .fa 7 0 (.t 3)⟩,
     ⟨none, .ld 8 false 1 (.t 7)⟩,
     ⟨none, .bin 9 .eql (.t 6) (.t 8)⟩,
     ⟨none, .mv 10 (.t 9)⟩,
     ⟨some (10, true), .fa 11 1 (.t 2)⟩,
     ⟨some (10, true), .ld 12 false 1 (.t 11)⟩,
     ⟨some (10, true), .fa 13 1 (.t 3)⟩,
     ⟨some (10, true), .ld 14 false 1 (.t 13)⟩,
     ⟨some (10, true), .bin 15 .eql (.t 12) (.t 14)⟩,
     ⟨none, .pick 16 (.t 10) (.t 15) (.c (.sc (.bool false)))⟩,
     ⟨none, .mv 17 (.t 16)⟩,
     ⟨some (17, true), .fa 18 2 (.t 2)⟩,
     ⟨some (17, true), .ld 19 false 1 (.t 18)⟩,
     ⟨some (17, true), .fa 20 2 (.t 3)⟩,
     ⟨some (17, true), .ld 21 false 1 (.t 20)⟩,
     ⟨some (17, true), .call (some 22) 64 [(.t 19), (.t 21), (.c (.sc (.func (.func 39) #[] #[])))]⟩,
     ⟨none, .pick 23 (.t 17) (.t 22) (.c (.sc (.bool false)))⟩,
     ⟨none, .mv 4 (.t 23)⟩])
   (.ret))))
theorem res39 : resF Try.prog 39 = some (24, rc39, [.t 4]) := by kernel_rfl
theorem res40 : resF Try.prog 40 = some (32, cEfA 6 (.ag [(.sc (.int .i64 0)), (.sc (.int .i64 0)), (.sc (.int .i64 0)), (.sc (.int .i64 0)), (.ls (some true) 3 []), (.ls (some true) 6 [])]), [.t 6]) := by kernel_rfl

def rc41 : RC :=
 (.seq
  (.reg false [⟨none, .box 2 3 (.t 0)⟩,
    ⟨none, .box 3 3 (.t 1)⟩,
    ⟨none, .mv 4 (.c (.sc (.bool false)))⟩])
  ((.seq
   ((.seq
    (.reg false [⟨none, .fa 5 0 (.t 2)⟩,
      ⟨none, .ld 6 false 1 (.t 5)⟩,
      ⟨none, .fa 7 0 (.t 3)⟩,
      ⟨none, .ld 8 false 1 (.t 7)⟩,
      ⟨none, .bin 9 .neq (.t 6) (.t 8)⟩])
    (.cond (.t 9)
     ((.seq
      (.reg false [⟨none, .mv 4 (.c (.sc (.bool false)))⟩])
      (.ret)))
     (.skip))))
   ((.seq
    ((.seq
     (.reg false [⟨none, .fa 10 1 (.t 2)⟩,
       ⟨none, .ld 11 false 1 (.t 10)⟩,
       ⟨none, .fa 12 1 (.t 3)⟩,
       ⟨none, .ld 13 false 1 (.t 12)⟩,
       ⟨none, .bin 14 .neq (.t 11) (.t 13)⟩])
     (.cond (.t 14)
      ((.seq
       (.reg false [⟨none, .mv 4 (.c (.sc (.bool false)))⟩])
       (.ret)))
      (.skip))))
    ((.seq
     ((.seq
      (.reg false [⟨none, .fa 15 2 (.t 2)⟩,
        ⟨none, .ld 16 false 1 (.t 15)⟩,
        ⟨none, .fa 17 2 (.t 3)⟩,
        ⟨none, .ld 18 false 1 (.t 17)⟩,
        ⟨none, .call (some 19) 65 [(.t 16), (.t 18)]⟩,
        ⟨none, .un 20 .not (.t 19)⟩])
      (.cond (.t 20)
       ((.seq
        (.reg false [⟨none, .mv 4 (.c (.sc (.bool false)))⟩])
        (.ret)))
       (.skip))))
     ((.seq
      (.reg false [⟨none, .mv 4 (.c (.sc (.bool true)))⟩])
      (.ret))))))))))
theorem res41 : resF Try.prog 41 = some (21, rc41, [.t 4]) := by kernel_rfl
theorem res42 : resF Try.prog 42 = some (27, cEqC 17 6 true, [.t 4]) := by kernel_rfl
theorem res43 : resF Try.prog 43 = some (27, cSzC 66 1 false, [.t 4]) := by kernel_rfl
theorem res44 : resF Try.prog 44 = some (27, cSzC 43 1 false, [.t 4]) := by kernel_rfl

def rc45 : RC :=
 (.seq
  (.reg false [⟨none, .mv 2 (.c (.sc (.bool false)))⟩])
  ((.seq
   ((.seq
    (.reg true [⟨none, .mv 5 (.t 0)⟩,
      ⟨none, .nck 6 (.t 5)⟩,
      ⟨none, .fa 7 0 (.t 6)⟩,
      ⟨none, .ld 8 true 2 (.t 7)⟩,
      ⟨none, .mv 9 (.t 0)⟩,
      ⟨none, .nck 10 (.t 9)⟩,
      ⟨none, .fa 11 2 (.t 10)⟩,
      ⟨none, .ld 12 false 1 (.t 11)⟩,
      ⟨none, .mv 13 (.t 0)⟩,
      ⟨none, .nck 14 (.t 13)⟩,
      ⟨none, .fa 15 3 (.t 14)⟩,
      ⟨none, .ld 16 false 1 (.t 15)⟩,
      ⟨none, .call (some 17) 67 [(.t 8), (.t 12), (.t 16)]⟩,
      ⟨none, .un 18 .not (.t 17)⟩,
      ⟨none, .mv 19 (.t 18)⟩,
      ⟨some (19, false), .mv 20 (.t 0)⟩,
      ⟨some (19, false), .nck 21 (.t 20)⟩,
      ⟨some (19, false), .fa 22 4 (.t 21)⟩,
      ⟨some (19, false), .ld 23 false 1 (.t 22)⟩,
      ⟨some (19, false), .len 24 (.t 23)⟩,
      ⟨some (19, false), .mv 25 (.t 0)⟩,
      ⟨some (19, false), .nck 26 (.t 25)⟩,
      ⟨some (19, false), .fa 27 0 (.t 26)⟩,
      ⟨some (19, false), .fa 28 1 (.t 27)⟩,
      ⟨some (19, false), .ld 29 false 1 (.t 28)⟩,
      ⟨some (19, false), .bin 30 .neq (.t 24) (.t 29)⟩,
      ⟨none, .pick 31 (.t 19) (.c (.sc (.bool true))) (.t 30)⟩])
    (.cond (.t 31)
     ((.seq
      (.reg false [⟨none, .mv 2 (.c (.sc (.bool false)))⟩])
      (.ret)))
     (.skip))))
   ((.seq
    ((.seq
     (.reg false [⟨none, .mv 3 (.c (.sc (.int .i64 0)))⟩])
     (.blk 0
      (.loop
       ((.seq
        ((.seq
         (.reg false [⟨none, .mv 32 (.t 3)⟩,
           ⟨none, .mv 33 (.t 0)⟩,
           ⟨none, .nck 34 (.t 33)⟩,
           ⟨none, .fa 35 4 (.t 34)⟩,
           ⟨none, .ld 36 false 1 (.t 35)⟩,
           ⟨none, .len 37 (.t 36)⟩,
           ⟨none, .bin 38 .lss (.t 32) (.t 37)⟩])
         (.cond (.t 38)
          (.skip)
          (.exit 0))))
        ((.seq
         (.blk 1
          ((.seq
           ((.seq
            (.reg true [⟨none, .mv 41 (.t 0)⟩,
              ⟨none, .nck 42 (.t 41)⟩,
              ⟨none, .fa 43 4 (.t 42)⟩,
              ⟨none, .ld 44 false 1 (.t 43)⟩,
              ⟨none, .mv 45 (.t 3)⟩,
              ⟨none, .ia 46 1 (.t 44) (.t 45)⟩,
              ⟨none, .ld 47 false 1 (.t 46)⟩,
              ⟨none, .len 48 (.t 47)⟩,
              ⟨none, .mv 49 (.t 0)⟩,
              ⟨none, .nck 50 (.t 49)⟩,
              ⟨none, .fa 51 2 (.t 50)⟩,
              ⟨none, .ld 52 false 1 (.t 51)⟩,
              ⟨none, .bin 53 .neq (.t 48) (.t 52)⟩])
            (.cond (.t 53)
             ((.seq
              (.reg false [⟨none, .mv 2 (.c (.sc (.bool false)))⟩])
              (.ret)))
             (.skip))))
           ((.seq
            (.reg false [⟨none, .mv 4 (.c (.sc (.int .i64 0)))⟩])
            (.blk 2
             (.loop
              ((.seq
               ((.seq
                (.reg false [⟨none, .mv 54 (.t 4)⟩,
                  ⟨none, .mv 55 (.t 0)⟩,
                  ⟨none, .nck 56 (.t 55)⟩,
                  ⟨none, .fa 57 4 (.t 56)⟩,
                  ⟨none, .ld 58 false 1 (.t 57)⟩,
                  ⟨none, .mv 59 (.t 3)⟩,
                  ⟨none, .ia 60 1 (.t 58) (.t 59)⟩,
                  ⟨none, .ld 61 false 1 (.t 60)⟩,
                  ⟨none, .len 62 (.t 61)⟩,
                  ⟨none, .bin 63 .lss (.t 54) (.t 62)⟩])
                (.cond (.t 63)
                 (.skip)
                 (.exit 2))))
               ((.seq
                (.blk 3
                 ((.seq
                  (.reg true [⟨none, .mv 66 (.t 0)⟩,
                    ⟨none, .nck 67 (.t 66)⟩,
                    ⟨none, .fa 68 4 (.t 67)⟩,
                    ⟨none, .ld 69 false 1 (.t 68)⟩,
                    ⟨none, .mv 70 (.t 3)⟩,
                    ⟨none, .ia 71 1 (.t 69) (.t 70)⟩,
                    ⟨none, .ld 72 false 1 (.t 71)⟩,
                    ⟨none, .mv 73 (.t 4)⟩,
                    ⟨none, .ia 74 1 (.t 72) (.t 73)⟩,
                    ⟨none, .ld 75 false 1 (.t 74)⟩,
                    ⟨none, .len 76 (.t 75)⟩,
                    ⟨none, .mv 77 (.t 0)⟩,
                    ⟨none, .nck 78 (.t 77)⟩,
                    ⟨none, .fa 79 2 (.t 78)⟩,
                    ⟨none, .ld 80 false 1 (.t 79)⟩,
                    ⟨none, .bin 81 .neq (.t 76) (.t 80)⟩])
                  (.cond (.t 81)
                   ((.seq
                    (.reg false [⟨none, .mv 2 (.c (.sc (.bool false)))⟩])
                    (.ret)))
                   (.skip)))))
                (.reg false [⟨none, .mv 64 (.t 4)⟩,
                  ⟨none, .bin 65 .add (.t 64) (.c (.sc (.int .i64 1)))⟩,
                  ⟨none, .mv 4 (.t 65)⟩]))))))))))))
         (.reg false [⟨none, .mv 39 (.t 3)⟩,
           ⟨none, .bin 40 .add (.t 39) (.c (.sc (.int .i64 1)))⟩,
           ⟨none, .mv 3 (.t 40)⟩])))))))))
    ((.seq
     (.reg false [⟨none, .mv 2 (.c (.sc (.bool true)))⟩])
     (.ret))))))))
theorem res45 : resF Try.prog 45 = some (82, rc45, [.t 2]) := by kernel_rfl
theorem res46 : resF Try.prog 46 = some (23, cToC 68 1 24 false (.ls (some true) 1 []), [.t 2]) := by kernel_rfl
theorem res47 : resF Try.prog 47 = some (23, cToC 46 1 24 false (.ls (some true) 1 []), [.t 2]) := by kernel_rfl

def rc48 : RC :=
 (.seq
  (.reg false [⟨none, .box 4 2 (.t 0)⟩,
    ⟨none, .mv 8 (.c (.sc (.bool false)))⟩])
  ((.seq
   ((.seq
    (.reg false [⟨none, .ld 11 true 2 (.t 4)⟩,
      ⟨none, .call (some 12) 30 [(.t 11)]⟩,
      ⟨none, .un 13 .not (.t 12)⟩,
      ⟨none, .mv 14 (.t 13)⟩,
      ⟨some (14, false), .mv 15 (.t 1)⟩,
      ⟨some (14, false), .call (some 16) 58 [(.t 15), (.c (.sc (.int .i64 1))), (.c (.sc (.int .i64 8)))]⟩,
      ⟨some (14, false), .un 17 .not (.t 16)⟩,
      ⟨none, .pick 18 (.t 14) (.c (.sc (.bool true))) (.t 17)⟩,
      ⟨none, .mv 19 (.t 18)⟩,
      ⟨some (19, false), .mv 20 (.t 2)⟩,
      ⟨some (19, false), .fa 21 0 (.t 4)⟩,
      ⟨some (19, false), .ld 22 false 1 (.t 21)⟩,
      ⟨some (19, false), .mv 23 (.t 1)⟩,
      ⟨some (19, false), .call (some 24) 69 [(.t 20), (.t 22), (.t 23)]⟩,
      ⟨some (19, false), .un 25 .not (.t 24)⟩,
      ⟨none, .pick 26 (.t 19) (.c (.sc (.bool true))) (.t 25)⟩,
      ⟨none, .mv 27 (.t 26)⟩,
      ⟨some (27, false), .mv 28 (.t 3)⟩,
      ⟨some (27, false), .len 29 (.t 28)⟩,
      ⟨some (27, false), .fa 30 1 (.t 4)⟩,
      ⟨some (27, false), .ld 31 false 1 (.t 30)⟩,
      ⟨some (27, false), .bin 32 .neq (.t 29) (.t 31)⟩,
      ⟨none, .pick 33 (.t 27) (.c (.sc (.bool true))) (.t 32)⟩])
    (.cond (.t 33)
     ((.seq
      (.reg false [⟨none, .mv 8 (.c (.sc (.bool false)))⟩])
      (.ret)))
     (.skip))))
   ((.seq
    ((.seq
     (.reg false [⟨none, .mv 34 (.t 3)⟩,
       ⟨none, .len 35 (.t 34)⟩,
       ⟨none, .mv 36 (.c (.sc (.int .i64 0)))⟩])
     (.blk 0
      (.loop
       ((.seq
        (.reg false [⟨none, .bin 37 .lss (.t 36) (.t 35)⟩])
        ((.seq
         (.cond (.t 37)
          (.skip)
          (.exit 0))
         ((.seq
          (.blk 1
           ((.seq
            (.reg false [⟨none, .ia 38 1 (.t 34) (.t 36)⟩,
              ⟨none, .ld 39 false 1 (.t 38)⟩,
              ⟨none, .mv 10 (.t 39)⟩])
            ((.seq
             (.reg false [⟨none, .mv 40 (.t 10)⟩,
               ⟨none, .mv 41 (.t 1)⟩,
               ⟨none, .mv 42 (.t 1)⟩,
               ⟨none, .call (some 43) 69 [(.t 40), (.t 41), (.t 42)]⟩,
               ⟨none, .un 44 .not (.t 43)⟩])
             (.cond (.t 44)
              ((.seq
               (.reg false [⟨none, .mv 8 (.c (.sc (.bool false)))⟩])
               (.ret)))
              (.skip)))))))
          (.reg false [⟨none, .bin 45 .add (.t 36) (.c (.sc (.int .i64 1)))⟩,
            ⟨none, .mv 36 (.t 45)⟩])))))))))))
    ((.seq
     (.reg false [⟨none, .mv 8 (.c (.sc (.bool true)))⟩])
     (.ret))))))))
theorem res48 : resF Try.prog 48 = some (46, rc48, [.t 8]) := by kernel_rfl

def rc49 : RC :=
 (.seq
  (.reg false [⟨none, .box 2 2 (.t 0)⟩,
    ⟨none, .box 3 2 (.t 1)⟩,
    ⟨none, .mv 4 (.c (.sc (.bool false)))⟩])
  ((.seq
   ((.seq
    (.reg false [⟨none, .fa 5 0 (.t 2)⟩,
      ⟨none, .ld 6 false 1 (.t 5)⟩,
      ⟨none, .fa 7 0 (.t 3)⟩,
      ⟨none, .ld 8 false 1 (.t 7)⟩,
      ⟨none, .bin 9 .neq (.t 6) (.t 8)⟩])
    (.cond (.t 9)
     ((.seq
      (.reg false [⟨none, .mv 4 (.c (.sc (.bool false)))⟩])
      (.ret)))
     (.skip))))
   ((.seq
    ((.seq
     (.reg false [⟨none, .fa 10 1 (.t 2)⟩,
       ⟨none, .ld 11 false 1 (.t 10)⟩,
       ⟨none, .fa 12 1 (.t 3)⟩,
       ⟨none, .ld 13 false 1 (.t 12)⟩,
       ⟨none, .bin 14 .neq (.t 11) (.t 13)⟩])
     (.cond (.t 14)
      ((.seq
       (.reg false [⟨none, .mv 4 (.c (.sc (.bool false)))⟩])
       (.ret)))
      (.skip))))
    ((.seq
     (.reg false [⟨none, .mv 4 (.c (.sc (.bool true)))⟩])
     (.ret))))))))
theorem res49 : resF Try.prog 49 = some (15, rc49, [.t 4]) := by kernel_rfl
theorem res50 : resF Try.prog 50 = some (27, cEqC 70 1 false, [.t 4]) := by kernel_rfl
theorem res51 : resF Try.prog 51 = some (27, cEqC 50 1 false, [.t 4]) := by kernel_rfl
theorem res52 : resF Try.prog 52 = some (27, cEqC 71 1 false, [.t 4]) := by kernel_rfl

def rc53 : RC :=
 (.seq
  (.reg false [⟨none, .mv 4 (.c (.sc (.bool false)))⟩])
  ((.seq
   (.reg false [⟨none, .mv 5 (.t 0)⟩,
     ⟨none, .mv 6 (.t 1)⟩,
     ⟨none, .call (some 7) 72 [(.t 5), (.t 6), (.c (.sc (.func (.func 73) #[] #[])))]⟩,
     ⟨none, .mv 4 (.t 7)⟩])
   (.ret))))
theorem res53 : resF Try.prog 53 = some (8, rc53, [.t 4]) := by kernel_rfl
theorem res54 : resF Try.prog 54 = some (32, cEfS 1, [.t 6]) := by kernel_rfl
theorem res61 : resF Try.prog 61 = some (27, cSzC 34 3 true, [.t 4]) := by kernel_rfl

def rc62 : RC :=
 (.seq
  (.reg false [⟨none, .mv 4 (.c (.sc (.bool false)))⟩])
  ((.seq
   ((.seq
    (.reg true [⟨none, .mv 6 (.t 0)⟩,
      ⟨none, .nck 7 (.t 6)⟩,
      ⟨none, .fa 8 0 (.t 7)⟩,
      ⟨none, .ld 9 false 1 (.t 8)⟩,
      ⟨none, .mv 10 (.t 1)⟩,
      ⟨none, .nck 11 (.t 10)⟩,
      ⟨none, .fa 12 0 (.t 11)⟩,
      ⟨none, .ld 13 false 1 (.t 12)⟩,
      ⟨none, .bin 14 .neq (.t 9) (.t 13)⟩,
      ⟨none, .mv 15 (.t 14)⟩,
      ⟨some (15, false), .mv 16 (.t 0)⟩,
      ⟨some (15, false), .nck 17 (.t 16)⟩,
      ⟨some (15, false), .fa 18 1 (.t 17)⟩,
      ⟨some (15, false), .ld 19 false 1 (.t 18)⟩,
      ⟨some (15, false), .mv 20 (.t 1)⟩,
      ⟨some (15, false), .nck 21 (.t 20)⟩,
      ⟨some (15, false), .fa 22 1 (.t 21)⟩,
      ⟨some (15, false), .ld 23 false 1 (.t 22)⟩,
      ⟨some (15, false), .bin 24 .neq (.t 19) (.t 23)⟩,
      ⟨none, .pick 25 (.t 15) (.c (.sc (.bool true))) (.t 24)⟩,
      ⟨none, .mv 26 (.t 25)⟩,
      ⟨some (26, false), .mv 27 (.t 0)⟩,
      ⟨some (26, false), .nck 28 (.t 27)⟩,
      ⟨some (26, false), .fa 29 2 (.t 28)⟩,
      ⟨some (26, false), .ld 30 false 1 (.t 29)⟩,
      ⟨some (26, false), .len 31 (.t 30)⟩,
      ⟨some (26, false), .mv 32 (.t 1)⟩,
      ⟨some (26, false), .nck 33 (.t 32)⟩,
      ⟨some (26, false), .fa 34 2 (.t 33)⟩,
      ⟨some (26, false), .ld 35 false 1 (.t 34)⟩,
      ⟨some (26, false), .len 36 (.t 35)⟩,
      ⟨some (26, false), .bin 37 .neq (.t 31) (.t 36)⟩,
      ⟨none, .pick 38 (.t 26) (.c (.sc (.bool true))) (.t 37)⟩])
    (.cond (.t 38)
     ((.seq
      (.reg false [⟨none, .mv 4 (.c (.sc (.bool false)))⟩])
      (.ret)))
     (.skip))))
   ((.seq
    ((.seq
     (.reg false [⟨none, .mv 5 (.c (.sc (.int .i64 0)))⟩])
     (.blk 0
      (.loop
       ((.seq
        ((.seq
         (.reg false [⟨none, .mv 39 (.t 5)⟩,
           ⟨none, .mv 40 (.t 0)⟩,
           ⟨none, .nck 41 (.t 40)⟩,
           ⟨none, .fa 42 2 (.t 41)⟩,
           ⟨none, .ld 43 false 1 (.t 42)⟩,
           ⟨none, .len 44 (.t 43)⟩,
           ⟨none, .bin 45 .lss (.t 39) (.t 44)⟩])
         (.cond (.t 45)
          (.skip)
          (.exit 0))))
        ((.seq
         (.blk 1
          ((.seq
           (.reg true [⟨none, .mv 48 (.t 0)⟩,
             ⟨none, .nck 49 (.t 48)⟩,
             ⟨none, .fa 50 2 (.t 49)⟩,
             ⟨none, .ld 51 false 1 (.t 50)⟩,
             ⟨none, .mv 52 (.t 5)⟩,
             ⟨none, .ia 53 3 (.t 51) (.t 52)⟩,
             ⟨none, .mv 54 (.t 1)⟩,
             ⟨none, .nck 55 (.t 54)⟩,
             ⟨none, .fa 56 2 (.t 55)⟩,
             ⟨none, .ld 57 false 1 (.t 56)⟩,
             ⟨none, .mv 58 (.t 5)⟩,
             ⟨none, .ia 59 3 (.t 57) (.t 58)⟩,
             ⟨none, .call (some 60) 62 [(.t 53), (.t 59)]⟩,
             ⟨none, .un 61 .not (.t 60)⟩])
           (.cond (.t 61)
            ((.seq
             (.reg false [⟨none, .mv 4 (.c (.sc (.bool false)))⟩])
             (.ret)))
            (.skip)))))
         (.reg false [⟨none, .mv 46 (.t 5)⟩,
           ⟨none, .bin 47 .add (.t 46) (.c (.sc (.int .i64 1)))⟩,
           ⟨none, .mv 5 (.t 47)⟩])))))))))
    ((.seq
     (.reg false [⟨none, .mv 4 (.c (.sc (.bool true)))⟩])
     (.ret))))))))
theorem res62 : resF Try.prog 62 = some (62, rc62, [.t 4]) := by kernel_rfl
theorem res63 : resF Try.prog 63 = some (23, cToC 37 3 40 true (.ag [(.sc (.int .i64 0)), (.sc (.int .i64 0)), (.ls (some true) 3 [])]), [.t 2]) := by kernel_rfl
theorem res64 : resF Try.prog 64 = some (32, cEfA 3 (.ag [(.sc (.int .i64 0)), (.sc (.int .i64 0)), (.ls (some true) 3 [])]), [.t 6]) := by kernel_rfl
theorem res65 : resF Try.prog 65 = some (27, cEqC 41 3 true, [.t 4]) := by kernel_rfl
theorem res66 : resF Try.prog 66 = some (12, cSzP, [.t 4]) := by kernel_rfl

def rc67 : RC :=
 (.seq
  (.reg false [⟨none, .box 3 2 (.t 0)⟩,
    ⟨none, .mv 6 (.c (.sc (.bool false)))⟩])
  ((.seq
   ((.seq
    (.reg false [⟨none, .ld 8 true 2 (.t 3)⟩,
      ⟨none, .call (some 9) 55 [(.t 8)]⟩,
      ⟨none, .un 10 .not (.t 9)⟩,
      ⟨none, .mv 11 (.t 10)⟩,
      ⟨some (11, false), .mv 12 (.t 1)⟩,
      ⟨some (11, false), .call (some 13) 56 [(.t 12), (.c (.sc (.int .i64 1))), (.c (.sc (.int .i64 8)))]⟩,
      ⟨some (11, false), .un 14 .not (.t 13)⟩,
      ⟨none, .pick 15 (.t 11) (.c (.sc (.bool true))) (.t 14)⟩,
      ⟨none, .mv 16 (.t 15)⟩,
      ⟨some (16, false), .mv 17 (.t 2)⟩,
      ⟨some (16, false), .len 18 (.t 17)⟩,
      ⟨some (16, false), .fa 19 0 (.t 3)⟩,
      ⟨some (16, false), .ld 20 false 1 (.t 19)⟩,
      ⟨some (16, false), .bin 21 .neq (.t 18) (.t 20)⟩,
      ⟨none, .pick 22 (.t 16) (.c (.sc (.bool true))) (.t 21)⟩])
    (.cond (.t 22)
     ((.seq
      (.reg false [⟨none, .mv 6 (.c (.sc (.bool false)))⟩])
      (.ret)))
     (.skip))))
   ((.seq
    ((.seq
     (.reg false [⟨none, .mv 7 (.c (.sc (.int .i64 0)))⟩])
     (.blk 0
      (.loop
       ((.seq
        ((.seq
         (.reg false [⟨none, .mv 23 (.t 7)⟩,
           ⟨none, .mv 24 (.t 2)⟩,
           ⟨none, .len 25 (.t 24)⟩,
           ⟨none, .bin 26 .lss (.t 23) (.t 25)⟩])
         (.cond (.t 26)
          (.skip)
          (.exit 0))))
        ((.seq
         (.blk 1
          ((.seq
           (.reg false [⟨none, .mv 29 (.t 2)⟩,
             ⟨none, .mv 30 (.t 7)⟩,
             ⟨none, .ia 31 1 (.t 29) (.t 30)⟩,
             ⟨none, .ld 32 false 1 (.t 31)⟩,
             ⟨none, .len 33 (.t 32)⟩,
             ⟨none, .mv 34 (.t 1)⟩,
             ⟨none, .bin 35 .neq (.t 33) (.t 34)⟩])
           (.cond (.t 35)
            ((.seq
             (.reg false [⟨none, .mv 6 (.c (.sc (.bool false)))⟩])
             (.ret)))
            (.skip)))))
         (.reg false [⟨none, .mv 27 (.t 7)⟩,
           ⟨none, .bin 28 .add (.t 27) (.c (.sc (.int .i64 1)))⟩,
           ⟨none, .mv 7 (.t 28)⟩])))))))))
    ((.seq
     (.reg false [⟨none, .mv 6 (.c (.sc (.bool true)))⟩])
     (.ret))))))))
theorem res67 : resF Try.prog 67 = some (36, rc67, [.t 6]) := by kernel_rfl
theorem res68 : resF Try.prog 68 = some (22, cToS 1 (.sc (.bool false)), [.t 2]) := by kernel_rfl

def rc69 : RC :=
 (.seq
  (.reg false [⟨none, .mv 6 (.c (.sc (.bool false)))⟩])
  ((.seq
   ((.seq
    (.reg false [⟨none, .mv 9 (.t 0)⟩,
      ⟨none, .len 10 (.t 9)⟩,
      ⟨none, .mv 11 (.t 1)⟩,
      ⟨none, .bin 12 .neq (.t 10) (.t 11)⟩])
    (.cond (.t 12)
     ((.seq
      (.reg false [⟨none, .mv 6 (.c (.sc (.bool false)))⟩])
      (.ret)))
     (.skip))))
   ((.seq
    ((.seq
     (.reg false [⟨none, .mv 13 (.t 0)⟩,
       ⟨none, .len 14 (.t 13)⟩,
       ⟨none, .mv 15 (.c (.sc (.int .i64 0)))⟩])
     (.blk 0
      (.loop
       ((.seq
        (.reg false [⟨none, .bin 16 .lss (.t 15) (.t 14)⟩])
        ((.seq
         (.cond (.t 16)
          (.skip)
          (.exit 0))
         ((.seq
          (.blk 1
           ((.seq
            (.reg false [⟨none, .ia 17 1 (.t 13) (.t 15)⟩,
              ⟨none, .ld 18 false 1 (.t 17)⟩,
              ⟨none, .mv 8 (.t 18)⟩])
            ((.seq
             (.reg false [⟨none, .mv 19 (.t 8)⟩,
               ⟨none, .len 20 (.t 19)⟩,
               ⟨none, .mv 21 (.t 2)⟩,
               ⟨none, .bin 22 .neq (.t 20) (.t 21)⟩])
             (.cond (.t 22)
              ((.seq
               (.reg false [⟨none, .mv 6 (.c (.sc (.bool false)))⟩])
               (.ret)))
              (.skip)))))))
          (.reg false [⟨none, .bin 23 .add (.t 15) (.c (.sc (.int .i64 1)))⟩,
            ⟨none, .mv 15 (.t 23)⟩])))))))))))
    ((.seq
     (.reg false [⟨none, .mv 6 (.c (.sc (.bool true)))⟩])
     (.ret))))))))
theorem res69 : resF Try.prog 69 = some (24, rc69, [.t 6]) := by kernel_rfl
theorem res70 : resF Try.prog 70 = some (26, cEqB, [.t 4]) := by kernel_rfl
theorem res71 : resF Try.prog 71 = some (26, cEqB, [.t 4]) := by kernel_rfl
theorem res72 : resF Try.prog 72 = some (32, cEfS 1, [.t 6]) := by kernel_rfl
theorem res73 : resF Try.prog 73 = some (26, cSeB, [.t 4]) := by kernel_rfl
end Go.Ax
