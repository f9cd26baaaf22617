/- Contracts of functions of the seat, proved over the engine. No condition. -/
import Derived.Test.YtcklakmblpkbnaaX24
import Derived.Test.YtcklakmblpkbnaaX10
import Derived.Test.YtcklakmblpkbnaaChecked
set_option linter.unusedSimpArgs false
set_option linter.unusedVariables false
set_option linter.unnecessarySimpa false
namespace Go.Ax
open Go.Proofs
set_option linter.unusedSimpArgs false
theorem mixed : Try.prog.follows .mixedOrders = true := by kernel_rfl
theorem res115 : resF Try.prog 115 = some (27, cSzC 44 3 true, [.t 4]) := by kernel_rfl
theorem res44 : resF Try.prog 44 = some (12, k_szExpr 115, [.t 4]) := by kernel_rfl
theorem res93 : resF Try.prog 93 = some (12, cSzP, [.t 4]) := by kernel_rfl

def rc219 : RC :=
 (.seq
  (.reg false [⟨none, .box 2 5 (.t 0)⟩,
    ⟨none, .mv 4 (.c (.sc (.int .i64 0)))⟩])
  ((.seq
   (.reg false [⟨none, .fa 5 2 (.t 2)⟩,
     ⟨none, .ld 6 false 1 (.t 5)⟩,
     ⟨none, .mv 7 (.t 1)⟩,
     ⟨none, .call (some 8) 93 [(.t 6), (.t 7)]⟩,
     ⟨none, .mv 1 (.t 8)⟩])
   ((.seq
    ((.seq
     (.reg false [⟨none, .mv 9 (.t 1)⟩,
       ⟨none, .bin 10 .lss (.t 9) (.c (.sc (.int .i64 0)))⟩])
     (.cond (.t 10)
      ((.seq
       (.reg false [⟨none, .mv 4 (.c (.sc (.int .i64 (-1))))⟩])
       (.ret)))
      (.skip))))
    ((.seq
     (.reg false [⟨none, .fa 11 3 (.t 2)⟩,
       ⟨none, .ld 12 false 1 (.t 11)⟩,
       ⟨none, .mv 13 (.t 1)⟩,
       ⟨none, .call (some 14) 115 [(.t 12), (.t 13)]⟩,
       ⟨none, .mv 1 (.t 14)⟩])
     ((.seq
      ((.seq
       (.reg false [⟨none, .mv 15 (.t 1)⟩,
         ⟨none, .bin 16 .lss (.t 15) (.c (.sc (.int .i64 0)))⟩])
       (.cond (.t 16)
        ((.seq
         (.reg false [⟨none, .mv 4 (.c (.sc (.int .i64 (-1))))⟩])
         (.ret)))
        (.skip))))
      ((.seq
       (.reg false [⟨none, .fa 17 4 (.t 2)⟩,
         ⟨none, .ld 18 false 1 (.t 17)⟩,
         ⟨none, .mv 19 (.t 1)⟩,
         ⟨none, .call (some 20) 115 [(.t 18), (.t 19)]⟩,
         ⟨none, .mv 1 (.t 20)⟩])
       ((.seq
        ((.seq
         (.reg false [⟨none, .mv 21 (.t 1)⟩,
           ⟨none, .bin 22 .lss (.t 21) (.c (.sc (.int .i64 0)))⟩])
         (.cond (.t 22)
          ((.seq
           (.reg false [⟨none, .mv 4 (.c (.sc (.int .i64 (-1))))⟩])
           (.ret)))
          (.skip))))
        ((.seq
         (.reg false [⟨none, .mv 23 (.t 1)⟩,
           ⟨none, .mv 4 (.t 23)⟩])
         (.ret))))))))))))))))
theorem res219 : resF Try.prog 219 = some (24, rc219, [.t 4]) := by kernel_rfl
theorem res210 : resF Try.prog 210 = some (27, cSzC 219 5 true, [.t 4]) := by kernel_rfl

def rc191 : RC :=
 (.seq
  (.reg false [⟨none, .box 2 9 (.t 0)⟩,
    ⟨none, .mv 4 (.c (.sc (.int .i64 0)))⟩])
  ((.seq
   (.reg false [⟨none, .fa 5 0 (.t 2)⟩,
     ⟨none, .ld 6 true 3 (.t 5)⟩,
     ⟨none, .mv 7 (.t 1)⟩,
     ⟨none, .call (some 8) 44 [(.t 6), (.t 7)]⟩,
     ⟨none, .mv 1 (.t 8)⟩])
   ((.seq
    ((.seq
     (.reg false [⟨none, .mv 9 (.t 1)⟩,
       ⟨none, .bin 10 .lss (.t 9) (.c (.sc (.int .i64 0)))⟩])
     (.cond (.t 10)
      ((.seq
       (.reg false [⟨none, .mv 4 (.c (.sc (.int .i64 (-1))))⟩])
       (.ret)))
      (.skip))))
    ((.seq
     (.reg false [⟨none, .fa 11 3 (.t 2)⟩,
       ⟨none, .ld 12 true 3 (.t 11)⟩,
       ⟨none, .mv 13 (.t 1)⟩,
       ⟨none, .call (some 14) 44 [(.t 12), (.t 13)]⟩,
       ⟨none, .mv 1 (.t 14)⟩])
     ((.seq
      ((.seq
       (.reg false [⟨none, .mv 15 (.t 1)⟩,
         ⟨none, .bin 16 .lss (.t 15) (.c (.sc (.int .i64 0)))⟩])
       (.cond (.t 16)
        ((.seq
         (.reg false [⟨none, .mv 4 (.c (.sc (.int .i64 (-1))))⟩])
         (.ret)))
        (.skip))))
      ((.seq
       (.reg false [⟨none, .fa 17 8 (.t 2)⟩,
         ⟨none, .ld 18 false 1 (.t 17)⟩,
         ⟨none, .mv 19 (.t 1)⟩,
         ⟨none, .call (some 20) 210 [(.t 18), (.t 19)]⟩,
         ⟨none, .mv 1 (.t 20)⟩])
       ((.seq
        ((.seq
         (.reg false [⟨none, .mv 21 (.t 1)⟩,
           ⟨none, .bin 22 .lss (.t 21) (.c (.sc (.int .i64 0)))⟩])
         (.cond (.t 22)
          ((.seq
           (.reg false [⟨none, .mv 4 (.c (.sc (.int .i64 (-1))))⟩])
           (.ret)))
          (.skip))))
        ((.seq
         (.reg false [⟨none, .mv 23 (.t 1)⟩,
           ⟨none, .mv 4 (.t 23)⟩])
         (.ret))))))))))))))))
theorem res191 : resF Try.prog 191 = some (24, rc191, [.t 4]) := by kernel_rfl
theorem res151 : resF Try.prog 151 = some (27, cSzC 191 9 true, [.t 4]) := by kernel_rfl

def rc75 : RC :=
 (.seq
  (.reg false [⟨none, .box 2 3 (.t 0)⟩,
    ⟨none, .mv 4 (.c (.sc (.int .i64 0)))⟩])
  ((.seq
   (.reg false [⟨none, .fa 5 2 (.t 2)⟩,
     ⟨none, .ld 6 false 1 (.t 5)⟩,
     ⟨none, .mv 7 (.t 1)⟩,
     ⟨none, .call (some 8) 151 [(.t 6), (.t 7)]⟩,
     ⟨none, .mv 1 (.t 8)⟩])
   ((.seq
    ((.seq
     (.reg false [⟨none, .mv 9 (.t 1)⟩,
       ⟨none, .bin 10 .lss (.t 9) (.c (.sc (.int .i64 0)))⟩])
     (.cond (.t 10)
      ((.seq
       (.reg false [⟨none, .mv 4 (.c (.sc (.int .i64 (-1))))⟩])
       (.ret)))
      (.skip))))
    ((.seq
     (.reg false [⟨none, .mv 11 (.t 1)⟩,
       ⟨none, .mv 4 (.t 11)⟩])
     (.ret))))))))
theorem res75 : resF Try.prog 75 = some (12, rc75, [.t 4]) := by kernel_rfl
theorem res23 : resF Try.prog 23 = some (11, k_toSig, [.c 2 2 true]) := by kernel_rfl
theorem af23 : K_toSig Try.prog 23 := a_toSig mixed res23
theorem res119 : resF Try.prog 119 = some (23, cToC 46 3 40 true (.ag [(.sc (.int .i64 0)), (.sc (.int .i64 0)), (.ls (some true) 3 [])]), [.t 2]) := by kernel_rfl
theorem res46 : resF Try.prog 46 = some (15, k_toExpr 119, [.c 2 3 true]) := by kernel_rfl
theorem res47 : resF Try.prog 47 = some (22, cToS 8 (.sc (.int .i64 0)), [.t 2]) := by kernel_rfl

def rc220 : RC :=
 (.seq
  (.reg false [⟨none, .box 1 5 (.t 0)⟩,
    ⟨none, .zer 2 5 (.ag [(.sc (.int .i64 0)), (.sc (.bool false)), (.ls (some true) 1 []), (.ls (some true) 3 []), (.ls (some true) 3 [])])⟩])
  ((.seq
   (.reg false [⟨none, .zer 3 5 (.ag [(.sc (.int .i64 0)), (.sc (.bool false)), (.ls (some true) 1 []), (.ls (some true) 3 []), (.ls (some true) 3 [])])⟩])
   ((.seq
    (.reg false [⟨none, .fa 4 0 (.t 1)⟩,
      ⟨none, .ld 5 false 1 (.t 4)⟩,
      ⟨none, .fa 6 0 (.t 3)⟩,
      ⟨none, .st 1 (.t 6) (.t 5)⟩])
    ((.seq
     (.reg false [⟨none, .fa 7 1 (.t 1)⟩,
       ⟨none, .ld 8 false 1 (.t 7)⟩,
       ⟨none, .fa 9 1 (.t 3)⟩,
       ⟨none, .st 1 (.t 9) (.t 8)⟩])
     ((.seq
      (.reg false [⟨none, .fa 10 2 (.t 1)⟩,
        ⟨none, .ld 11 false 1 (.t 10)⟩,
        ⟨none, .call (some 12) 47 [(.t 11)]⟩,
        ⟨none, .fa 13 2 (.t 3)⟩,
        ⟨none, .st 1 (.t 13) (.t 12)⟩])
      ((.seq
       (.reg false [⟨none, .fa 14 3 (.t 1)⟩,
         ⟨none, .ld 15 false 1 (.t 14)⟩,
         ⟨none, .call (some 16) 119 [(.t 15)]⟩,
         ⟨none, .fa 17 3 (.t 3)⟩,
         ⟨none, .st 1 (.t 17) (.t 16)⟩])
       ((.seq
        (.reg false [⟨none, .fa 18 4 (.t 1)⟩,
          ⟨none, .ld 19 false 1 (.t 18)⟩,
          ⟨none, .call (some 20) 119 [(.t 19)]⟩,
          ⟨none, .fa 21 4 (.t 3)⟩,
          ⟨none, .st 1 (.t 21) (.t 20)⟩])
        ((.seq
         (.reg false [⟨none, .ld 22 true 5 (.t 3)⟩,
           ⟨none, .st 5 (.t 2) (.t 22)⟩])
         (.ret))))))))))))))))
theorem res220 : resF Try.prog 220 = some (23, rc220, [.c 2 5 true]) := by kernel_rfl
theorem res213 : resF Try.prog 213 = some (23, cToC 220 5 88 true (.ag [(.sc (.int .i64 0)), (.sc (.bool false)), (.ls (some true) 1 []), (.ls (some true) 3 []), (.ls (some true) 3 [])]), [.t 2]) := by kernel_rfl

def rc193 : RC :=
 (.seq
  (.reg false [⟨none, .box 1 9 (.t 0)⟩,
    ⟨none, .zer 2 9 (.ag [(.sc (.int .i64 0)), (.sc (.int .i64 0)), (.ls (some true) 3 []), (.sc (.int .i64 0)), (.sc (.int .i64 0)), (.ls (some true) 3 []), (.sc (.int .i64 0)), (.sc (.int .i64 0)), (.ls (some true) 5 [])])⟩])
  ((.seq
   (.reg false [⟨none, .zer 3 9 (.ag [(.sc (.int .i64 0)), (.sc (.int .i64 0)), (.ls (some true) 3 []), (.sc (.int .i64 0)), (.sc (.int .i64 0)), (.ls (some true) 3 []), (.sc (.int .i64 0)), (.sc (.int .i64 0)), (.ls (some true) 5 [])])⟩])
   ((.seq
    (.reg false [⟨none, .fa 4 0 (.t 1)⟩,
      ⟨none, .ld 5 true 3 (.t 4)⟩,
      ⟨none, .call (some 6) 46 [(.t 5)]⟩,
      ⟨none, .fa 7 0 (.t 3)⟩,
      ⟨none, .st 3 (.t 7) (.t 6)⟩])
    ((.seq
     (.reg false [⟨none, .fa 8 3 (.t 1)⟩,
       ⟨none, .ld 9 true 3 (.t 8)⟩,
       ⟨none, .call (some 10) 46 [(.t 9)]⟩,
       ⟨none, .fa 11 3 (.t 3)⟩,
       ⟨none, .st 3 (.t 11) (.t 10)⟩])
     ((.seq
      (.reg false [⟨none, .fa 12 6 (.t 1)⟩,
        ⟨none, .ld 13 false 1 (.t 12)⟩,
        ⟨none, .fa 14 6 (.t 3)⟩,
        ⟨none, .st 1 (.t 14) (.t 13)⟩])
      ((.seq
       (.reg false [⟨none, .fa 15 7 (.t 1)⟩,
         ⟨none, .ld 16 false 1 (.t 15)⟩,
         ⟨none, .fa 17 7 (.t 3)⟩,
         ⟨none, .st 1 (.t 17) (.t 16)⟩])
       ((.seq
        (.reg false [⟨none, .fa 18 8 (.t 1)⟩,
          ⟨none, .ld 19 false 1 (.t 18)⟩,
          ⟨none, .call (some 20) 213 [(.t 19)]⟩,
          ⟨none, .fa 21 8 (.t 3)⟩,
          ⟨none, .st 1 (.t 21) (.t 20)⟩])
        ((.seq
         (.reg false [⟨none, .ld 22 true 9 (.t 3)⟩,
           ⟨none, .st 9 (.t 2) (.t 22)⟩])
         (.ret))))))))))))))))
theorem res193 : resF Try.prog 193 = some (23, rc193, [.c 2 9 true]) := by kernel_rfl
theorem res153 : resF Try.prog 153 = some (23, cToC 193 9 120 true (.ag [(.sc (.int .i64 0)), (.sc (.int .i64 0)), (.ls (some true) 3 []), (.sc (.int .i64 0)), (.sc (.int .i64 0)), (.ls (some true) 3 []), (.sc (.int .i64 0)), (.sc (.int .i64 0)), (.ls (some true) 5 [])]), [.t 2]) := by kernel_rfl

def rc77 : RC :=
 (.seq
  (.reg false [⟨none, .box 1 3 (.t 0)⟩,
    ⟨none, .zer 2 3 (.ag [(.sc (.int .i64 0)), (.sc (.int .i64 0)), (.ls (some true) 9 [])])⟩])
  ((.seq
   (.reg false [⟨none, .zer 3 3 (.ag [(.sc (.int .i64 0)), (.sc (.int .i64 0)), (.ls (some true) 9 [])])⟩])
   ((.seq
    (.reg false [⟨none, .fa 4 0 (.t 1)⟩,
      ⟨none, .ld 5 true 2 (.t 4)⟩,
      ⟨none, .call (some 6) 23 [(.t 5)]⟩,
      ⟨none, .fa 7 0 (.t 3)⟩,
      ⟨none, .st 2 (.t 7) (.t 6)⟩])
    ((.seq
     (.reg false [⟨none, .fa 8 2 (.t 1)⟩,
       ⟨none, .ld 9 false 1 (.t 8)⟩,
       ⟨none, .call (some 10) 153 [(.t 9)]⟩,
       ⟨none, .fa 11 2 (.t 3)⟩,
       ⟨none, .st 1 (.t 11) (.t 10)⟩])
     ((.seq
      (.reg false [⟨none, .ld 12 true 3 (.t 3)⟩,
        ⟨none, .st 3 (.t 2) (.t 12)⟩])
      (.ret))))))))))
theorem res77 : resF Try.prog 77 = some (13, rc77, [.c 2 3 true]) := by kernel_rfl
theorem res139 : resF Try.prog 139 = some (62, k_l01Same 139, [.t 4]) := by kernel_rfl
theorem af139 : K_l01Same Try.prog 139 := a_l01Same mixed res139
theorem res211 : resF Try.prog 211 = some (26, cEqS, [.t 4]) := by kernel_rfl
theorem res212 : resF Try.prog 212 = some (25, k_l04SameList 139, [.t 4]) := by kernel_rfl
theorem af212 : K_l04SameList Try.prog 212 := a_l04SameList mixed res212 af139
theorem res192 : resF Try.prog 192 = some (58, k_l04SameStep 211 212, [.t 4]) := by kernel_rfl
theorem af192 : K_l04SameStep Try.prog 192 := a_l04SameStep mixed res192 res211 af212
theorem res152 : resF Try.prog 152 = some (25, k_l04SameSteps 192, [.t 4]) := by kernel_rfl
theorem af152 : K_l04SameSteps Try.prog 152 := a_l04SameSteps mixed res152 af192
theorem res76 : resF Try.prog 76 = some (89, k_spSameProof 139 152, [.t 4]) := by kernel_rfl
theorem af76 : K_spSameProof Try.prog 76 := a_spSameProof mixed res76 af139 af152
theorem res154 : resF Try.prog 154 = some (32, cEfA 9 (.ag [(.sc (.int .i64 0)), (.sc (.int .i64 0)), (.ls (some true) 3 []), (.sc (.int .i64 0)), (.sc (.int .i64 0)), (.ls (some true) 3 []), (.sc (.int .i64 0)), (.sc (.int .i64 0)), (.ls (some true) 5 [])]), [.t 6]) := by kernel_rfl
theorem res214 : resF Try.prog 214 = some (32, cEfA 3 (.ag [(.sc (.int .i64 0)), (.sc (.int .i64 0)), (.ls (some true) 3 [])]), [.t 6]) := by kernel_rfl
theorem res194 : resF Try.prog 194 = some (24, k_sameExpr 194 214, [.t 4]) := by kernel_rfl
theorem af194 : K_sameExpr Try.prog 194 := a_sameExpr mixed res194 res214
theorem res195 : resF Try.prog 195 = some (32, cEfA 5 (.ag [(.sc (.int .i64 0)), (.sc (.bool false)), (.ls (some true) 1 []), (.ls (some true) 3 []), (.ls (some true) 3 [])]), [.t 6]) := by kernel_rfl
theorem res215 : resF Try.prog 215 = some (26, cSeI, [.t 4]) := by kernel_rfl
theorem res216 : resF Try.prog 216 = some (8, k_sameExprs 214 194, [.t 4]) := by kernel_rfl
theorem af216 : K_sameExprs Try.prog 216 := a_sameExprs mixed res216 res214 af194
theorem res196 : resF Try.prog 196 = some (38, k_sameStep 215 216, [.t 4]) := by kernel_rfl
theorem af196 : K_sameStep Try.prog 196 := a_sameStep mixed res196 res215 af216
theorem res155 : resF Try.prog 155 = some (38, k_sameClaim 194 195 196, [.t 4]) := by kernel_rfl
theorem af155 : K_sameClaim Try.prog 155 := a_sameClaim mixed res155 af194 res195 af196
theorem res78 : resF Try.prog 78 = some (17, k_imSameProof 154 155, [.t 4]) := by kernel_rfl
theorem af78 : K_imSameProof Try.prog 78 := a_imSameProof mixed res78 res154 af155
theorem res90 : resF Try.prog 90 = some (15, k_eqSig, [.t 4]) := by kernel_rfl
theorem af90 : K_eqSig Try.prog 90 := a_eqSig mixed res90
theorem res123 : resF Try.prog 123 = some (27, cEqC 49 3 true, [.t 4]) := by kernel_rfl
theorem res49 : resF Try.prog 49 = some (21, k_eqExpr 123, [.t 4]) := by kernel_rfl
theorem res50 : resF Try.prog 50 = some (26, cEqS, [.t 4]) := by kernel_rfl

def rc221 : RC :=
 (.seq
  (.reg false [⟨none, .box 2 5 (.t 0)⟩,
    ⟨none, .box 3 5 (.t 1)⟩,
    ⟨none, .mv 4 (.c (.sc (.bool false)))⟩])
  ((.seq
   ((.seq
    (.reg false [⟨none, .fa 5 0 (.t 2)⟩,
      ⟨none, .ld 6 false 1 (.t 5)⟩,
      ⟨none, .fa 7 0 (.t 3)⟩,
      ⟨none, .ld 8 false 1 (.t 7)⟩,
      ⟨none, .bin 9 .neq (.t 6) (.t 8)⟩])
    (.cond (.t 9)
     ((.seq
      (.reg false [⟨none, .mv 4 (.c (.sc (.bool false)))⟩])
      (.ret)))
     (.skip))))
   ((.seq
    ((.seq
     (.reg false [⟨none, .fa 10 1 (.t 2)⟩,
       ⟨none, .ld 11 false 1 (.t 10)⟩,
       ⟨none, .fa 12 1 (.t 3)⟩,
       ⟨none, .ld 13 false 1 (.t 12)⟩,
       ⟨none, .beq 14 true (.t 11) (.t 13)⟩])
     (.cond (.t 14)
      ((.seq
       (.reg false [⟨none, .mv 4 (.c (.sc (.bool false)))⟩])
       (.ret)))
      (.skip))))
    ((.seq
     ((.seq
      (.reg false [⟨none, .fa 15 2 (.t 2)⟩,
        ⟨none, .ld 16 false 1 (.t 15)⟩,
        ⟨none, .fa 17 2 (.t 3)⟩,
        ⟨none, .ld 18 false 1 (.t 17)⟩,
        ⟨none, .call (some 19) 50 [(.t 16), (.t 18)]⟩,
        ⟨none, .un 20 .not (.t 19)⟩])
      (.cond (.t 20)
       ((.seq
        (.reg false [⟨none, .mv 4 (.c (.sc (.bool false)))⟩])
        (.ret)))
       (.skip))))
     ((.seq
      ((.seq
       (.reg false [⟨none, .fa 21 3 (.t 2)⟩,
         ⟨none, .ld 22 false 1 (.t 21)⟩,
         ⟨none, .fa 23 3 (.t 3)⟩,
         ⟨none, .ld 24 false 1 (.t 23)⟩,
         ⟨none, .call (some 25) 123 [(.t 22), (.t 24)]⟩,
         ⟨none, .un 26 .not (.t 25)⟩])
       (.cond (.t 26)
        ((.seq
         (.reg false [⟨none, .mv 4 (.c (.sc (.bool false)))⟩])
         (.ret)))
        (.skip))))
      ((.seq
       ((.seq
        (.reg false [⟨none, .fa 27 4 (.t 2)⟩,
          ⟨none, .ld 28 false 1 (.t 27)⟩,
          ⟨none, .fa 29 4 (.t 3)⟩,
          ⟨none, .ld 30 false 1 (.t 29)⟩,
          ⟨none, .call (some 31) 123 [(.t 28), (.t 30)]⟩,
          ⟨none, .un 32 .not (.t 31)⟩])
        (.cond (.t 32)
         ((.seq
          (.reg false [⟨none, .mv 4 (.c (.sc (.bool false)))⟩])
          (.ret)))
         (.skip))))
       ((.seq
        (.reg false [⟨none, .mv 4 (.c (.sc (.bool true)))⟩])
        (.ret))))))))))))))
theorem res221 : resF Try.prog 221 = some (33, rc221, [.t 4]) := by kernel_rfl
theorem res217 : resF Try.prog 217 = some (27, cEqC 221 5 true, [.t 4]) := by kernel_rfl

def rc197 : RC :=
 (.seq
  (.reg false [⟨none, .box 2 9 (.t 0)⟩,
    ⟨none, .box 3 9 (.t 1)⟩,
    ⟨none, .mv 4 (.c (.sc (.bool false)))⟩])
  ((.seq
   ((.seq
    (.reg false [⟨none, .fa 5 0 (.t 2)⟩,
      ⟨none, .ld 6 true 3 (.t 5)⟩,
      ⟨none, .fa 7 0 (.t 3)⟩,
      ⟨none, .ld 8 true 3 (.t 7)⟩,
      ⟨none, .call (some 9) 49 [(.t 6), (.t 8)]⟩,
      ⟨none, .un 10 .not (.t 9)⟩])
    (.cond (.t 10)
     ((.seq
      (.reg false [⟨none, .mv 4 (.c (.sc (.bool false)))⟩])
      (.ret)))
     (.skip))))
   ((.seq
    ((.seq
     (.reg false [⟨none, .fa 11 3 (.t 2)⟩,
       ⟨none, .ld 12 true 3 (.t 11)⟩,
       ⟨none, .fa 13 3 (.t 3)⟩,
       ⟨none, .ld 14 true 3 (.t 13)⟩,
       ⟨none, .call (some 15) 49 [(.t 12), (.t 14)]⟩,
       ⟨none, .un 16 .not (.t 15)⟩])
     (.cond (.t 16)
      ((.seq
       (.reg false [⟨none, .mv 4 (.c (.sc (.bool false)))⟩])
       (.ret)))
      (.skip))))
    ((.seq
     ((.seq
      (.reg false [⟨none, .fa 17 6 (.t 2)⟩,
        ⟨none, .ld 18 false 1 (.t 17)⟩,
        ⟨none, .fa 19 6 (.t 3)⟩,
        ⟨none, .ld 20 false 1 (.t 19)⟩,
        ⟨none, .bin 21 .neq (.t 18) (.t 20)⟩])
      (.cond (.t 21)
       ((.seq
        (.reg false [⟨none, .mv 4 (.c (.sc (.bool false)))⟩])
        (.ret)))
       (.skip))))
     ((.seq
      ((.seq
       (.reg false [⟨none, .fa 22 7 (.t 2)⟩,
         ⟨none, .ld 23 false 1 (.t 22)⟩,
         ⟨none, .fa 24 7 (.t 3)⟩,
         ⟨none, .ld 25 false 1 (.t 24)⟩,
         ⟨none, .bin 26 .neq (.t 23) (.t 25)⟩])
       (.cond (.t 26)
        ((.seq
         (.reg false [⟨none, .mv 4 (.c (.sc (.bool false)))⟩])
         (.ret)))
        (.skip))))
      ((.seq
       ((.seq
        (.reg false [⟨none, .fa 27 8 (.t 2)⟩,
          ⟨none, .ld 28 false 1 (.t 27)⟩,
          ⟨none, .fa 29 8 (.t 3)⟩,
          ⟨none, .ld 30 false 1 (.t 29)⟩,
          ⟨none, .call (some 31) 217 [(.t 28), (.t 30)]⟩,
          ⟨none, .un 32 .not (.t 31)⟩])
        (.cond (.t 32)
         ((.seq
          (.reg false [⟨none, .mv 4 (.c (.sc (.bool false)))⟩])
          (.ret)))
         (.skip))))
       ((.seq
        (.reg false [⟨none, .mv 4 (.c (.sc (.bool true)))⟩])
        (.ret))))))))))))))
theorem res197 : resF Try.prog 197 = some (33, rc197, [.t 4]) := by kernel_rfl
theorem res156 : resF Try.prog 156 = some (27, cEqC 197 9 true, [.t 4]) := by kernel_rfl

def rc79 : RC :=
 (.seq
  (.reg false [⟨none, .box 2 3 (.t 0)⟩,
    ⟨none, .box 3 3 (.t 1)⟩,
    ⟨none, .mv 4 (.c (.sc (.bool false)))⟩])
  ((.seq
   ((.seq
    (.reg false [⟨none, .fa 5 0 (.t 2)⟩,
      ⟨none, .ld 6 true 2 (.t 5)⟩,
      ⟨none, .fa 7 0 (.t 3)⟩,
      ⟨none, .ld 8 true 2 (.t 7)⟩,
      ⟨none, .call (some 9) 90 [(.t 6), (.t 8)]⟩,
      ⟨none, .un 10 .not (.t 9)⟩])
    (.cond (.t 10)
     ((.seq
      (.reg false [⟨none, .mv 4 (.c (.sc (.bool false)))⟩])
      (.ret)))
     (.skip))))
   ((.seq
    ((.seq
     (.reg false [⟨none, .fa 11 2 (.t 2)⟩,
       ⟨none, .ld 12 false 1 (.t 11)⟩,
       ⟨none, .fa 13 2 (.t 3)⟩,
       ⟨none, .ld 14 false 1 (.t 13)⟩,
       ⟨none, .call (some 15) 156 [(.t 12), (.t 14)]⟩,
       ⟨none, .un 16 .not (.t 15)⟩])
     (.cond (.t 16)
      ((.seq
       (.reg false [⟨none, .mv 4 (.c (.sc (.bool false)))⟩])
       (.ret)))
      (.skip))))
    ((.seq
     (.reg false [⟨none, .mv 4 (.c (.sc (.bool true)))⟩])
     (.ret))))))))
theorem res79 : resF Try.prog 79 = some (17, rc79, [.t 4]) := by kernel_rfl

def rc14 : RC :=
 (.seq
  (.reg false [⟨none, .box 2 3 (.t 0)⟩,
    ⟨none, .box 3 3 (.t 1)⟩,
    ⟨none, .mv 4 (.c (.sc (.bool false)))⟩])
  ((.seq
   (.reg false [⟨none, .mv 5 (.c (.sc (.int .i64 1048576)))⟩])
   ((.seq
    (.reg false [⟨none, .ld 10 true 3 (.t 2)⟩,
      ⟨none, .mv 11 (.t 5)⟩,
      ⟨none, .call (some 12) 75 [(.t 10), (.t 11)]⟩,
      ⟨none, .mv 5 (.t 12)⟩])
    ((.seq
     ((.seq
      (.reg false [⟨none, .mv 13 (.t 5)⟩,
        ⟨none, .bin 14 .lss (.t 13) (.c (.sc (.int .i64 0)))⟩])
      (.cond (.t 14)
       ((.seq
        (.reg false [⟨none, .mv 4 (.c (.sc (.bool true)))⟩])
        (.ret)))
       (.skip))))
     ((.seq
      (.reg false [⟨none, .ld 15 true 3 (.t 3)⟩,
        ⟨none, .mv 16 (.t 5)⟩,
        ⟨none, .call (some 17) 75 [(.t 15), (.t 16)]⟩,
        ⟨none, .mv 5 (.t 17)⟩])
      ((.seq
       ((.seq
        (.reg false [⟨none, .mv 18 (.t 5)⟩,
          ⟨none, .bin 19 .lss (.t 18) (.c (.sc (.int .i64 0)))⟩])
        (.cond (.t 19)
         ((.seq
          (.reg false [⟨none, .mv 4 (.c (.sc (.bool true)))⟩])
          (.ret)))
         (.skip))))
       ((.seq
        (.reg true [⟨none, .ld 20 true 3 (.t 2)⟩,
          ⟨none, .call (some 21) 77 [(.t 20)]⟩,
          ⟨none, .ld 22 true 3 (.t 3)⟩,
          ⟨none, .call (some 23) 77 [(.t 22)]⟩,
          ⟨none, .call (some 24) 76 [(.t 21), (.t 23)]⟩,
          ⟨none, .mv 6 (.t 24)⟩])
        ((.seq
         (.reg false [⟨none, .ld 25 true 3 (.t 2)⟩,
           ⟨none, .call (some 26) 77 [(.t 25)]⟩,
           ⟨none, .zer 7 3 (.ag [(.sc (.int .i64 0)), (.sc (.int .i64 0)), (.ls (some true) 9 [])])⟩,
           ⟨none, .st 3 (.t 7) (.t 26)⟩])
         ((.seq
          (.reg false [⟨none, .ld 27 true 3 (.t 3)⟩,
            ⟨none, .call (some 28) 77 [(.t 27)]⟩,
            ⟨none, .zer 8 3 (.ag [(.sc (.int .i64 0)), (.sc (.int .i64 0)), (.ls (some true) 9 [])])⟩,
            ⟨none, .st 3 (.t 8) (.t 28)⟩])
          ((.seq
           (.reg false [⟨none, .ld 29 true 3 (.t 7)⟩,
             ⟨none, .ld 30 true 3 (.t 8)⟩,
             ⟨none, .call (some 31) 78 [(.t 29), (.t 30)]⟩,
             ⟨none, .mv 9 (.t 31)⟩])
           ((.seq
            ((.seq
             (.reg false [⟨none, .mv 32 (.t 9)⟩,
               ⟨none, .mv 33 (.t 6)⟩,
               ⟨none, .beq 34 true (.t 32) (.t 33)⟩])
             (.cond (.t 34)
              ((.seq
               (.reg false [⟨none, .mv 4 (.c (.sc (.bool false)))⟩])
               (.ret)))
              (.skip))))
            ((.seq
             ((.seq
              (.reg true [⟨none, .ld 35 true 3 (.t 7)⟩,
                ⟨none, .ld 36 true 3 (.t 2)⟩,
                ⟨none, .call (some 37) 77 [(.t 36)]⟩,
                ⟨none, .call (some 38) 79 [(.t 35), (.t 37)]⟩,
                ⟨none, .un 39 .not (.t 38)⟩])
              (.cond (.t 39)
               ((.seq
                (.reg false [⟨none, .mv 4 (.c (.sc (.bool false)))⟩])
                (.ret)))
               (.skip))))
             ((.seq
              ((.seq
               (.reg true [⟨none, .ld 40 true 3 (.t 8)⟩,
                 ⟨none, .ld 41 true 3 (.t 3)⟩,
                 ⟨none, .call (some 42) 77 [(.t 41)]⟩,
                 ⟨none, .call (some 43) 79 [(.t 40), (.t 42)]⟩,
                 ⟨none, .un 44 .not (.t 43)⟩])
               (.cond (.t 44)
                ((.seq
                 (.reg false [⟨none, .mv 4 (.c (.sc (.bool false)))⟩])
                 (.ret)))
                (.skip))))
              ((.seq
               (.reg false [⟨none, .mv 4 (.c (.sc (.bool true)))⟩])
               (.ret))))))))))))))))))))))))))))
theorem res14 : resF Try.prog 14 = some (45, rc14, [.t 4]) := by kernel_rfl
noncomputable def famExpr : Fam Try.prog eE 44 46 49 := famE mixed res44 res115 res46 res119 res49 res123
theorem famExpr_t (x) : famExpr.t x = tE x := rfl
noncomputable def famInt64S : Fam Try.prog (eS 1 eI) 93 47 50 := famP mixed encI noI ⟨rfl, rfl, rfl⟩ (by omega) res93 res47 (eqL fun x y => x == y) (fun _ => eqL_refl fun _ _ => by simp) fun a b => af_eqS mixed res50 a b
theorem famInt64S_t (x) : famInt64S.t x = (some false, x.2) := rfl
noncomputable def famExprS : Fam Try.prog (eS 3 eE) 115 119 123 := famC mixed famExpr encE ⟨rfl, rfl, rfl⟩ (by omega) res115 res119 res123
theorem famExprS_t (x) : famExprS.t x = (some false, x.2.map famExpr.t) := rfl
noncomputable def szProofStep (m : Stp) : Int → Int := fun l => nx (famInt64S.s m.2.2.1 l) (fun l => nx (famExprS.s m.2.2.2.1 l) (fun l => nx (famExprS.s m.2.2.2.2 l) (fun l => l)))
def fitProofStep (m : Stp) : Prop := famInt64S.fit m.2.2.1 ∧ famExprS.fit m.2.2.2.1 ∧ famExprS.fit m.2.2.2.2
noncomputable def tProofStep (m : Stp) : Stp := (m.1, m.2.1, famInt64S.t m.2.2.1, famExprS.t m.2.2.2.1, famExprS.t m.2.2.2.2)
noncomputable def qProofStep (a b : Stp) : Bool := ((a.1 == b.1) && ((a.2.1 == b.2.1) && (famInt64S.q a.2.2.1 b.2.2.1 && (famExprS.q a.2.2.2.1 b.2.2.2.1 && famExprS.q a.2.2.2.2 b.2.2.2.2))))
theorem szProofStep_in (m : Stp) (l : Int) (h1 : 0 ≤ l) (h2 : l ≤ 1048576) : -1 ≤ szProofStep m l ∧ szProofStep m l ≤ l := by
  refine in_tr (Int.le_refl l) (nx_in (famInt64S.s_in m.2.2.1 l h1 (by omega)) h1 (by omega) fun y0 a0 b0 => ?_)
  refine in_tr b0 (nx_in (famExprS.s_in m.2.2.2.1 y0 a0 (by omega)) a0 (by omega) fun y1 a1 b1 => ?_)
  refine in_tr b1 (nx_in (famExprS.s_in m.2.2.2.2 y1 a1 (by omega)) a1 (by omega) fun y2 a2 b2 => ?_)
  exact ⟨by omega, b2⟩
theorem szProofStep_fit (m : Stp) (l : Int) (h2 : l ≤ 1048576) (h1 : 0 ≤ l) (h : 0 ≤ szProofStep m l) : fitProofStep m := by
  obtain ⟨p0, h⟩ := nx_fit h
  have e0 := famInt64S.s_fit m.2.2.1 l (by omega) h1 p0
  have b0 := famInt64S.s_in m.2.2.1 l h1 (by omega)
  obtain ⟨p1, h⟩ := nx_fit h
  have e1 := famExprS.s_fit m.2.2.2.1 _ (by omega) p0 p1
  have b1 := famExprS.s_in m.2.2.2.1 (famInt64S.s m.2.2.1 l) p0 (by omega)
  obtain ⟨p2, h⟩ := nx_fit h
  have e2 := famExprS.s_fit m.2.2.2.2 _ (by omega) p1 p2
  have b2 := famExprS.s_in m.2.2.2.2 (famExprS.s m.2.2.2.1 (famInt64S.s m.2.2.1 l)) p1 (by omega)
  exact ⟨e0, e1, e2⟩
theorem af219 (m : Stp) (l : Int) (h1 : 0 ≤ l) (h2 : l ≤ 1048576) : AF Try.prog 219 [eSt m, eI l] (.own (eI (szProofStep m l))) := by
  refine af_of_res res219 mixed rfl fun _ => ?_
  simp +contextual -implicitDefEqProofs only [rc219, eSt, eS, go_sem, eI, eB, ↓reduceIte, Nat.reduceEqDiff, Nat.reduceAdd, Nat.reduceLeDiff, Nat.reduceMul, Nat.reduceBEq, Nat.reduceBneDiff, Nat.reduceLT, Nat.reduceSub, decide_true, decide_false, and_self, true_and, and_true, false_and, and_false, not_true_eq_false, not_false_eq_true, false_implies, true_implies, implies_true, ge_iff_le, Bool.false_eq_true, List.cons_append, List.nil_append]
  refine callQ_self ?_ (famInt64S.afS m.2.2.1 l (by omega) (by omega)) ?_
  · first | exact rfl | (simp only [eE_eta]; exact rfl)
  simp +contextual -implicitDefEqProofs only [eSt, eS, go_sem, eI, eB, ↓reduceIte, Nat.reduceEqDiff, Nat.reduceAdd, Nat.reduceLeDiff, Nat.reduceMul, Nat.reduceBEq, Nat.reduceBneDiff, Nat.reduceLT, Nat.reduceSub, decide_true, decide_false, and_self, true_and, and_true, false_and, and_false, not_true_eq_false, not_false_eq_true, false_implies, true_implies, implies_true, ge_iff_le, Bool.false_eq_true, List.cons_append, List.nil_append]
  have b0 := famInt64S.s_in m.2.2.1 l (by omega) (by omega)
  refine ⟨fun h => D.Le.sc_eq (by simp only [szProofStep]; rw [nx_neg h]), fun g0 => ?_⟩
  refine callQ_self ?_ (famExprS.afS m.2.2.2.1 (famInt64S.s m.2.2.1 l) (by omega) (by omega)) ?_
  · first | exact rfl | (simp only [eE_eta]; exact rfl)
  simp +contextual -implicitDefEqProofs only [eSt, eS, go_sem, eI, eB, ↓reduceIte, Nat.reduceEqDiff, Nat.reduceAdd, Nat.reduceLeDiff, Nat.reduceMul, Nat.reduceBEq, Nat.reduceBneDiff, Nat.reduceLT, Nat.reduceSub, decide_true, decide_false, and_self, true_and, and_true, false_and, and_false, not_true_eq_false, not_false_eq_true, false_implies, true_implies, implies_true, ge_iff_le, Bool.false_eq_true, List.cons_append, List.nil_append]
  have b1 := famExprS.s_in m.2.2.2.1 (famInt64S.s m.2.2.1 l) (by omega) (by omega)
  refine ⟨fun h => D.Le.sc_eq (by simp only [szProofStep]; rw [nx_pos g0, nx_neg h]), fun g1 => ?_⟩
  refine callQ_self ?_ (famExprS.afS m.2.2.2.2 (famExprS.s m.2.2.2.1 (famInt64S.s m.2.2.1 l)) (by omega) (by omega)) ?_
  · first | exact rfl | (simp only [eE_eta]; exact rfl)
  simp +contextual -implicitDefEqProofs only [eSt, eS, go_sem, eI, eB, ↓reduceIte, Nat.reduceEqDiff, Nat.reduceAdd, Nat.reduceLeDiff, Nat.reduceMul, Nat.reduceBEq, Nat.reduceBneDiff, Nat.reduceLT, Nat.reduceSub, decide_true, decide_false, and_self, true_and, and_true, false_and, and_false, not_true_eq_false, not_false_eq_true, false_implies, true_implies, implies_true, ge_iff_le, Bool.false_eq_true, List.cons_append, List.nil_append]
  have b2 := famExprS.s_in m.2.2.2.2 (famExprS.s m.2.2.2.1 (famInt64S.s m.2.2.1 l)) (by omega) (by omega)
  refine ⟨fun h => D.Le.sc_eq (by simp only [szProofStep]; rw [nx_pos g0, nx_pos g1, nx_neg h]), fun g2 => ?_⟩
  exact D.Le.sc_eq (by simp only [szProofStep]; rw [nx_pos g0, nx_pos g1, nx_pos g2])
theorem af220 (m : Stp) (h : fitProofStep m) : AF Try.prog 220 [eSt m] (.own (eSt (tProofStep m))) := by
  refine af_of_res res220 mixed rfl fun _ => ?_
  simp +contextual -implicitDefEqProofs only [rc220, eSt, eS, tProofStep, famInt64S_t, famExprS_t, famExprS_t, go_sem, eI, eB, ↓reduceIte, Nat.reduceEqDiff, Nat.reduceAdd, Nat.reduceLeDiff, Nat.reduceMul, Nat.reduceBEq, Nat.reduceBneDiff, Nat.reduceLT, Nat.reduceSub, decide_true, decide_false, and_self, true_and, and_true, false_and, and_false, not_true_eq_false, not_false_eq_true, false_implies, true_implies, implies_true, ge_iff_le, Bool.false_eq_true, List.cons_append, List.nil_append]
  refine callQ_self ?_ (famInt64S.afT m.2.2.1 h.1) ?_
  · first | exact rfl | (simp only [eE_eta]; exact rfl)
  simp +contextual -implicitDefEqProofs only [eSt, eS, tProofStep, famInt64S_t, famExprS_t, famExprS_t, go_sem, eI, eB, ↓reduceIte, Nat.reduceEqDiff, Nat.reduceAdd, Nat.reduceLeDiff, Nat.reduceMul, Nat.reduceBEq, Nat.reduceBneDiff, Nat.reduceLT, Nat.reduceSub, decide_true, decide_false, and_self, true_and, and_true, false_and, and_false, not_true_eq_false, not_false_eq_true, false_implies, true_implies, implies_true, ge_iff_le, Bool.false_eq_true, List.cons_append, List.nil_append]
  refine callQ_self ?_ (famExprS.afT m.2.2.2.1 h.2.1) ?_
  · first | exact rfl | (simp only [eE_eta]; exact rfl)
  simp +contextual -implicitDefEqProofs only [eSt, eS, tProofStep, famInt64S_t, famExprS_t, famExprS_t, go_sem, eI, eB, ↓reduceIte, Nat.reduceEqDiff, Nat.reduceAdd, Nat.reduceLeDiff, Nat.reduceMul, Nat.reduceBEq, Nat.reduceBneDiff, Nat.reduceLT, Nat.reduceSub, decide_true, decide_false, and_self, true_and, and_true, false_and, and_false, not_true_eq_false, not_false_eq_true, false_implies, true_implies, implies_true, ge_iff_le, Bool.false_eq_true, List.cons_append, List.nil_append]
  refine callQ_self ?_ (famExprS.afT m.2.2.2.2 h.2.2) ?_
  · first | exact rfl | (simp only [eE_eta]; exact rfl)
  simp +contextual -implicitDefEqProofs only [eSt, eS, tProofStep, famInt64S_t, famExprS_t, famExprS_t, go_sem, eI, eB, ↓reduceIte, Nat.reduceEqDiff, Nat.reduceAdd, Nat.reduceLeDiff, Nat.reduceMul, Nat.reduceBEq, Nat.reduceBneDiff, Nat.reduceLT, Nat.reduceSub, decide_true, decide_false, and_self, true_and, and_true, false_and, and_false, not_true_eq_false, not_false_eq_true, false_implies, true_implies, implies_true, ge_iff_le, Bool.false_eq_true, List.cons_append, List.nil_append]
theorem af221 (a b : Stp) : AF Try.prog 221 [eSt a, eSt b] (.own (eB (qProofStep a b))) := by
  refine af_of_res res221 mixed rfl fun _ => ?_
  cases e0 : (a.1 == b.1)
  · simp +contextual -implicitDefEqProofs only [rc221, qProofStep, bne, Bool.not_true, Bool.not_false, Bool.true_and, Bool.false_and, Bool.and_true, Bool.and_false, eSt, eS, e0, go_sem, eI, eB, ↓reduceIte, Nat.reduceEqDiff, Nat.reduceAdd, Nat.reduceLeDiff, Nat.reduceMul, Nat.reduceBEq, Nat.reduceBneDiff, Nat.reduceLT, Nat.reduceSub, decide_true, decide_false, and_self, true_and, and_true, false_and, and_false, not_true_eq_false, not_false_eq_true, false_implies, true_implies, implies_true, ge_iff_le, Bool.false_eq_true, List.cons_append, List.nil_append]
  cases e1 : (a.2.1 == b.2.1)
  · simp +contextual -implicitDefEqProofs only [rc221, qProofStep, bne, Bool.not_true, Bool.not_false, Bool.true_and, Bool.false_and, Bool.and_true, Bool.and_false, eSt, eS, e0, e1, go_sem, eI, eB, ↓reduceIte, Nat.reduceEqDiff, Nat.reduceAdd, Nat.reduceLeDiff, Nat.reduceMul, Nat.reduceBEq, Nat.reduceBneDiff, Nat.reduceLT, Nat.reduceSub, decide_true, decide_false, and_self, true_and, and_true, false_and, and_false, not_true_eq_false, not_false_eq_true, false_implies, true_implies, implies_true, ge_iff_le, Bool.false_eq_true, List.cons_append, List.nil_append]
  simp +contextual -implicitDefEqProofs only [rc221, qProofStep, bne, Bool.not_true, Bool.not_false, Bool.true_and, Bool.false_and, Bool.and_true, Bool.and_false, eSt, eS, e0, e1, go_sem, eI, eB, ↓reduceIte, Nat.reduceEqDiff, Nat.reduceAdd, Nat.reduceLeDiff, Nat.reduceMul, Nat.reduceBEq, Nat.reduceBneDiff, Nat.reduceLT, Nat.reduceSub, decide_true, decide_false, and_self, true_and, and_true, false_and, and_false, not_true_eq_false, not_false_eq_true, false_implies, true_implies, implies_true, ge_iff_le, Bool.false_eq_true, List.cons_append, List.nil_append]
  refine callQ_self ?_ (famInt64S.afQ a.2.2.1 b.2.2.1) ?_
  · first | exact rfl | (simp only [eE_eta]; exact rfl)
  cases e2 : famInt64S.q a.2.2.1 b.2.2.1
  · simp +contextual -implicitDefEqProofs only [qProofStep, bne, Bool.not_true, Bool.not_false, Bool.true_and, Bool.false_and, Bool.and_true, Bool.and_false, eSt, eS, e0, e1, e2, go_sem, eI, eB, ↓reduceIte, Nat.reduceEqDiff, Nat.reduceAdd, Nat.reduceLeDiff, Nat.reduceMul, Nat.reduceBEq, Nat.reduceBneDiff, Nat.reduceLT, Nat.reduceSub, decide_true, decide_false, and_self, true_and, and_true, false_and, and_false, not_true_eq_false, not_false_eq_true, false_implies, true_implies, implies_true, ge_iff_le, Bool.false_eq_true, List.cons_append, List.nil_append]
  simp +contextual -implicitDefEqProofs only [qProofStep, bne, Bool.not_true, Bool.not_false, Bool.true_and, Bool.false_and, Bool.and_true, Bool.and_false, eSt, eS, e0, e1, e2, go_sem, eI, eB, ↓reduceIte, Nat.reduceEqDiff, Nat.reduceAdd, Nat.reduceLeDiff, Nat.reduceMul, Nat.reduceBEq, Nat.reduceBneDiff, Nat.reduceLT, Nat.reduceSub, decide_true, decide_false, and_self, true_and, and_true, false_and, and_false, not_true_eq_false, not_false_eq_true, false_implies, true_implies, implies_true, ge_iff_le, Bool.false_eq_true, List.cons_append, List.nil_append]
  refine callQ_self ?_ (famExprS.afQ a.2.2.2.1 b.2.2.2.1) ?_
  · first | exact rfl | (simp only [eE_eta]; exact rfl)
  cases e3 : famExprS.q a.2.2.2.1 b.2.2.2.1
  · simp +contextual -implicitDefEqProofs only [qProofStep, bne, Bool.not_true, Bool.not_false, Bool.true_and, Bool.false_and, Bool.and_true, Bool.and_false, eSt, eS, e0, e1, e2, e3, go_sem, eI, eB, ↓reduceIte, Nat.reduceEqDiff, Nat.reduceAdd, Nat.reduceLeDiff, Nat.reduceMul, Nat.reduceBEq, Nat.reduceBneDiff, Nat.reduceLT, Nat.reduceSub, decide_true, decide_false, and_self, true_and, and_true, false_and, and_false, not_true_eq_false, not_false_eq_true, false_implies, true_implies, implies_true, ge_iff_le, Bool.false_eq_true, List.cons_append, List.nil_append]
  simp +contextual -implicitDefEqProofs only [qProofStep, bne, Bool.not_true, Bool.not_false, Bool.true_and, Bool.false_and, Bool.and_true, Bool.and_false, eSt, eS, e0, e1, e2, e3, go_sem, eI, eB, ↓reduceIte, Nat.reduceEqDiff, Nat.reduceAdd, Nat.reduceLeDiff, Nat.reduceMul, Nat.reduceBEq, Nat.reduceBneDiff, Nat.reduceLT, Nat.reduceSub, decide_true, decide_false, and_self, true_and, and_true, false_and, and_false, not_true_eq_false, not_false_eq_true, false_implies, true_implies, implies_true, ge_iff_le, Bool.false_eq_true, List.cons_append, List.nil_append]
  refine callQ_self ?_ (famExprS.afQ a.2.2.2.2 b.2.2.2.2) ?_
  · first | exact rfl | (simp only [eE_eta]; exact rfl)
  cases e4 : famExprS.q a.2.2.2.2 b.2.2.2.2
  · simp +contextual -implicitDefEqProofs only [qProofStep, bne, Bool.not_true, Bool.not_false, Bool.true_and, Bool.false_and, Bool.and_true, Bool.and_false, eSt, eS, e0, e1, e2, e3, e4, go_sem, eI, eB, ↓reduceIte, Nat.reduceEqDiff, Nat.reduceAdd, Nat.reduceLeDiff, Nat.reduceMul, Nat.reduceBEq, Nat.reduceBneDiff, Nat.reduceLT, Nat.reduceSub, decide_true, decide_false, and_self, true_and, and_true, false_and, and_false, not_true_eq_false, not_false_eq_true, false_implies, true_implies, implies_true, ge_iff_le, Bool.false_eq_true, List.cons_append, List.nil_append]
  · simp +contextual -implicitDefEqProofs only [qProofStep, bne, Bool.not_true, Bool.not_false, Bool.true_and, Bool.false_and, Bool.and_true, Bool.and_false, eSt, eS, e0, e1, e2, e3, e4, go_sem, eI, eB, ↓reduceIte, Nat.reduceEqDiff, Nat.reduceAdd, Nat.reduceLeDiff, Nat.reduceMul, Nat.reduceBEq, Nat.reduceBneDiff, Nat.reduceLT, Nat.reduceSub, decide_true, decide_false, and_self, true_and, and_true, false_and, and_false, not_true_eq_false, not_false_eq_true, false_implies, true_implies, implies_true, ge_iff_le, Bool.false_eq_true, List.cons_append, List.nil_append]
theorem qProofStep_refl (m : Stp) : qProofStep m m = true := by simp [qProofStep, famInt64S.q_refl, famExprS.q_refl, famExprS.q_refl]
noncomputable def famProofStep : Fam Try.prog eSt 219 220 221 := ⟨szProofStep, tProofStep, qProofStep, fitProofStep, szProofStep_in, szProofStep_fit, qProofStep_refl, af219, af220, af221⟩
theorem famProofStep_t (x) : famProofStep.t x = tProofStep x := rfl
noncomputable def famProofStepS : Fam Try.prog (eS 5 eSt) 210 213 217 := famC mixed famProofStep encSt ⟨rfl, rfl, rfl⟩ (by omega) res210 res213 res217
theorem famProofStepS_t (x) : famProofStepS.t x = (some false, x.2.map famProofStep.t) := rfl
noncomputable def szClaim (m : Cl) : Int → Int := fun l => nx (famExpr.s m.1 l) (fun l => nx (famExpr.s m.2.1 l) (fun l => nx (famProofStepS.s m.2.2.2.2 l) (fun l => l)))
def fitClaim (m : Cl) : Prop := famExpr.fit m.1 ∧ famExpr.fit m.2.1 ∧ famProofStepS.fit m.2.2.2.2
noncomputable def tClaim (m : Cl) : Cl := (famExpr.t m.1, famExpr.t m.2.1, m.2.2.1, m.2.2.2.1, famProofStepS.t m.2.2.2.2)
noncomputable def qClaim (a b : Cl) : Bool := (famExpr.q a.1 b.1 && (famExpr.q a.2.1 b.2.1 && ((a.2.2.1 == b.2.2.1) && ((a.2.2.2.1 == b.2.2.2.1) && famProofStepS.q a.2.2.2.2 b.2.2.2.2))))
theorem szClaim_in (m : Cl) (l : Int) (h1 : 0 ≤ l) (h2 : l ≤ 1048576) : -1 ≤ szClaim m l ∧ szClaim m l ≤ l := by
  refine in_tr (Int.le_refl l) (nx_in (famExpr.s_in m.1 l h1 (by omega)) h1 (by omega) fun y0 a0 b0 => ?_)
  refine in_tr b0 (nx_in (famExpr.s_in m.2.1 y0 a0 (by omega)) a0 (by omega) fun y1 a1 b1 => ?_)
  refine in_tr b1 (nx_in (famProofStepS.s_in m.2.2.2.2 y1 a1 (by omega)) a1 (by omega) fun y2 a2 b2 => ?_)
  exact ⟨by omega, b2⟩
theorem szClaim_fit (m : Cl) (l : Int) (h2 : l ≤ 1048576) (h1 : 0 ≤ l) (h : 0 ≤ szClaim m l) : fitClaim m := by
  obtain ⟨p0, h⟩ := nx_fit h
  have e0 := famExpr.s_fit m.1 l (by omega) h1 p0
  have b0 := famExpr.s_in m.1 l h1 (by omega)
  obtain ⟨p1, h⟩ := nx_fit h
  have e1 := famExpr.s_fit m.2.1 _ (by omega) p0 p1
  have b1 := famExpr.s_in m.2.1 (famExpr.s m.1 l) p0 (by omega)
  obtain ⟨p2, h⟩ := nx_fit h
  have e2 := famProofStepS.s_fit m.2.2.2.2 _ (by omega) p1 p2
  have b2 := famProofStepS.s_in m.2.2.2.2 (famExpr.s m.2.1 (famExpr.s m.1 l)) p1 (by omega)
  exact ⟨e0, e1, e2⟩
theorem af191 (m : Cl) (l : Int) (h1 : 0 ≤ l) (h2 : l ≤ 1048576) : AF Try.prog 191 [eCl m, eI l] (.own (eI (szClaim m l))) := by
  refine af_of_res res191 mixed rfl fun _ => ?_
  simp +contextual -implicitDefEqProofs only [rc191, eCl, eS, go_sem, eI, eB, ↓reduceIte, Nat.reduceEqDiff, Nat.reduceAdd, Nat.reduceLeDiff, Nat.reduceMul, Nat.reduceBEq, Nat.reduceBneDiff, Nat.reduceLT, Nat.reduceSub, decide_true, decide_false, and_self, true_and, and_true, false_and, and_false, not_true_eq_false, not_false_eq_true, false_implies, true_implies, implies_true, ge_iff_le, Bool.false_eq_true, List.cons_append, List.nil_append]
  refine callQ_self ?_ (famExpr.afS m.1 l (by omega) (by omega)) ?_
  · first | exact rfl | (simp only [eE_eta]; exact rfl)
  simp +contextual -implicitDefEqProofs only [eCl, eS, go_sem, eI, eB, ↓reduceIte, Nat.reduceEqDiff, Nat.reduceAdd, Nat.reduceLeDiff, Nat.reduceMul, Nat.reduceBEq, Nat.reduceBneDiff, Nat.reduceLT, Nat.reduceSub, decide_true, decide_false, and_self, true_and, and_true, false_and, and_false, not_true_eq_false, not_false_eq_true, false_implies, true_implies, implies_true, ge_iff_le, Bool.false_eq_true, List.cons_append, List.nil_append]
  have b0 := famExpr.s_in m.1 l (by omega) (by omega)
  refine ⟨fun h => D.Le.sc_eq (by simp only [szClaim]; rw [nx_neg h]), fun g0 => ?_⟩
  refine callQ_self ?_ (famExpr.afS m.2.1 (famExpr.s m.1 l) (by omega) (by omega)) ?_
  · first | exact rfl | (simp only [eE_eta]; exact rfl)
  simp +contextual -implicitDefEqProofs only [eCl, eS, go_sem, eI, eB, ↓reduceIte, Nat.reduceEqDiff, Nat.reduceAdd, Nat.reduceLeDiff, Nat.reduceMul, Nat.reduceBEq, Nat.reduceBneDiff, Nat.reduceLT, Nat.reduceSub, decide_true, decide_false, and_self, true_and, and_true, false_and, and_false, not_true_eq_false, not_false_eq_true, false_implies, true_implies, implies_true, ge_iff_le, Bool.false_eq_true, List.cons_append, List.nil_append]
  have b1 := famExpr.s_in m.2.1 (famExpr.s m.1 l) (by omega) (by omega)
  refine ⟨fun h => D.Le.sc_eq (by simp only [szClaim]; rw [nx_pos g0, nx_neg h]), fun g1 => ?_⟩
  refine callQ_self ?_ (famProofStepS.afS m.2.2.2.2 (famExpr.s m.2.1 (famExpr.s m.1 l)) (by omega) (by omega)) ?_
  · first | exact rfl | (simp only [eE_eta]; exact rfl)
  simp +contextual -implicitDefEqProofs only [eCl, eS, go_sem, eI, eB, ↓reduceIte, Nat.reduceEqDiff, Nat.reduceAdd, Nat.reduceLeDiff, Nat.reduceMul, Nat.reduceBEq, Nat.reduceBneDiff, Nat.reduceLT, Nat.reduceSub, decide_true, decide_false, and_self, true_and, and_true, false_and, and_false, not_true_eq_false, not_false_eq_true, false_implies, true_implies, implies_true, ge_iff_le, Bool.false_eq_true, List.cons_append, List.nil_append]
  have b2 := famProofStepS.s_in m.2.2.2.2 (famExpr.s m.2.1 (famExpr.s m.1 l)) (by omega) (by omega)
  refine ⟨fun h => D.Le.sc_eq (by simp only [szClaim]; rw [nx_pos g0, nx_pos g1, nx_neg h]), fun g2 => ?_⟩
  exact D.Le.sc_eq (by simp only [szClaim]; rw [nx_pos g0, nx_pos g1, nx_pos g2])
theorem af193 (m : Cl) (h : fitClaim m) : AF Try.prog 193 [eCl m] (.own (eCl (tClaim m))) := by
  refine af_of_res res193 mixed rfl fun _ => ?_
  simp +contextual -implicitDefEqProofs only [rc193, eCl, eS, tClaim, famExpr_t, famExpr_t, famProofStepS_t, eE_te, tE_k, tE_n, tE_nn, tE_ks, go_sem, eI, eB, ↓reduceIte, Nat.reduceEqDiff, Nat.reduceAdd, Nat.reduceLeDiff, Nat.reduceMul, Nat.reduceBEq, Nat.reduceBneDiff, Nat.reduceLT, Nat.reduceSub, decide_true, decide_false, and_self, true_and, and_true, false_and, and_false, not_true_eq_false, not_false_eq_true, false_implies, true_implies, implies_true, ge_iff_le, Bool.false_eq_true, List.cons_append, List.nil_append]
  refine callQ_self ?_ (famExpr.afT m.1 h.1) ?_
  · first | exact rfl | (simp only [eE_eta]; exact rfl)
  simp +contextual -implicitDefEqProofs only [eCl, eS, tClaim, famExpr_t, famExpr_t, famProofStepS_t, eE_te, tE_k, tE_n, tE_nn, tE_ks, go_sem, eI, eB, ↓reduceIte, Nat.reduceEqDiff, Nat.reduceAdd, Nat.reduceLeDiff, Nat.reduceMul, Nat.reduceBEq, Nat.reduceBneDiff, Nat.reduceLT, Nat.reduceSub, decide_true, decide_false, and_self, true_and, and_true, false_and, and_false, not_true_eq_false, not_false_eq_true, false_implies, true_implies, implies_true, ge_iff_le, Bool.false_eq_true, List.cons_append, List.nil_append]
  refine callQ_self ?_ (famExpr.afT m.2.1 h.2.1) ?_
  · first | exact rfl | (simp only [eE_eta]; exact rfl)
  simp +contextual -implicitDefEqProofs only [eCl, eS, tClaim, famExpr_t, famExpr_t, famProofStepS_t, eE_te, tE_k, tE_n, tE_nn, tE_ks, go_sem, eI, eB, ↓reduceIte, Nat.reduceEqDiff, Nat.reduceAdd, Nat.reduceLeDiff, Nat.reduceMul, Nat.reduceBEq, Nat.reduceBneDiff, Nat.reduceLT, Nat.reduceSub, decide_true, decide_false, and_self, true_and, and_true, false_and, and_false, not_true_eq_false, not_false_eq_true, false_implies, true_implies, implies_true, ge_iff_le, Bool.false_eq_true, List.cons_append, List.nil_append]
  refine callQ_self ?_ (famProofStepS.afT m.2.2.2.2 h.2.2) ?_
  · first | exact rfl | (simp only [eE_eta]; exact rfl)
  simp +contextual -implicitDefEqProofs only [eCl, eS, tClaim, famExpr_t, famExpr_t, famProofStepS_t, eE_te, tE_k, tE_n, tE_nn, tE_ks, go_sem, eI, eB, ↓reduceIte, Nat.reduceEqDiff, Nat.reduceAdd, Nat.reduceLeDiff, Nat.reduceMul, Nat.reduceBEq, Nat.reduceBneDiff, Nat.reduceLT, Nat.reduceSub, decide_true, decide_false, and_self, true_and, and_true, false_and, and_false, not_true_eq_false, not_false_eq_true, false_implies, true_implies, implies_true, ge_iff_le, Bool.false_eq_true, List.cons_append, List.nil_append]
theorem af197 (a b : Cl) : AF Try.prog 197 [eCl a, eCl b] (.own (eB (qClaim a b))) := by
  refine af_of_res res197 mixed rfl fun _ => ?_
  simp +contextual -implicitDefEqProofs only [rc197, qClaim, bne, Bool.not_true, Bool.not_false, Bool.true_and, Bool.false_and, Bool.and_true, Bool.and_false, eCl, eS, go_sem, eI, eB, ↓reduceIte, Nat.reduceEqDiff, Nat.reduceAdd, Nat.reduceLeDiff, Nat.reduceMul, Nat.reduceBEq, Nat.reduceBneDiff, Nat.reduceLT, Nat.reduceSub, decide_true, decide_false, and_self, true_and, and_true, false_and, and_false, not_true_eq_false, not_false_eq_true, false_implies, true_implies, implies_true, ge_iff_le, Bool.false_eq_true, List.cons_append, List.nil_append]
  refine callQ_self ?_ (famExpr.afQ a.1 b.1) ?_
  · first | exact rfl | (simp only [eE_eta]; exact rfl)
  cases e0 : famExpr.q a.1 b.1
  · simp +contextual -implicitDefEqProofs only [qClaim, bne, Bool.not_true, Bool.not_false, Bool.true_and, Bool.false_and, Bool.and_true, Bool.and_false, eCl, eS, e0, go_sem, eI, eB, ↓reduceIte, Nat.reduceEqDiff, Nat.reduceAdd, Nat.reduceLeDiff, Nat.reduceMul, Nat.reduceBEq, Nat.reduceBneDiff, Nat.reduceLT, Nat.reduceSub, decide_true, decide_false, and_self, true_and, and_true, false_and, and_false, not_true_eq_false, not_false_eq_true, false_implies, true_implies, implies_true, ge_iff_le, Bool.false_eq_true, List.cons_append, List.nil_append]
  simp +contextual -implicitDefEqProofs only [qClaim, bne, Bool.not_true, Bool.not_false, Bool.true_and, Bool.false_and, Bool.and_true, Bool.and_false, eCl, eS, e0, go_sem, eI, eB, ↓reduceIte, Nat.reduceEqDiff, Nat.reduceAdd, Nat.reduceLeDiff, Nat.reduceMul, Nat.reduceBEq, Nat.reduceBneDiff, Nat.reduceLT, Nat.reduceSub, decide_true, decide_false, and_self, true_and, and_true, false_and, and_false, not_true_eq_false, not_false_eq_true, false_implies, true_implies, implies_true, ge_iff_le, Bool.false_eq_true, List.cons_append, List.nil_append]
  refine callQ_self ?_ (famExpr.afQ a.2.1 b.2.1) ?_
  · first | exact rfl | (simp only [eE_eta]; exact rfl)
  cases e1 : famExpr.q a.2.1 b.2.1
  · simp +contextual -implicitDefEqProofs only [qClaim, bne, Bool.not_true, Bool.not_false, Bool.true_and, Bool.false_and, Bool.and_true, Bool.and_false, eCl, eS, e0, e1, go_sem, eI, eB, ↓reduceIte, Nat.reduceEqDiff, Nat.reduceAdd, Nat.reduceLeDiff, Nat.reduceMul, Nat.reduceBEq, Nat.reduceBneDiff, Nat.reduceLT, Nat.reduceSub, decide_true, decide_false, and_self, true_and, and_true, false_and, and_false, not_true_eq_false, not_false_eq_true, false_implies, true_implies, implies_true, ge_iff_le, Bool.false_eq_true, List.cons_append, List.nil_append]
  cases e2 : (a.2.2.1 == b.2.2.1)
  · simp +contextual -implicitDefEqProofs only [qClaim, bne, Bool.not_true, Bool.not_false, Bool.true_and, Bool.false_and, Bool.and_true, Bool.and_false, eCl, eS, e0, e1, e2, go_sem, eI, eB, ↓reduceIte, Nat.reduceEqDiff, Nat.reduceAdd, Nat.reduceLeDiff, Nat.reduceMul, Nat.reduceBEq, Nat.reduceBneDiff, Nat.reduceLT, Nat.reduceSub, decide_true, decide_false, and_self, true_and, and_true, false_and, and_false, not_true_eq_false, not_false_eq_true, false_implies, true_implies, implies_true, ge_iff_le, Bool.false_eq_true, List.cons_append, List.nil_append]
  cases e3 : (a.2.2.2.1 == b.2.2.2.1)
  · simp +contextual -implicitDefEqProofs only [qClaim, bne, Bool.not_true, Bool.not_false, Bool.true_and, Bool.false_and, Bool.and_true, Bool.and_false, eCl, eS, e0, e1, e2, e3, go_sem, eI, eB, ↓reduceIte, Nat.reduceEqDiff, Nat.reduceAdd, Nat.reduceLeDiff, Nat.reduceMul, Nat.reduceBEq, Nat.reduceBneDiff, Nat.reduceLT, Nat.reduceSub, decide_true, decide_false, and_self, true_and, and_true, false_and, and_false, not_true_eq_false, not_false_eq_true, false_implies, true_implies, implies_true, ge_iff_le, Bool.false_eq_true, List.cons_append, List.nil_append]
  simp +contextual -implicitDefEqProofs only [qClaim, bne, Bool.not_true, Bool.not_false, Bool.true_and, Bool.false_and, Bool.and_true, Bool.and_false, eCl, eS, e0, e1, e2, e3, go_sem, eI, eB, ↓reduceIte, Nat.reduceEqDiff, Nat.reduceAdd, Nat.reduceLeDiff, Nat.reduceMul, Nat.reduceBEq, Nat.reduceBneDiff, Nat.reduceLT, Nat.reduceSub, decide_true, decide_false, and_self, true_and, and_true, false_and, and_false, not_true_eq_false, not_false_eq_true, false_implies, true_implies, implies_true, ge_iff_le, Bool.false_eq_true, List.cons_append, List.nil_append]
  refine callQ_self ?_ (famProofStepS.afQ a.2.2.2.2 b.2.2.2.2) ?_
  · first | exact rfl | (simp only [eE_eta]; exact rfl)
  cases e4 : famProofStepS.q a.2.2.2.2 b.2.2.2.2
  · simp +contextual -implicitDefEqProofs only [qClaim, bne, Bool.not_true, Bool.not_false, Bool.true_and, Bool.false_and, Bool.and_true, Bool.and_false, eCl, eS, e0, e1, e2, e3, e4, go_sem, eI, eB, ↓reduceIte, Nat.reduceEqDiff, Nat.reduceAdd, Nat.reduceLeDiff, Nat.reduceMul, Nat.reduceBEq, Nat.reduceBneDiff, Nat.reduceLT, Nat.reduceSub, decide_true, decide_false, and_self, true_and, and_true, false_and, and_false, not_true_eq_false, not_false_eq_true, false_implies, true_implies, implies_true, ge_iff_le, Bool.false_eq_true, List.cons_append, List.nil_append]
  · simp +contextual -implicitDefEqProofs only [qClaim, bne, Bool.not_true, Bool.not_false, Bool.true_and, Bool.false_and, Bool.and_true, Bool.and_false, eCl, eS, e0, e1, e2, e3, e4, go_sem, eI, eB, ↓reduceIte, Nat.reduceEqDiff, Nat.reduceAdd, Nat.reduceLeDiff, Nat.reduceMul, Nat.reduceBEq, Nat.reduceBneDiff, Nat.reduceLT, Nat.reduceSub, decide_true, decide_false, and_self, true_and, and_true, false_and, and_false, not_true_eq_false, not_false_eq_true, false_implies, true_implies, implies_true, ge_iff_le, Bool.false_eq_true, List.cons_append, List.nil_append]
theorem qClaim_refl (m : Cl) : qClaim m m = true := by simp [qClaim, famExpr.q_refl, famExpr.q_refl, famProofStepS.q_refl]
noncomputable def famClaim : Fam Try.prog eCl 191 193 197 := ⟨szClaim, tClaim, qClaim, fitClaim, szClaim_in, szClaim_fit, qClaim_refl, af191, af193, af197⟩
theorem famClaim_t (x) : famClaim.t x = tClaim x := rfl
noncomputable def famClaimS : Fam Try.prog (eS 9 eCl) 151 153 156 := famC mixed famClaim encCl ⟨rfl, rfl, rfl⟩ (by omega) res151 res153 res156
theorem famClaimS_t (x) : famClaimS.t x = (some false, x.2.map famClaim.t) := rfl
noncomputable def szProof (m : Pf) : Int → Int := fun l => nx (famClaimS.s m.2 l) (fun l => l)
def fitProof (m : Pf) : Prop := famClaimS.fit m.2
noncomputable def tProof (m : Pf) : Pf := (m.1, famClaimS.t m.2)
noncomputable def qProof (a b : Pf) : Bool := (qG a.1 b.1 && famClaimS.q a.2 b.2)
theorem szProof_in (m : Pf) (l : Int) (h1 : 0 ≤ l) (h2 : l ≤ 1048576) : -1 ≤ szProof m l ∧ szProof m l ≤ l := by
  refine in_tr (Int.le_refl l) (nx_in (famClaimS.s_in m.2 l h1 (by omega)) h1 (by omega) fun y0 a0 b0 => ?_)
  exact ⟨by omega, b0⟩
theorem szProof_fit (m : Pf) (l : Int) (h2 : l ≤ 1048576) (h1 : 0 ≤ l) (h : 0 ≤ szProof m l) : fitProof m := by
  obtain ⟨p0, h⟩ := nx_fit h
  have e0 := famClaimS.s_fit m.2 l (by omega) h1 p0
  have b0 := famClaimS.s_in m.2 l h1 (by omega)
  exact e0
theorem af75 (m : Pf) (l : Int) (h1 : 0 ≤ l) (h2 : l ≤ 1048576) : AF Try.prog 75 [ePf m, eI l] (.own (eI (szProof m l))) := by
  refine af_of_res res75 mixed rfl fun _ => ?_
  simp +contextual -implicitDefEqProofs only [rc75, ePf, eG, eS, go_sem, eI, eB, ↓reduceIte, Nat.reduceEqDiff, Nat.reduceAdd, Nat.reduceLeDiff, Nat.reduceMul, Nat.reduceBEq, Nat.reduceBneDiff, Nat.reduceLT, Nat.reduceSub, decide_true, decide_false, and_self, true_and, and_true, false_and, and_false, not_true_eq_false, not_false_eq_true, false_implies, true_implies, implies_true, ge_iff_le, Bool.false_eq_true, List.cons_append, List.nil_append]
  refine callQ_self ?_ (famClaimS.afS m.2 l (by omega) (by omega)) ?_
  · first | exact rfl | (simp only [eE_eta]; exact rfl)
  simp +contextual -implicitDefEqProofs only [ePf, eG, eS, go_sem, eI, eB, ↓reduceIte, Nat.reduceEqDiff, Nat.reduceAdd, Nat.reduceLeDiff, Nat.reduceMul, Nat.reduceBEq, Nat.reduceBneDiff, Nat.reduceLT, Nat.reduceSub, decide_true, decide_false, and_self, true_and, and_true, false_and, and_false, not_true_eq_false, not_false_eq_true, false_implies, true_implies, implies_true, ge_iff_le, Bool.false_eq_true, List.cons_append, List.nil_append]
  have b0 := famClaimS.s_in m.2 l (by omega) (by omega)
  refine ⟨fun h => D.Le.sc_eq (by simp only [szProof]; rw [nx_neg h]), fun g0 => ?_⟩
  exact D.Le.sc_eq (by simp only [szProof]; rw [nx_pos g0])
theorem af77 (m : Pf) (h : fitProof m) : AF Try.prog 77 [ePf m] (.own (ePf (tProof m))) := by
  refine af_of_res res77 mixed rfl fun _ => ?_
  simp +contextual -implicitDefEqProofs only [rc77, ePf, eG, eS, tProof, famClaimS_t, go_sem, eI, eB, ↓reduceIte, Nat.reduceEqDiff, Nat.reduceAdd, Nat.reduceLeDiff, Nat.reduceMul, Nat.reduceBEq, Nat.reduceBneDiff, Nat.reduceLT, Nat.reduceSub, decide_true, decide_false, and_self, true_and, and_true, false_and, and_false, not_true_eq_false, not_false_eq_true, false_implies, true_implies, implies_true, ge_iff_le, Bool.false_eq_true, List.cons_append, List.nil_append]
  refine callQ_self ?_ (af23 m.1) ?_
  · first | exact rfl | (simp only [eE_eta]; exact rfl)
  simp +contextual -implicitDefEqProofs only [ePf, eG, eS, tProof, famClaimS_t, go_sem, eI, eB, ↓reduceIte, Nat.reduceEqDiff, Nat.reduceAdd, Nat.reduceLeDiff, Nat.reduceMul, Nat.reduceBEq, Nat.reduceBneDiff, Nat.reduceLT, Nat.reduceSub, decide_true, decide_false, and_self, true_and, and_true, false_and, and_false, not_true_eq_false, not_false_eq_true, false_implies, true_implies, implies_true, ge_iff_le, Bool.false_eq_true, List.cons_append, List.nil_append]
  refine callQ_self ?_ (famClaimS.afT m.2 h) ?_
  · first | exact rfl | (simp only [eE_eta]; exact rfl)
  simp +contextual -implicitDefEqProofs only [ePf, eG, eS, tProof, famClaimS_t, go_sem, eI, eB, ↓reduceIte, Nat.reduceEqDiff, Nat.reduceAdd, Nat.reduceLeDiff, Nat.reduceMul, Nat.reduceBEq, Nat.reduceBneDiff, Nat.reduceLT, Nat.reduceSub, decide_true, decide_false, and_self, true_and, and_true, false_and, and_false, not_true_eq_false, not_false_eq_true, false_implies, true_implies, implies_true, ge_iff_le, Bool.false_eq_true, List.cons_append, List.nil_append]
theorem af79 (a b : Pf) : AF Try.prog 79 [ePf a, ePf b] (.own (eB (qProof a b))) := by
  refine af_of_res res79 mixed rfl fun _ => ?_
  simp +contextual -implicitDefEqProofs only [rc79, qProof, bne, Bool.not_true, Bool.not_false, Bool.true_and, Bool.false_and, Bool.and_true, Bool.and_false, ePf, eG, eS, go_sem, eI, eB, ↓reduceIte, Nat.reduceEqDiff, Nat.reduceAdd, Nat.reduceLeDiff, Nat.reduceMul, Nat.reduceBEq, Nat.reduceBneDiff, Nat.reduceLT, Nat.reduceSub, decide_true, decide_false, and_self, true_and, and_true, false_and, and_false, not_true_eq_false, not_false_eq_true, false_implies, true_implies, implies_true, ge_iff_le, Bool.false_eq_true, List.cons_append, List.nil_append]
  refine callQ_self ?_ (af90 a.1 b.1) ?_
  · first | exact rfl | (simp only [eE_eta]; exact rfl)
  cases e0 : qG a.1 b.1
  · simp +contextual -implicitDefEqProofs only [qProof, bne, Bool.not_true, Bool.not_false, Bool.true_and, Bool.false_and, Bool.and_true, Bool.and_false, ePf, eG, eS, e0, go_sem, eI, eB, ↓reduceIte, Nat.reduceEqDiff, Nat.reduceAdd, Nat.reduceLeDiff, Nat.reduceMul, Nat.reduceBEq, Nat.reduceBneDiff, Nat.reduceLT, Nat.reduceSub, decide_true, decide_false, and_self, true_and, and_true, false_and, and_false, not_true_eq_false, not_false_eq_true, false_implies, true_implies, implies_true, ge_iff_le, Bool.false_eq_true, List.cons_append, List.nil_append]
  simp +contextual -implicitDefEqProofs only [qProof, bne, Bool.not_true, Bool.not_false, Bool.true_and, Bool.false_and, Bool.and_true, Bool.and_false, ePf, eG, eS, e0, go_sem, eI, eB, ↓reduceIte, Nat.reduceEqDiff, Nat.reduceAdd, Nat.reduceLeDiff, Nat.reduceMul, Nat.reduceBEq, Nat.reduceBneDiff, Nat.reduceLT, Nat.reduceSub, decide_true, decide_false, and_self, true_and, and_true, false_and, and_false, not_true_eq_false, not_false_eq_true, false_implies, true_implies, implies_true, ge_iff_le, Bool.false_eq_true, List.cons_append, List.nil_append]
  refine callQ_self ?_ (famClaimS.afQ a.2 b.2) ?_
  · first | exact rfl | (simp only [eE_eta]; exact rfl)
  cases e1 : famClaimS.q a.2 b.2
  · simp +contextual -implicitDefEqProofs only [qProof, bne, Bool.not_true, Bool.not_false, Bool.true_and, Bool.false_and, Bool.and_true, Bool.and_false, ePf, eG, eS, e0, e1, go_sem, eI, eB, ↓reduceIte, Nat.reduceEqDiff, Nat.reduceAdd, Nat.reduceLeDiff, Nat.reduceMul, Nat.reduceBEq, Nat.reduceBneDiff, Nat.reduceLT, Nat.reduceSub, decide_true, decide_false, and_self, true_and, and_true, false_and, and_false, not_true_eq_false, not_false_eq_true, false_implies, true_implies, implies_true, ge_iff_le, Bool.false_eq_true, List.cons_append, List.nil_append]
  · simp +contextual -implicitDefEqProofs only [qProof, bne, Bool.not_true, Bool.not_false, Bool.true_and, Bool.false_and, Bool.and_true, Bool.and_false, ePf, eG, eS, e0, e1, go_sem, eI, eB, ↓reduceIte, Nat.reduceEqDiff, Nat.reduceAdd, Nat.reduceLeDiff, Nat.reduceMul, Nat.reduceBEq, Nat.reduceBneDiff, Nat.reduceLT, Nat.reduceSub, decide_true, decide_false, and_self, true_and, and_true, false_and, and_false, not_true_eq_false, not_false_eq_true, false_implies, true_implies, implies_true, ge_iff_le, Bool.false_eq_true, List.cons_append, List.nil_append]
theorem qProof_refl (m : Pf) : qProof m m = true := by simp [qProof, qG, famClaimS.q_refl]
noncomputable def famProof : Fam Try.prog ePf 75 77 79 := ⟨szProof, tProof, qProof, fitProof, szProof_in, szProof_fit, qProof_refl, af75, af77, af79⟩
theorem famProof_t (x) : famProof.t x = tProof x := rfl
theorem law (a b : Pf) : AF Try.prog 14 [ePf a, ePf b] (.own (eB true)) := by
  refine af_of_res res14 mixed rfl fun hbd => ?_
  simp +contextual -implicitDefEqProofs only [rc14, eG, ePf, eS, famProof_t, tProof, famClaimS_t, bne_self_eq_false, go_sem, eI, eB, ↓reduceIte, Nat.reduceEqDiff, Nat.reduceAdd, Nat.reduceLeDiff, Nat.reduceMul, Nat.reduceBEq, Nat.reduceBneDiff, Nat.reduceLT, Nat.reduceSub, decide_true, decide_false, and_self, true_and, and_true, false_and, and_false, not_true_eq_false, not_false_eq_true, false_implies, true_implies, implies_true, ge_iff_le, Bool.false_eq_true, List.cons_append, List.nil_append]
  refine callQ_self (ds := [ePf a, eI 1048576]) ?_ (famProof.afS a 1048576 (by omega) (by omega)) ?_
  · simp only [eG, ePf, eS, famProof_t, tProof, famClaimS_t, bne_self_eq_false]; exact rfl
  simp +contextual -implicitDefEqProofs only [eG, ePf, eS, famProof_t, tProof, famClaimS_t, bne_self_eq_false, go_sem, eI, eB, ↓reduceIte, Nat.reduceEqDiff, Nat.reduceAdd, Nat.reduceLeDiff, Nat.reduceMul, Nat.reduceBEq, Nat.reduceBneDiff, Nat.reduceLT, Nat.reduceSub, decide_true, decide_false, and_self, true_and, and_true, false_and, and_false, not_true_eq_false, not_false_eq_true, false_implies, true_implies, implies_true, ge_iff_le, Bool.false_eq_true, List.cons_append, List.nil_append]
  have sb0 := famProof.s_in a 1048576 (by omega) (by omega)
  refine fun hs0 => ?_
  have hf0 := famProof.s_fit a 1048576 (by omega) (by omega) (by omega)
  refine callQ_self (ds := [ePf b, eI (famProof.s a 1048576)]) ?_ (famProof.afS b (famProof.s a 1048576) (by omega) (by omega)) ?_
  · simp only [eG, ePf, eS, famProof_t, tProof, famClaimS_t, bne_self_eq_false]; exact rfl
  simp +contextual -implicitDefEqProofs only [eG, ePf, eS, famProof_t, tProof, famClaimS_t, bne_self_eq_false, go_sem, eI, eB, ↓reduceIte, Nat.reduceEqDiff, Nat.reduceAdd, Nat.reduceLeDiff, Nat.reduceMul, Nat.reduceBEq, Nat.reduceBneDiff, Nat.reduceLT, Nat.reduceSub, decide_true, decide_false, and_self, true_and, and_true, false_and, and_false, not_true_eq_false, not_false_eq_true, false_implies, true_implies, implies_true, ge_iff_le, Bool.false_eq_true, List.cons_append, List.nil_append]
  have sb1 := famProof.s_in b (famProof.s a 1048576) (by omega) (by omega)
  refine fun hs1 => ?_
  have hf1 := famProof.s_fit b (famProof.s a 1048576) (by omega) (by omega) (by omega)
  refine callQ_self (ds := [ePf a]) ?_ (famProof.afT a hf0) ?_
  · simp only [eG, ePf, eS, famProof_t, tProof, famClaimS_t, bne_self_eq_false]; exact rfl
  simp +contextual -implicitDefEqProofs only [eG, ePf, eS, famProof_t, tProof, famClaimS_t, bne_self_eq_false, go_sem, eI, eB, ↓reduceIte, Nat.reduceEqDiff, Nat.reduceAdd, Nat.reduceLeDiff, Nat.reduceMul, Nat.reduceBEq, Nat.reduceBneDiff, Nat.reduceLT, Nat.reduceSub, decide_true, decide_false, and_self, true_and, and_true, false_and, and_false, not_true_eq_false, not_false_eq_true, false_implies, true_implies, implies_true, ge_iff_le, Bool.false_eq_true, List.cons_append, List.nil_append]
  refine callQ_self (ds := [ePf b]) ?_ (famProof.afT b hf1) ?_
  · simp only [eG, ePf, eS, famProof_t, tProof, famClaimS_t, bne_self_eq_false]; exact rfl
  simp +contextual -implicitDefEqProofs only [eG, ePf, eS, famProof_t, tProof, famClaimS_t, bne_self_eq_false, go_sem, eI, eB, ↓reduceIte, Nat.reduceEqDiff, Nat.reduceAdd, Nat.reduceLeDiff, Nat.reduceMul, Nat.reduceBEq, Nat.reduceBneDiff, Nat.reduceLT, Nat.reduceSub, decide_true, decide_false, and_self, true_and, and_true, false_and, and_false, not_true_eq_false, not_false_eq_true, false_implies, true_implies, implies_true, ge_iff_le, Bool.false_eq_true, List.cons_append, List.nil_append]
  refine callQ_self (ds := [ePf (famProof.t a), ePf (famProof.t b)]) ?_ (af76 (famProof.t a) (famProof.t b)) ?_
  · simp only [eG, ePf, eS, famProof_t, tProof, famClaimS_t, bne_self_eq_false]; exact rfl
  simp +contextual -implicitDefEqProofs only [eG, ePf, eS, famProof_t, tProof, famClaimS_t, bne_self_eq_false, go_sem, eI, eB, ↓reduceIte, Nat.reduceEqDiff, Nat.reduceAdd, Nat.reduceLeDiff, Nat.reduceMul, Nat.reduceBEq, Nat.reduceBneDiff, Nat.reduceLT, Nat.reduceSub, decide_true, decide_false, and_self, true_and, and_true, false_and, and_false, not_true_eq_false, not_false_eq_true, false_implies, true_implies, implies_true, ge_iff_le, Bool.false_eq_true, List.cons_append, List.nil_append]
  refine callQ_self (ds := [ePf a]) ?_ (famProof.afT a hf0) ?_
  · simp only [eG, ePf, eS, famProof_t, tProof, famClaimS_t, bne_self_eq_false]; exact rfl
  simp +contextual -implicitDefEqProofs only [eG, ePf, eS, famProof_t, tProof, famClaimS_t, bne_self_eq_false, go_sem, eI, eB, ↓reduceIte, Nat.reduceEqDiff, Nat.reduceAdd, Nat.reduceLeDiff, Nat.reduceMul, Nat.reduceBEq, Nat.reduceBneDiff, Nat.reduceLT, Nat.reduceSub, decide_true, decide_false, and_self, true_and, and_true, false_and, and_false, not_true_eq_false, not_false_eq_true, false_implies, true_implies, implies_true, ge_iff_le, Bool.false_eq_true, List.cons_append, List.nil_append]
  refine callQ_self (ds := [ePf b]) ?_ (famProof.afT b hf1) ?_
  · simp only [eG, ePf, eS, famProof_t, tProof, famClaimS_t, bne_self_eq_false]; exact rfl
  simp +contextual -implicitDefEqProofs only [eG, ePf, eS, famProof_t, tProof, famClaimS_t, bne_self_eq_false, go_sem, eI, eB, ↓reduceIte, Nat.reduceEqDiff, Nat.reduceAdd, Nat.reduceLeDiff, Nat.reduceMul, Nat.reduceBEq, Nat.reduceBneDiff, Nat.reduceLT, Nat.reduceSub, decide_true, decide_false, and_self, true_and, and_true, false_and, and_false, not_true_eq_false, not_false_eq_true, false_implies, true_implies, implies_true, ge_iff_le, Bool.false_eq_true, List.cons_append, List.nil_append]
  refine callQ_self (ds := [ePf (famProof.t a), ePf (famProof.t b)]) ?_ (af78 (famProof.t a) (famProof.t b)) ?_
  · simp only [eG, ePf, eS, famProof_t, tProof, famClaimS_t, bne_self_eq_false]; exact rfl
  simp +contextual -implicitDefEqProofs only [bne_self_eq_false, eG, ePf, eS, famProof_t, tProof, famClaimS_t, bne_self_eq_false, go_sem, eI, eB, ↓reduceIte, Nat.reduceEqDiff, Nat.reduceAdd, Nat.reduceLeDiff, Nat.reduceMul, Nat.reduceBEq, Nat.reduceBneDiff, Nat.reduceLT, Nat.reduceSub, decide_true, decide_false, and_self, true_and, and_true, false_and, and_false, not_true_eq_false, not_false_eq_true, false_implies, true_implies, implies_true, ge_iff_le, Bool.false_eq_true, List.cons_append, List.nil_append]
  refine callQ_self (ds := [ePf a]) ?_ (famProof.afT a hf0) ?_
  · simp only [eG, ePf, eS, famProof_t, tProof, famClaimS_t, bne_self_eq_false]; exact rfl
  simp +contextual -implicitDefEqProofs only [eG, ePf, eS, famProof_t, tProof, famClaimS_t, bne_self_eq_false, go_sem, eI, eB, ↓reduceIte, Nat.reduceEqDiff, Nat.reduceAdd, Nat.reduceLeDiff, Nat.reduceMul, Nat.reduceBEq, Nat.reduceBneDiff, Nat.reduceLT, Nat.reduceSub, decide_true, decide_false, and_self, true_and, and_true, false_and, and_false, not_true_eq_false, not_false_eq_true, false_implies, true_implies, implies_true, ge_iff_le, Bool.false_eq_true, List.cons_append, List.nil_append]
  refine callQ_self (ds := [ePf (famProof.t a), ePf (famProof.t a)]) ?_ (famProof.afQ (famProof.t a) (famProof.t a)) ?_
  · simp only [eG, ePf, eS, famProof_t, tProof, famClaimS_t, bne_self_eq_false]; exact rfl
  simp +contextual -implicitDefEqProofs only [famProof.q_refl, Bool.not_true, eG, ePf, eS, famProof_t, tProof, famClaimS_t, bne_self_eq_false, go_sem, eI, eB, ↓reduceIte, Nat.reduceEqDiff, Nat.reduceAdd, Nat.reduceLeDiff, Nat.reduceMul, Nat.reduceBEq, Nat.reduceBneDiff, Nat.reduceLT, Nat.reduceSub, decide_true, decide_false, and_self, true_and, and_true, false_and, and_false, not_true_eq_false, not_false_eq_true, false_implies, true_implies, implies_true, ge_iff_le, Bool.false_eq_true, List.cons_append, List.nil_append]
  refine callQ_self (ds := [ePf b]) ?_ (famProof.afT b hf1) ?_
  · simp only [eG, ePf, eS, famProof_t, tProof, famClaimS_t, bne_self_eq_false]; exact rfl
  simp +contextual -implicitDefEqProofs only [eG, ePf, eS, famProof_t, tProof, famClaimS_t, bne_self_eq_false, go_sem, eI, eB, ↓reduceIte, Nat.reduceEqDiff, Nat.reduceAdd, Nat.reduceLeDiff, Nat.reduceMul, Nat.reduceBEq, Nat.reduceBneDiff, Nat.reduceLT, Nat.reduceSub, decide_true, decide_false, and_self, true_and, and_true, false_and, and_false, not_true_eq_false, not_false_eq_true, false_implies, true_implies, implies_true, ge_iff_le, Bool.false_eq_true, List.cons_append, List.nil_append]
  refine callQ_self (ds := [ePf (famProof.t b), ePf (famProof.t b)]) ?_ (famProof.afQ (famProof.t b) (famProof.t b)) ?_
  · simp only [eG, ePf, eS, famProof_t, tProof, famClaimS_t, bne_self_eq_false]; exact rfl
  simp +contextual -implicitDefEqProofs only [famProof.q_refl, Bool.not_true, eG, ePf, eS, famProof_t, tProof, famClaimS_t, bne_self_eq_false, go_sem, eI, eB, ↓reduceIte, Nat.reduceEqDiff, Nat.reduceAdd, Nat.reduceLeDiff, Nat.reduceMul, Nat.reduceBEq, Nat.reduceBneDiff, Nat.reduceLT, Nat.reduceSub, decide_true, decide_false, and_self, true_and, and_true, false_and, and_false, not_true_eq_false, not_false_eq_true, false_implies, true_implies, implies_true, ge_iff_le, Bool.false_eq_true, List.cons_append, List.nil_append]
end Go.Ax
