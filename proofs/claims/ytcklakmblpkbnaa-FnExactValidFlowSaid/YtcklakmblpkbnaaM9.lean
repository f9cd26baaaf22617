/- Contracts of functions of the seat, proved over the engine. No condition. -/
import Derived.Test.YtcklakmblpkbnaaX12
import Derived.Test.YtcklakmblpkbnaaChecked
set_option linter.unusedSimpArgs false
set_option linter.unusedVariables false
namespace Go.Ax
open Go.Proofs
set_option linter.unusedSimpArgs false
theorem mixed : Try.prog.follows .mixedOrders = true := by kernel_rfl
theorem res115 : resF Try.prog 115 = some (27, cSzC 44 3 true, [.t 4]) := by kernel_rfl
theorem res44 : resF Try.prog 44 = some (12, k_szExpr 115, [.t 4]) := by kernel_rfl

def rc176 : RC :=
 (.seq
  (.reg false [⟨none, .box 2 7 (.t 0)⟩,
    ⟨none, .mv 4 (.c (.sc (.int .i64 0)))⟩])
  ((.seq
   (.reg false [⟨none, .fa 5 2 (.t 2)⟩,
     ⟨none, .ld 6 true 3 (.t 5)⟩,
     ⟨none, .mv 7 (.t 1)⟩,
     ⟨none, .call (some 8) 44 [(.t 6), (.t 7)]⟩,
     ⟨none, .mv 1 (.t 8)⟩])
   ((.seq
    ((.seq
     (.reg false [⟨none, .mv 9 (.t 1)⟩,
       ⟨none, .bin 10 .lss (.t 9) (.c (.sc (.int .i64 0)))⟩])
     (.cond (.t 10)
      ((.seq
       (.reg false [⟨none, .mv 4 (.c (.sc (.int .i64 (-1))))⟩])
       (.ret)))
      (.skip))))
    ((.seq
     (.reg false [⟨none, .mv 11 (.t 1)⟩,
       ⟨none, .mv 4 (.t 11)⟩])
     (.ret))))))))
theorem res176 : resF Try.prog 176 = some (12, rc176, [.t 4]) := by kernel_rfl
theorem res126 : resF Try.prog 126 = some (27, cSzC 176 7 true, [.t 4]) := by kernel_rfl

def rc54 : RC :=
 (.seq
  (.reg false [⟨none, .box 2 2 (.t 0)⟩,
    ⟨none, .mv 4 (.c (.sc (.int .i64 0)))⟩])
  ((.seq
   (.reg false [⟨none, .fa 5 1 (.t 2)⟩,
     ⟨none, .ld 6 false 1 (.t 5)⟩,
     ⟨none, .mv 7 (.t 1)⟩,
     ⟨none, .call (some 8) 126 [(.t 6), (.t 7)]⟩,
     ⟨none, .mv 1 (.t 8)⟩])
   ((.seq
    ((.seq
     (.reg false [⟨none, .mv 9 (.t 1)⟩,
       ⟨none, .bin 10 .lss (.t 9) (.c (.sc (.int .i64 0)))⟩])
     (.cond (.t 10)
      ((.seq
       (.reg false [⟨none, .mv 4 (.c (.sc (.int .i64 (-1))))⟩])
       (.ret)))
      (.skip))))
    ((.seq
     (.reg false [⟨none, .mv 11 (.t 1)⟩,
       ⟨none, .mv 4 (.t 11)⟩])
     (.ret))))))))
theorem res54 : resF Try.prog 54 = some (12, rc54, [.t 4]) := by kernel_rfl
theorem res23 : resF Try.prog 23 = some (11, k_toSig, [.c 2 2 true]) := by kernel_rfl
theorem af23 : K_toSig Try.prog 23 := a_toSig mixed res23
theorem res119 : resF Try.prog 119 = some (23, cToC 46 3 40 true (.ag [(.sc (.int .i64 0)), (.sc (.int .i64 0)), (.ls (some true) 3 [])]), [.t 2]) := by kernel_rfl
theorem res46 : resF Try.prog 46 = some (15, k_toExpr 119, [.c 2 3 true]) := by kernel_rfl

def rc178 : RC :=
 (.seq
  (.reg false [⟨none, .box 1 7 (.t 0)⟩,
    ⟨none, .zer 2 7 (.ag [(.sc (.int .i64 0)), (.sc (.int .i64 0)), (.sc (.int .i64 0)), (.sc (.int .i64 0)), (.ls (some true) 3 []), (.sc (.int .i64 0)), (.sc (.int .i64 0))])⟩])
  ((.seq
   (.reg false [⟨none, .zer 3 7 (.ag [(.sc (.int .i64 0)), (.sc (.int .i64 0)), (.sc (.int .i64 0)), (.sc (.int .i64 0)), (.ls (some true) 3 []), (.sc (.int .i64 0)), (.sc (.int .i64 0))])⟩])
   ((.seq
    (.reg false [⟨none, .fa 4 0 (.t 1)⟩,
      ⟨none, .ld 5 false 1 (.t 4)⟩,
      ⟨none, .fa 6 0 (.t 3)⟩,
      ⟨none, .st 1 (.t 6) (.t 5)⟩])
    ((.seq
     (.reg false [⟨none, .fa 7 1 (.t 1)⟩,
       ⟨none, .ld 8 false 1 (.t 7)⟩,
       ⟨none, .fa 9 1 (.t 3)⟩,
       ⟨none, .st 1 (.t 9) (.t 8)⟩])
     ((.seq
      (.reg false [⟨none, .fa 10 2 (.t 1)⟩,
        ⟨none, .ld 11 true 3 (.t 10)⟩,
        ⟨none, .call (some 12) 46 [(.t 11)]⟩,
        ⟨none, .fa 13 2 (.t 3)⟩,
        ⟨none, .st 3 (.t 13) (.t 12)⟩])
      ((.seq
       (.reg false [⟨none, .fa 14 5 (.t 1)⟩,
         ⟨none, .ld 15 false 1 (.t 14)⟩,
         ⟨none, .fa 16 5 (.t 3)⟩,
         ⟨none, .st 1 (.t 16) (.t 15)⟩])
       ((.seq
        (.reg false [⟨none, .fa 17 6 (.t 1)⟩,
          ⟨none, .ld 18 false 1 (.t 17)⟩,
          ⟨none, .fa 19 6 (.t 3)⟩,
          ⟨none, .st 1 (.t 19) (.t 18)⟩])
        ((.seq
         (.reg false [⟨none, .ld 20 true 7 (.t 3)⟩,
           ⟨none, .st 7 (.t 2) (.t 20)⟩])
         (.ret))))))))))))))))
theorem res178 : resF Try.prog 178 = some (21, rc178, [.c 2 7 true]) := by kernel_rfl
theorem res128 : resF Try.prog 128 = some (23, cToC 178 7 72 true (.ag [(.sc (.int .i64 0)), (.sc (.int .i64 0)), (.sc (.int .i64 0)), (.sc (.int .i64 0)), (.ls (some true) 3 []), (.sc (.int .i64 0)), (.sc (.int .i64 0))]), [.t 2]) := by kernel_rfl

def rc56 : RC :=
 (.seq
  (.reg false [⟨none, .box 1 2 (.t 0)⟩,
    ⟨none, .zer 2 2 (.ag [(.sc (.int .i64 0)), (.ls (some true) 7 [])])⟩])
  ((.seq
   (.reg false [⟨none, .zer 3 2 (.ag [(.sc (.int .i64 0)), (.ls (some true) 7 [])])⟩])
   ((.seq
    (.reg false [⟨none, .fa 4 0 (.t 1)⟩,
      ⟨none, .ld 5 false 1 (.t 4)⟩,
      ⟨none, .fa 6 0 (.t 3)⟩,
      ⟨none, .st 1 (.t 6) (.t 5)⟩])
    ((.seq
     (.reg false [⟨none, .fa 7 1 (.t 1)⟩,
       ⟨none, .ld 8 false 1 (.t 7)⟩,
       ⟨none, .call (some 9) 128 [(.t 8)]⟩,
       ⟨none, .fa 10 1 (.t 3)⟩,
       ⟨none, .st 1 (.t 10) (.t 9)⟩])
     ((.seq
      (.reg false [⟨none, .ld 11 true 2 (.t 3)⟩,
        ⟨none, .st 2 (.t 2) (.t 11)⟩])
      (.ret))))))))))
theorem res56 : resF Try.prog 56 = some (12, rc56, [.c 2 2 true]) := by kernel_rfl
theorem res83 : resF Try.prog 83 = some (15, k_l00In, [.t 6]) := by kernel_rfl
theorem af83 : K_l00In Try.prog 83 := a_l00In mixed res83
theorem res162 : resF Try.prog 162 = some (11, k_l01Sig 83, [.t 2]) := by kernel_rfl
theorem af162 : K_l01Sig Try.prog 162 := a_l01Sig mixed res162 af83
theorem res203 : resF Try.prog 203 = some (23, k_l06None, [.t 2]) := by kernel_rfl
theorem af203 : K_l06None Try.prog 203 := a_l06None mixed res203
theorem res173 : resF Try.prog 173 = some (30, k_l01Left 173, [.t 4]) := by kernel_rfl
theorem af173 : K_l01Left Try.prog 173 := a_l01Left mixed res173
theorem res201 : resF Try.prog 201 = some (10, k_l00Max, [.t 4]) := by kernel_rfl
theorem af201 : K_l00Max Try.prog 201 := a_l00Max mixed res201
theorem res174 : resF Try.prog 174 = some (25, k_l01Depth 174 201, [.t 2]) := by kernel_rfl
theorem af174 : K_l01Depth Try.prog 174 := a_l01Depth mixed res174 af201
theorem res202 : resF Try.prog 202 = some (15, k_l01Kids, [.t 2]) := by kernel_rfl
theorem af202 : K_l01Kids Try.prog 202 := a_l01Kids mixed res202
theorem res140 : resF Try.prog 140 = some (34, k_l01Condition 140 83, [.t 2]) := by kernel_rfl
theorem af140 : K_l01Condition Try.prog 140 := a_l01Condition mixed res140 af83
theorem res175 : resF Try.prog 175 = some (80, k_l01Tree 175 202 83 140, [.t 4]) := by kernel_rfl
theorem af175 : K_l01Tree Try.prog 175 := a_l01Tree mixed res175 af202 af83 af140
theorem res116 : resF Try.prog 116 = some (22, k_l01Ok 162 173 174 175, [.t 4]) := by kernel_rfl
theorem af116 : K_l01Ok Try.prog 116 := a_l01Ok mixed res116 af162 af173 af174 af175
theorem res204 : resF Try.prog 204 = some (12, k_l06Cond 116 140, [.t 4]) := by kernel_rfl
theorem af204 : K_l06Cond Try.prog 204 := a_l06Cond mixed res204 af116 af140
theorem res177 : resF Try.prog 177 = some (105, k_l06Spot 203 83 204, [.t 6]) := by kernel_rfl
theorem af177 : K_l06Spot Try.prog 177 := a_l06Spot mixed res177 af203 af83 af204
theorem res127 : resF Try.prog 127 = some (49, k_l06Flow 162 83 177, [.t 4]) := by kernel_rfl
theorem af127 : K_l06Flow Try.prog 127 := a_l06Flow mixed res127 af162 af83 af177
theorem res55 : resF Try.prog 55 = some (7, k_spValidFlow 127, [.t 4]) := by kernel_rfl
theorem af55 : K_spValidFlow Try.prog 55 := a_spValidFlow mixed res55 af127
theorem res88 : resF Try.prog 88 = some (15, k_within, [.t 6]) := by kernel_rfl
theorem af88 : K_within Try.prog 88 := a_within mixed res88
theorem res129 : resF Try.prog 129 = some (11, k_validSig 88, [.t 2]) := by kernel_rfl
theorem af129 : K_validSig Try.prog 129 := a_validSig mixed res129 af88
theorem res179 : resF Try.prog 179 = some (17, k_isNone, [.t 2]) := by kernel_rfl
theorem af179 : K_isNone Try.prog 179 := a_isNone mixed res179
theorem res218 : resF Try.prog 218 = some (15, k_kidsOf, [.t 2]) := by kernel_rfl
theorem af218 : K_kidsOf Try.prog 218 := a_kidsOf mixed res218
theorem res184 : resF Try.prog 184 = some (25, k_isCondition 184, [.t 2]) := by kernel_rfl
theorem af184 : K_isCondition Try.prog 184 := a_isCondition mixed res184
theorem res200 : resF Try.prog 200 = some (86, k_shaped 200 218 88 184, [.t 8, .t 9]) := by kernel_rfl
theorem af200 : K_shaped Try.prog 200 := a_shaped mixed res200 af218 af88 af184
theorem res167 : resF Try.prog 167 = some (14, k_isExpr 200, [.t 4]) := by kernel_rfl
theorem af167 : K_isExpr Try.prog 167 := a_isExpr mixed res167 af200
theorem res180 : resF Try.prog 180 = some (12, k_imCondOk 167 184, [.t 4]) := by kernel_rfl
theorem af180 : K_imCondOk Try.prog 180 := a_imCondOk mixed res180 af167 af184
theorem res130 : resF Try.prog 130 = some (80, k_isSpot 88 179 180, [.t 6]) := by kernel_rfl
theorem af130 : K_isSpot Try.prog 130 := a_isSpot mixed res130 af88 af179 af180
theorem res57 : resF Try.prog 57 = some (40, k_imValidFlow 129 88 130, [.t 4]) := by kernel_rfl
theorem af57 : K_imValidFlow Try.prog 57 := a_imValidFlow mixed res57 af129 af88 af130
theorem res123 : resF Try.prog 123 = some (27, cEqC 49 3 true, [.t 4]) := by kernel_rfl
theorem res49 : resF Try.prog 49 = some (21, k_eqExpr 123, [.t 4]) := by kernel_rfl

def rc181 : RC :=
 (.seq
  (.reg false [⟨none, .box 2 7 (.t 0)⟩,
    ⟨none, .box 3 7 (.t 1)⟩,
    ⟨none, .mv 4 (.c (.sc (.bool false)))⟩])
  ((.seq
   ((.seq
    (.reg false [⟨none, .fa 5 0 (.t 2)⟩,
      ⟨none, .ld 6 false 1 (.t 5)⟩,
      ⟨none, .fa 7 0 (.t 3)⟩,
      ⟨none, .ld 8 false 1 (.t 7)⟩,
      ⟨none, .bin 9 .neq (.t 6) (.t 8)⟩])
    (.cond (.t 9)
     ((.seq
      (.reg false [⟨none, .mv 4 (.c (.sc (.bool false)))⟩])
      (.ret)))
     (.skip))))
   ((.seq
    ((.seq
     (.reg false [⟨none, .fa 10 1 (.t 2)⟩,
       ⟨none, .ld 11 false 1 (.t 10)⟩,
       ⟨none, .fa 12 1 (.t 3)⟩,
       ⟨none, .ld 13 false 1 (.t 12)⟩,
       ⟨none, .bin 14 .neq (.t 11) (.t 13)⟩])
     (.cond (.t 14)
      ((.seq
       (.reg false [⟨none, .mv 4 (.c (.sc (.bool false)))⟩])
       (.ret)))
      (.skip))))
    ((.seq
     ((.seq
      (.reg false [⟨none, .fa 15 2 (.t 2)⟩,
        ⟨none, .ld 16 true 3 (.t 15)⟩,
        ⟨none, .fa 17 2 (.t 3)⟩,
        ⟨none, .ld 18 true 3 (.t 17)⟩,
        ⟨none, .call (some 19) 49 [(.t 16), (.t 18)]⟩,
        ⟨none, .un 20 .not (.t 19)⟩])
      (.cond (.t 20)
       ((.seq
        (.reg false [⟨none, .mv 4 (.c (.sc (.bool false)))⟩])
        (.ret)))
       (.skip))))
     ((.seq
      ((.seq
       (.reg false [⟨none, .fa 21 5 (.t 2)⟩,
         ⟨none, .ld 22 false 1 (.t 21)⟩,
         ⟨none, .fa 23 5 (.t 3)⟩,
         ⟨none, .ld 24 false 1 (.t 23)⟩,
         ⟨none, .bin 25 .neq (.t 22) (.t 24)⟩])
       (.cond (.t 25)
        ((.seq
         (.reg false [⟨none, .mv 4 (.c (.sc (.bool false)))⟩])
         (.ret)))
        (.skip))))
      ((.seq
       ((.seq
        (.reg false [⟨none, .fa 26 6 (.t 2)⟩,
          ⟨none, .ld 27 false 1 (.t 26)⟩,
          ⟨none, .fa 28 6 (.t 3)⟩,
          ⟨none, .ld 29 false 1 (.t 28)⟩,
          ⟨none, .bin 30 .neq (.t 27) (.t 29)⟩])
        (.cond (.t 30)
         ((.seq
          (.reg false [⟨none, .mv 4 (.c (.sc (.bool false)))⟩])
          (.ret)))
         (.skip))))
       ((.seq
        (.reg false [⟨none, .mv 4 (.c (.sc (.bool true)))⟩])
        (.ret))))))))))))))
theorem res181 : resF Try.prog 181 = some (31, rc181, [.t 4]) := by kernel_rfl
theorem res131 : resF Try.prog 131 = some (27, cEqC 181 7 true, [.t 4]) := by kernel_rfl

def rc58 : RC :=
 (.seq
  (.reg false [⟨none, .box 2 2 (.t 0)⟩,
    ⟨none, .box 3 2 (.t 1)⟩,
    ⟨none, .mv 4 (.c (.sc (.bool false)))⟩])
  ((.seq
   ((.seq
    (.reg false [⟨none, .fa 5 0 (.t 2)⟩,
      ⟨none, .ld 6 false 1 (.t 5)⟩,
      ⟨none, .fa 7 0 (.t 3)⟩,
      ⟨none, .ld 8 false 1 (.t 7)⟩,
      ⟨none, .bin 9 .neq (.t 6) (.t 8)⟩])
    (.cond (.t 9)
     ((.seq
      (.reg false [⟨none, .mv 4 (.c (.sc (.bool false)))⟩])
      (.ret)))
     (.skip))))
   ((.seq
    ((.seq
     (.reg false [⟨none, .fa 10 1 (.t 2)⟩,
       ⟨none, .ld 11 false 1 (.t 10)⟩,
       ⟨none, .fa 12 1 (.t 3)⟩,
       ⟨none, .ld 13 false 1 (.t 12)⟩,
       ⟨none, .call (some 14) 131 [(.t 11), (.t 13)]⟩,
       ⟨none, .un 15 .not (.t 14)⟩])
     (.cond (.t 15)
      ((.seq
       (.reg false [⟨none, .mv 4 (.c (.sc (.bool false)))⟩])
       (.ret)))
      (.skip))))
    ((.seq
     (.reg false [⟨none, .mv 4 (.c (.sc (.bool true)))⟩])
     (.ret))))))))
theorem res58 : resF Try.prog 58 = some (16, rc58, [.t 4]) := by kernel_rfl

def rc9 : RC :=
 (.seq
  (.reg false [⟨none, .box 2 2 (.t 0)⟩,
    ⟨none, .box 3 2 (.t 1)⟩,
    ⟨none, .mv 4 (.c (.sc (.bool false)))⟩])
  ((.seq
   (.reg false [⟨none, .mv 5 (.c (.sc (.int .i64 1048576)))⟩])
   ((.seq
    (.reg false [⟨none, .ld 9 true 2 (.t 3)⟩,
      ⟨none, .mv 10 (.t 5)⟩,
      ⟨none, .call (some 11) 54 [(.t 9), (.t 10)]⟩,
      ⟨none, .mv 5 (.t 11)⟩])
    ((.seq
     ((.seq
      (.reg false [⟨none, .mv 12 (.t 5)⟩,
        ⟨none, .bin 13 .lss (.t 12) (.c (.sc (.int .i64 0)))⟩])
      (.cond (.t 13)
       ((.seq
        (.reg false [⟨none, .mv 4 (.c (.sc (.bool true)))⟩])
        (.ret)))
       (.skip))))
     ((.seq
      (.reg true [⟨none, .ld 14 true 2 (.t 2)⟩,
        ⟨none, .call (some 15) 23 [(.t 14)]⟩,
        ⟨none, .ld 16 true 2 (.t 3)⟩,
        ⟨none, .call (some 17) 56 [(.t 16)]⟩,
        ⟨none, .call (some 18) 55 [(.t 15), (.t 17)]⟩,
        ⟨none, .mv 6 (.t 18)⟩])
      ((.seq
       (.reg false [⟨none, .ld 19 true 2 (.t 3)⟩,
         ⟨none, .call (some 20) 56 [(.t 19)]⟩,
         ⟨none, .zer 7 2 (.ag [(.sc (.int .i64 0)), (.ls (some true) 7 [])])⟩,
         ⟨none, .st 2 (.t 7) (.t 20)⟩])
       ((.seq
        (.reg true [⟨none, .ld 21 true 2 (.t 2)⟩,
          ⟨none, .call (some 22) 23 [(.t 21)]⟩,
          ⟨none, .ld 23 true 2 (.t 7)⟩,
          ⟨none, .call (some 24) 57 [(.t 22), (.t 23)]⟩,
          ⟨none, .mv 8 (.t 24)⟩])
        ((.seq
         ((.seq
          (.reg false [⟨none, .mv 25 (.t 8)⟩,
            ⟨none, .mv 26 (.t 6)⟩,
            ⟨none, .beq 27 true (.t 25) (.t 26)⟩])
          (.cond (.t 27)
           ((.seq
            (.reg false [⟨none, .mv 4 (.c (.sc (.bool false)))⟩])
            (.ret)))
           (.skip))))
         ((.seq
          ((.seq
           (.reg true [⟨none, .ld 28 true 2 (.t 7)⟩,
             ⟨none, .ld 29 true 2 (.t 3)⟩,
             ⟨none, .call (some 30) 56 [(.t 29)]⟩,
             ⟨none, .call (some 31) 58 [(.t 28), (.t 30)]⟩,
             ⟨none, .un 32 .not (.t 31)⟩])
           (.cond (.t 32)
            ((.seq
             (.reg false [⟨none, .mv 4 (.c (.sc (.bool false)))⟩])
             (.ret)))
            (.skip))))
          ((.seq
           (.reg false [⟨none, .mv 4 (.c (.sc (.bool true)))⟩])
           (.ret))))))))))))))))))))
theorem res9 : resF Try.prog 9 = some (33, rc9, [.t 4]) := by kernel_rfl
noncomputable def famExpr : Fam Try.prog eE 44 46 49 := famE mixed res44 res115 res46 res119 res49 res123
theorem famExpr_t (x) : famExpr.t x = tE x := rfl
noncomputable def szSpot (m : Sp) : Int → Int := fun l => nx (famExpr.s m.2.2.1 l) (fun l => l)
def fitSpot (m : Sp) : Prop := famExpr.fit m.2.2.1
noncomputable def tSpot (m : Sp) : Sp := (m.1, m.2.1, famExpr.t m.2.2.1, m.2.2.2.1, m.2.2.2.2)
noncomputable def qSpot (a b : Sp) : Bool := ((a.1 == b.1) && ((a.2.1 == b.2.1) && (famExpr.q a.2.2.1 b.2.2.1 && ((a.2.2.2.1 == b.2.2.2.1) && (a.2.2.2.2 == b.2.2.2.2)))))
theorem szSpot_in (m : Sp) (l : Int) (h1 : 0 ≤ l) (h2 : l ≤ 1048576) : -1 ≤ szSpot m l ∧ szSpot m l ≤ l := by
  refine in_tr (Int.le_refl l) (nx_in (famExpr.s_in m.2.2.1 l h1 (by omega)) h1 (by omega) fun y0 a0 b0 => ?_)
  exact ⟨by omega, b0⟩
theorem szSpot_fit (m : Sp) (l : Int) (h2 : l ≤ 1048576) (h1 : 0 ≤ l) (h : 0 ≤ szSpot m l) : fitSpot m := by
  obtain ⟨p0, h⟩ := nx_fit h
  have e0 := famExpr.s_fit m.2.2.1 l (by omega) h1 p0
  have b0 := famExpr.s_in m.2.2.1 l h1 (by omega)
  exact e0
theorem af176 (m : Sp) (l : Int) (h1 : 0 ≤ l) (h2 : l ≤ 1048576) : AF Try.prog 176 [eSp m, eI l] (.own (eI (szSpot m l))) := by
  refine af_of_res res176 mixed rfl fun _ => ?_
  simp +contextual -implicitDefEqProofs only [rc176, eSp, go_sem, eI, eB, ↓reduceIte, Nat.reduceEqDiff, Nat.reduceAdd, Nat.reduceLeDiff, Nat.reduceMul, Nat.reduceBEq, Nat.reduceBneDiff, Nat.reduceLT, Nat.reduceSub, decide_true, decide_false, and_self, true_and, and_true, false_and, and_false, not_true_eq_false, not_false_eq_true, false_implies, true_implies, implies_true, ge_iff_le, Bool.false_eq_true, List.cons_append, List.nil_append]
  refine callQ_self ?_ (famExpr.afS m.2.2.1 l (by omega) (by omega)) ?_
  · first | exact rfl | (simp only [eE_eta]; exact rfl)
  simp +contextual -implicitDefEqProofs only [eSp, go_sem, eI, eB, ↓reduceIte, Nat.reduceEqDiff, Nat.reduceAdd, Nat.reduceLeDiff, Nat.reduceMul, Nat.reduceBEq, Nat.reduceBneDiff, Nat.reduceLT, Nat.reduceSub, decide_true, decide_false, and_self, true_and, and_true, false_and, and_false, not_true_eq_false, not_false_eq_true, false_implies, true_implies, implies_true, ge_iff_le, Bool.false_eq_true, List.cons_append, List.nil_append]
  have b0 := famExpr.s_in m.2.2.1 l (by omega) (by omega)
  refine ⟨fun h => D.Le.sc_eq (by simp only [szSpot]; rw [nx_neg h]), fun g0 => ?_⟩
  exact D.Le.sc_eq (by simp only [szSpot]; rw [nx_pos g0])
theorem af178 (m : Sp) (h : fitSpot m) : AF Try.prog 178 [eSp m] (.own (eSp (tSpot m))) := by
  refine af_of_res res178 mixed rfl fun _ => ?_
  simp +contextual -implicitDefEqProofs only [rc178, eSp, tSpot, famExpr_t, eE_te, tE_k, tE_n, tE_nn, tE_ks, go_sem, eI, eB, ↓reduceIte, Nat.reduceEqDiff, Nat.reduceAdd, Nat.reduceLeDiff, Nat.reduceMul, Nat.reduceBEq, Nat.reduceBneDiff, Nat.reduceLT, Nat.reduceSub, decide_true, decide_false, and_self, true_and, and_true, false_and, and_false, not_true_eq_false, not_false_eq_true, false_implies, true_implies, implies_true, ge_iff_le, Bool.false_eq_true, List.cons_append, List.nil_append]
  refine callQ_self ?_ (famExpr.afT m.2.2.1 h) ?_
  · first | exact rfl | (simp only [eE_eta]; exact rfl)
  simp +contextual -implicitDefEqProofs only [eSp, tSpot, famExpr_t, eE_te, tE_k, tE_n, tE_nn, tE_ks, go_sem, eI, eB, ↓reduceIte, Nat.reduceEqDiff, Nat.reduceAdd, Nat.reduceLeDiff, Nat.reduceMul, Nat.reduceBEq, Nat.reduceBneDiff, Nat.reduceLT, Nat.reduceSub, decide_true, decide_false, and_self, true_and, and_true, false_and, and_false, not_true_eq_false, not_false_eq_true, false_implies, true_implies, implies_true, ge_iff_le, Bool.false_eq_true, List.cons_append, List.nil_append]
theorem af181 (a b : Sp) : AF Try.prog 181 [eSp a, eSp b] (.own (eB (qSpot a b))) := by
  refine af_of_res res181 mixed rfl fun _ => ?_
  cases e0 : (a.1 == b.1)
  · simp +contextual -implicitDefEqProofs only [rc181, qSpot, bne, Bool.not_true, Bool.not_false, Bool.true_and, Bool.false_and, Bool.and_true, Bool.and_false, eSp, e0, go_sem, eI, eB, ↓reduceIte, Nat.reduceEqDiff, Nat.reduceAdd, Nat.reduceLeDiff, Nat.reduceMul, Nat.reduceBEq, Nat.reduceBneDiff, Nat.reduceLT, Nat.reduceSub, decide_true, decide_false, and_self, true_and, and_true, false_and, and_false, not_true_eq_false, not_false_eq_true, false_implies, true_implies, implies_true, ge_iff_le, Bool.false_eq_true, List.cons_append, List.nil_append]
  cases e1 : (a.2.1 == b.2.1)
  · simp +contextual -implicitDefEqProofs only [rc181, qSpot, bne, Bool.not_true, Bool.not_false, Bool.true_and, Bool.false_and, Bool.and_true, Bool.and_false, eSp, e0, e1, go_sem, eI, eB, ↓reduceIte, Nat.reduceEqDiff, Nat.reduceAdd, Nat.reduceLeDiff, Nat.reduceMul, Nat.reduceBEq, Nat.reduceBneDiff, Nat.reduceLT, Nat.reduceSub, decide_true, decide_false, and_self, true_and, and_true, false_and, and_false, not_true_eq_false, not_false_eq_true, false_implies, true_implies, implies_true, ge_iff_le, Bool.false_eq_true, List.cons_append, List.nil_append]
  simp +contextual -implicitDefEqProofs only [rc181, qSpot, bne, Bool.not_true, Bool.not_false, Bool.true_and, Bool.false_and, Bool.and_true, Bool.and_false, eSp, e0, e1, go_sem, eI, eB, ↓reduceIte, Nat.reduceEqDiff, Nat.reduceAdd, Nat.reduceLeDiff, Nat.reduceMul, Nat.reduceBEq, Nat.reduceBneDiff, Nat.reduceLT, Nat.reduceSub, decide_true, decide_false, and_self, true_and, and_true, false_and, and_false, not_true_eq_false, not_false_eq_true, false_implies, true_implies, implies_true, ge_iff_le, Bool.false_eq_true, List.cons_append, List.nil_append]
  refine callQ_self ?_ (famExpr.afQ a.2.2.1 b.2.2.1) ?_
  · first | exact rfl | (simp only [eE_eta]; exact rfl)
  cases e2 : famExpr.q a.2.2.1 b.2.2.1
  · simp +contextual -implicitDefEqProofs only [qSpot, bne, Bool.not_true, Bool.not_false, Bool.true_and, Bool.false_and, Bool.and_true, Bool.and_false, eSp, e0, e1, e2, go_sem, eI, eB, ↓reduceIte, Nat.reduceEqDiff, Nat.reduceAdd, Nat.reduceLeDiff, Nat.reduceMul, Nat.reduceBEq, Nat.reduceBneDiff, Nat.reduceLT, Nat.reduceSub, decide_true, decide_false, and_self, true_and, and_true, false_and, and_false, not_true_eq_false, not_false_eq_true, false_implies, true_implies, implies_true, ge_iff_le, Bool.false_eq_true, List.cons_append, List.nil_append]
  cases e3 : (a.2.2.2.1 == b.2.2.2.1)
  · simp +contextual -implicitDefEqProofs only [qSpot, bne, Bool.not_true, Bool.not_false, Bool.true_and, Bool.false_and, Bool.and_true, Bool.and_false, eSp, e0, e1, e2, e3, go_sem, eI, eB, ↓reduceIte, Nat.reduceEqDiff, Nat.reduceAdd, Nat.reduceLeDiff, Nat.reduceMul, Nat.reduceBEq, Nat.reduceBneDiff, Nat.reduceLT, Nat.reduceSub, decide_true, decide_false, and_self, true_and, and_true, false_and, and_false, not_true_eq_false, not_false_eq_true, false_implies, true_implies, implies_true, ge_iff_le, Bool.false_eq_true, List.cons_append, List.nil_append]
  cases e4 : (a.2.2.2.2 == b.2.2.2.2)
  · simp +contextual -implicitDefEqProofs only [qSpot, bne, Bool.not_true, Bool.not_false, Bool.true_and, Bool.false_and, Bool.and_true, Bool.and_false, eSp, e0, e1, e2, e3, e4, go_sem, eI, eB, ↓reduceIte, Nat.reduceEqDiff, Nat.reduceAdd, Nat.reduceLeDiff, Nat.reduceMul, Nat.reduceBEq, Nat.reduceBneDiff, Nat.reduceLT, Nat.reduceSub, decide_true, decide_false, and_self, true_and, and_true, false_and, and_false, not_true_eq_false, not_false_eq_true, false_implies, true_implies, implies_true, ge_iff_le, Bool.false_eq_true, List.cons_append, List.nil_append]
  · simp +contextual -implicitDefEqProofs only [qSpot, bne, Bool.not_true, Bool.not_false, Bool.true_and, Bool.false_and, Bool.and_true, Bool.and_false, eSp, e0, e1, e2, e3, e4, go_sem, eI, eB, ↓reduceIte, Nat.reduceEqDiff, Nat.reduceAdd, Nat.reduceLeDiff, Nat.reduceMul, Nat.reduceBEq, Nat.reduceBneDiff, Nat.reduceLT, Nat.reduceSub, decide_true, decide_false, and_self, true_and, and_true, false_and, and_false, not_true_eq_false, not_false_eq_true, false_implies, true_implies, implies_true, ge_iff_le, Bool.false_eq_true, List.cons_append, List.nil_append]
theorem qSpot_refl (m : Sp) : qSpot m m = true := by simp [qSpot, famExpr.q_refl]
noncomputable def famSpot : Fam Try.prog eSp 176 178 181 := ⟨szSpot, tSpot, qSpot, fitSpot, szSpot_in, szSpot_fit, qSpot_refl, af176, af178, af181⟩
theorem famSpot_t (x) : famSpot.t x = tSpot x := rfl
noncomputable def famSpotS : Fam Try.prog (eS 7 eSp) 126 128 131 := famC mixed famSpot encSp ⟨rfl, rfl, rfl⟩ (by omega) res126 res128 res131
theorem famSpotS_t (x) : famSpotS.t x = (some false, x.2.map famSpot.t) := rfl
noncomputable def szFlow (m : Fl) : Int → Int := fun l => nx (famSpotS.s m.2 l) (fun l => l)
def fitFlow (m : Fl) : Prop := famSpotS.fit m.2
noncomputable def tFlow (m : Fl) : Fl := (m.1, famSpotS.t m.2)
noncomputable def qFlow (a b : Fl) : Bool := ((a.1 == b.1) && famSpotS.q a.2 b.2)
theorem szFlow_in (m : Fl) (l : Int) (h1 : 0 ≤ l) (h2 : l ≤ 1048576) : -1 ≤ szFlow m l ∧ szFlow m l ≤ l := by
  refine in_tr (Int.le_refl l) (nx_in (famSpotS.s_in m.2 l h1 (by omega)) h1 (by omega) fun y0 a0 b0 => ?_)
  exact ⟨by omega, b0⟩
theorem szFlow_fit (m : Fl) (l : Int) (h2 : l ≤ 1048576) (h1 : 0 ≤ l) (h : 0 ≤ szFlow m l) : fitFlow m := by
  obtain ⟨p0, h⟩ := nx_fit h
  have e0 := famSpotS.s_fit m.2 l (by omega) h1 p0
  have b0 := famSpotS.s_in m.2 l h1 (by omega)
  exact e0
theorem af54 (m : Fl) (l : Int) (h1 : 0 ≤ l) (h2 : l ≤ 1048576) : AF Try.prog 54 [eFl m, eI l] (.own (eI (szFlow m l))) := by
  refine af_of_res res54 mixed rfl fun _ => ?_
  simp +contextual -implicitDefEqProofs only [rc54, eFl, eS, go_sem, eI, eB, ↓reduceIte, Nat.reduceEqDiff, Nat.reduceAdd, Nat.reduceLeDiff, Nat.reduceMul, Nat.reduceBEq, Nat.reduceBneDiff, Nat.reduceLT, Nat.reduceSub, decide_true, decide_false, and_self, true_and, and_true, false_and, and_false, not_true_eq_false, not_false_eq_true, false_implies, true_implies, implies_true, ge_iff_le, Bool.false_eq_true, List.cons_append, List.nil_append]
  refine callQ_self ?_ (famSpotS.afS m.2 l (by omega) (by omega)) ?_
  · first | exact rfl | (simp only [eE_eta]; exact rfl)
  simp +contextual -implicitDefEqProofs only [eFl, eS, go_sem, eI, eB, ↓reduceIte, Nat.reduceEqDiff, Nat.reduceAdd, Nat.reduceLeDiff, Nat.reduceMul, Nat.reduceBEq, Nat.reduceBneDiff, Nat.reduceLT, Nat.reduceSub, decide_true, decide_false, and_self, true_and, and_true, false_and, and_false, not_true_eq_false, not_false_eq_true, false_implies, true_implies, implies_true, ge_iff_le, Bool.false_eq_true, List.cons_append, List.nil_append]
  have b0 := famSpotS.s_in m.2 l (by omega) (by omega)
  refine ⟨fun h => D.Le.sc_eq (by simp only [szFlow]; rw [nx_neg h]), fun g0 => ?_⟩
  exact D.Le.sc_eq (by simp only [szFlow]; rw [nx_pos g0])
theorem af56 (m : Fl) (h : fitFlow m) : AF Try.prog 56 [eFl m] (.own (eFl (tFlow m))) := by
  refine af_of_res res56 mixed rfl fun _ => ?_
  simp +contextual -implicitDefEqProofs only [rc56, eFl, eS, tFlow, famSpotS_t, go_sem, eI, eB, ↓reduceIte, Nat.reduceEqDiff, Nat.reduceAdd, Nat.reduceLeDiff, Nat.reduceMul, Nat.reduceBEq, Nat.reduceBneDiff, Nat.reduceLT, Nat.reduceSub, decide_true, decide_false, and_self, true_and, and_true, false_and, and_false, not_true_eq_false, not_false_eq_true, false_implies, true_implies, implies_true, ge_iff_le, Bool.false_eq_true, List.cons_append, List.nil_append]
  refine callQ_self ?_ (famSpotS.afT m.2 h) ?_
  · first | exact rfl | (simp only [eE_eta]; exact rfl)
  simp +contextual -implicitDefEqProofs only [eFl, eS, tFlow, famSpotS_t, go_sem, eI, eB, ↓reduceIte, Nat.reduceEqDiff, Nat.reduceAdd, Nat.reduceLeDiff, Nat.reduceMul, Nat.reduceBEq, Nat.reduceBneDiff, Nat.reduceLT, Nat.reduceSub, decide_true, decide_false, and_self, true_and, and_true, false_and, and_false, not_true_eq_false, not_false_eq_true, false_implies, true_implies, implies_true, ge_iff_le, Bool.false_eq_true, List.cons_append, List.nil_append]
theorem af58 (a b : Fl) : AF Try.prog 58 [eFl a, eFl b] (.own (eB (qFlow a b))) := by
  refine af_of_res res58 mixed rfl fun _ => ?_
  cases e0 : (a.1 == b.1)
  · simp +contextual -implicitDefEqProofs only [rc58, qFlow, bne, Bool.not_true, Bool.not_false, Bool.true_and, Bool.false_and, Bool.and_true, Bool.and_false, eFl, eS, e0, go_sem, eI, eB, ↓reduceIte, Nat.reduceEqDiff, Nat.reduceAdd, Nat.reduceLeDiff, Nat.reduceMul, Nat.reduceBEq, Nat.reduceBneDiff, Nat.reduceLT, Nat.reduceSub, decide_true, decide_false, and_self, true_and, and_true, false_and, and_false, not_true_eq_false, not_false_eq_true, false_implies, true_implies, implies_true, ge_iff_le, Bool.false_eq_true, List.cons_append, List.nil_append]
  simp +contextual -implicitDefEqProofs only [rc58, qFlow, bne, Bool.not_true, Bool.not_false, Bool.true_and, Bool.false_and, Bool.and_true, Bool.and_false, eFl, eS, e0, go_sem, eI, eB, ↓reduceIte, Nat.reduceEqDiff, Nat.reduceAdd, Nat.reduceLeDiff, Nat.reduceMul, Nat.reduceBEq, Nat.reduceBneDiff, Nat.reduceLT, Nat.reduceSub, decide_true, decide_false, and_self, true_and, and_true, false_and, and_false, not_true_eq_false, not_false_eq_true, false_implies, true_implies, implies_true, ge_iff_le, Bool.false_eq_true, List.cons_append, List.nil_append]
  refine callQ_self ?_ (famSpotS.afQ a.2 b.2) ?_
  · first | exact rfl | (simp only [eE_eta]; exact rfl)
  cases e1 : famSpotS.q a.2 b.2
  · simp +contextual -implicitDefEqProofs only [qFlow, bne, Bool.not_true, Bool.not_false, Bool.true_and, Bool.false_and, Bool.and_true, Bool.and_false, eFl, eS, e0, e1, go_sem, eI, eB, ↓reduceIte, Nat.reduceEqDiff, Nat.reduceAdd, Nat.reduceLeDiff, Nat.reduceMul, Nat.reduceBEq, Nat.reduceBneDiff, Nat.reduceLT, Nat.reduceSub, decide_true, decide_false, and_self, true_and, and_true, false_and, and_false, not_true_eq_false, not_false_eq_true, false_implies, true_implies, implies_true, ge_iff_le, Bool.false_eq_true, List.cons_append, List.nil_append]
  · simp +contextual -implicitDefEqProofs only [qFlow, bne, Bool.not_true, Bool.not_false, Bool.true_and, Bool.false_and, Bool.and_true, Bool.and_false, eFl, eS, e0, e1, go_sem, eI, eB, ↓reduceIte, Nat.reduceEqDiff, Nat.reduceAdd, Nat.reduceLeDiff, Nat.reduceMul, Nat.reduceBEq, Nat.reduceBneDiff, Nat.reduceLT, Nat.reduceSub, decide_true, decide_false, and_self, true_and, and_true, false_and, and_false, not_true_eq_false, not_false_eq_true, false_implies, true_implies, implies_true, ge_iff_le, Bool.false_eq_true, List.cons_append, List.nil_append]
theorem qFlow_refl (m : Fl) : qFlow m m = true := by simp [qFlow, famSpotS.q_refl]
noncomputable def famFlow : Fam Try.prog eFl 54 56 58 := ⟨szFlow, tFlow, qFlow, fitFlow, szFlow_in, szFlow_fit, qFlow_refl, af54, af56, af58⟩
theorem famFlow_t (x) : famFlow.t x = tFlow x := rfl
theorem law (g : Int × Int) (f : Fl) : AF Try.prog 9 [eG g, eFl f] (.own (eB true)) := by
  refine af_of_res res9 mixed rfl fun hbd => ?_
  simp +contextual -implicitDefEqProofs only [rc9, eG, eFl, eS, famFlow_t, tFlow, famSpotS_t, bne_self_eq_false, go_sem, eI, eB, ↓reduceIte, Nat.reduceEqDiff, Nat.reduceAdd, Nat.reduceLeDiff, Nat.reduceMul, Nat.reduceBEq, Nat.reduceBneDiff, Nat.reduceLT, Nat.reduceSub, decide_true, decide_false, and_self, true_and, and_true, false_and, and_false, not_true_eq_false, not_false_eq_true, false_implies, true_implies, implies_true, ge_iff_le, Bool.false_eq_true, List.cons_append, List.nil_append]
  refine callQ_self (ds := [eFl f, eI 1048576]) ?_ (famFlow.afS f 1048576 (by omega) (by omega)) ?_
  · simp only [eG, eFl, eS, famFlow_t, tFlow, famSpotS_t, bne_self_eq_false]; exact rfl
  simp +contextual -implicitDefEqProofs only [eG, eFl, eS, famFlow_t, tFlow, famSpotS_t, bne_self_eq_false, go_sem, eI, eB, ↓reduceIte, Nat.reduceEqDiff, Nat.reduceAdd, Nat.reduceLeDiff, Nat.reduceMul, Nat.reduceBEq, Nat.reduceBneDiff, Nat.reduceLT, Nat.reduceSub, decide_true, decide_false, and_self, true_and, and_true, false_and, and_false, not_true_eq_false, not_false_eq_true, false_implies, true_implies, implies_true, ge_iff_le, Bool.false_eq_true, List.cons_append, List.nil_append]
  have sb0 := famFlow.s_in f 1048576 (by omega) (by omega)
  refine fun hs0 => ?_
  have hf0 := famFlow.s_fit f 1048576 (by omega) (by omega) (by omega)
  refine callQ_self (ds := [eG g]) ?_ (af23 g) ?_
  · simp only [eG, eFl, eS, famFlow_t, tFlow, famSpotS_t, bne_self_eq_false]; exact rfl
  simp +contextual -implicitDefEqProofs only [eG, eFl, eS, famFlow_t, tFlow, famSpotS_t, bne_self_eq_false, go_sem, eI, eB, ↓reduceIte, Nat.reduceEqDiff, Nat.reduceAdd, Nat.reduceLeDiff, Nat.reduceMul, Nat.reduceBEq, Nat.reduceBneDiff, Nat.reduceLT, Nat.reduceSub, decide_true, decide_false, and_self, true_and, and_true, false_and, and_false, not_true_eq_false, not_false_eq_true, false_implies, true_implies, implies_true, ge_iff_le, Bool.false_eq_true, List.cons_append, List.nil_append]
  refine callQ_self (ds := [eFl f]) ?_ (famFlow.afT f hf0) ?_
  · simp only [eG, eFl, eS, famFlow_t, tFlow, famSpotS_t, bne_self_eq_false]; exact rfl
  simp +contextual -implicitDefEqProofs only [eG, eFl, eS, famFlow_t, tFlow, famSpotS_t, bne_self_eq_false, go_sem, eI, eB, ↓reduceIte, Nat.reduceEqDiff, Nat.reduceAdd, Nat.reduceLeDiff, Nat.reduceMul, Nat.reduceBEq, Nat.reduceBneDiff, Nat.reduceLT, Nat.reduceSub, decide_true, decide_false, and_self, true_and, and_true, false_and, and_false, not_true_eq_false, not_false_eq_true, false_implies, true_implies, implies_true, ge_iff_le, Bool.false_eq_true, List.cons_append, List.nil_append]
  refine callQ_self (ds := [eG g, eFl (famFlow.t f)]) ?_ (af55 g (famFlow.t f)) ?_
  · simp only [eG, eFl, eS, famFlow_t, tFlow, famSpotS_t, bne_self_eq_false]; exact rfl
  simp +contextual -implicitDefEqProofs only [eG, eFl, eS, famFlow_t, tFlow, famSpotS_t, bne_self_eq_false, go_sem, eI, eB, ↓reduceIte, Nat.reduceEqDiff, Nat.reduceAdd, Nat.reduceLeDiff, Nat.reduceMul, Nat.reduceBEq, Nat.reduceBneDiff, Nat.reduceLT, Nat.reduceSub, decide_true, decide_false, and_self, true_and, and_true, false_and, and_false, not_true_eq_false, not_false_eq_true, false_implies, true_implies, implies_true, ge_iff_le, Bool.false_eq_true, List.cons_append, List.nil_append]
  refine callQ_self (ds := [eFl f]) ?_ (famFlow.afT f hf0) ?_
  · simp only [eG, eFl, eS, famFlow_t, tFlow, famSpotS_t, bne_self_eq_false]; exact rfl
  simp +contextual -implicitDefEqProofs only [eG, eFl, eS, famFlow_t, tFlow, famSpotS_t, bne_self_eq_false, go_sem, eI, eB, ↓reduceIte, Nat.reduceEqDiff, Nat.reduceAdd, Nat.reduceLeDiff, Nat.reduceMul, Nat.reduceBEq, Nat.reduceBneDiff, Nat.reduceLT, Nat.reduceSub, decide_true, decide_false, and_self, true_and, and_true, false_and, and_false, not_true_eq_false, not_false_eq_true, false_implies, true_implies, implies_true, ge_iff_le, Bool.false_eq_true, List.cons_append, List.nil_append]
  refine callQ_self (ds := [eG g]) ?_ (af23 g) ?_
  · simp only [eG, eFl, eS, famFlow_t, tFlow, famSpotS_t, bne_self_eq_false]; exact rfl
  simp +contextual -implicitDefEqProofs only [eG, eFl, eS, famFlow_t, tFlow, famSpotS_t, bne_self_eq_false, go_sem, eI, eB, ↓reduceIte, Nat.reduceEqDiff, Nat.reduceAdd, Nat.reduceLeDiff, Nat.reduceMul, Nat.reduceBEq, Nat.reduceBneDiff, Nat.reduceLT, Nat.reduceSub, decide_true, decide_false, and_self, true_and, and_true, false_and, and_false, not_true_eq_false, not_false_eq_true, false_implies, true_implies, implies_true, ge_iff_le, Bool.false_eq_true, List.cons_append, List.nil_append]
  refine callQ_self (ds := [eG g, eFl (famFlow.t f)]) ?_ (af57 g (famFlow.t f)) ?_
  · simp only [eG, eFl, eS, famFlow_t, tFlow, famSpotS_t, bne_self_eq_false]; exact rfl
  simp +contextual -implicitDefEqProofs only [eG, eFl, eS, famFlow_t, tFlow, famSpotS_t, bne_self_eq_false, go_sem, eI, eB, ↓reduceIte, Nat.reduceEqDiff, Nat.reduceAdd, Nat.reduceLeDiff, Nat.reduceMul, Nat.reduceBEq, Nat.reduceBneDiff, Nat.reduceLT, Nat.reduceSub, decide_true, decide_false, and_self, true_and, and_true, false_and, and_false, not_true_eq_false, not_false_eq_true, false_implies, true_implies, implies_true, ge_iff_le, Bool.false_eq_true, List.cons_append, List.nil_append]
  refine callQ_self (ds := [eFl f]) ?_ (famFlow.afT f hf0) ?_
  · simp only [eG, eFl, eS, famFlow_t, tFlow, famSpotS_t, bne_self_eq_false]; exact rfl
  simp +contextual -implicitDefEqProofs only [eG, eFl, eS, famFlow_t, tFlow, famSpotS_t, bne_self_eq_false, go_sem, eI, eB, ↓reduceIte, Nat.reduceEqDiff, Nat.reduceAdd, Nat.reduceLeDiff, Nat.reduceMul, Nat.reduceBEq, Nat.reduceBneDiff, Nat.reduceLT, Nat.reduceSub, decide_true, decide_false, and_self, true_and, and_true, false_and, and_false, not_true_eq_false, not_false_eq_true, false_implies, true_implies, implies_true, ge_iff_le, Bool.false_eq_true, List.cons_append, List.nil_append]
  refine callQ_self (ds := [eFl (famFlow.t f), eFl (famFlow.t f)]) ?_ (famFlow.afQ (famFlow.t f) (famFlow.t f)) ?_
  · simp only [eG, eFl, eS, famFlow_t, tFlow, famSpotS_t, bne_self_eq_false]; exact rfl
  simp +contextual -implicitDefEqProofs only [famFlow.q_refl, Bool.not_true, eG, eFl, eS, famFlow_t, tFlow, famSpotS_t, bne_self_eq_false, go_sem, eI, eB, ↓reduceIte, Nat.reduceEqDiff, Nat.reduceAdd, Nat.reduceLeDiff, Nat.reduceMul, Nat.reduceBEq, Nat.reduceBneDiff, Nat.reduceLT, Nat.reduceSub, decide_true, decide_false, and_self, true_and, and_true, false_and, and_false, not_true_eq_false, not_false_eq_true, false_implies, true_implies, implies_true, ge_iff_le, Bool.false_eq_true, List.cons_append, List.nil_append]
end Go.Ax
