/- Contracts of functions of the seat, proved over the engine. No condition. -/
import Derived.Test.YtcklakmblpkbnaaAxF
import Derived.Test.YtcklakmblpkbnaaChecked
set_option linter.unusedSimpArgs false
set_option linter.unusedVariables false
namespace Go.Ax
open Go.Proofs
set_option linter.unusedSimpArgs false
theorem mixed : Try.prog.follows .mixedOrders = true := by kernel_rfl
theorem res93 : resF Try.prog 93 = some (12, cSzP, [.t 4]) := by kernel_rfl
theorem res94 : resF Try.prog 94 = some (27, cSzC 93 1 false, [.t 4]) := by kernel_rfl

def rc20 : RC :=
 (.seq
  (.reg false [⟨none, .box 2 2 (.t 0)⟩,
    ⟨none, .mv 4 (.c (.sc (.int .i64 0)))⟩])
  ((.seq
   (.reg false [⟨none, .fa 5 0 (.t 2)⟩,
     ⟨none, .ld 6 false 1 (.t 5)⟩,
     ⟨none, .mv 7 (.t 1)⟩,
     ⟨none, .call (some 8) 93 [(.t 6), (.t 7)]⟩,
     ⟨none, .mv 1 (.t 8)⟩])
   ((.seq
    ((.seq
     (.reg false [⟨none, .mv 9 (.t 1)⟩,
       ⟨none, .bin 10 .lss (.t 9) (.c (.sc (.int .i64 0)))⟩])
     (.cond (.t 10)
      ((.seq
       (.reg false [⟨none, .mv 4 (.c (.sc (.int .i64 (-1))))⟩])
       (.ret)))
      (.skip))))
    ((.seq
     (.reg false [⟨none, .fa 11 1 (.t 2)⟩,
       ⟨none, .ld 12 false 1 (.t 11)⟩,
       ⟨none, .mv 13 (.t 1)⟩,
       ⟨none, .call (some 14) 94 [(.t 12), (.t 13)]⟩,
       ⟨none, .mv 1 (.t 14)⟩])
     ((.seq
      ((.seq
       (.reg false [⟨none, .mv 15 (.t 1)⟩,
         ⟨none, .bin 16 .lss (.t 15) (.c (.sc (.int .i64 0)))⟩])
       (.cond (.t 16)
        ((.seq
         (.reg false [⟨none, .mv 4 (.c (.sc (.int .i64 (-1))))⟩])
         (.ret)))
        (.skip))))
      ((.seq
       (.reg false [⟨none, .mv 17 (.t 1)⟩,
         ⟨none, .mv 4 (.t 17)⟩])
       (.ret))))))))))))
theorem res20 : resF Try.prog 20 = some (18, rc20, [.t 4]) := by kernel_rfl

def rc21 : RC :=
 (.seq
  (.reg false [⟨none, .box 2 2 (.t 0)⟩,
    ⟨none, .mv 4 (.c (.sc (.int .i64 0)))⟩])
  ((.seq
   (.reg false [⟨none, .fa 5 0 (.t 2)⟩,
     ⟨none, .ld 6 false 1 (.t 5)⟩,
     ⟨none, .mv 7 (.t 1)⟩,
     ⟨none, .call (some 8) 93 [(.t 6), (.t 7)]⟩,
     ⟨none, .mv 1 (.t 8)⟩])
   ((.seq
    ((.seq
     (.reg false [⟨none, .mv 9 (.t 1)⟩,
       ⟨none, .bin 10 .lss (.t 9) (.c (.sc (.int .i64 0)))⟩])
     (.cond (.t 10)
      ((.seq
       (.reg false [⟨none, .mv 4 (.c (.sc (.int .i64 (-1))))⟩])
       (.ret)))
      (.skip))))
    ((.seq
     (.reg false [⟨none, .fa 11 1 (.t 2)⟩,
       ⟨none, .ld 12 false 1 (.t 11)⟩,
       ⟨none, .mv 13 (.t 1)⟩,
       ⟨none, .call (some 14) 93 [(.t 12), (.t 13)]⟩,
       ⟨none, .mv 1 (.t 14)⟩])
     ((.seq
      ((.seq
       (.reg false [⟨none, .mv 15 (.t 1)⟩,
         ⟨none, .bin 16 .lss (.t 15) (.c (.sc (.int .i64 0)))⟩])
       (.cond (.t 16)
        ((.seq
         (.reg false [⟨none, .mv 4 (.c (.sc (.int .i64 (-1))))⟩])
         (.ret)))
        (.skip))))
      ((.seq
       (.reg false [⟨none, .mv 17 (.t 1)⟩,
         ⟨none, .mv 4 (.t 17)⟩])
       (.ret))))))))))))
theorem res21 : resF Try.prog 21 = some (18, rc21, [.t 4]) := by kernel_rfl
theorem res23 : resF Try.prog 23 = some (11, k_toSig, [.c 2 2 true]) := by kernel_rfl
theorem af23 : K_toSig Try.prog 23 := a_toSig mixed res23
theorem res47 : resF Try.prog 47 = some (22, cToS 8 (.sc (.int .i64 0)), [.t 2]) := by kernel_rfl
theorem res97 : resF Try.prog 97 = some (23, cToC 47 1 24 false (.ls (some true) 1 []), [.t 2]) := by kernel_rfl

def rc24 : RC :=
 (.seq
  (.reg false [⟨none, .box 1 2 (.t 0)⟩,
    ⟨none, .zer 2 2 (.ag [(.ls (some true) 1 []), (.ls (some true) 1 [])])⟩])
  ((.seq
   (.reg false [⟨none, .zer 3 2 (.ag [(.ls (some true) 1 []), (.ls (some true) 1 [])])⟩])
   ((.seq
    (.reg false [⟨none, .fa 4 0 (.t 1)⟩,
      ⟨none, .ld 5 false 1 (.t 4)⟩,
      ⟨none, .call (some 6) 47 [(.t 5)]⟩,
      ⟨none, .fa 7 0 (.t 3)⟩,
      ⟨none, .st 1 (.t 7) (.t 6)⟩])
    ((.seq
     (.reg false [⟨none, .fa 8 1 (.t 1)⟩,
       ⟨none, .ld 9 false 1 (.t 8)⟩,
       ⟨none, .call (some 10) 97 [(.t 9)]⟩,
       ⟨none, .fa 11 1 (.t 3)⟩,
       ⟨none, .st 1 (.t 11) (.t 10)⟩])
     ((.seq
      (.reg false [⟨none, .ld 12 true 2 (.t 3)⟩,
        ⟨none, .st 2 (.t 2) (.t 12)⟩])
      (.ret))))))))))
theorem res24 : resF Try.prog 24 = some (13, rc24, [.c 2 2 true]) := by kernel_rfl

def rc25 : RC :=
 (.seq
  (.reg false [⟨none, .box 1 2 (.t 0)⟩,
    ⟨none, .zer 2 2 (.ag [(.ls (some true) 1 []), (.ls (some true) 1 [])])⟩])
  ((.seq
   (.reg false [⟨none, .zer 3 2 (.ag [(.ls (some true) 1 []), (.ls (some true) 1 [])])⟩])
   ((.seq
    (.reg false [⟨none, .fa 4 0 (.t 1)⟩,
      ⟨none, .ld 5 false 1 (.t 4)⟩,
      ⟨none, .call (some 6) 47 [(.t 5)]⟩,
      ⟨none, .fa 7 0 (.t 3)⟩,
      ⟨none, .st 1 (.t 7) (.t 6)⟩])
    ((.seq
     (.reg false [⟨none, .fa 8 1 (.t 1)⟩,
       ⟨none, .ld 9 false 1 (.t 8)⟩,
       ⟨none, .call (some 10) 47 [(.t 9)]⟩,
       ⟨none, .fa 11 1 (.t 3)⟩,
       ⟨none, .st 1 (.t 11) (.t 10)⟩])
     ((.seq
      (.reg false [⟨none, .ld 12 true 2 (.t 3)⟩,
        ⟨none, .st 2 (.t 2) (.t 12)⟩])
      (.ret))))))))))
theorem res25 : resF Try.prog 25 = some (13, rc25, [.c 2 2 true]) := by kernel_rfl
theorem res83 : resF Try.prog 83 = some (15, k_l00In, [.t 6]) := by kernel_rfl
theorem af83 : K_l00In Try.prog 83 := a_l00In mixed res83
theorem res162 : resF Try.prog 162 = some (11, k_l01Sig 83, [.t 2]) := by kernel_rfl
theorem af162 : K_l01Sig Try.prog 162 := a_l01Sig mixed res162 af83
theorem res164 : resF Try.prog 164 = some (7, k_l01Atoms, [.t 2]) := by kernel_rfl
theorem af164 : K_l01Atoms Try.prog 164 := a_l01Atoms mixed res164
theorem res163 : resF Try.prog 163 = some (10, k_l02Atom 164 83, [.t 4]) := by kernel_rfl
theorem af163 : K_l02Atom Try.prog 163 := a_l02Atom mixed res163 af164 af83
theorem res95 : resF Try.prog 95 = some (96, k_l06World 162 83 163, [.t 4]) := by kernel_rfl
theorem af95 : K_l06World Try.prog 95 := a_l06World mixed res95 af162 af83 af163
theorem res96 : resF Try.prog 96 = some (74, k_l01Word 162 164 83, [.t 4]) := by kernel_rfl
theorem af96 : K_l01Word Try.prog 96 := a_l01Word mixed res96 af162 af164 af83
theorem res22 : resF Try.prog 22 = some (85, k_spFollow 95 96 83, [.t 8, .t 9]) := by kernel_rfl
theorem af22 : K_spFollow Try.prog 22 := a_spFollow mixed res22 af95 af96 af83
theorem res88 : resF Try.prog 88 = some (15, k_within, [.t 6]) := by kernel_rfl
theorem af88 : K_within Try.prog 88 := a_within mixed res88
theorem res129 : resF Try.prog 129 = some (11, k_validSig 88, [.t 2]) := by kernel_rfl
theorem af129 : K_validSig Try.prog 129 := a_validSig mixed res129 af88
theorem res199 : resF Try.prog 199 = some (6, k_atomsIn, [.t 2]) := by kernel_rfl
theorem af199 : K_atomsIn Try.prog 199 := a_atomsIn mixed res199
theorem res198 : resF Try.prog 198 = some (19, k_inRange 88, [.t 4]) := by kernel_rfl
theorem af198 : K_inRange Try.prog 198 := a_inRange mixed res198 af88
theorem res165 : resF Try.prog 165 = some (56, k_isWorld 88 199 198, [.t 4]) := by kernel_rfl
theorem af165 : K_isWorld Try.prog 165 := a_isWorld mixed res165 af88 af199 af198
theorem res98 : resF Try.prog 98 = some (12, k_validWorld 129 165, [.t 4]) := by kernel_rfl
theorem af98 : K_validWorld Try.prog 98 := a_validWorld mixed res98 af129 af165
theorem res166 : resF Try.prog 166 = some (27, k_isTrace 199 198, [.t 4]) := by kernel_rfl
theorem af166 : K_isTrace Try.prog 166 := a_isTrace mixed res166 af199 af198
theorem res99 : resF Try.prog 99 = some (14, k_isWord 166, [.t 4]) := by kernel_rfl
theorem af99 : K_isWord Try.prog 99 := a_isWord mixed res99 af166
theorem res26 : resF Try.prog 26 = some (65, k_imFollow 98 99 88, [.t 8, .t 9]) := by kernel_rfl
theorem af26 : K_imFollow Try.prog 26 := a_imFollow mixed res26 af98 af99 af88
theorem res50 : resF Try.prog 50 = some (26, cEqS, [.t 4]) := by kernel_rfl
theorem res100 : resF Try.prog 100 = some (27, cEqC 50 1 false, [.t 4]) := by kernel_rfl

def rc27 : RC :=
 (.seq
  (.reg false [⟨none, .box 2 2 (.t 0)⟩,
    ⟨none, .box 3 2 (.t 1)⟩,
    ⟨none, .mv 4 (.c (.sc (.bool false)))⟩])
  ((.seq
   ((.seq
    (.reg false [⟨none, .fa 5 0 (.t 2)⟩,
      ⟨none, .ld 6 false 1 (.t 5)⟩,
      ⟨none, .fa 7 0 (.t 3)⟩,
      ⟨none, .ld 8 false 1 (.t 7)⟩,
      ⟨none, .call (some 9) 50 [(.t 6), (.t 8)]⟩,
      ⟨none, .un 10 .not (.t 9)⟩])
    (.cond (.t 10)
     ((.seq
      (.reg false [⟨none, .mv 4 (.c (.sc (.bool false)))⟩])
      (.ret)))
     (.skip))))
   ((.seq
    ((.seq
     (.reg false [⟨none, .fa 11 1 (.t 2)⟩,
       ⟨none, .ld 12 false 1 (.t 11)⟩,
       ⟨none, .fa 13 1 (.t 3)⟩,
       ⟨none, .ld 14 false 1 (.t 13)⟩,
       ⟨none, .call (some 15) 100 [(.t 12), (.t 14)]⟩,
       ⟨none, .un 16 .not (.t 15)⟩])
     (.cond (.t 16)
      ((.seq
       (.reg false [⟨none, .mv 4 (.c (.sc (.bool false)))⟩])
       (.ret)))
      (.skip))))
    ((.seq
     (.reg false [⟨none, .mv 4 (.c (.sc (.bool true)))⟩])
     (.ret))))))))
theorem res27 : resF Try.prog 27 = some (17, rc27, [.t 4]) := by kernel_rfl

def rc28 : RC :=
 (.seq
  (.reg false [⟨none, .box 2 2 (.t 0)⟩,
    ⟨none, .box 3 2 (.t 1)⟩,
    ⟨none, .mv 4 (.c (.sc (.bool false)))⟩])
  ((.seq
   ((.seq
    (.reg false [⟨none, .fa 5 0 (.t 2)⟩,
      ⟨none, .ld 6 false 1 (.t 5)⟩,
      ⟨none, .fa 7 0 (.t 3)⟩,
      ⟨none, .ld 8 false 1 (.t 7)⟩,
      ⟨none, .call (some 9) 50 [(.t 6), (.t 8)]⟩,
      ⟨none, .un 10 .not (.t 9)⟩])
    (.cond (.t 10)
     ((.seq
      (.reg false [⟨none, .mv 4 (.c (.sc (.bool false)))⟩])
      (.ret)))
     (.skip))))
   ((.seq
    ((.seq
     (.reg false [⟨none, .fa 11 1 (.t 2)⟩,
       ⟨none, .ld 12 false 1 (.t 11)⟩,
       ⟨none, .fa 13 1 (.t 3)⟩,
       ⟨none, .ld 14 false 1 (.t 13)⟩,
       ⟨none, .call (some 15) 50 [(.t 12), (.t 14)]⟩,
       ⟨none, .un 16 .not (.t 15)⟩])
     (.cond (.t 16)
      ((.seq
       (.reg false [⟨none, .mv 4 (.c (.sc (.bool false)))⟩])
       (.ret)))
      (.skip))))
    ((.seq
     (.reg false [⟨none, .mv 4 (.c (.sc (.bool true)))⟩])
     (.ret))))))))
theorem res28 : resF Try.prog 28 = some (17, rc28, [.t 4]) := by kernel_rfl

def rc4 : RC :=
 (.seq
  (.reg false [⟨none, .box 4 2 (.t 0)⟩,
    ⟨none, .box 5 2 (.t 1)⟩,
    ⟨none, .box 7 2 (.t 3)⟩,
    ⟨none, .mv 8 (.c (.sc (.bool false)))⟩])
  ((.seq
   (.reg false [⟨none, .mv 9 (.c (.sc (.int .i64 1048576)))⟩])
   ((.seq
    (.reg false [⟨none, .ld 16 true 2 (.t 5)⟩,
      ⟨none, .mv 17 (.t 9)⟩,
      ⟨none, .call (some 18) 20 [(.t 16), (.t 17)]⟩,
      ⟨none, .mv 9 (.t 18)⟩])
    ((.seq
     ((.seq
      (.reg false [⟨none, .mv 19 (.t 9)⟩,
        ⟨none, .bin 20 .lss (.t 19) (.c (.sc (.int .i64 0)))⟩])
      (.cond (.t 20)
       ((.seq
        (.reg false [⟨none, .mv 8 (.c (.sc (.bool true)))⟩])
        (.ret)))
       (.skip))))
     ((.seq
      (.reg false [⟨none, .ld 21 true 2 (.t 7)⟩,
        ⟨none, .mv 22 (.t 9)⟩,
        ⟨none, .call (some 23) 21 [(.t 21), (.t 22)]⟩,
        ⟨none, .mv 9 (.t 23)⟩])
      ((.seq
       ((.seq
        (.reg false [⟨none, .mv 24 (.t 9)⟩,
          ⟨none, .bin 25 .lss (.t 24) (.c (.sc (.int .i64 0)))⟩])
        (.cond (.t 25)
         ((.seq
          (.reg false [⟨none, .mv 8 (.c (.sc (.bool true)))⟩])
          (.ret)))
         (.skip))))
       ((.seq
        (.reg true [⟨none, .ld 27 true 2 (.t 4)⟩,
          ⟨none, .call (some 28) 23 [(.t 27)]⟩,
          ⟨none, .ld 29 true 2 (.t 5)⟩,
          ⟨none, .call (some 30) 24 [(.t 29)]⟩,
          ⟨none, .mv 31 (.t 2)⟩,
          ⟨none, .ld 32 true 2 (.t 7)⟩,
          ⟨none, .call (some 33) 25 [(.t 32)]⟩,
          ⟨none, .call (some 34) 22 [(.t 28), (.t 30), (.t 31), (.t 33)]⟩,
          ⟨none, .mv 26 (.t 34)⟩,
          ⟨none, .ext 35 (.t 26) 0⟩,
          ⟨none, .ext 36 (.t 26) 1⟩,
          ⟨none, .mv 10 (.t 35)⟩,
          ⟨none, .mv 11 (.t 36)⟩])
        ((.seq
         (.reg false [⟨none, .ld 37 true 2 (.t 5)⟩,
           ⟨none, .call (some 38) 24 [(.t 37)]⟩,
           ⟨none, .zer 12 2 (.ag [(.ls (some true) 1 []), (.ls (some true) 1 [])])⟩,
           ⟨none, .st 2 (.t 12) (.t 38)⟩])
         ((.seq
          (.reg false [⟨none, .ld 39 true 2 (.t 7)⟩,
            ⟨none, .call (some 40) 25 [(.t 39)]⟩,
            ⟨none, .zer 13 2 (.ag [(.ls (some true) 1 []), (.ls (some true) 1 [])])⟩,
            ⟨none, .st 2 (.t 13) (.t 40)⟩])
          ((.seq
           (.reg true [⟨none, .ld 42 true 2 (.t 4)⟩,
             ⟨none, .call (some 43) 23 [(.t 42)]⟩,
             ⟨none, .ld 44 true 2 (.t 12)⟩,
             ⟨none, .mv 45 (.t 2)⟩,
             ⟨none, .ld 46 true 2 (.t 13)⟩,
             ⟨none, .call (some 47) 26 [(.t 43), (.t 44), (.t 45), (.t 46)]⟩,
             ⟨none, .mv 41 (.t 47)⟩,
             ⟨none, .ext 48 (.t 41) 0⟩,
             ⟨none, .ext 49 (.t 41) 1⟩,
             ⟨none, .mv 14 (.t 48)⟩,
             ⟨none, .mv 15 (.t 49)⟩])
           ((.seq
            ((.seq
             (.reg false [⟨none, .mv 50 (.t 14)⟩,
               ⟨none, .mv 51 (.t 10)⟩,
               ⟨none, .bin 52 .neq (.t 50) (.t 51)⟩,
               ⟨none, .mv 53 (.t 52)⟩,
               ⟨some (53, false), .mv 54 (.t 15)⟩,
               ⟨some (53, false), .mv 55 (.t 11)⟩,
               ⟨some (53, false), .bin 56 .neq (.t 54) (.t 55)⟩,
               ⟨none, .pick 57 (.t 53) (.c (.sc (.bool true))) (.t 56)⟩])
             (.cond (.t 57)
              ((.seq
               (.reg false [⟨none, .mv 8 (.c (.sc (.bool false)))⟩])
               (.ret)))
              (.skip))))
            ((.seq
             ((.seq
              (.reg true [⟨none, .ld 58 true 2 (.t 12)⟩,
                ⟨none, .ld 59 true 2 (.t 5)⟩,
                ⟨none, .call (some 60) 24 [(.t 59)]⟩,
                ⟨none, .call (some 61) 27 [(.t 58), (.t 60)]⟩,
                ⟨none, .un 62 .not (.t 61)⟩])
              (.cond (.t 62)
               ((.seq
                (.reg false [⟨none, .mv 8 (.c (.sc (.bool false)))⟩])
                (.ret)))
               (.skip))))
             ((.seq
              ((.seq
               (.reg true [⟨none, .ld 63 true 2 (.t 13)⟩,
                 ⟨none, .ld 64 true 2 (.t 7)⟩,
                 ⟨none, .call (some 65) 25 [(.t 64)]⟩,
                 ⟨none, .call (some 66) 28 [(.t 63), (.t 65)]⟩,
                 ⟨none, .un 67 .not (.t 66)⟩])
               (.cond (.t 67)
                ((.seq
                 (.reg false [⟨none, .mv 8 (.c (.sc (.bool false)))⟩])
                 (.ret)))
                (.skip))))
              ((.seq
               (.reg false [⟨none, .mv 8 (.c (.sc (.bool true)))⟩])
               (.ret))))))))))))))))))))))))))))
theorem res4 : resF Try.prog 4 = some (68, rc4, [.t 8]) := by kernel_rfl
def famInt64S : Fam Try.prog (eS 1 eI) 93 47 50 := famP mixed encI noI ⟨rfl, rfl, rfl⟩ (by omega) res93 res47 (eqL fun x y => x == y) (fun _ => eqL_refl fun _ _ => by simp) fun a b => af_eqS mixed res50 a b
theorem famInt64S_t (x) : famInt64S.t x = (some false, x.2) := rfl
def famInt64SS : Fam Try.prog (eS 1 (eS 1 eI)) 94 97 100 := famC mixed famInt64S (encS eI 1) ⟨rfl, rfl, rfl⟩ (by omega) res94 res97 res100
theorem famInt64SS_t (x) : famInt64SS.t x = (some false, x.2.map famInt64S.t) := rfl
def szWorld (m : Wd) : Int → Int := fun l => nx (famInt64S.s m.1 l) (fun l => nx (famInt64SS.s m.2 l) (fun l => l))
def fitWorld (m : Wd) : Prop := famInt64S.fit m.1 ∧ famInt64SS.fit m.2
def tWorld (m : Wd) : Wd := (famInt64S.t m.1, famInt64SS.t m.2)
def qWorld (a b : Wd) : Bool := (famInt64S.q a.1 b.1 && famInt64SS.q a.2 b.2)
theorem szWorld_in (m : Wd) (l : Int) (h1 : 0 ≤ l) (h2 : l ≤ 1048576) : -1 ≤ szWorld m l ∧ szWorld m l ≤ l := by
  refine in_tr (Int.le_refl l) (nx_in (famInt64S.s_in m.1 l h1 (by omega)) h1 (by omega) fun y0 a0 b0 => ?_)
  refine in_tr b0 (nx_in (famInt64SS.s_in m.2 y0 a0 (by omega)) a0 (by omega) fun y1 a1 b1 => ?_)
  exact ⟨by omega, b1⟩
theorem szWorld_fit (m : Wd) (l : Int) (h2 : l ≤ 1048576) (h1 : 0 ≤ l) (h : 0 ≤ szWorld m l) : fitWorld m := by
  obtain ⟨p0, h⟩ := nx_fit h
  have e0 := famInt64S.s_fit m.1 l (by omega) h1 p0
  have b0 := famInt64S.s_in m.1 l h1 (by omega)
  obtain ⟨p1, h⟩ := nx_fit h
  have e1 := famInt64SS.s_fit m.2 _ (by omega) p0 p1
  have b1 := famInt64SS.s_in m.2 (famInt64S.s m.1 l) p0 (by omega)
  exact ⟨e0, e1⟩
theorem af20 (m : Wd) (l : Int) (h1 : 0 ≤ l) (h2 : l ≤ 1048576) : AF Try.prog 20 [eW m, eI l] (.own (eI (szWorld m l))) := by
  refine af_of_res res20 mixed rfl fun _ => ?_
  simp +contextual -implicitDefEqProofs only [rc20, eW, eS, go_sem, eI, eB, ↓reduceIte, Nat.reduceEqDiff, Nat.reduceAdd, Nat.reduceLeDiff, Nat.reduceMul, Nat.reduceBEq, Nat.reduceBneDiff, Nat.reduceLT, Nat.reduceSub, decide_true, decide_false, and_self, true_and, and_true, false_and, and_false, not_true_eq_false, not_false_eq_true, false_implies, true_implies, implies_true, ge_iff_le, Bool.false_eq_true, List.cons_append, List.nil_append]
  refine callQ_self ?_ (famInt64S.afS m.1 l (by omega) (by omega)) ?_
  · exact rfl
  simp +contextual -implicitDefEqProofs only [eW, eS, go_sem, eI, eB, ↓reduceIte, Nat.reduceEqDiff, Nat.reduceAdd, Nat.reduceLeDiff, Nat.reduceMul, Nat.reduceBEq, Nat.reduceBneDiff, Nat.reduceLT, Nat.reduceSub, decide_true, decide_false, and_self, true_and, and_true, false_and, and_false, not_true_eq_false, not_false_eq_true, false_implies, true_implies, implies_true, ge_iff_le, Bool.false_eq_true, List.cons_append, List.nil_append]
  have b0 := famInt64S.s_in m.1 l (by omega) (by omega)
  refine ⟨fun h => D.Le.sc_eq (by simp only [szWorld]; rw [nx_neg h]), fun g0 => ?_⟩
  refine callQ_self ?_ (famInt64SS.afS m.2 (famInt64S.s m.1 l) (by omega) (by omega)) ?_
  · exact rfl
  simp +contextual -implicitDefEqProofs only [eW, eS, go_sem, eI, eB, ↓reduceIte, Nat.reduceEqDiff, Nat.reduceAdd, Nat.reduceLeDiff, Nat.reduceMul, Nat.reduceBEq, Nat.reduceBneDiff, Nat.reduceLT, Nat.reduceSub, decide_true, decide_false, and_self, true_and, and_true, false_and, and_false, not_true_eq_false, not_false_eq_true, false_implies, true_implies, implies_true, ge_iff_le, Bool.false_eq_true, List.cons_append, List.nil_append]
  have b1 := famInt64SS.s_in m.2 (famInt64S.s m.1 l) (by omega) (by omega)
  refine ⟨fun h => D.Le.sc_eq (by simp only [szWorld]; rw [nx_pos g0, nx_neg h]), fun g1 => ?_⟩
  exact D.Le.sc_eq (by simp only [szWorld]; rw [nx_pos g0, nx_pos g1])
theorem af24 (m : Wd) (h : fitWorld m) : AF Try.prog 24 [eW m] (.own (eW (tWorld m))) := by
  refine af_of_res res24 mixed rfl fun _ => ?_
  simp +contextual -implicitDefEqProofs only [rc24, eW, eS, tWorld, famInt64S_t, famInt64SS_t, go_sem, eI, eB, ↓reduceIte, Nat.reduceEqDiff, Nat.reduceAdd, Nat.reduceLeDiff, Nat.reduceMul, Nat.reduceBEq, Nat.reduceBneDiff, Nat.reduceLT, Nat.reduceSub, decide_true, decide_false, and_self, true_and, and_true, false_and, and_false, not_true_eq_false, not_false_eq_true, false_implies, true_implies, implies_true, ge_iff_le, Bool.false_eq_true, List.cons_append, List.nil_append]
  refine callQ_self ?_ (famInt64S.afT m.1 h.1) ?_
  · exact rfl
  simp +contextual -implicitDefEqProofs only [eW, eS, tWorld, famInt64S_t, famInt64SS_t, go_sem, eI, eB, ↓reduceIte, Nat.reduceEqDiff, Nat.reduceAdd, Nat.reduceLeDiff, Nat.reduceMul, Nat.reduceBEq, Nat.reduceBneDiff, Nat.reduceLT, Nat.reduceSub, decide_true, decide_false, and_self, true_and, and_true, false_and, and_false, not_true_eq_false, not_false_eq_true, false_implies, true_implies, implies_true, ge_iff_le, Bool.false_eq_true, List.cons_append, List.nil_append]
  refine callQ_self ?_ (famInt64SS.afT m.2 h.2) ?_
  · exact rfl
  simp +contextual -implicitDefEqProofs only [eW, eS, tWorld, famInt64S_t, famInt64SS_t, go_sem, eI, eB, ↓reduceIte, Nat.reduceEqDiff, Nat.reduceAdd, Nat.reduceLeDiff, Nat.reduceMul, Nat.reduceBEq, Nat.reduceBneDiff, Nat.reduceLT, Nat.reduceSub, decide_true, decide_false, and_self, true_and, and_true, false_and, and_false, not_true_eq_false, not_false_eq_true, false_implies, true_implies, implies_true, ge_iff_le, Bool.false_eq_true, List.cons_append, List.nil_append]
theorem af27 (a b : Wd) : AF Try.prog 27 [eW a, eW b] (.own (eB (qWorld a b))) := by
  refine af_of_res res27 mixed rfl fun _ => ?_
  simp +contextual -implicitDefEqProofs only [rc27, qWorld, bne, Bool.not_true, Bool.not_false, Bool.true_and, Bool.false_and, Bool.and_true, Bool.and_false, eW, eS, go_sem, eI, eB, ↓reduceIte, Nat.reduceEqDiff, Nat.reduceAdd, Nat.reduceLeDiff, Nat.reduceMul, Nat.reduceBEq, Nat.reduceBneDiff, Nat.reduceLT, Nat.reduceSub, decide_true, decide_false, and_self, true_and, and_true, false_and, and_false, not_true_eq_false, not_false_eq_true, false_implies, true_implies, implies_true, ge_iff_le, Bool.false_eq_true, List.cons_append, List.nil_append]
  refine callQ_self ?_ (famInt64S.afQ a.1 b.1) ?_
  · exact rfl
  cases e0 : famInt64S.q a.1 b.1
  · simp +contextual -implicitDefEqProofs only [qWorld, bne, Bool.not_true, Bool.not_false, Bool.true_and, Bool.false_and, Bool.and_true, Bool.and_false, eW, eS, e0, go_sem, eI, eB, ↓reduceIte, Nat.reduceEqDiff, Nat.reduceAdd, Nat.reduceLeDiff, Nat.reduceMul, Nat.reduceBEq, Nat.reduceBneDiff, Nat.reduceLT, Nat.reduceSub, decide_true, decide_false, and_self, true_and, and_true, false_and, and_false, not_true_eq_false, not_false_eq_true, false_implies, true_implies, implies_true, ge_iff_le, Bool.false_eq_true, List.cons_append, List.nil_append]
  simp +contextual -implicitDefEqProofs only [qWorld, bne, Bool.not_true, Bool.not_false, Bool.true_and, Bool.false_and, Bool.and_true, Bool.and_false, eW, eS, e0, go_sem, eI, eB, ↓reduceIte, Nat.reduceEqDiff, Nat.reduceAdd, Nat.reduceLeDiff, Nat.reduceMul, Nat.reduceBEq, Nat.reduceBneDiff, Nat.reduceLT, Nat.reduceSub, decide_true, decide_false, and_self, true_and, and_true, false_and, and_false, not_true_eq_false, not_false_eq_true, false_implies, true_implies, implies_true, ge_iff_le, Bool.false_eq_true, List.cons_append, List.nil_append]
  refine callQ_self ?_ (famInt64SS.afQ a.2 b.2) ?_
  · exact rfl
  cases e1 : famInt64SS.q a.2 b.2
  · simp +contextual -implicitDefEqProofs only [qWorld, bne, Bool.not_true, Bool.not_false, Bool.true_and, Bool.false_and, Bool.and_true, Bool.and_false, eW, eS, e0, e1, go_sem, eI, eB, ↓reduceIte, Nat.reduceEqDiff, Nat.reduceAdd, Nat.reduceLeDiff, Nat.reduceMul, Nat.reduceBEq, Nat.reduceBneDiff, Nat.reduceLT, Nat.reduceSub, decide_true, decide_false, and_self, true_and, and_true, false_and, and_false, not_true_eq_false, not_false_eq_true, false_implies, true_implies, implies_true, ge_iff_le, Bool.false_eq_true, List.cons_append, List.nil_append]
  · simp +contextual -implicitDefEqProofs only [qWorld, bne, Bool.not_true, Bool.not_false, Bool.true_and, Bool.false_and, Bool.and_true, Bool.and_false, eW, eS, e0, e1, go_sem, eI, eB, ↓reduceIte, Nat.reduceEqDiff, Nat.reduceAdd, Nat.reduceLeDiff, Nat.reduceMul, Nat.reduceBEq, Nat.reduceBneDiff, Nat.reduceLT, Nat.reduceSub, decide_true, decide_false, and_self, true_and, and_true, false_and, and_false, not_true_eq_false, not_false_eq_true, false_implies, true_implies, implies_true, ge_iff_le, Bool.false_eq_true, List.cons_append, List.nil_append]
theorem qWorld_refl (m : Wd) : qWorld m m = true := by simp [qWorld, famInt64S.q_refl, famInt64SS.q_refl]
noncomputable def famWorld : Fam Try.prog eW 20 24 27 := ⟨szWorld, tWorld, qWorld, fitWorld, szWorld_in, szWorld_fit, qWorld_refl, af20, af24, af27⟩
theorem famWorld_t (x) : famWorld.t x = tWorld x := rfl
def szWord (m : Wo) : Int → Int := fun l => nx (famInt64S.s m.1 l) (fun l => nx (famInt64S.s m.2 l) (fun l => l))
def fitWord (m : Wo) : Prop := famInt64S.fit m.1 ∧ famInt64S.fit m.2
def tWord (m : Wo) : Wo := (famInt64S.t m.1, famInt64S.t m.2)
def qWord (a b : Wo) : Bool := (famInt64S.q a.1 b.1 && famInt64S.q a.2 b.2)
theorem szWord_in (m : Wo) (l : Int) (h1 : 0 ≤ l) (h2 : l ≤ 1048576) : -1 ≤ szWord m l ∧ szWord m l ≤ l := by
  refine in_tr (Int.le_refl l) (nx_in (famInt64S.s_in m.1 l h1 (by omega)) h1 (by omega) fun y0 a0 b0 => ?_)
  refine in_tr b0 (nx_in (famInt64S.s_in m.2 y0 a0 (by omega)) a0 (by omega) fun y1 a1 b1 => ?_)
  exact ⟨by omega, b1⟩
theorem szWord_fit (m : Wo) (l : Int) (h2 : l ≤ 1048576) (h1 : 0 ≤ l) (h : 0 ≤ szWord m l) : fitWord m := by
  obtain ⟨p0, h⟩ := nx_fit h
  have e0 := famInt64S.s_fit m.1 l (by omega) h1 p0
  have b0 := famInt64S.s_in m.1 l h1 (by omega)
  obtain ⟨p1, h⟩ := nx_fit h
  have e1 := famInt64S.s_fit m.2 _ (by omega) p0 p1
  have b1 := famInt64S.s_in m.2 (famInt64S.s m.1 l) p0 (by omega)
  exact ⟨e0, e1⟩
theorem af21 (m : Wo) (l : Int) (h1 : 0 ≤ l) (h2 : l ≤ 1048576) : AF Try.prog 21 [eWo m, eI l] (.own (eI (szWord m l))) := by
  refine af_of_res res21 mixed rfl fun _ => ?_
  simp +contextual -implicitDefEqProofs only [rc21, eWo, eS, go_sem, eI, eB, ↓reduceIte, Nat.reduceEqDiff, Nat.reduceAdd, Nat.reduceLeDiff, Nat.reduceMul, Nat.reduceBEq, Nat.reduceBneDiff, Nat.reduceLT, Nat.reduceSub, decide_true, decide_false, and_self, true_and, and_true, false_and, and_false, not_true_eq_false, not_false_eq_true, false_implies, true_implies, implies_true, ge_iff_le, Bool.false_eq_true, List.cons_append, List.nil_append]
  refine callQ_self ?_ (famInt64S.afS m.1 l (by omega) (by omega)) ?_
  · exact rfl
  simp +contextual -implicitDefEqProofs only [eWo, eS, go_sem, eI, eB, ↓reduceIte, Nat.reduceEqDiff, Nat.reduceAdd, Nat.reduceLeDiff, Nat.reduceMul, Nat.reduceBEq, Nat.reduceBneDiff, Nat.reduceLT, Nat.reduceSub, decide_true, decide_false, and_self, true_and, and_true, false_and, and_false, not_true_eq_false, not_false_eq_true, false_implies, true_implies, implies_true, ge_iff_le, Bool.false_eq_true, List.cons_append, List.nil_append]
  have b0 := famInt64S.s_in m.1 l (by omega) (by omega)
  refine ⟨fun h => D.Le.sc_eq (by simp only [szWord]; rw [nx_neg h]), fun g0 => ?_⟩
  refine callQ_self ?_ (famInt64S.afS m.2 (famInt64S.s m.1 l) (by omega) (by omega)) ?_
  · exact rfl
  simp +contextual -implicitDefEqProofs only [eWo, eS, go_sem, eI, eB, ↓reduceIte, Nat.reduceEqDiff, Nat.reduceAdd, Nat.reduceLeDiff, Nat.reduceMul, Nat.reduceBEq, Nat.reduceBneDiff, Nat.reduceLT, Nat.reduceSub, decide_true, decide_false, and_self, true_and, and_true, false_and, and_false, not_true_eq_false, not_false_eq_true, false_implies, true_implies, implies_true, ge_iff_le, Bool.false_eq_true, List.cons_append, List.nil_append]
  have b1 := famInt64S.s_in m.2 (famInt64S.s m.1 l) (by omega) (by omega)
  refine ⟨fun h => D.Le.sc_eq (by simp only [szWord]; rw [nx_pos g0, nx_neg h]), fun g1 => ?_⟩
  exact D.Le.sc_eq (by simp only [szWord]; rw [nx_pos g0, nx_pos g1])
theorem af25 (m : Wo) (h : fitWord m) : AF Try.prog 25 [eWo m] (.own (eWo (tWord m))) := by
  refine af_of_res res25 mixed rfl fun _ => ?_
  simp +contextual -implicitDefEqProofs only [rc25, eWo, eS, tWord, famInt64S_t, famInt64S_t, go_sem, eI, eB, ↓reduceIte, Nat.reduceEqDiff, Nat.reduceAdd, Nat.reduceLeDiff, Nat.reduceMul, Nat.reduceBEq, Nat.reduceBneDiff, Nat.reduceLT, Nat.reduceSub, decide_true, decide_false, and_self, true_and, and_true, false_and, and_false, not_true_eq_false, not_false_eq_true, false_implies, true_implies, implies_true, ge_iff_le, Bool.false_eq_true, List.cons_append, List.nil_append]
  refine callQ_self ?_ (famInt64S.afT m.1 h.1) ?_
  · exact rfl
  simp +contextual -implicitDefEqProofs only [eWo, eS, tWord, famInt64S_t, famInt64S_t, go_sem, eI, eB, ↓reduceIte, Nat.reduceEqDiff, Nat.reduceAdd, Nat.reduceLeDiff, Nat.reduceMul, Nat.reduceBEq, Nat.reduceBneDiff, Nat.reduceLT, Nat.reduceSub, decide_true, decide_false, and_self, true_and, and_true, false_and, and_false, not_true_eq_false, not_false_eq_true, false_implies, true_implies, implies_true, ge_iff_le, Bool.false_eq_true, List.cons_append, List.nil_append]
  refine callQ_self ?_ (famInt64S.afT m.2 h.2) ?_
  · exact rfl
  simp +contextual -implicitDefEqProofs only [eWo, eS, tWord, famInt64S_t, famInt64S_t, go_sem, eI, eB, ↓reduceIte, Nat.reduceEqDiff, Nat.reduceAdd, Nat.reduceLeDiff, Nat.reduceMul, Nat.reduceBEq, Nat.reduceBneDiff, Nat.reduceLT, Nat.reduceSub, decide_true, decide_false, and_self, true_and, and_true, false_and, and_false, not_true_eq_false, not_false_eq_true, false_implies, true_implies, implies_true, ge_iff_le, Bool.false_eq_true, List.cons_append, List.nil_append]
theorem af28 (a b : Wo) : AF Try.prog 28 [eWo a, eWo b] (.own (eB (qWord a b))) := by
  refine af_of_res res28 mixed rfl fun _ => ?_
  simp +contextual -implicitDefEqProofs only [rc28, qWord, bne, Bool.not_true, Bool.not_false, Bool.true_and, Bool.false_and, Bool.and_true, Bool.and_false, eWo, eS, go_sem, eI, eB, ↓reduceIte, Nat.reduceEqDiff, Nat.reduceAdd, Nat.reduceLeDiff, Nat.reduceMul, Nat.reduceBEq, Nat.reduceBneDiff, Nat.reduceLT, Nat.reduceSub, decide_true, decide_false, and_self, true_and, and_true, false_and, and_false, not_true_eq_false, not_false_eq_true, false_implies, true_implies, implies_true, ge_iff_le, Bool.false_eq_true, List.cons_append, List.nil_append]
  refine callQ_self ?_ (famInt64S.afQ a.1 b.1) ?_
  · exact rfl
  cases e0 : famInt64S.q a.1 b.1
  · simp +contextual -implicitDefEqProofs only [qWord, bne, Bool.not_true, Bool.not_false, Bool.true_and, Bool.false_and, Bool.and_true, Bool.and_false, eWo, eS, e0, go_sem, eI, eB, ↓reduceIte, Nat.reduceEqDiff, Nat.reduceAdd, Nat.reduceLeDiff, Nat.reduceMul, Nat.reduceBEq, Nat.reduceBneDiff, Nat.reduceLT, Nat.reduceSub, decide_true, decide_false, and_self, true_and, and_true, false_and, and_false, not_true_eq_false, not_false_eq_true, false_implies, true_implies, implies_true, ge_iff_le, Bool.false_eq_true, List.cons_append, List.nil_append]
  simp +contextual -implicitDefEqProofs only [qWord, bne, Bool.not_true, Bool.not_false, Bool.true_and, Bool.false_and, Bool.and_true, Bool.and_false, eWo, eS, e0, go_sem, eI, eB, ↓reduceIte, Nat.reduceEqDiff, Nat.reduceAdd, Nat.reduceLeDiff, Nat.reduceMul, Nat.reduceBEq, Nat.reduceBneDiff, Nat.reduceLT, Nat.reduceSub, decide_true, decide_false, and_self, true_and, and_true, false_and, and_false, not_true_eq_false, not_false_eq_true, false_implies, true_implies, implies_true, ge_iff_le, Bool.false_eq_true, List.cons_append, List.nil_append]
  refine callQ_self ?_ (famInt64S.afQ a.2 b.2) ?_
  · exact rfl
  cases e1 : famInt64S.q a.2 b.2
  · simp +contextual -implicitDefEqProofs only [qWord, bne, Bool.not_true, Bool.not_false, Bool.true_and, Bool.false_and, Bool.and_true, Bool.and_false, eWo, eS, e0, e1, go_sem, eI, eB, ↓reduceIte, Nat.reduceEqDiff, Nat.reduceAdd, Nat.reduceLeDiff, Nat.reduceMul, Nat.reduceBEq, Nat.reduceBneDiff, Nat.reduceLT, Nat.reduceSub, decide_true, decide_false, and_self, true_and, and_true, false_and, and_false, not_true_eq_false, not_false_eq_true, false_implies, true_implies, implies_true, ge_iff_le, Bool.false_eq_true, List.cons_append, List.nil_append]
  · simp +contextual -implicitDefEqProofs only [qWord, bne, Bool.not_true, Bool.not_false, Bool.true_and, Bool.false_and, Bool.and_true, Bool.and_false, eWo, eS, e0, e1, go_sem, eI, eB, ↓reduceIte, Nat.reduceEqDiff, Nat.reduceAdd, Nat.reduceLeDiff, Nat.reduceMul, Nat.reduceBEq, Nat.reduceBneDiff, Nat.reduceLT, Nat.reduceSub, decide_true, decide_false, and_self, true_and, and_true, false_and, and_false, not_true_eq_false, not_false_eq_true, false_implies, true_implies, implies_true, ge_iff_le, Bool.false_eq_true, List.cons_append, List.nil_append]
theorem qWord_refl (m : Wo) : qWord m m = true := by simp [qWord, famInt64S.q_refl, famInt64S.q_refl]
noncomputable def famWord : Fam Try.prog eWo 21 25 28 := ⟨szWord, tWord, qWord, fitWord, szWord_in, szWord_fit, qWord_refl, af21, af25, af28⟩
theorem famWord_t (x) : famWord.t x = tWord x := rfl
theorem law (g : Int × Int) (w : Wd) (s : Int) (v : Wo) : AF Try.prog 4 [eG g, eW w, eI s, eWo v] (.own (eB true)) := by
  refine af_of_res res4 mixed rfl fun hbd => ?_
  simp +contextual -implicitDefEqProofs only [rc4, eG, eW, eWo, eS, famWorld_t, tWorld, famWord_t, tWord, famInt64S_t, famInt64SS_t, bne_self_eq_false, go_sem, eI, eB, ↓reduceIte, Nat.reduceEqDiff, Nat.reduceAdd, Nat.reduceLeDiff, Nat.reduceMul, Nat.reduceBEq, Nat.reduceBneDiff, Nat.reduceLT, Nat.reduceSub, decide_true, decide_false, and_self, true_and, and_true, false_and, and_false, not_true_eq_false, not_false_eq_true, false_implies, true_implies, implies_true, ge_iff_le, Bool.false_eq_true, List.cons_append, List.nil_append]
  refine callQ_self ?_ (famWorld.afS w 1048576 (by omega) (by omega)) ?_
  · exact rfl
  simp +contextual -implicitDefEqProofs only [eG, eW, eWo, eS, famWorld_t, tWorld, famWord_t, tWord, famInt64S_t, famInt64SS_t, bne_self_eq_false, go_sem, eI, eB, ↓reduceIte, Nat.reduceEqDiff, Nat.reduceAdd, Nat.reduceLeDiff, Nat.reduceMul, Nat.reduceBEq, Nat.reduceBneDiff, Nat.reduceLT, Nat.reduceSub, decide_true, decide_false, and_self, true_and, and_true, false_and, and_false, not_true_eq_false, not_false_eq_true, false_implies, true_implies, implies_true, ge_iff_le, Bool.false_eq_true, List.cons_append, List.nil_append]
  have sb0 := famWorld.s_in w 1048576 (by omega) (by omega)
  refine fun hs0 => ?_
  have hf0 := famWorld.s_fit w 1048576 (by omega) (by omega) (by omega)
  refine callQ_self ?_ (famWord.afS v (famWorld.s w 1048576) (by omega) (by omega)) ?_
  · exact rfl
  simp +contextual -implicitDefEqProofs only [eG, eW, eWo, eS, famWorld_t, tWorld, famWord_t, tWord, famInt64S_t, famInt64SS_t, bne_self_eq_false, go_sem, eI, eB, ↓reduceIte, Nat.reduceEqDiff, Nat.reduceAdd, Nat.reduceLeDiff, Nat.reduceMul, Nat.reduceBEq, Nat.reduceBneDiff, Nat.reduceLT, Nat.reduceSub, decide_true, decide_false, and_self, true_and, and_true, false_and, and_false, not_true_eq_false, not_false_eq_true, false_implies, true_implies, implies_true, ge_iff_le, Bool.false_eq_true, List.cons_append, List.nil_append]
  have sb1 := famWord.s_in v (famWorld.s w 1048576) (by omega) (by omega)
  refine fun hs1 => ?_
  have hf1 := famWord.s_fit v (famWorld.s w 1048576) (by omega) (by omega) (by omega)
  refine callQ_self ?_ (af23 g) ?_
  · exact rfl
  simp +contextual -implicitDefEqProofs only [eG, eW, eWo, eS, famWorld_t, tWorld, famWord_t, tWord, famInt64S_t, famInt64SS_t, bne_self_eq_false, go_sem, eI, eB, ↓reduceIte, Nat.reduceEqDiff, Nat.reduceAdd, Nat.reduceLeDiff, Nat.reduceMul, Nat.reduceBEq, Nat.reduceBneDiff, Nat.reduceLT, Nat.reduceSub, decide_true, decide_false, and_self, true_and, and_true, false_and, and_false, not_true_eq_false, not_false_eq_true, false_implies, true_implies, implies_true, ge_iff_le, Bool.false_eq_true, List.cons_append, List.nil_append]
  refine callQ_self ?_ (famWorld.afT w hf0) ?_
  · exact rfl
  simp +contextual -implicitDefEqProofs only [eG, eW, eWo, eS, famWorld_t, tWorld, famWord_t, tWord, famInt64S_t, famInt64SS_t, bne_self_eq_false, go_sem, eI, eB, ↓reduceIte, Nat.reduceEqDiff, Nat.reduceAdd, Nat.reduceLeDiff, Nat.reduceMul, Nat.reduceBEq, Nat.reduceBneDiff, Nat.reduceLT, Nat.reduceSub, decide_true, decide_false, and_self, true_and, and_true, false_and, and_false, not_true_eq_false, not_false_eq_true, false_implies, true_implies, implies_true, ge_iff_le, Bool.false_eq_true, List.cons_append, List.nil_append]
  refine callQ_self ?_ (famWord.afT v hf1) ?_
  · exact rfl
  simp +contextual -implicitDefEqProofs only [eG, eW, eWo, eS, famWorld_t, tWorld, famWord_t, tWord, famInt64S_t, famInt64SS_t, bne_self_eq_false, go_sem, eI, eB, ↓reduceIte, Nat.reduceEqDiff, Nat.reduceAdd, Nat.reduceLeDiff, Nat.reduceMul, Nat.reduceBEq, Nat.reduceBneDiff, Nat.reduceLT, Nat.reduceSub, decide_true, decide_false, and_self, true_and, and_true, false_and, and_false, not_true_eq_false, not_false_eq_true, false_implies, true_implies, implies_true, ge_iff_le, Bool.false_eq_true, List.cons_append, List.nil_append]
  refine callQ_self ?_ (af22 g (famWorld.t w) s (famWord.t v)) ?_
  · exact rfl
  simp +contextual -implicitDefEqProofs only [eG, eW, eWo, eS, famWorld_t, tWorld, famWord_t, tWord, famInt64S_t, famInt64SS_t, bne_self_eq_false, go_sem, eI, eB, ↓reduceIte, Nat.reduceEqDiff, Nat.reduceAdd, Nat.reduceLeDiff, Nat.reduceMul, Nat.reduceBEq, Nat.reduceBneDiff, Nat.reduceLT, Nat.reduceSub, decide_true, decide_false, and_self, true_and, and_true, false_and, and_false, not_true_eq_false, not_false_eq_true, false_implies, true_implies, implies_true, ge_iff_le, Bool.false_eq_true, List.cons_append, List.nil_append]
  refine callQ_self ?_ (famWorld.afT w hf0) ?_
  · exact rfl
  simp +contextual -implicitDefEqProofs only [eG, eW, eWo, eS, famWorld_t, tWorld, famWord_t, tWord, famInt64S_t, famInt64SS_t, bne_self_eq_false, go_sem, eI, eB, ↓reduceIte, Nat.reduceEqDiff, Nat.reduceAdd, Nat.reduceLeDiff, Nat.reduceMul, Nat.reduceBEq, Nat.reduceBneDiff, Nat.reduceLT, Nat.reduceSub, decide_true, decide_false, and_self, true_and, and_true, false_and, and_false, not_true_eq_false, not_false_eq_true, false_implies, true_implies, implies_true, ge_iff_le, Bool.false_eq_true, List.cons_append, List.nil_append]
  refine callQ_self ?_ (famWord.afT v hf1) ?_
  · exact rfl
  simp +contextual -implicitDefEqProofs only [eG, eW, eWo, eS, famWorld_t, tWorld, famWord_t, tWord, famInt64S_t, famInt64SS_t, bne_self_eq_false, go_sem, eI, eB, ↓reduceIte, Nat.reduceEqDiff, Nat.reduceAdd, Nat.reduceLeDiff, Nat.reduceMul, Nat.reduceBEq, Nat.reduceBneDiff, Nat.reduceLT, Nat.reduceSub, decide_true, decide_false, and_self, true_and, and_true, false_and, and_false, not_true_eq_false, not_false_eq_true, false_implies, true_implies, implies_true, ge_iff_le, Bool.false_eq_true, List.cons_append, List.nil_append]
  refine callQ_self ?_ (af23 g) ?_
  · exact rfl
  simp +contextual -implicitDefEqProofs only [eG, eW, eWo, eS, famWorld_t, tWorld, famWord_t, tWord, famInt64S_t, famInt64SS_t, bne_self_eq_false, go_sem, eI, eB, ↓reduceIte, Nat.reduceEqDiff, Nat.reduceAdd, Nat.reduceLeDiff, Nat.reduceMul, Nat.reduceBEq, Nat.reduceBneDiff, Nat.reduceLT, Nat.reduceSub, decide_true, decide_false, and_self, true_and, and_true, false_and, and_false, not_true_eq_false, not_false_eq_true, false_implies, true_implies, implies_true, ge_iff_le, Bool.false_eq_true, List.cons_append, List.nil_append]
  refine callQ_self ?_ (af26 g (famWorld.t w) s (famWord.t v)) ?_
  · exact rfl
  simp +contextual -implicitDefEqProofs only [eG, eW, eWo, eS, famWorld_t, tWorld, famWord_t, tWord, famInt64S_t, famInt64SS_t, bne_self_eq_false, go_sem, eI, eB, ↓reduceIte, Nat.reduceEqDiff, Nat.reduceAdd, Nat.reduceLeDiff, Nat.reduceMul, Nat.reduceBEq, Nat.reduceBneDiff, Nat.reduceLT, Nat.reduceSub, decide_true, decide_false, and_self, true_and, and_true, false_and, and_false, not_true_eq_false, not_false_eq_true, false_implies, true_implies, implies_true, ge_iff_le, Bool.false_eq_true, List.cons_append, List.nil_append]
  refine callQ_self ?_ (famWorld.afT w hf0) ?_
  · exact rfl
  simp +contextual -implicitDefEqProofs only [eG, eW, eWo, eS, famWorld_t, tWorld, famWord_t, tWord, famInt64S_t, famInt64SS_t, bne_self_eq_false, go_sem, eI, eB, ↓reduceIte, Nat.reduceEqDiff, Nat.reduceAdd, Nat.reduceLeDiff, Nat.reduceMul, Nat.reduceBEq, Nat.reduceBneDiff, Nat.reduceLT, Nat.reduceSub, decide_true, decide_false, and_self, true_and, and_true, false_and, and_false, not_true_eq_false, not_false_eq_true, false_implies, true_implies, implies_true, ge_iff_le, Bool.false_eq_true, List.cons_append, List.nil_append]
  refine callQ_self ?_ (famWorld.afQ (famWorld.t w) (famWorld.t w)) ?_
  · exact rfl
  simp +contextual -implicitDefEqProofs only [famWorld.q_refl, Bool.not_true, eG, eW, eWo, eS, famWorld_t, tWorld, famWord_t, tWord, famInt64S_t, famInt64SS_t, bne_self_eq_false, go_sem, eI, eB, ↓reduceIte, Nat.reduceEqDiff, Nat.reduceAdd, Nat.reduceLeDiff, Nat.reduceMul, Nat.reduceBEq, Nat.reduceBneDiff, Nat.reduceLT, Nat.reduceSub, decide_true, decide_false, and_self, true_and, and_true, false_and, and_false, not_true_eq_false, not_false_eq_true, false_implies, true_implies, implies_true, ge_iff_le, Bool.false_eq_true, List.cons_append, List.nil_append]
  refine callQ_self ?_ (famWord.afT v hf1) ?_
  · exact rfl
  simp +contextual -implicitDefEqProofs only [eG, eW, eWo, eS, famWorld_t, tWorld, famWord_t, tWord, famInt64S_t, famInt64SS_t, bne_self_eq_false, go_sem, eI, eB, ↓reduceIte, Nat.reduceEqDiff, Nat.reduceAdd, Nat.reduceLeDiff, Nat.reduceMul, Nat.reduceBEq, Nat.reduceBneDiff, Nat.reduceLT, Nat.reduceSub, decide_true, decide_false, and_self, true_and, and_true, false_and, and_false, not_true_eq_false, not_false_eq_true, false_implies, true_implies, implies_true, ge_iff_le, Bool.false_eq_true, List.cons_append, List.nil_append]
  refine callQ_self ?_ (famWord.afQ (famWord.t v) (famWord.t v)) ?_
  · exact rfl
  simp +contextual -implicitDefEqProofs only [famWord.q_refl, Bool.not_true, eG, eW, eWo, eS, famWorld_t, tWorld, famWord_t, tWord, famInt64S_t, famInt64SS_t, bne_self_eq_false, go_sem, eI, eB, ↓reduceIte, Nat.reduceEqDiff, Nat.reduceAdd, Nat.reduceLeDiff, Nat.reduceMul, Nat.reduceBEq, Nat.reduceBneDiff, Nat.reduceLT, Nat.reduceSub, decide_true, decide_false, and_self, true_and, and_true, false_and, and_false, not_true_eq_false, not_false_eq_true, false_implies, true_implies, implies_true, ge_iff_le, Bool.false_eq_true, List.cons_append, List.nil_append]
end Go.Ax
