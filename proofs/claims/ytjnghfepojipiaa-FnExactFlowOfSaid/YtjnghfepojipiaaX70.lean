/- Contracts of functions of the seat, proved over the engine. No condition. -/
import Derived.Test.YtjnghfepojipiaaEnI
import Derived.Test.YtjnghfepojipiaaX12
import Derived.Test.YtjnghfepojipiaaX13
import Derived.Test.YtjnghfepojipiaaX63
set_option linter.unusedSimpArgs false
set_option linter.unusedVariables false
set_option linter.unnecessarySimpa false
namespace Go.Ax
set_option linter.unusedSimpArgs false
set_option maxRecDepth 20000
set_option maxHeartbeats 4000000
def E0 : Ex := .mk 0 0 (some true) []
abbrev MkF := Int → List Sp → List Sp × Int
def opF (k n : Int) (c : Ex) (fs : List MkF) (to : Int) (l : List Sp) : List Sp × Int :=
  if k = 1 then (l, to)
  else if k = 2 then (l ++ [(4, 0, E0, 0, 0)], l.length)
  else if k = 3 then (l ++ [(1, n, E0, to, 0)], l.length)
  else if k = 4 then (l ++ [(4, 0, E0, 0, 0)] ++ [((2, 0, cpE c, to, (l.length : Int)) : Sp)], (l ++ [((4, 0, E0, 0, 0) : Sp)]).length)
  else if k = 5 then (fs.getD 0 default) ((fs.getD 1 default) to l).2 ((fs.getD 1 default) to l).1
  else if k = 6 then
    let a := (fs.getD 0 default) to l
    let b := (fs.getD 1 default) to a.1
    (b.1 ++ [(2, 0, cpE c, a.2, b.2)], b.1.length)
  else
    let a := (fs.getD 0 default) l.length (l ++ [(2, 0, cpE c, 0, to)])
    (a.1.set l.length (let s := a.1.getD l.length default; (s.1, s.2.1, s.2.2.1, a.2, s.2.2.2.2)), l.length)
mutual
def flowP : Pg → MkF
  | .mk k n c _ ks => opF k n c (flowPs ks)
def flowPs : List Pg → List MkF
  | [] => []
  | e :: es => flowP e :: flowPs es
end
theorem flowPs_eq : ∀ ks : List Pg, flowPs ks = ks.map flowP
  | [] => rfl
  | e :: es => by simp [flowPs, flowPs_eq es]
theorem flowP_mk (k n : Int) (c : Ex) (nn : Option Bool) (ks : List Pg) : flowP (.mk k n c nn ks) = opF k n c (ks.map flowP) := by rw [flowP, flowPs_eq]

def uFl (s : Int) (l : List Sp) : U := .ar true none 2 [.ag [eI s, .ls (some false) 7 (l.map eSp)]]
def sgSp (k n to els : Int) : AV := .sg [.im none (eI k), .im none (eI n), .im none (eI 0), .im none (eI 0), .im none (.ls (some true) 3 []), .im none (eI to), .im none (eI els)]
def sgSpC (k n to els : Int) : AV := .sg [.im none (eI k), .im none (eI n), .tr 3000000001, .im none (eI to), .im none (eI els)]

def k_flAdd : RC := (.seq (.reg false [⟨none, .box 3 7 (.t 1)⟩, ⟨none, .mv 4 (.c (.sc (.int .i64 0)))⟩]) ((.seq (.reg true [⟨none, .mv 5 (.t 0)⟩, ⟨none, .mv 6 (.t 0)⟩, ⟨none, .nck 7 (.t 6)⟩, ⟨none, .fa 8 1 (.t 7)⟩, ⟨none, .ld 9 false 1 (.t 8)⟩, ⟨none, .ld 10 true 7 (.t 3)⟩, ⟨none, .bs 11 7 (.ag [(.sc (.int .i64 0)), (.sc (.int .i64 0)), (.sc (.int .i64 0)), (.sc (.int .i64 0)), (.ls (some true) 3 []), (.sc (.int .i64 0)), (.sc (.int .i64 0))]) 1 [(0, (.t 10))]⟩, ⟨none, .app 12 7 72 (.t 9) (.t 11)⟩, ⟨none, .nck 13 (.t 5)⟩, ⟨none, .fa 14 1 (.t 13)⟩, ⟨none, .st 1 (.t 14) (.t 12)⟩]) ((.seq (.reg false [⟨none, .mv 15 (.t 0)⟩, ⟨none, .nck 16 (.t 15)⟩, ⟨none, .fa 17 1 (.t 16)⟩, ⟨none, .ld 18 false 1 (.t 17)⟩, ⟨none, .len 19 (.t 18)⟩, ⟨none, .bin 20 .sub (.t 19) (.c (.sc (.int .i64 1)))⟩, ⟨none, .mv 4 (.t 20)⟩]) (.ret))))))
def K_flAdd (P : Program) (fno : Nat) : Prop := (∀ (s : Int) (l : List Sp) (k n to els : Int), l.length ≤ 1000000000 → AFW P fno [uFl s l] [.pw 3000000000 0 0, sgSp k n to els] [uFl s (l ++ [(k, n, E0, to, els)])] (.own (eI l.length))) ∧
  (∀ (s : Int) (l : List Sp) (k n to els : Int) (c : Ex), l.length ≤ 1000000000 → AFW P fno [uFl s l, .own (eE c)] [.pw 3000000000 0 0, sgSpC k n to els] [uFl s (l ++ [(k, n, c, to, els)])] (.own (eI l.length)))
theorem a_flAdd {P : Program} (hm : P.follows .mixedOrders = true) {g : Nat} (hr : resF P g = some (21, k_flAdd, [.t 4])) : K_flAdd P g := by
  refine ⟨fun s l k n to els hl => ?_, fun s l k n to els c hl => ?_⟩
  · refine afw_of_res (wv := false) hr hm rfl rfl rfl fun hb ha => ?_
    simp +contextual -implicitDefEqProofs only [k_flAdd, uFl, sgSp, isAg_ag, atA0, List.map_cons, List.map_nil, List.length_cons, List.length_nil, D.cells, D.size, modeOf, noPtrs, List.length_map, eI, sub_ag, beq_self_eq_true, bne, Bool.not_false, Bool.true_and, Bool.false_and, Bool.and_true, Bool.or_true, Bool.or_false, go_sem, ↓reduceIte, Nat.reduceEqDiff, Nat.reduceAdd, Nat.reduceLeDiff, Nat.reduceMul, Nat.reduceBEq, Nat.reduceLT, Bool.false_eq_true, List.cons_append, List.nil_append]
    refine ⟨rfl, ⟨by decide, rfl⟩, ⟨by omega, by unfold maxEl; omega, by simp [D.size, D.sizeL]⟩, D.Le.sc_eq ?_, ?_⟩
    · simp only [List.length_append, List.length_map, List.length_cons, List.length_nil, Nat.zero_add, Int.natCast_add, Int.cast_ofNat_Int]
      rw [wrap_i64 (by omega) (by omega)]
      congr 1
      omega
    · simp [eSp, eI, E0, Ex.k, Ex.n, Ex.nn, Ex.ks]
  · rw [eE_eta c]
    refine afw_of_res (wv := false) hr hm rfl rfl rfl fun hb ha => ?_
    simp +contextual -implicitDefEqProofs only [k_flAdd, uFl, sgSpC, isAg_ag, atA0, List.map_cons, List.map_nil, List.length_cons, List.length_nil, D.cells, D.size, D.sizeL, modeOf, noPtrs, List.length_map, eI, sub_ag, beq_self_eq_true, bne, Bool.not_false, Bool.true_and, Bool.false_and, Bool.and_true, Bool.true_or, Bool.or_true, Bool.or_false, go_sem, ↓reduceIte, Nat.reduceEqDiff, Nat.reduceAdd, Nat.reduceLeDiff, Nat.reduceMul, Nat.reduceBEq, Nat.reduceLT, Bool.false_eq_true, List.cons_append, List.nil_append]
    refine ⟨rfl, ⟨by decide, rfl⟩, ⟨by omega, by unfold maxEl; omega, by simp [D.size, D.sizeL]⟩, D.Le.sc_eq ?_, ?_⟩
    · simp only [List.length_append, List.length_map, List.length_cons, List.length_nil, Nat.zero_add, Int.natCast_add, Int.cast_ofNat_Int]
      rw [wrap_i64 (by omega) (by omega)]
      congr 1
      omega
    · simp [eSp, eI]

def k_l06Add : RC := (.seq (.reg false [⟨none, .box 3 7 (.t 1)⟩, ⟨none, .mv 4 (.c (.sc (.int .i64 0)))⟩]) ((.seq (.reg true [⟨none, .mv 5 (.t 0)⟩, ⟨none, .mv 6 (.t 0)⟩, ⟨none, .nck 7 (.t 6)⟩, ⟨none, .fa 8 1 (.t 7)⟩, ⟨none, .ld 9 false 1 (.t 8)⟩, ⟨none, .ld 10 true 7 (.t 3)⟩, ⟨none, .bs 11 7 (.ag [(.sc (.int .i64 0)), (.sc (.int .i64 0)), (.sc (.int .i64 0)), (.sc (.int .i64 0)), (.ls (some true) 3 []), (.sc (.int .i64 0)), (.sc (.int .i64 0))]) 1 [(0, (.t 10))]⟩, ⟨none, .app 12 7 72 (.t 9) (.t 11)⟩, ⟨none, .nck 13 (.t 5)⟩, ⟨none, .fa 14 1 (.t 13)⟩, ⟨none, .st 1 (.t 14) (.t 12)⟩]) ((.seq (.reg false [⟨none, .mv 15 (.t 0)⟩, ⟨none, .nck 16 (.t 15)⟩, ⟨none, .fa 17 1 (.t 16)⟩, ⟨none, .ld 18 false 1 (.t 17)⟩, ⟨none, .len 19 (.t 18)⟩, ⟨none, .bin 20 .sub (.t 19) (.c (.sc (.int .i64 1)))⟩, ⟨none, .mv 4 (.t 20)⟩]) (.ret))))))
def K_l06Add (P : Program) (fno : Nat) : Prop := (∀ (s : Int) (l : List Sp) (k n to els : Int), l.length ≤ 1000000000 → AFW P fno [uFl s l] [.pw 3000000000 0 0, sgSp k n to els] [uFl s (l ++ [(k, n, E0, to, els)])] (.own (eI l.length))) ∧
  (∀ (s : Int) (l : List Sp) (k n to els : Int) (c : Ex), l.length ≤ 1000000000 → AFW P fno [uFl s l, .own (eE c)] [.pw 3000000000 0 0, sgSpC k n to els] [uFl s (l ++ [(k, n, c, to, els)])] (.own (eI l.length)))
theorem a_l06Add {P : Program} (hm : P.follows .mixedOrders = true) {g : Nat} (hr : resF P g = some (21, k_l06Add, [.t 4])) : K_l06Add P g := by
  refine ⟨fun s l k n to els hl => ?_, fun s l k n to els c hl => ?_⟩
  · refine afw_of_res (wv := false) hr hm rfl rfl rfl fun hb ha => ?_
    simp +contextual -implicitDefEqProofs only [k_l06Add, uFl, sgSp, isAg_ag, atA0, List.map_cons, List.map_nil, List.length_cons, List.length_nil, D.cells, D.size, modeOf, noPtrs, List.length_map, eI, sub_ag, beq_self_eq_true, bne, Bool.not_false, Bool.true_and, Bool.false_and, Bool.and_true, Bool.or_true, Bool.or_false, go_sem, ↓reduceIte, Nat.reduceEqDiff, Nat.reduceAdd, Nat.reduceLeDiff, Nat.reduceMul, Nat.reduceBEq, Nat.reduceLT, Bool.false_eq_true, List.cons_append, List.nil_append]
    refine ⟨rfl, ⟨by decide, rfl⟩, ⟨by omega, by unfold maxEl; omega, by simp [D.size, D.sizeL]⟩, D.Le.sc_eq ?_, ?_⟩
    · simp only [List.length_append, List.length_map, List.length_cons, List.length_nil, Nat.zero_add, Int.natCast_add, Int.cast_ofNat_Int]
      rw [wrap_i64 (by omega) (by omega)]
      congr 1
      omega
    · simp [eSp, eI, E0, Ex.k, Ex.n, Ex.nn, Ex.ks]
  · rw [eE_eta c]
    refine afw_of_res (wv := false) hr hm rfl rfl rfl fun hb ha => ?_
    simp +contextual -implicitDefEqProofs only [k_l06Add, uFl, sgSpC, isAg_ag, atA0, List.map_cons, List.map_nil, List.length_cons, List.length_nil, D.cells, D.size, D.sizeL, modeOf, noPtrs, List.length_map, eI, sub_ag, beq_self_eq_true, bne, Bool.not_false, Bool.true_and, Bool.false_and, Bool.and_true, Bool.true_or, Bool.or_true, Bool.or_false, go_sem, ↓reduceIte, Nat.reduceEqDiff, Nat.reduceAdd, Nat.reduceLeDiff, Nat.reduceMul, Nat.reduceBEq, Nat.reduceLT, Bool.false_eq_true, List.cons_append, List.nil_append]
    refine ⟨rfl, ⟨by decide, rfl⟩, ⟨by omega, by unfold maxEl; omega, by simp [D.size, D.sizeL]⟩, D.Le.sc_eq ?_, ?_⟩
    · simp only [List.length_append, List.length_map, List.length_cons, List.length_nil, Nat.zero_add, Int.natCast_add, Int.cast_ofNat_Int]
      rw [wrap_i64 (by omega) (by omega)]
      congr 1
      omega
    · simp [eSp, eI]
section
variable {n : Int} {c : Ex} {fs : List MkF} {to : Int} {l : List Sp} {a b : Pg}
theorem opF_1 : opF 1 n c fs to l = (l, to) := by simp [opF]
theorem opF_2 : opF 2 n c fs to l = (l ++ [(4, 0, E0, 0, 0)], (l.length : Int)) := by simp [opF]
theorem opF_3 : opF 3 n c fs to l = (l ++ [(1, n, E0, to, 0)], (l.length : Int)) := by simp [opF]
theorem opF_4 : opF 4 n c fs to l = (l ++ [(4, 0, E0, 0, 0)] ++ [((2, 0, cpE c, to, (l.length : Int)) : Sp)], ((l ++ [((4, 0, E0, 0, 0) : Sp)]).length : Int)) := by simp [opF]
theorem opF_5 : opF 5 n c ([a, b].map flowP) to l = flowP a (flowP b to l).2 (flowP b to l).1 := by simp [opF]
theorem opF_6 : opF 6 n c ([a, b].map flowP) to l = ((flowP b to (flowP a to l).1).1 ++ [(2, 0, cpE c, (flowP a to l).2, (flowP b to (flowP a to l).1).2)], ((flowP b to (flowP a to l).1).1.length : Int)) := by simp [opF]

def toSp (l : List Sp) (i : Nat) (v : Int) : List Sp := l.set i (let s := l.getD i default; (s.1, s.2.1, s.2.2.1, v, s.2.2.2.2))
theorem opF_7 : opF 7 n c ([a].map flowP) to l = (toSp (flowP a l.length (l ++ [(2, 0, cpE c, 0, to)])).1 l.length (flowP a l.length (l ++ [(2, 0, cpE c, 0, to)])).2, (l.length : Int)) := by simp [opF, toSp]
theorem toSp_len {i : Nat} {v : Int} : (toSp l i v).length = l.length := by simp [toSp]
theorem toSp_map {i : Nat} {v : Int} (h : i < l.length) : (l.map eSp).set i (D.put 7 (D.at (l.map eSp) i) 5 1 (.sc (.int .i64 v))) = (toSp l i v).map eSp := by
  rw [at_map h, toSp, List.map_set]
  congr 1
  simp only [List.getD, List.getElem?_eq_getElem h, Option.getD_some]
  rfl
end
theorem sizePs_two {a b : Pg} : sizePs [a, b] = sizeP a + sizeP b := by simp [sizePs]
theorem sizePs_one {a : Pg} : sizePs [a] = sizeP a := by simp [sizePs]
theorem flow_len (gs : Int × Int) : ∀ (p : Pg), treeP gs p = true → ∀ (k : Int) (l : List Sp), l.length ≤ (flowP p k l).1.length ∧ (flowP p k l).1.length ≤ l.length + 2 * sizeP p :=
  Pg.ind fun k n c nn ks ih hT to l => by
    rw [flowP_mk, sizeP_mk]
    rw [treeP_mk, Bool.and_eq_true, List.all_eq_true] at hT
    rcases kinds hT.1 with ⟨rfl, rfl⟩ | ⟨rfl, rfl⟩ | ⟨rfl, rfl⟩ | ⟨rfl, rfl⟩ | ⟨rfl, a, b, rfl⟩ | ⟨rfl, a, b, rfl⟩ | ⟨rfl, a, rfl⟩
    · rw [opF_1]; simp
    · rw [opF_2]; simp; omega
    · rw [opF_3]; simp; omega
    · rw [opF_4]; simp; omega
    · rw [opF_5, sizePs_two]
      have h1 := ih b (by simp) (hT.2 b (by simp)) to l
      have h2 := ih a (by simp) (hT.2 a (by simp)) (flowP b to l).2 (flowP b to l).1
      omega
    · rw [opF_6, sizePs_two]
      have h1 := ih a (by simp) (hT.2 a (by simp)) to l
      have h2 := ih b (by simp) (hT.2 b (by simp)) to (flowP a to l).1
      simp only [List.length_append, List.length_cons, List.length_nil]
      omega
    · rw [opF_7, sizePs_one]
      have h1 := ih a (by simp) (hT.2 a (by simp)) l.length (l ++ [(2, 0, cpE c, 0, to)])
      simp only [List.length_append, List.length_cons, List.length_nil] at h1
      simp only [toSp_len]
      omega

def k_flMake (g f1 f2 : Nat) : RC := (.seq (.reg false [⟨none, .box 4 6 (.t 1)⟩, ⟨none, .mv 6 (.c (.sc (.int .i64 0)))⟩]) ((.seq ((.seq (.reg false [⟨none, .fa 12 0 (.t 4)⟩, ⟨none, .ld 13 false 1 (.t 12)⟩]) (.blk 0 ((.seq (.reg false [⟨none, .bin 15 .eql (.t 13) (.c (.sc (.int .i64 2)))⟩, ⟨none, .mv 14 (.t 15)⟩]) (.cond (.t 14) ((.seq (.reg false [⟨none, .mv 16 (.t 0)⟩, ⟨none, .bld 17 (.ag [(.sc (.int .i64 0)), (.sc (.int .i64 0)), (.sc (.int .i64 0)), (.sc (.int .i64 0)), (.ls (some true) 3 []), (.sc (.int .i64 0)), (.sc (.int .i64 0))]) [(0, 1, (.c (.sc (.int .i64 4))))]⟩, ⟨none, .wcl (some 18) f1 [(.t 16), (.t 17)]⟩, ⟨none, .mv 6 (.t 18)⟩]) (.ret))) ((.seq (.reg false [⟨none, .bin 20 .eql (.t 13) (.c (.sc (.int .i64 3)))⟩, ⟨none, .mv 19 (.t 20)⟩]) (.cond (.t 19) ((.seq (.reg false [⟨none, .mv 21 (.t 0)⟩, ⟨none, .fa 22 1 (.t 4)⟩, ⟨none, .ld 23 false 1 (.t 22)⟩, ⟨none, .mv 24 (.t 2)⟩, ⟨none, .bld 25 (.ag [(.sc (.int .i64 0)), (.sc (.int .i64 0)), (.sc (.int .i64 0)), (.sc (.int .i64 0)), (.ls (some true) 3 []), (.sc (.int .i64 0)), (.sc (.int .i64 0))]) [(0, 1, (.c (.sc (.int .i64 1)))), (1, 1, (.t 23)), (5, 1, (.t 24))]⟩, ⟨none, .wcl (some 26) f1 [(.t 21), (.t 25)]⟩, ⟨none, .mv 6 (.t 26)⟩]) (.ret))) ((.seq (.reg false [⟨none, .bin 28 .eql (.t 13) (.c (.sc (.int .i64 4)))⟩, ⟨none, .mv 27 (.t 28)⟩]) (.cond (.t 27) ((.seq (.reg false [⟨none, .mv 29 (.t 0)⟩, ⟨none, .bld 30 (.ag [(.sc (.int .i64 0)), (.sc (.int .i64 0)), (.sc (.int .i64 0)), (.sc (.int .i64 0)), (.ls (some true) 3 []), (.sc (.int .i64 0)), (.sc (.int .i64 0))]) [(0, 1, (.c (.sc (.int .i64 4))))]⟩, ⟨none, .wcl (some 31) f1 [(.t 29), (.t 30)]⟩, ⟨none, .mv 7 (.t 31)⟩]) ((.seq (.reg false [⟨none, .mv 32 (.t 0)⟩, ⟨none, .fa 33 2 (.t 4)⟩, ⟨none, .ld 34 true 3 (.t 33)⟩, ⟨none, .call (some 35) f2 [(.t 34)]⟩, ⟨none, .mv 36 (.t 2)⟩, ⟨none, .mv 37 (.t 7)⟩, ⟨none, .bld 38 (.ag [(.sc (.int .i64 0)), (.sc (.int .i64 0)), (.sc (.int .i64 0)), (.sc (.int .i64 0)), (.ls (some true) 3 []), (.sc (.int .i64 0)), (.sc (.int .i64 0))]) [(0, 1, (.c (.sc (.int .i64 2)))), (2, 3, (.t 35)), (5, 1, (.t 36)), (6, 1, (.t 37))]⟩, ⟨none, .wcl (some 39) f1 [(.t 32), (.t 38)]⟩, ⟨none, .mv 6 (.t 39)⟩]) (.ret))))) ((.seq (.reg false [⟨none, .bin 41 .eql (.t 13) (.c (.sc (.int .i64 5)))⟩, ⟨none, .mv 40 (.t 41)⟩]) (.cond (.t 40) ((.seq (.regL [⟨none, .mv 42 (.t 0)⟩, ⟨none, .fa 43 5 (.t 4)⟩, ⟨none, .ld 44 false 1 (.t 43)⟩, ⟨none, .ia 45 6 (.t 44) (.c (.sc (.int .i64 0)))⟩, ⟨none, .ld 46 true 6 (.t 45)⟩, ⟨none, .mv 47 (.t 0)⟩, ⟨none, .fa 48 5 (.t 4)⟩, ⟨none, .ld 49 false 1 (.t 48)⟩, ⟨none, .ia 50 6 (.t 49) (.c (.sc (.int .i64 1)))⟩, ⟨none, .ld 51 true 6 (.t 50)⟩, ⟨none, .mv 52 (.t 2)⟩] [([(.ld 44 false 1 (.t 43)), (.ia 45 6 (.t 44) (.c (.sc (.int .i64 0)))), (.ld 46 true 6 (.t 45))], ⟨none, .wcl (some 53) g [(.t 47), (.t 51), (.t 52)]⟩), ([(.ld 44 false 1 (.t 43)), (.ia 45 6 (.t 44) (.c (.sc (.int .i64 0)))), (.ld 46 true 6 (.t 45))], ⟨none, .wcl (some 54) g [(.t 42), (.t 46), (.t 53)]⟩), ([], ⟨none, .mv 6 (.t 54)⟩)]) (.ret))) ((.seq (.reg false [⟨none, .bin 56 .eql (.t 13) (.c (.sc (.int .i64 6)))⟩, ⟨none, .mv 55 (.t 56)⟩]) (.cond (.t 55) ((.seq (.reg false [⟨none, .mv 57 (.t 0)⟩, ⟨none, .fa 58 5 (.t 4)⟩, ⟨none, .ld 59 false 1 (.t 58)⟩, ⟨none, .ia 60 6 (.t 59) (.c (.sc (.int .i64 0)))⟩, ⟨none, .ld 61 true 6 (.t 60)⟩, ⟨none, .mv 62 (.t 2)⟩, ⟨none, .wcl (some 63) g [(.t 57), (.t 61), (.t 62)]⟩, ⟨none, .mv 8 (.t 63)⟩]) ((.seq (.reg false [⟨none, .mv 64 (.t 0)⟩, ⟨none, .fa 65 5 (.t 4)⟩, ⟨none, .ld 66 false 1 (.t 65)⟩, ⟨none, .ia 67 6 (.t 66) (.c (.sc (.int .i64 1)))⟩, ⟨none, .ld 68 true 6 (.t 67)⟩, ⟨none, .mv 69 (.t 2)⟩, ⟨none, .wcl (some 70) g [(.t 64), (.t 68), (.t 69)]⟩, ⟨none, .mv 9 (.t 70)⟩]) ((.seq (.reg false [⟨none, .mv 71 (.t 0)⟩, ⟨none, .fa 72 2 (.t 4)⟩, ⟨none, .ld 73 true 3 (.t 72)⟩, ⟨none, .call (some 74) f2 [(.t 73)]⟩, ⟨none, .mv 75 (.t 8)⟩, ⟨none, .mv 76 (.t 9)⟩, ⟨none, .bld 77 (.ag [(.sc (.int .i64 0)), (.sc (.int .i64 0)), (.sc (.int .i64 0)), (.sc (.int .i64 0)), (.ls (some true) 3 []), (.sc (.int .i64 0)), (.sc (.int .i64 0))]) [(0, 1, (.c (.sc (.int .i64 2)))), (2, 3, (.t 74)), (5, 1, (.t 75)), (6, 1, (.t 76))]⟩, ⟨none, .wcl (some 78) f1 [(.t 71), (.t 77)]⟩, ⟨none, .mv 6 (.t 78)⟩]) (.ret))))))) ((.seq (.reg false [⟨none, .bin 80 .eql (.t 13) (.c (.sc (.int .i64 7)))⟩, ⟨none, .mv 79 (.t 80)⟩]) (.cond (.t 79) ((.seq (.reg false [⟨none, .mv 81 (.t 0)⟩, ⟨none, .fa 82 2 (.t 4)⟩, ⟨none, .ld 83 true 3 (.t 82)⟩, ⟨none, .call (some 84) f2 [(.t 83)]⟩, ⟨none, .mv 85 (.t 2)⟩, ⟨none, .bld 86 (.ag [(.sc (.int .i64 0)), (.sc (.int .i64 0)), (.sc (.int .i64 0)), (.sc (.int .i64 0)), (.ls (some true) 3 []), (.sc (.int .i64 0)), (.sc (.int .i64 0))]) [(0, 1, (.c (.sc (.int .i64 2)))), (2, 3, (.t 84)), (6, 1, (.t 85))]⟩, ⟨none, .wcl (some 87) f1 [(.t 81), (.t 86)]⟩, ⟨none, .mv 10 (.t 87)⟩]) ((.seq (.reg false [⟨none, .mv 88 (.t 0)⟩, ⟨none, .fa 89 5 (.t 4)⟩, ⟨none, .ld 90 false 1 (.t 89)⟩, ⟨none, .ia 91 6 (.t 90) (.c (.sc (.int .i64 0)))⟩, ⟨none, .ld 92 true 6 (.t 91)⟩, ⟨none, .mv 93 (.t 10)⟩, ⟨none, .wcl (some 94) g [(.t 88), (.t 92), (.t 93)]⟩, ⟨none, .mv 11 (.t 94)⟩]) ((.seq (.reg false [⟨none, .mv 95 (.t 0)⟩, ⟨none, .nck 96 (.t 95)⟩, ⟨none, .fa 97 1 (.t 96)⟩, ⟨none, .ld 98 false 1 (.t 97)⟩, ⟨none, .mv 99 (.t 10)⟩, ⟨none, .mv 100 (.t 11)⟩, ⟨none, .ia 101 7 (.t 98) (.t 99)⟩, ⟨none, .fa 102 5 (.t 101)⟩, ⟨none, .st 1 (.t 102) (.t 100)⟩]) ((.seq (.reg false [⟨none, .mv 103 (.t 10)⟩, ⟨none, .mv 6 (.t 103)⟩]) (.ret))))))))) (.skip)))))))))))))))))))))) ((.seq (.reg false [⟨none, .mv 104 (.t 2)⟩, ⟨none, .mv 6 (.t 104)⟩]) (.ret))))))
def K_flMake (P : Program) (fno : Nat) : Prop := ∀ (gs : Int × Int) (p : Pg), fitP p → treeP gs p = true → ∀ (s k : Int) (l : List Sp), l.length + 2 * sizeP p ≤ 1000000000 → AFW P fno [uFl s l] [.pw 3000000000 0 0, .im none (eP p), .im none (eI k)] [uFl s (flowP p k l).1] (.own (eI (flowP p k l).2))
theorem a_flMake {P : Program} (hm : P.follows .mixedOrders = true) {g f1 f2 : Nat} (hr : resF P g = some (105, k_flMake g f1 f2, [.t 6])) (hc1 : K_flAdd P f1) (hc2 : K_copyExpr P f2) : K_flMake P g := by
  intro gs p hf hT s k l hl
  refine Pg.ind (p := fun p => fitP p → treeP gs p = true → ∀ (s k : Int) (l : List Sp), l.length + 2 * sizeP p ≤ 1000000000 → AFW P g [uFl s l] [.pw 3000000000 0 0, .im none (eP p), .im none (eI k)] [uFl s (flowP p k l).1] (.own (eI (flowP p k l).2))) (fun k n c nn ks ih hf hT s to l hl => ?_) p hf hT s k l hl
  rw [eP_mk, flowP_mk]
  rw [fitP_mk] at hf
  rw [treeP_mk, Bool.and_eq_true, List.all_eq_true] at hT
  rw [sizeP_mk] at hl
  rcases kinds hT.1 with ⟨rfl, rfl⟩ | ⟨rfl, rfl⟩ | ⟨rfl, rfl⟩ | ⟨rfl, rfl⟩ | ⟨rfl, a, b, rfl⟩ | ⟨rfl, a, b, rfl⟩ | ⟨rfl, a, rfl⟩
  ·
    rw [opF_1]
    refine afw_of_res (wv := false) hr hm rfl rfl rfl fun hb ha => ?_
    simp +contextual -implicitDefEqProofs only [k_flMake, uFl, isAg_ag, atA0, List.map_nil, D.size, D.sizeL, eI, sub_ag, Int.reduceBEq, bne, Bool.not_false, Bool.and_true, go_sem, ↓reduceIte, Nat.reduceEqDiff, Nat.reduceAdd, Nat.reduceLeDiff, Nat.reduceBEq, Nat.reduceLT, Bool.false_eq_true, List.cons_append, List.nil_append]
  ·
    rw [opF_2]
    refine afw_of_res (wv := false) hr hm rfl rfl rfl fun hb ha => ?_
    simp +contextual -implicitDefEqProofs only [k_flMake, uFl, isAg_ag, atA0, List.map_cons, List.map_nil, List.length_cons, List.length_nil, D.size, D.sizeL, eI, sub_ag, beq_self_eq_true, bne, Bool.not_false, Bool.and_true, go_sem, ↓reduceIte, Nat.reduceEqDiff, Nat.reduceAdd, Nat.reduceLeDiff, Nat.reduceBEq, Nat.reduceLT, Nat.reduceSub, Bool.false_eq_true, List.cons_append, List.nil_append]
    refine wcl_self [3000000000] [] (by rfl) (by rfl) (by rfl) (hc1.1 s l 4 0 0 0 (by omega)) rfl (by simp [wOut, outU, uFl]) ?_
    simp +contextual -implicitDefEqProofs only [uFl, eI, Bool.or_false, go_sem, ↓reduceIte, Nat.reduceEqDiff, Nat.reduceBEq, Bool.false_eq_true, List.cons_append, List.nil_append]
  ·
    rw [opF_3]
    refine afw_of_res (wv := false) hr hm rfl rfl rfl fun hb ha => ?_
    simp +contextual -implicitDefEqProofs only [k_flMake, uFl, isAg_ag, atA0, List.map_cons, List.map_nil, List.length_cons, List.length_nil, D.size, D.sizeL, eI, sub_ag, Int.reduceBEq, beq_self_eq_true, bne, Bool.not_false, Bool.and_true, go_sem, ↓reduceIte, Nat.reduceEqDiff, Nat.reduceAdd, Nat.reduceLeDiff, Nat.reduceBEq, Nat.reduceLT, Nat.reduceSub, Bool.false_eq_true, List.cons_append, List.nil_append]
    refine wcl_self [3000000000] [] (by rfl) (by rfl) (by rfl) (hc1.1 s l 1 n to 0 (by omega)) rfl (by simp [wOut, outU, uFl]) ?_
    simp +contextual -implicitDefEqProofs only [uFl, eI, Bool.or_false, go_sem, ↓reduceIte, Nat.reduceEqDiff, Nat.reduceBEq, Bool.false_eq_true, List.cons_append, List.nil_append]
  ·
    rw [opF_4]
    refine afw_of_res (wv := false) hr hm rfl rfl rfl fun hb ha => ?_
    simp +contextual -implicitDefEqProofs only [k_flMake, uFl, isAg_ag, atA0, List.map_cons, List.map_nil, List.length_cons, List.length_nil, D.size, D.sizeL, eI, sub_ag, Int.reduceBEq, beq_self_eq_true, bne, Bool.not_false, Bool.and_true, go_sem, ↓reduceIte, Nat.reduceEqDiff, Nat.reduceAdd, Nat.reduceLeDiff, Nat.reduceBEq, Nat.reduceLT, Nat.reduceSub, Bool.false_eq_true, List.cons_append, List.nil_append]
    refine wcl_self [3000000000] [] (by rfl) (by rfl) (by rfl) (hc1.1 s l 4 0 0 0 (by omega)) rfl (by simp [wOut, outU, uFl]) ?_
    simp +contextual -implicitDefEqProofs only [uFl, isAg_ag, atA0, List.map_cons, List.map_nil, eI, sub_ag, Bool.or_false, go_sem, ↓reduceIte, Nat.reduceEqDiff, Nat.reduceAdd, Nat.reduceLeDiff, Nat.reduceBEq, Nat.reduceLT, Bool.false_eq_true, List.cons_append, List.nil_append]
    refine callQ_self (ds := [eE c]) ?_ (hc2 c hf.1) ?_
    · rw [eE_eta c]; rfl
    simp +contextual -implicitDefEqProofs only [eE_size, List.map_cons, List.map_nil, List.length_cons, List.length_nil, D.size, beq_self_eq_true, bne, Bool.not_false, Bool.and_true, go_sem, ↓reduceIte, Nat.reduceEqDiff, Nat.reduceAdd, Nat.reduceLeDiff, Nat.reduceBEq, Nat.reduceSub, Bool.false_eq_true, List.cons_append, List.nil_append]
    refine wcl_self [3000000000] [35] (by rfl) (by rfl) (by rfl) (hc1.2 s (l ++ [(4, 0, E0, 0, 0)]) 2 0 to l.length (cpE c) (by simp; omega)) rfl (by simp [wOut, outU, uFl]) ?_
    simp +contextual -implicitDefEqProofs only [uFl, eI, beq_self_eq_true, Bool.or_true, Bool.or_false, go_sem, ↓reduceIte, Nat.reduceEqDiff, Nat.reduceBEq, Bool.false_eq_true, List.cons_append, List.nil_append]
  ·
    have f1 := flow_len gs b (hT.2 b (by simp)) to l
    rw [sizePs_two] at hl
    rw [opF_5]
    refine afw_of_res (wv := false) hr hm rfl rfl rfl fun hb ha => ?_
    simp +contextual -implicitDefEqProofs only [k_flMake, uFl, isAg_ag, eP_size, eP_isAg, atA0, at1, List.map_cons, List.map_nil, List.length_cons, List.length_nil, D.size, D.sizeL, eI, sub_ag, Int.cast_ofNat_Int, Int.reduceLT, Int.reduceLE, Int.le_refl, Int.reduceBEq, beq_self_eq_true, Int.reduceToNat, bne, Bool.not_false, Bool.and_true, encP.sub, go_sem, ↓reduceIte, Nat.reduceEqDiff, Nat.reduceAdd, Nat.reduceLeDiff, Nat.reduceBEq, Nat.reduceLT, Bool.false_eq_true, List.cons_append, List.nil_append]
    refine wcl_self [3000000000] [] (by rfl) (by rfl) (by rfl) (ih b (by simp) (hf.2.2 b (by simp)) (hT.2 b (by simp)) s to l (by omega)) rfl (by simp [wOut, outU, uFl]) ?_
    simp +contextual -implicitDefEqProofs only [uFl, isAg_ag, eP_size, eP_isAg, atA0, List.map_cons, List.map_nil, List.length_cons, List.length_nil, eI, sub_ag, Int.cast_ofNat_Int, Int.reduceLT, Int.le_refl, Bool.or_false, encP.sub, go_sem, ↓reduceIte, Nat.reduceEqDiff, Nat.reduceAdd, Nat.reduceLeDiff, Nat.reduceLT, Bool.false_eq_true, List.cons_append, List.nil_append]
    refine wcl_self [3000000000] [] (by rfl) (by rfl) (by rfl) (ih a (by simp) (hf.2.2 a (by simp)) (hT.2 a (by simp)) s (flowP b to l).2 (flowP b to l).1 (by omega)) rfl (by simp [wOut, outU, uFl]) ?_
    simp +contextual -implicitDefEqProofs only [uFl, eI, Bool.or_false, go_sem, ↓reduceIte, Nat.reduceEqDiff, Bool.false_eq_true, List.cons_append, List.nil_append]
  ·
    have f1 := flow_len gs a (hT.2 a (by simp)) to l
    have f2 := flow_len gs b (hT.2 b (by simp)) to (flowP a to l).1
    rw [sizePs_two] at hl
    rw [opF_6]
    refine afw_of_res (wv := false) hr hm rfl rfl rfl fun hb ha => ?_
    simp +contextual -implicitDefEqProofs only [k_flMake, uFl, isAg_ag, eP_size, eP_isAg, atA0, List.map_cons, List.map_nil, List.length_cons, List.length_nil, D.size, D.sizeL, eI, sub_ag, Int.cast_ofNat_Int, Int.reduceLT, Int.le_refl, Int.reduceBEq, beq_self_eq_true, bne, Bool.not_false, Bool.and_true, encP.sub, go_sem, ↓reduceIte, Nat.reduceEqDiff, Nat.reduceAdd, Nat.reduceLeDiff, Nat.reduceBEq, Nat.reduceLT, Bool.false_eq_true, List.cons_append, List.nil_append]
    refine wcl_self [3000000000] [] (by rfl) (by rfl) (by rfl) (ih a (by simp) (hf.2.2 a (by simp)) (hT.2 a (by simp)) s to l (by omega)) rfl (by simp [wOut, outU, uFl]) ?_
    simp +contextual -implicitDefEqProofs only [uFl, isAg_ag, eP_size, eP_isAg, atA0, at1, List.map_cons, List.map_nil, List.length_cons, List.length_nil, eI, sub_ag, Int.cast_ofNat_Int, Int.reduceLT, Int.reduceLE, Int.reduceToNat, Bool.or_false, encP.sub, go_sem, ↓reduceIte, Nat.reduceEqDiff, Nat.reduceAdd, Nat.reduceLeDiff, Nat.reduceLT, Bool.false_eq_true, List.cons_append, List.nil_append]
    refine wcl_self [3000000000] [] (by rfl) (by rfl) (by rfl) (ih b (by simp) (hf.2.2 b (by simp)) (hT.2 b (by simp)) s to (flowP a to l).1 (by omega)) rfl (by simp [wOut, outU, uFl]) ?_
    simp +contextual -implicitDefEqProofs only [uFl, isAg_ag, atA0, List.map_cons, List.map_nil, eI, sub_ag, Bool.or_false, go_sem, ↓reduceIte, Nat.reduceEqDiff, Nat.reduceAdd, Nat.reduceLeDiff, Nat.reduceLT, Bool.false_eq_true, List.cons_append, List.nil_append]
    refine callQ_self (ds := [eE c]) ?_ (hc2 c hf.1) ?_
    · rw [eE_eta c]; rfl
    simp +contextual -implicitDefEqProofs only [eE_size, List.map_cons, List.map_nil, List.length_cons, List.length_nil, D.size, beq_self_eq_true, bne, Bool.not_false, Bool.and_true, go_sem, ↓reduceIte, Nat.reduceEqDiff, Nat.reduceAdd, Nat.reduceLeDiff, Nat.reduceBEq, Nat.reduceSub, Bool.false_eq_true, List.cons_append, List.nil_append]
    refine wcl_self [3000000000] [74] (by rfl) (by rfl) (by rfl) (hc1.2 s (flowP b to (flowP a to l).1).1 2 0 (flowP a to l).2 (flowP b to (flowP a to l).1).2 (cpE c) (by omega)) rfl (by simp [wOut, outU, uFl]) ?_
    simp +contextual -implicitDefEqProofs only [uFl, eI, beq_self_eq_true, Bool.or_true, Bool.or_false, go_sem, ↓reduceIte, Nat.reduceEqDiff, Nat.reduceBEq, Bool.false_eq_true, List.cons_append, List.nil_append]
  ·
    have f1 := flow_len gs a (hT.2 a (by simp)) l.length (l ++ [(2, 0, cpE c, 0, to)])
    simp only [List.length_append, List.length_cons, List.length_nil] at f1
    rw [sizePs_one] at hl
    rw [opF_7]
    refine afw_of_res (wv := false) hr hm rfl rfl rfl fun hb ha => ?_
    simp +contextual -implicitDefEqProofs only [k_flMake, uFl, isAg_ag, atA0, List.map_cons, List.map_nil, D.size, D.sizeL, eI, sub_ag, Int.reduceBEq, beq_self_eq_true, bne, Bool.not_false, Bool.and_true, go_sem, ↓reduceIte, Nat.reduceEqDiff, Nat.reduceAdd, Nat.reduceLeDiff, Nat.reduceBEq, Nat.reduceLT, Bool.false_eq_true, List.cons_append, List.nil_append]
    refine callQ_self (ds := [eE c]) ?_ (hc2 c hf.1) ?_
    · rw [eE_eta c]; rfl
    simp +contextual -implicitDefEqProofs only [eE_size, List.map_cons, List.map_nil, List.length_cons, List.length_nil, D.size, beq_self_eq_true, bne, Bool.not_false, Bool.and_true, go_sem, ↓reduceIte, Nat.reduceEqDiff, Nat.reduceAdd, Nat.reduceLeDiff, Nat.reduceBEq, Nat.reduceSub, Bool.false_eq_true, List.cons_append, List.nil_append]
    refine wcl_self [3000000000] [84] (by rfl) (by rfl) (by rfl) (hc1.2 s l 2 0 0 to (cpE c) (by omega)) rfl (by simp [wOut, outU, uFl]) ?_
    simp +contextual -implicitDefEqProofs only [uFl, isAg_ag, eP_size, eP_isAg, atA0, List.map_cons, List.map_nil, List.length_cons, List.length_nil, eI, sub_ag, Int.cast_ofNat_Int, Int.reduceLT, Int.le_refl, beq_self_eq_true, Bool.or_true, Bool.or_false, encP.sub, go_sem, ↓reduceIte, Nat.reduceEqDiff, Nat.reduceAdd, Nat.reduceLeDiff, Nat.reduceBEq, Nat.reduceLT, Bool.false_eq_true, List.cons_append, List.nil_append]
    refine wcl_self [3000000000] [] (by rfl) (by rfl) (by rfl) (ih a (by simp) (hf.2.2 a (by simp)) (hT.2 a (by simp)) s l.length (l ++ [(2, 0, cpE c, 0, to)]) (by simp only [List.length_append, List.length_cons, List.length_nil]; omega)) rfl (by simp [wOut, outU, uFl]) ?_
    simp +contextual -implicitDefEqProofs only [uFl, isAg_ag, atA0, List.length_cons, List.length_nil, D.cells, D.size, List.length_map, eI, sub_ag, beq_self_eq_true, Bool.or_false, go_sem, ↓reduceIte, Nat.reduceEqDiff, Nat.reduceAdd, Nat.reduceLeDiff, Nat.reduceLT, Bool.false_eq_true, List.cons_append, List.nil_append, Int.ofNat_lt, Int.natCast_nonneg]
    have h : l.length < (flowP a l.length (l ++ [(2, 0, cpE c, 0, to)])).1.length := by omega
    refine ⟨h, ⟨h, by decide, by rw [at_map h]; rfl⟩, ?_⟩
    rw [← toSp_map h]
    rfl

def k_l06Make (g f1 f2 : Nat) : RC := (.seq (.reg false [⟨none, .mv 6 (.c (.sc (.int .i64 0)))⟩]) ((.seq ((.seq (.reg false [⟨none, .mv 12 (.t 1)⟩, ⟨none, .nck 13 (.t 12)⟩, ⟨none, .fa 14 0 (.t 13)⟩, ⟨none, .ld 15 false 1 (.t 14)⟩]) (.blk 0 ((.seq (.reg false [⟨none, .bin 17 .eql (.t 15) (.c (.sc (.int .i64 1)))⟩, ⟨none, .mv 16 (.t 17)⟩]) (.cond (.t 16) ((.seq (.reg false [⟨none, .mv 18 (.t 2)⟩, ⟨none, .mv 6 (.t 18)⟩]) (.ret))) ((.seq (.reg false [⟨none, .bin 20 .eql (.t 15) (.c (.sc (.int .i64 2)))⟩, ⟨none, .mv 19 (.t 20)⟩]) (.cond (.t 19) ((.seq (.reg false [⟨none, .mv 21 (.t 0)⟩, ⟨none, .bld 22 (.ag [(.sc (.int .i64 0)), (.sc (.int .i64 0)), (.sc (.int .i64 0)), (.sc (.int .i64 0)), (.ls (some true) 3 []), (.sc (.int .i64 0)), (.sc (.int .i64 0))]) [(0, 1, (.c (.sc (.int .i64 4))))]⟩, ⟨none, .wcl (some 23) f1 [(.t 21), (.t 22)]⟩, ⟨none, .mv 6 (.t 23)⟩]) (.ret))) ((.seq (.reg false [⟨none, .bin 25 .eql (.t 15) (.c (.sc (.int .i64 3)))⟩, ⟨none, .mv 24 (.t 25)⟩]) (.cond (.t 24) ((.seq (.reg false [⟨none, .mv 26 (.t 0)⟩, ⟨none, .mv 27 (.t 1)⟩, ⟨none, .nck 28 (.t 27)⟩, ⟨none, .fa 29 1 (.t 28)⟩, ⟨none, .ld 30 false 1 (.t 29)⟩, ⟨none, .mv 31 (.t 2)⟩, ⟨none, .bld 32 (.ag [(.sc (.int .i64 0)), (.sc (.int .i64 0)), (.sc (.int .i64 0)), (.sc (.int .i64 0)), (.ls (some true) 3 []), (.sc (.int .i64 0)), (.sc (.int .i64 0))]) [(0, 1, (.c (.sc (.int .i64 1)))), (1, 1, (.t 30)), (5, 1, (.t 31))]⟩, ⟨none, .wcl (some 33) f1 [(.t 26), (.t 32)]⟩, ⟨none, .mv 6 (.t 33)⟩]) (.ret))) ((.seq (.reg false [⟨none, .bin 35 .eql (.t 15) (.c (.sc (.int .i64 4)))⟩, ⟨none, .mv 34 (.t 35)⟩]) (.cond (.t 34) ((.seq (.reg false [⟨none, .mv 36 (.t 0)⟩, ⟨none, .bld 37 (.ag [(.sc (.int .i64 0)), (.sc (.int .i64 0)), (.sc (.int .i64 0)), (.sc (.int .i64 0)), (.ls (some true) 3 []), (.sc (.int .i64 0)), (.sc (.int .i64 0))]) [(0, 1, (.c (.sc (.int .i64 4))))]⟩, ⟨none, .wcl (some 38) f1 [(.t 36), (.t 37)]⟩, ⟨none, .mv 7 (.t 38)⟩]) ((.seq (.reg false [⟨none, .mv 39 (.t 0)⟩, ⟨none, .mv 40 (.t 1)⟩, ⟨none, .nck 41 (.t 40)⟩, ⟨none, .fa 42 2 (.t 41)⟩, ⟨none, .call (some 43) f2 [(.t 42)]⟩, ⟨none, .mv 44 (.t 2)⟩, ⟨none, .mv 45 (.t 7)⟩, ⟨none, .bld 46 (.ag [(.sc (.int .i64 0)), (.sc (.int .i64 0)), (.sc (.int .i64 0)), (.sc (.int .i64 0)), (.ls (some true) 3 []), (.sc (.int .i64 0)), (.sc (.int .i64 0))]) [(0, 1, (.c (.sc (.int .i64 2)))), (2, 3, (.t 43)), (5, 1, (.t 44)), (6, 1, (.t 45))]⟩, ⟨none, .wcl (some 47) f1 [(.t 39), (.t 46)]⟩, ⟨none, .mv 6 (.t 47)⟩]) (.ret))))) ((.seq (.reg false [⟨none, .bin 49 .eql (.t 15) (.c (.sc (.int .i64 5)))⟩, ⟨none, .mv 48 (.t 49)⟩]) (.cond (.t 48) ((.seq (.regL [⟨none, .mv 50 (.t 0)⟩, ⟨none, .mv 51 (.t 1)⟩, ⟨none, .nck 52 (.t 51)⟩, ⟨none, .fa 53 5 (.t 52)⟩, ⟨none, .ld 54 false 1 (.t 53)⟩, ⟨none, .ia 55 6 (.t 54) (.c (.sc (.int .i64 0)))⟩, ⟨none, .mv 56 (.t 0)⟩, ⟨none, .mv 57 (.t 1)⟩, ⟨none, .nck 58 (.t 57)⟩, ⟨none, .fa 59 5 (.t 58)⟩, ⟨none, .ld 60 false 1 (.t 59)⟩, ⟨none, .ia 61 6 (.t 60) (.c (.sc (.int .i64 1)))⟩, ⟨none, .mv 62 (.t 2)⟩] [([(.ld 54 false 1 (.t 53)), (.ia 55 6 (.t 54) (.c (.sc (.int .i64 0))))], ⟨none, .wcl (some 63) g [(.t 56), (.t 61), (.t 62)]⟩), ([(.ld 54 false 1 (.t 53)), (.ia 55 6 (.t 54) (.c (.sc (.int .i64 0))))], ⟨none, .wcl (some 64) g [(.t 50), (.t 55), (.t 63)]⟩), ([], ⟨none, .mv 6 (.t 64)⟩)]) (.ret))) ((.seq (.reg false [⟨none, .bin 66 .eql (.t 15) (.c (.sc (.int .i64 6)))⟩, ⟨none, .mv 65 (.t 66)⟩]) (.cond (.t 65) ((.seq (.reg false [⟨none, .mv 67 (.t 0)⟩, ⟨none, .mv 68 (.t 1)⟩, ⟨none, .nck 69 (.t 68)⟩, ⟨none, .fa 70 5 (.t 69)⟩, ⟨none, .ld 71 false 1 (.t 70)⟩, ⟨none, .ia 72 6 (.t 71) (.c (.sc (.int .i64 0)))⟩, ⟨none, .mv 73 (.t 2)⟩, ⟨none, .wcl (some 74) g [(.t 67), (.t 72), (.t 73)]⟩, ⟨none, .mv 8 (.t 74)⟩]) ((.seq (.reg false [⟨none, .mv 75 (.t 0)⟩, ⟨none, .mv 76 (.t 1)⟩, ⟨none, .nck 77 (.t 76)⟩, ⟨none, .fa 78 5 (.t 77)⟩, ⟨none, .ld 79 false 1 (.t 78)⟩, ⟨none, .ia 80 6 (.t 79) (.c (.sc (.int .i64 1)))⟩, ⟨none, .mv 81 (.t 2)⟩, ⟨none, .wcl (some 82) g [(.t 75), (.t 80), (.t 81)]⟩, ⟨none, .mv 9 (.t 82)⟩]) ((.seq (.reg false [⟨none, .mv 83 (.t 0)⟩, ⟨none, .mv 84 (.t 1)⟩, ⟨none, .nck 85 (.t 84)⟩, ⟨none, .fa 86 2 (.t 85)⟩, ⟨none, .call (some 87) f2 [(.t 86)]⟩, ⟨none, .mv 88 (.t 8)⟩, ⟨none, .mv 89 (.t 9)⟩, ⟨none, .bld 90 (.ag [(.sc (.int .i64 0)), (.sc (.int .i64 0)), (.sc (.int .i64 0)), (.sc (.int .i64 0)), (.ls (some true) 3 []), (.sc (.int .i64 0)), (.sc (.int .i64 0))]) [(0, 1, (.c (.sc (.int .i64 2)))), (2, 3, (.t 87)), (5, 1, (.t 88)), (6, 1, (.t 89))]⟩, ⟨none, .wcl (some 91) f1 [(.t 83), (.t 90)]⟩, ⟨none, .mv 6 (.t 91)⟩]) (.ret))))))) (.skip)))))))))))))))))))))) ((.seq (.reg false [⟨none, .mv 92 (.t 0)⟩, ⟨none, .mv 93 (.t 1)⟩, ⟨none, .nck 94 (.t 93)⟩, ⟨none, .fa 95 2 (.t 94)⟩, ⟨none, .call (some 96) f2 [(.t 95)]⟩, ⟨none, .mv 97 (.t 2)⟩, ⟨none, .bld 98 (.ag [(.sc (.int .i64 0)), (.sc (.int .i64 0)), (.sc (.int .i64 0)), (.sc (.int .i64 0)), (.ls (some true) 3 []), (.sc (.int .i64 0)), (.sc (.int .i64 0))]) [(0, 1, (.c (.sc (.int .i64 2)))), (2, 3, (.t 96)), (6, 1, (.t 97))]⟩, ⟨none, .wcl (some 99) f1 [(.t 92), (.t 98)]⟩, ⟨none, .mv 10 (.t 99)⟩]) ((.seq (.reg false [⟨none, .mv 100 (.t 0)⟩, ⟨none, .mv 101 (.t 1)⟩, ⟨none, .nck 102 (.t 101)⟩, ⟨none, .fa 103 5 (.t 102)⟩, ⟨none, .ld 104 false 1 (.t 103)⟩, ⟨none, .ia 105 6 (.t 104) (.c (.sc (.int .i64 0)))⟩, ⟨none, .mv 106 (.t 10)⟩, ⟨none, .wcl (some 107) g [(.t 100), (.t 105), (.t 106)]⟩, ⟨none, .mv 11 (.t 107)⟩]) ((.seq (.reg false [⟨none, .mv 108 (.t 0)⟩, ⟨none, .nck 109 (.t 108)⟩, ⟨none, .fa 110 1 (.t 109)⟩, ⟨none, .ld 111 false 1 (.t 110)⟩, ⟨none, .mv 112 (.t 10)⟩, ⟨none, .mv 113 (.t 11)⟩, ⟨none, .ia 114 7 (.t 111) (.t 112)⟩, ⟨none, .fa 115 5 (.t 114)⟩, ⟨none, .st 1 (.t 115) (.t 113)⟩]) ((.seq (.reg false [⟨none, .mv 116 (.t 10)⟩, ⟨none, .mv 6 (.t 116)⟩]) (.ret))))))))))))
def K_l06Make (P : Program) (fno : Nat) : Prop := ∀ (gs : Int × Int) (p : Pg), fitP p → treeP gs p = true → ∀ (s k : Int) (l : List Sp), l.length + 2 * sizeP p ≤ 1000000000 → AFW P fno [uFl s l] [.pw 3000000000 0 0, .im none (.pt (eP p) 0), .im none (eI k)] [uFl s (flowP p k l).1] (.own (eI (flowP p k l).2))
theorem a_l06Make {P : Program} (hm : P.follows .mixedOrders = true) {g f1 f2 : Nat} (hr : resF P g = some (117, k_l06Make g f1 f2, [.t 6])) (hc1 : K_l06Add P f1) (hc2 : K_l01Own P f2) : K_l06Make P g := by
  intro gs p hf hT s k l hl
  refine Pg.ind (p := fun p => fitP p → treeP gs p = true → ∀ (s k : Int) (l : List Sp), l.length + 2 * sizeP p ≤ 1000000000 → AFW P g [uFl s l] [.pw 3000000000 0 0, .im none (.pt (eP p) 0), .im none (eI k)] [uFl s (flowP p k l).1] (.own (eI (flowP p k l).2))) (fun k n c nn ks ih hf hT s to l hl => ?_) p hf hT s k l hl
  rw [eP_mk, flowP_mk]
  rw [fitP_mk] at hf
  rw [treeP_mk, Bool.and_eq_true, List.all_eq_true] at hT
  rw [sizeP_mk] at hl
  rcases kinds hT.1 with ⟨rfl, rfl⟩ | ⟨rfl, rfl⟩ | ⟨rfl, rfl⟩ | ⟨rfl, rfl⟩ | ⟨rfl, a, b, rfl⟩ | ⟨rfl, a, b, rfl⟩ | ⟨rfl, a, rfl⟩
  ·
    rw [opF_1]
    refine afw_of_res (wv := false) hr hm rfl rfl rfl fun hb ha => ?_
    simp +contextual -implicitDefEqProofs only [k_l06Make, uFl, isAg_ag, List.map_nil, D.size, D.sizeL, eI, sub_ag, beq_self_eq_true, go_sem, ↓reduceIte, Nat.reduceEqDiff, Nat.reduceAdd, Nat.reduceLeDiff, Nat.reduceLT, Bool.false_eq_true]
  ·
    rw [opF_2]
    refine afw_of_res (wv := false) hr hm rfl rfl rfl fun hb ha => ?_
    simp +contextual -implicitDefEqProofs only [k_l06Make, uFl, isAg_ag, List.map_cons, List.map_nil, List.length_cons, List.length_nil, D.size, D.sizeL, eI, sub_ag, Int.reduceBEq, beq_self_eq_true, bne, Bool.not_false, Bool.and_true, go_sem, ↓reduceIte, Nat.reduceEqDiff, Nat.reduceAdd, Nat.reduceLeDiff, Nat.reduceBEq, Nat.reduceLT, Nat.reduceSub, Bool.false_eq_true, List.nil_append]
    refine wcl_self [3000000000] [] (by rfl) (by rfl) (by rfl) (hc1.1 s l 4 0 0 0 (by omega)) rfl (by simp [wOut, outU, uFl]) ?_
    simp +contextual -implicitDefEqProofs only [uFl, eI, Bool.or_false, go_sem, ↓reduceIte, Nat.reduceBEq, Bool.false_eq_true, List.cons_append, List.nil_append]
  ·
    rw [opF_3]
    refine afw_of_res (wv := false) hr hm rfl rfl rfl fun hb ha => ?_
    simp +contextual -implicitDefEqProofs only [k_l06Make, uFl, isAg_ag, List.map_cons, List.map_nil, List.length_cons, List.length_nil, D.size, D.sizeL, eI, sub_ag, Int.reduceBEq, beq_self_eq_true, bne, Bool.not_false, Bool.and_true, go_sem, ↓reduceIte, Nat.reduceEqDiff, Nat.reduceAdd, Nat.reduceLeDiff, Nat.reduceBEq, Nat.reduceLT, Nat.reduceSub, Bool.false_eq_true, List.cons_append, List.nil_append]
    refine wcl_self [3000000000] [] (by rfl) (by rfl) (by rfl) (hc1.1 s l 1 n to 0 (by omega)) rfl (by simp [wOut, outU, uFl]) ?_
    simp +contextual -implicitDefEqProofs only [uFl, eI, Bool.or_false, go_sem, ↓reduceIte, Nat.reduceBEq, Bool.false_eq_true, List.cons_append, List.nil_append]
  ·
    rw [opF_4]
    refine afw_of_res (wv := false) hr hm rfl rfl rfl fun hb ha => ?_
    simp +contextual -implicitDefEqProofs only [k_l06Make, uFl, isAg_ag, List.map_cons, List.map_nil, List.length_cons, List.length_nil, D.size, D.sizeL, eI, sub_ag, Int.reduceBEq, beq_self_eq_true, bne, Bool.not_false, Bool.and_true, go_sem, ↓reduceIte, Nat.reduceEqDiff, Nat.reduceAdd, Nat.reduceLeDiff, Nat.reduceBEq, Nat.reduceLT, Nat.reduceSub, Bool.false_eq_true, List.nil_append]
    refine wcl_self [3000000000] [] (by rfl) (by rfl) (by rfl) (hc1.1 s l 4 0 0 0 (by omega)) rfl (by simp [wOut, outU, uFl]) ?_
    simp +contextual -implicitDefEqProofs only [uFl, List.map_cons, List.map_nil, D.size, D.sizeL, eI, Bool.or_false, go_sem, ↓reduceIte, Nat.reduceEqDiff, Nat.reduceAdd, Nat.reduceBEq, Nat.reduceLT, Bool.false_eq_true, List.cons_append, List.nil_append]
    refine callQ_le (es := [.pt (eE c) 0]) rfl ⟨D.LeA.sub (sz := 3) (by simp [D.size, D.sizeL]) rfl (by omega) (by rw [eE_eta]; rfl), trivial⟩ (hc2 c hf.1) ?_
    simp +contextual -implicitDefEqProofs only [eE_size, List.map_cons, List.map_nil, List.length_cons, List.length_nil, D.size, beq_self_eq_true, bne, Bool.not_false, Bool.and_true, go_sem, ↓reduceIte, Nat.reduceEqDiff, Nat.reduceAdd, Nat.reduceLeDiff, Nat.reduceBEq, Nat.reduceSub, Bool.false_eq_true, List.cons_append, List.nil_append]
    refine wcl_self [3000000000] [43] (by rfl) (by rfl) (by rfl) (hc1.2 s (l ++ [(4, 0, E0, 0, 0)]) 2 0 to l.length (cpE c) (by simp; omega)) rfl (by simp [wOut, outU, uFl]) ?_
    simp +contextual -implicitDefEqProofs only [uFl, eI, beq_self_eq_true, Bool.or_true, Bool.or_false, go_sem, ↓reduceIte, Nat.reduceEqDiff, Nat.reduceBEq, Bool.false_eq_true, List.cons_append, List.nil_append]
  ·
    have f1 := flow_len gs b (hT.2 b (by simp)) to l
    rw [sizePs_two] at hl
    rw [opF_5]
    refine afw_of_res (wv := false) hr hm rfl rfl rfl fun hb ha => ?_
    simp +contextual -implicitDefEqProofs only [k_l06Make, uFl, isAg_ag, atA0, at1, List.map_cons, List.map_nil, List.length_cons, List.length_nil, D.size, D.sizeL, eI, sub_ag, Int.cast_ofNat_Int, Int.reduceLT, Int.reduceLE, Int.le_refl, Int.reduceBEq, beq_self_eq_true, Int.reduceToNat, go_sem, ↓reduceIte, Nat.reduceEqDiff, Nat.reduceAdd, Nat.reduceLeDiff, Nat.reduceLT, Bool.false_eq_true]
    refine wcl_self [3000000000] [] (by rfl) (by rfl) (by rfl) (ih b (by simp) (hf.2.2 b (by simp)) (hT.2 b (by simp)) s to l (by omega)) rfl (by simp [wOut, outU, uFl]) ?_
    simp +contextual -implicitDefEqProofs only [uFl, isAg_ag, atA0, List.map_cons, List.map_nil, List.length_cons, List.length_nil, D.size, D.sizeL, eI, sub_ag, Int.cast_ofNat_Int, Int.reduceLT, Int.le_refl, Bool.or_false, go_sem, ↓reduceIte, Nat.reduceEqDiff, Nat.reduceAdd, Nat.reduceLeDiff, Nat.reduceLT, Bool.false_eq_true, List.cons_append, List.nil_append]
    refine wcl_self [3000000000] [] (by rfl) (by rfl) (by rfl) (ih a (by simp) (hf.2.2 a (by simp)) (hT.2 a (by simp)) s (flowP b to l).2 (flowP b to l).1 (by omega)) rfl (by simp [wOut, outU, uFl]) ?_
    simp +contextual -implicitDefEqProofs only [uFl, eI, Bool.or_false, go_sem, ↓reduceIte, Bool.false_eq_true, List.cons_append, List.nil_append]
  ·
    have f1 := flow_len gs a (hT.2 a (by simp)) to l
    have f2 := flow_len gs b (hT.2 b (by simp)) to (flowP a to l).1
    rw [sizePs_two] at hl
    rw [opF_6]
    refine afw_of_res (wv := false) hr hm rfl rfl rfl fun hb ha => ?_
    simp +contextual -implicitDefEqProofs only [k_l06Make, uFl, isAg_ag, atA0, List.map_cons, List.map_nil, List.length_cons, List.length_nil, D.size, D.sizeL, eI, sub_ag, Int.cast_ofNat_Int, Int.reduceLT, Int.le_refl, Int.reduceBEq, beq_self_eq_true, go_sem, ↓reduceIte, Nat.reduceEqDiff, Nat.reduceAdd, Nat.reduceLeDiff, Nat.reduceLT, Bool.false_eq_true]
    refine wcl_self [3000000000] [] (by rfl) (by rfl) (by rfl) (ih a (by simp) (hf.2.2 a (by simp)) (hT.2 a (by simp)) s to l (by omega)) rfl (by simp [wOut, outU, uFl]) ?_
    simp +contextual -implicitDefEqProofs only [uFl, isAg_ag, at1, List.map_cons, List.map_nil, List.length_cons, List.length_nil, D.size, D.sizeL, eI, sub_ag, Int.cast_ofNat_Int, Int.reduceLT, Int.reduceLE, Int.reduceToNat, Bool.or_false, go_sem, ↓reduceIte, Nat.reduceEqDiff, Nat.reduceAdd, Nat.reduceLeDiff, Nat.reduceLT, Bool.false_eq_true, List.cons_append, List.nil_append]
    refine wcl_self [3000000000] [] (by rfl) (by rfl) (by rfl) (ih b (by simp) (hf.2.2 b (by simp)) (hT.2 b (by simp)) s to (flowP a to l).1 (by omega)) rfl (by simp [wOut, outU, uFl]) ?_
    simp +contextual -implicitDefEqProofs only [uFl, List.map_cons, List.map_nil, D.size, D.sizeL, eI, Bool.or_false, go_sem, ↓reduceIte, Nat.reduceEqDiff, Nat.reduceAdd, Nat.reduceLT, Bool.false_eq_true, List.cons_append, List.nil_append]
    refine callQ_le (es := [.pt (eE c) 0]) rfl ⟨D.LeA.sub (sz := 3) (by simp [D.size, D.sizeL]) rfl (by omega) (by rw [eE_eta]; rfl), trivial⟩ (hc2 c hf.1) ?_
    simp +contextual -implicitDefEqProofs only [eE_size, List.map_cons, List.map_nil, List.length_cons, List.length_nil, D.size, beq_self_eq_true, bne, Bool.not_false, Bool.and_true, go_sem, ↓reduceIte, Nat.reduceEqDiff, Nat.reduceAdd, Nat.reduceLeDiff, Nat.reduceBEq, Nat.reduceSub, Bool.false_eq_true, List.cons_append, List.nil_append]
    refine wcl_self [3000000000] [87] (by rfl) (by rfl) (by rfl) (hc1.2 s (flowP b to (flowP a to l).1).1 2 0 (flowP a to l).2 (flowP b to (flowP a to l).1).2 (cpE c) (by omega)) rfl (by simp [wOut, outU, uFl]) ?_
    simp +contextual -implicitDefEqProofs only [uFl, eI, beq_self_eq_true, Bool.or_true, Bool.or_false, go_sem, ↓reduceIte, Nat.reduceEqDiff, Nat.reduceBEq, Bool.false_eq_true, List.cons_append, List.nil_append]
  ·
    have f1 := flow_len gs a (hT.2 a (by simp)) l.length (l ++ [(2, 0, cpE c, 0, to)])
    simp only [List.length_append, List.length_cons, List.length_nil] at f1
    rw [sizePs_one] at hl
    rw [opF_7]
    refine afw_of_res (wv := false) hr hm rfl rfl rfl fun hb ha => ?_
    simp +contextual -implicitDefEqProofs only [k_l06Make, uFl, isAg_ag, List.map_cons, List.map_nil, D.size, D.sizeL, eI, sub_ag, Int.reduceBEq, go_sem, ↓reduceIte, Nat.reduceEqDiff, Nat.reduceAdd, Nat.reduceLeDiff, Nat.reduceLT, Bool.false_eq_true]
    refine callQ_le (es := [.pt (eE c) 0]) rfl ⟨D.LeA.sub (sz := 3) (by simp [D.size, D.sizeL]) rfl (by omega) (by rw [eE_eta]; rfl), trivial⟩ (hc2 c hf.1) ?_
    simp +contextual -implicitDefEqProofs only [eE_size, List.map_cons, List.map_nil, List.length_cons, List.length_nil, D.size, beq_self_eq_true, bne, Bool.not_false, Bool.and_true, go_sem, ↓reduceIte, Nat.reduceEqDiff, Nat.reduceAdd, Nat.reduceLeDiff, Nat.reduceBEq, Nat.reduceSub, Bool.false_eq_true, List.cons_append, List.nil_append]
    refine wcl_self [3000000000] [96] (by rfl) (by rfl) (by rfl) (hc1.2 s l 2 0 0 to (cpE c) (by omega)) rfl (by simp [wOut, outU, uFl]) ?_
    simp +contextual -implicitDefEqProofs only [uFl, isAg_ag, atA0, List.map_cons, List.map_nil, List.length_cons, List.length_nil, D.size, D.sizeL, eI, sub_ag, Int.cast_ofNat_Int, Int.reduceLT, Int.le_refl, beq_self_eq_true, Bool.or_true, Bool.or_false, go_sem, ↓reduceIte, Nat.reduceEqDiff, Nat.reduceAdd, Nat.reduceLeDiff, Nat.reduceBEq, Nat.reduceLT, Bool.false_eq_true, List.cons_append, List.nil_append]
    refine wcl_self [3000000000] [] (by rfl) (by rfl) (by rfl) (ih a (by simp) (hf.2.2 a (by simp)) (hT.2 a (by simp)) s l.length (l ++ [(2, 0, cpE c, 0, to)]) (by simp only [List.length_append, List.length_cons, List.length_nil]; omega)) rfl (by simp [wOut, outU, uFl]) ?_
    simp +contextual -implicitDefEqProofs only [uFl, isAg_ag, atA0, List.length_cons, List.length_nil, D.cells, D.size, List.length_map, eI, sub_ag, beq_self_eq_true, Bool.or_false, go_sem, ↓reduceIte, Nat.reduceEqDiff, Nat.reduceAdd, Nat.reduceLeDiff, Nat.reduceLT, Bool.false_eq_true, List.cons_append, List.nil_append, Int.ofNat_lt, Int.natCast_nonneg]
    have h : l.length < (flowP a l.length (l ++ [(2, 0, cpE c, 0, to)])).1.length := by omega
    refine ⟨h, ⟨h, by decide, by rw [at_map h]; rfl⟩, ?_⟩
    rw [← toSp_map h]
    rfl
def flowR (g : Int × Int) (p : Pg) : Fl × Int :=
  if (okG g && okP g p) = false then ((0, (some true, [])), 1) else
  let r := flowP p 0 [((3, 0, E0, 0, 0) : Sp)]
  if (r.1.length : Int) > 60 then ((0, (some true, [])), 3) else ((r.2, (some false, r.1)), 0)

def k_flowOf (f1 : Nat) : RC := (.seq (.reg false [⟨none, .box 1 6 (.t 0)⟩, ⟨none, .zer 2 2 (.ag [(.sc (.int .i64 0)), (.ls (some true) 7 [])])⟩]) ((.seq (.reg false [⟨none, .bld 4 (.ag [(.sc (.int .i64 0)), (.sc (.int .i64 0)), (.sc (.int .i64 0)), (.sc (.int .i64 0)), (.ls (some true) 3 []), (.sc (.int .i64 0)), (.sc (.int .i64 0))]) [(0, 1, (.c (.sc (.int .i64 3))))]⟩, ⟨none, .bs 5 7 (.ag [(.sc (.int .i64 0)), (.sc (.int .i64 0)), (.sc (.int .i64 0)), (.sc (.int .i64 0)), (.ls (some true) 3 []), (.sc (.int .i64 0)), (.sc (.int .i64 0))]) 1 [(0, (.t 4))]⟩, ⟨none, .bld 6 (.ag [(.sc (.int .i64 0)), (.ls (some true) 7 [])]) [(1, 1, (.t 5))]⟩, ⟨none, .zer 3 2 (.ag [(.sc (.int .i64 0)), (.ls (some true) 7 [])])⟩, ⟨none, .st 2 (.t 3) (.t 6)⟩]) ((.seq (.reg false [⟨none, .ld 7 true 6 (.t 1)⟩, ⟨none, .wcl (some 8) f1 [(.t 3), (.t 7), (.c (.sc (.int .i64 0)))]⟩, ⟨none, .fa 9 0 (.t 3)⟩, ⟨none, .st 1 (.t 9) (.t 8)⟩]) ((.seq (.reg false [⟨none, .ld 10 true 2 (.t 3)⟩, ⟨none, .st 2 (.t 2) (.t 10)⟩]) (.ret))))))))
def K_flowOf (P : Program) (fno : Nat) : Prop := ∀ (gs : Int × Int) (p : Pg) (hf : fitP p) (hT : treeP gs p = true) (hsz : sizeP p ≤ 60), AF P fno [eP p] (.own (eFl ((flowP p 0 [((3, 0, E0, 0, 0) : Sp)]).2, (some false, (flowP p 0 [((3, 0, E0, 0, 0) : Sp)]).1))))
theorem a_flowOf {P : Program} (hm : P.follows .mixedOrders = true) {g f1 : Nat} (hr : resF P g = some (11, k_flowOf f1, [.c 2 2 true])) (hc1 : K_flMake P f1) : K_flowOf P g := by
  intro gs p hf hT hsz
  obtain ⟨k, n, c, nn, ks⟩ := p
  have hP := eP_mk k n c nn ks
  have hM := hc1 gs (Pg.mk k n c nn ks) hf hT 0 0 [((3, 0, E0, 0, 0) : Sp)] (by simp; omega)
  rw [hP] at hM ⊢
  generalize flowP (Pg.mk k n c nn ks) 0 [((3, 0, E0, 0, 0) : Sp)] = r at hM ⊢
  refine af_of_res hr hm rfl fun hb => ?_
  simp +contextual -implicitDefEqProofs only [k_flowOf, eFl, eS, isAg_ag, atA0, List.map_cons, List.map_nil, List.length_cons, List.length_nil, D.cells, D.size, D.sizeL, modeOf, noPtrs, eI, sub_ag, beq_self_eq_true, bne, Bool.not_false, Bool.true_and, Bool.and_true, Bool.and_false, Bool.or_true, Bool.or_false, go_sem, ↓reduceIte, Nat.reduceEqDiff, Nat.reduceAdd, Nat.reduceLeDiff, Nat.reduceMul, Nat.reduceBEq, Nat.reduceLT, Nat.reduceSub, Bool.false_eq_true, List.cons_append, List.nil_append]
  refine ⟨⟨by decide, rfl⟩, by simp [D.size, D.sizeL], ?_⟩
  refine wcl_self [3] [] (by rfl) (by rfl) (by rfl) hM rfl (by simp [wOut, outU, uFl]) ?_
  simp +contextual -implicitDefEqProofs only [uFl, isAg_ag, atA0, List.length_cons, List.length_nil, D.cells, D.size, D.sizeL, modeOf, noPtrs, eI, sub_ag, beq_self_eq_true, Bool.false_and, Bool.and_true, Bool.and_false, Bool.or_false, go_sem, ↓reduceIte, Nat.reduceEqDiff, Nat.reduceAdd, Nat.reduceLeDiff, Nat.reduceBEq, Nat.reduceLT, Bool.false_eq_true, List.cons_append, List.nil_append]

def k_imFlowOf (f1 f2 : Nat) : RC := (.seq (.reg false [⟨none, .box 2 2 (.t 0)⟩, ⟨none, .box 3 6 (.t 1)⟩, ⟨none, .zer 4 2 (.ag [(.sc (.int .i64 0)), (.ls (some true) 7 [])])⟩, ⟨none, .mv 5 (.c (.sc (.int .i64 0)))⟩]) ((.seq ((.seq (.reg false [⟨none, .ld 7 true 2 (.t 2)⟩, ⟨none, .ld 8 true 6 (.t 3)⟩, ⟨none, .call (some 9) f1 [(.t 7), (.t 8)]⟩, ⟨none, .un 10 .not (.t 9)⟩]) (.cond (.t 10) ((.seq (.reg false [⟨none, .bld 11 (.ag [(.sc (.int .i64 0)), (.ls (some true) 7 [])]) []⟩, ⟨none, .st 2 (.t 4) (.t 11)⟩, ⟨none, .mv 5 (.c (.sc (.int .i64 1)))⟩]) (.ret))) (.skip)))) ((.seq (.reg false [⟨none, .ld 12 true 6 (.t 3)⟩, ⟨none, .call (some 13) f2 [(.t 12)]⟩, ⟨none, .zer 6 2 (.ag [(.sc (.int .i64 0)), (.ls (some true) 7 [])])⟩, ⟨none, .st 2 (.t 6) (.t 13)⟩]) ((.seq ((.seq (.reg false [⟨none, .fa 14 1 (.t 6)⟩, ⟨none, .ld 15 false 1 (.t 14)⟩, ⟨none, .len 16 (.t 15)⟩, ⟨none, .bin 17 .gtr (.t 16) (.c (.sc (.int .i64 60)))⟩]) (.cond (.t 17) ((.seq (.reg false [⟨none, .bld 18 (.ag [(.sc (.int .i64 0)), (.ls (some true) 7 [])]) []⟩, ⟨none, .st 2 (.t 4) (.t 18)⟩, ⟨none, .mv 5 (.c (.sc (.int .i64 3)))⟩]) (.ret))) (.skip)))) ((.seq (.reg false [⟨none, .ld 19 true 2 (.t 6)⟩, ⟨none, .st 2 (.t 4) (.t 19)⟩, ⟨none, .mv 5 (.c (.sc (.int .i64 0)))⟩]) (.ret))))))))))
def K_imFlowOf (P : Program) (fno : Nat) : Prop := ∀ (gs : Int × Int) (p : Pg) (hf : fitP p), AF P fno [eG gs, eP p] (.tup ([.own (eFl (flowR gs p).1), .own (eI (flowR gs p).2)]))
theorem a_imFlowOf {P : Program} (hm : P.follows .mixedOrders = true) {g f1 f2 : Nat} (hr : resF P g = some (20, k_imFlowOf f1 f2, [.c 4 2 true, .t 5])) (hc1 : K_imValidProg P f1) (hc2 : K_flowOf P f2) : K_imFlowOf P g := by
  intro gs p hf
  obtain ⟨k, n, c, nn, ks⟩ := p
  have hP := eP_mk k n c nn ks
  rw [hP]
  refine af_of_res hr hm rfl fun hb => ?_
  simp +contextual -implicitDefEqProofs only [k_imFlowOf, eFl, eS, isAg_ag, atA0, List.map_cons, List.map_nil, D.size, D.sizeL, eI, eG, sub_ag, beq_self_eq_true, bne, Bool.not_false, Bool.and_true, go_sem, ↓reduceIte, Nat.reduceEqDiff, Nat.reduceAdd, Nat.reduceLeDiff, Nat.reduceBEq, Nat.reduceLT, Bool.false_eq_true, List.cons_append, List.nil_append]
  refine callQ_self (ds := [eG gs, eP (Pg.mk k n c nn ks)]) ?_ (hc1 gs (Pg.mk k n c nn ks)) ?_
  · rw [hP]; rfl
  cases ho : okG gs && okP gs (Pg.mk k n c nn ks)
  · rw [show flowR gs (Pg.mk k n c nn ks) = ((0, (some true, [])), 1) by simp only [flowR, ho, if_true]]
    simp +contextual -implicitDefEqProofs only [isAg_ag, atA0, List.map_cons, List.map_nil, List.length_cons, List.length_nil, D.cells, D.size, D.sizeL, modeOf, noPtrs, eB, sub_ag, beq_self_eq_true, bne, Bool.not_false, Bool.and_true, Bool.and_false, Bool.or_true, Bool.or_false, go_sem, ↓reduceIte, Nat.reduceEqDiff, Nat.reduceAdd, Nat.reduceLeDiff, Nat.reduceBEq, Nat.reduceLT, Bool.false_eq_true, List.cons_append, List.nil_append]
  simp +contextual -implicitDefEqProofs only [isAg_ag, atA0, List.map_cons, List.map_nil, eB, sub_ag, Bool.not_true, go_sem, ↓reduceIte, Nat.reduceEqDiff, Nat.reduceLeDiff, Bool.false_eq_true]
  have hP0 : okP gs (Pg.mk k n c nn ks) = true := by rw [Bool.and_eq_true] at ho; exact ho.2
  have hT : treeP gs (Pg.mk k n c nn ks) = true := by
    simp only [okP, Bool.and_eq_true] at hP0
    exact hP0.2.2
  have hsz : sizeP (Pg.mk k n c nn ks) ≤ 60 := by
    simp only [okP, Bool.and_eq_true, decide_eq_true_eq] at hP0
    exact hP0.1
  have hF := hc2 gs (Pg.mk k n c nn ks) hf hT hsz
  rw [hP] at hF
  generalize hr0 : flowP (Pg.mk k n c nn ks) 0 [((3, 0, E0, 0, 0) : Sp)] = r at hF
  refine callQ_self (by rfl) hF ?_
  simp +contextual -implicitDefEqProofs only [eFl, eS, isAg_ag, atA0, List.map_cons, List.map_nil, List.length_cons, List.length_nil, D.cells, D.size, D.sizeL, modeOf, noPtrs, List.length_map, eI, sub_ag, beq_self_eq_true, bne, Bool.not_false, Bool.false_and, Bool.and_true, Bool.and_false, Bool.or_true, Bool.or_false, go_sem, ↓reduceIte, Nat.reduceEqDiff, Nat.reduceAdd, Nat.reduceLeDiff, Nat.reduceBEq, Nat.reduceLT, Bool.false_eq_true, List.cons_append, List.nil_append]
  cases hg : decide ((r.1.length : Int) > 60)
  · have hg' : ¬ ((r.1.length : Int) > 60) := by simpa using hg
    have hR : flowR gs (Pg.mk k n c nn ks) = ((r.2, (some false, r.1)), 0) := by simp only [flowR, ho, Bool.true_eq_false, if_false, hr0, if_neg hg']
    rw [hR]
    simp +contextual -implicitDefEqProofs only [hg', go_sem]
  · have hg' : (r.1.length : Int) > 60 := by simpa using hg
    have hR : flowR gs (Pg.mk k n c nn ks) = ((0, (some true, [])), 3) := by simp only [flowR, ho, Bool.true_eq_false, if_false, hr0, if_pos hg']
    rw [hR]
    simp +contextual -implicitDefEqProofs only [hg', List.map_nil, go_sem]

def k_spFlowOf (f1 f2 : Nat) : RC := (.seq (.reg false [⟨none, .box 2 2 (.t 0)⟩, ⟨none, .box 3 6 (.t 1)⟩, ⟨none, .zer 4 2 (.ag [(.sc (.int .i64 0)), (.ls (some true) 7 [])])⟩, ⟨none, .mv 5 (.c (.sc (.int .i64 0)))⟩]) ((.seq ((.seq (.reg false [⟨none, .ld 7 true 2 (.t 2)⟩, ⟨none, .call (some 8) f1 [(.t 7), (.t 3)]⟩, ⟨none, .un 9 .not (.t 8)⟩]) (.cond (.t 9) ((.seq (.reg false [⟨none, .bld 10 (.ag [(.sc (.int .i64 0)), (.ls (some true) 7 [])]) []⟩, ⟨none, .st 2 (.t 4) (.t 10)⟩, ⟨none, .mv 5 (.c (.sc (.int .i64 1)))⟩]) (.ret))) (.skip)))) ((.seq (.reg false [⟨none, .bld 11 (.ag [(.sc (.int .i64 0)), (.sc (.int .i64 0)), (.sc (.int .i64 0)), (.sc (.int .i64 0)), (.ls (some true) 3 []), (.sc (.int .i64 0)), (.sc (.int .i64 0))]) [(0, 1, (.c (.sc (.int .i64 3))))]⟩, ⟨none, .bs 12 7 (.ag [(.sc (.int .i64 0)), (.sc (.int .i64 0)), (.sc (.int .i64 0)), (.sc (.int .i64 0)), (.ls (some true) 3 []), (.sc (.int .i64 0)), (.sc (.int .i64 0))]) 1 [(0, (.t 11))]⟩, ⟨none, .bld 13 (.ag [(.sc (.int .i64 0)), (.ls (some true) 7 [])]) [(1, 1, (.t 12))]⟩, ⟨none, .zer 6 2 (.ag [(.sc (.int .i64 0)), (.ls (some true) 7 [])])⟩, ⟨none, .st 2 (.t 6) (.t 13)⟩]) ((.seq (.reg false [⟨none, .wcl (some 14) f2 [(.t 6), (.t 3), (.c (.sc (.int .i64 0)))]⟩, ⟨none, .fa 15 0 (.t 6)⟩, ⟨none, .st 1 (.t 15) (.t 14)⟩]) ((.seq ((.seq (.reg false [⟨none, .fa 16 1 (.t 6)⟩, ⟨none, .ld 17 false 1 (.t 16)⟩, ⟨none, .len 18 (.t 17)⟩, ⟨none, .bin 19 .gtr (.t 18) (.c (.sc (.int .i64 60)))⟩]) (.cond (.t 19) ((.seq (.reg false [⟨none, .bld 20 (.ag [(.sc (.int .i64 0)), (.ls (some true) 7 [])]) []⟩, ⟨none, .st 2 (.t 4) (.t 20)⟩, ⟨none, .mv 5 (.c (.sc (.int .i64 3)))⟩]) (.ret))) (.skip)))) ((.seq (.reg false [⟨none, .ld 21 true 2 (.t 6)⟩, ⟨none, .st 2 (.t 4) (.t 21)⟩, ⟨none, .mv 5 (.c (.sc (.int .i64 0)))⟩]) (.ret))))))))))))
def K_spFlowOf (P : Program) (fno : Nat) : Prop := ∀ (gs : Int × Int) (p : Pg) (hf : fitP p), AF P fno [eG gs, eP p] (.tup ([.own (eFl (flowR gs p).1), .own (eI (flowR gs p).2)]))
theorem a_spFlowOf {P : Program} (hm : P.follows .mixedOrders = true) {g f1 f2 : Nat} (hr : resF P g = some (22, k_spFlowOf f1 f2, [.c 4 2 true, .t 5])) (hc1 : K_l06Ok P f1) (hc2 : K_l06Make P f2) : K_spFlowOf P g := by
  intro gs p hf
  obtain ⟨k, n, c, nn, ks⟩ := p
  have hP := eP_mk k n c nn ks
  rw [hP]
  refine af_of_res hr hm rfl fun hb => ?_
  simp +contextual -implicitDefEqProofs only [k_spFlowOf, eFl, eS, isAg_ag, atA0, List.map_cons, List.map_nil, D.size, D.sizeL, eI, eG, sub_ag, beq_self_eq_true, bne, Bool.not_false, Bool.and_true, go_sem, ↓reduceIte, Nat.reduceEqDiff, Nat.reduceAdd, Nat.reduceLeDiff, Nat.reduceBEq, Nat.reduceLT, Bool.false_eq_true, List.cons_append, List.nil_append]
  refine callQ_self (ds := [eG gs, .pt (eP (Pg.mk k n c nn ks)) 0]) ?_ (hc1 gs (Pg.mk k n c nn ks)) ?_
  · rw [hP]; rfl
  cases ho : okG gs && okP gs (Pg.mk k n c nn ks)
  · rw [show flowR gs (Pg.mk k n c nn ks) = ((0, (some true, [])), 1) by simp only [flowR, ho, if_true]]
    simp +contextual -implicitDefEqProofs only [isAg_ag, atA0, List.map_cons, List.map_nil, List.length_cons, List.length_nil, D.cells, D.size, D.sizeL, modeOf, noPtrs, eB, sub_ag, beq_self_eq_true, bne, Bool.not_false, Bool.and_true, Bool.and_false, Bool.or_true, Bool.or_false, go_sem, ↓reduceIte, Nat.reduceEqDiff, Nat.reduceAdd, Nat.reduceLeDiff, Nat.reduceBEq, Nat.reduceLT, Bool.false_eq_true, List.cons_append, List.nil_append]
  simp +contextual -implicitDefEqProofs only [isAg_ag, atA0, List.map_cons, List.map_nil, List.length_cons, List.length_nil, D.cells, D.size, D.sizeL, modeOf, noPtrs, eB, beq_self_eq_true, bne, Bool.not_true, Bool.not_false, Bool.true_and, Bool.and_true, Bool.and_false, Bool.or_true, Bool.or_false, go_sem, ↓reduceIte, Nat.reduceEqDiff, Nat.reduceAdd, Nat.reduceLeDiff, Nat.reduceMul, Nat.reduceBEq, Nat.reduceLT, Nat.reduceSub, Bool.false_eq_true, List.cons_append, List.nil_append]
  have hP0 : okP gs (Pg.mk k n c nn ks) = true := by rw [Bool.and_eq_true] at ho; exact ho.2
  have hT : treeP gs (Pg.mk k n c nn ks) = true := by
    simp only [okP, Bool.and_eq_true] at hP0
    exact hP0.2.2
  have hsz : sizeP (Pg.mk k n c nn ks) ≤ 60 := by
    simp only [okP, Bool.and_eq_true, decide_eq_true_eq] at hP0
    exact hP0.1
  have hM := hc2 gs (Pg.mk k n c nn ks) hf hT 0 0 [((3, 0, E0, 0, 0) : Sp)] (by simp; omega)
  rw [hP] at hM
  generalize hr0 : flowP (Pg.mk k n c nn ks) 0 [((3, 0, E0, 0, 0) : Sp)] = r at hM
  refine ⟨⟨by decide, rfl⟩, by simp [D.size, D.sizeL], ?_⟩
  refine wcl_self [6] [] (by rfl) (by rfl) (by rfl) hM rfl (by simp [wOut, outU, uFl]) ?_
  simp +contextual -implicitDefEqProofs only [uFl, isAg_ag, atA0, List.map_cons, List.map_nil, List.length_cons, List.length_nil, D.cells, D.size, D.sizeL, modeOf, noPtrs, List.length_map, eI, sub_ag, beq_self_eq_true, bne, Bool.false_and, Bool.and_true, Bool.and_false, Bool.or_true, Bool.or_false, go_sem, ↓reduceIte, Nat.reduceEqDiff, Nat.reduceAdd, Nat.reduceLeDiff, Nat.reduceBEq, Nat.reduceLT, Bool.false_eq_true, List.cons_append, List.nil_append]
  cases hg : decide ((r.1.length : Int) > 60)
  · have hg' : ¬ ((r.1.length : Int) > 60) := by simpa using hg
    have hR : flowR gs (Pg.mk k n c nn ks) = ((r.2, (some false, r.1)), 0) := by simp only [flowR, ho, Bool.true_eq_false, if_false, hr0, if_neg hg']
    rw [hR]
    simp +contextual -implicitDefEqProofs only [hg', go_sem]
  · have hg' : (r.1.length : Int) > 60 := by simpa using hg
    have hR : flowR gs (Pg.mk k n c nn ks) = ((0, (some true, [])), 3) := by simp only [flowR, ho, Bool.true_eq_false, if_false, hr0, if_pos hg']
    rw [hR]
    simp +contextual -implicitDefEqProofs only [hg', List.map_nil, go_sem]
end Go.Ax
