/- THE ENGINE, PART 5: a generator of conditions over the register code, and its soundness. No condition. -/
import Derived.Test.YtcklakmblpkbnaaAxD
set_option linter.unusedSimpArgs false
set_option linter.unusedVariables false
namespace Go.Ax

inductive Ex where
  | mk (k n : Int) (nn : Option Bool) (ks : List Ex)
  deriving Inhabited
def Ex.k : Ex → Int | .mk k _ _ _ => k
def Ex.n : Ex → Int | .mk _ n _ _ => n
def Ex.nn : Ex → Option Bool | .mk _ _ nn _ => nn
def Ex.ks : Ex → List Ex | .mk _ _ _ ks => ks

theorem Ex.k_mk {k n : Int} {nn : Option Bool} {ks : List Ex} : (Ex.mk k n nn ks).k = k := rfl
theorem Ex.n_mk {k n : Int} {nn : Option Bool} {ks : List Ex} : (Ex.mk k n nn ks).n = n := rfl
theorem Ex.nn_mk {k n : Int} {nn : Option Bool} {ks : List Ex} : (Ex.mk k n nn ks).nn = nn := rfl
theorem Ex.ks_mk {k n : Int} {nn : Option Bool} {ks : List Ex} : (Ex.mk k n nn ks).ks = ks := rfl
mutual
theorem Ex.ind {p : Ex → Prop} (h : ∀ k n nn ks, (∀ e ∈ ks, p e) → p (.mk k n nn ks)) : ∀ e, p e
  | .mk k n nn ks => h k n nn ks (Ex.indL h ks)
theorem Ex.indL {p : Ex → Prop} (h : ∀ k n nn ks, (∀ e ∈ ks, p e) → p (.mk k n nn ks)) : ∀ ks : List Ex, ∀ e ∈ ks, p e
  | [] => by simp
  | x :: ks => List.forall_mem_cons.2 ⟨Ex.ind h x, Ex.indL h ks⟩
end

mutual
def eE : Ex → D
  | .mk k n nn ks => .ag [eI k, eI n, .ls nn 3 (eEs ks)]
def eEs : List Ex → List D
  | [] => []
  | e :: es => eE e :: eEs es
end
theorem eEs_map : ∀ ks : List Ex, eEs ks = ks.map eE
  | [] => rfl
  | e :: es => by simp [eEs, eEs_map es]
theorem eE_mk (k n : Int) (nn : Option Bool) (ks : List Ex) : eE (.mk k n nn ks) = .ag [.sc (.int .i64 k), .sc (.int .i64 n), .ls nn 3 (ks.map eE)] := by rw [eE, eEs_map]; rfl
theorem eE_size (e : Ex) : (eE e).size = 3 := by cases e; rw [eE_mk]; rfl
theorem eE_isAg (e : Ex) : (eE e).isAg = true := by cases e; rw [eE_mk]; rfl
theorem encE : Enc eE 3 true := ⟨by omega, eE_size, eE_isAg, fun x => by cases x; rw [eE_mk]; rfl⟩

mutual
def szE : Ex → Int → Int
  | .mk _ _ _ ks => fun l => nx (szEs ks (cut (l - ks.length))) fun l => l
def szEs : List Ex → Int → Int
  | [] => fun l => l
  | e :: es => fun l => if l < 0 then l else szEs es (szE e l)
end
theorem szEs_eq : ∀ (ks : List Ex) (l : Int), szEs ks l = szL szE ks l
  | [], _ => rfl
  | e :: es, l => by simp only [szEs, szL, szEs_eq es]
theorem szE_mk (k n : Int) (nn : Option Bool) (ks : List Ex) (l : Int) : szE (.mk k n nn ks) l = nx (szS szE (nn, ks) l) fun l => l := by
  rw [szE]
  simp only [szEs_eq, szS]
mutual
def tE : Ex → Ex
  | .mk k n _ ks => .mk k n (some false) (tEs ks)
def tEs : List Ex → List Ex
  | [] => []
  | e :: es => tE e :: tEs es
end
theorem tEs_map : ∀ ks : List Ex, tEs ks = ks.map tE
  | [] => rfl
  | e :: es => by simp [tEs, tEs_map es]
theorem tE_mk (k n : Int) (nn : Option Bool) (ks : List Ex) : tE (.mk k n nn ks) = .mk k n (some false) (ks.map tE) := by rw [tE, tEs_map]
mutual
def qE : Ex → Ex → Bool
  | .mk k n _ ks, .mk k' n' _ ks' => (k == k') && ((n == n') && qEs ks ks')
def qEs : List Ex → List Ex → Bool
  | [], [] => true
  | x :: a, y :: b => qE x y && qEs a b
  | _, _ => false
end
theorem qEs_eq : ∀ (a b : List Ex), qEs a b = eqL qE a b
  | [], [] => by simp [qEs, eqL]
  | x :: a, y :: b => by simp only [qEs, eqL, qEs_eq a b]
  | [], _ :: _ => by simp [qEs, eqL]
  | _ :: _, [] => by simp [qEs, eqL]
theorem qE_mk (k n : Int) (nn : Option Bool) (ks : List Ex) (k' n' : Int) (nn' : Option Bool) (ks' : List Ex) : qE (.mk k n nn ks) (.mk k' n' nn' ks') = ((k == k') && ((n == n') && eqL qE ks ks')) := by
  rw [qE, qEs_eq]
mutual
def fitE : Ex → Prop
  | .mk _ _ _ ks => ks.length ≤ 1048576 ∧ fitEs ks
def fitEs : List Ex → Prop
  | [] => True
  | e :: es => fitE e ∧ fitEs es
end
theorem fitEs_iff : ∀ ks : List Ex, fitEs ks ↔ ∀ x ∈ ks, fitE x
  | [] => by simp [fitEs]
  | e :: es => by simp [fitEs, fitEs_iff es]
theorem fitE_mk (k n : Int) (nn : Option Bool) (ks : List Ex) : fitE (.mk k n nn ks) ↔ ks.length ≤ 1048576 ∧ ∀ x ∈ ks, fitE x := by rw [fitE, fitEs_iff]

theorem szE_in : ∀ (e : Ex) (l : Int), 0 ≤ l → l ≤ 1048576 → -1 ≤ szE e l ∧ szE e l ≤ l :=
  Ex.ind fun k n nn ks ih l h1 h2 => by
    rw [szE_mk]
    refine in_tr (Int.le_refl l) (nx_in (szS_in ih h1 h2) h1 h2 fun y a b => ⟨by omega, b⟩)
theorem szE_fit : ∀ (e : Ex) (l : Int), l ≤ 1048576 → 0 ≤ l → 0 ≤ szE e l → fitE e :=
  Ex.ind fun k n nn ks ih l h2 h1 h => by
    rw [szE_mk] at h
    rw [fitE_mk]
    obtain ⟨p, _⟩ := nx_fit h
    exact szS_fit (fun x _ => szE_in x) ih h2 h1 p
theorem qE_refl : ∀ e : Ex, qE e e = true :=
  Ex.ind fun k n nn ks ih => by
    rw [qE_mk, eqL_refl ih]
    simp
end Go.Ax
namespace Go.Ax
set_option linter.unusedSimpArgs false
def eG (g : Int × Int) : D := .ag [eI g.1, eI g.2]
def isIn (n lo hi : Int) : Bool := decide (lo ≤ n) && decide (n ≤ hi)
def okG (g : Int × Int) : Bool := isIn g.1 0 3 && isIn g.2 0 4

def k_within : RC :=
 (.seq
  (.reg false [⟨none, .mv 6 (.c (.sc (.bool false)))⟩])
  ((.seq
   (.reg false [⟨none, .mv 7 (.t 1)⟩,
     ⟨none, .mv 8 (.t 0)⟩,
     ⟨none, .bin 9 .leq (.t 7) (.t 8)⟩,
     ⟨none, .mv 10 (.t 9)⟩,
     ⟨some (10, true), .mv 11 (.t 0)⟩,
     ⟨some (10, true), .mv 12 (.t 2)⟩,
     ⟨some (10, true), .bin 13 .leq (.t 11) (.t 12)⟩,
     ⟨none, .pick 14 (.t 10) (.t 13) (.c (.sc (.bool false)))⟩,
     ⟨none, .mv 6 (.t 14)⟩])
   (.ret))))
def K_within (P : Program) (f : Nat) : Prop := ∀ (n lo hi : Int), AF P f [eI n, eI lo, eI hi] (.own (eB (isIn n lo hi)))
theorem a_within {P : Program} (hm : P.follows .mixedOrders = true) {g : Nat} (hr : resF P g = some (15, k_within, [.t 6])) : K_within P g := by
  intro n lo hi
  refine af_of_res hr hm rfl fun hb => ?_
  simp +contextual -implicitDefEqProofs only [k_within, isIn, go_sem, eI, eB, ↓reduceIte, Nat.reduceEqDiff, Nat.reduceAdd, Nat.reduceLeDiff, Nat.reduceMul, Nat.reduceBEq, Nat.reduceBneDiff, Nat.reduceLT, Nat.reduceSub, decide_true, decide_false, and_self, true_and, and_true, false_and, and_false, not_true_eq_false, not_false_eq_true, false_implies, true_implies, implies_true, ge_iff_le, Bool.false_eq_true, List.cons_append, List.nil_append]

def k_l00In : RC :=
 (.seq
  (.reg false [⟨none, .mv 6 (.c (.sc (.bool false)))⟩])
  ((.seq
   (.reg false [⟨none, .mv 7 (.t 0)⟩,
     ⟨none, .mv 8 (.t 1)⟩,
     ⟨none, .bin 9 .geq (.t 7) (.t 8)⟩,
     ⟨none, .mv 10 (.t 9)⟩,
     ⟨some (10, true), .mv 11 (.t 0)⟩,
     ⟨some (10, true), .mv 12 (.t 2)⟩,
     ⟨some (10, true), .bin 13 .leq (.t 11) (.t 12)⟩,
     ⟨none, .pick 14 (.t 10) (.t 13) (.c (.sc (.bool false)))⟩,
     ⟨none, .mv 6 (.t 14)⟩])
   (.ret))))
def K_l00In (P : Program) (f : Nat) : Prop := ∀ (n lo hi : Int), AF P f [eI n, eI lo, eI hi] (.own (eB (isIn n lo hi)))
theorem a_l00In {P : Program} (hm : P.follows .mixedOrders = true) {g : Nat} (hr : resF P g = some (15, k_l00In, [.t 6])) : K_l00In P g := by
  intro n lo hi
  refine af_of_res hr hm rfl fun hb => ?_
  simp +contextual -implicitDefEqProofs only [k_l00In, isIn, go_sem, eI, eB, ↓reduceIte, Nat.reduceEqDiff, Nat.reduceAdd, Nat.reduceLeDiff, Nat.reduceMul, Nat.reduceBEq, Nat.reduceBneDiff, Nat.reduceLT, Nat.reduceSub, decide_true, decide_false, and_self, true_and, and_true, false_and, and_false, not_true_eq_false, not_false_eq_true, false_implies, true_implies, implies_true, ge_iff_le, Bool.false_eq_true, List.cons_append, List.nil_append]

def k_validSig (f1 : Nat) : RC :=
 (.seq
  (.reg false [⟨none, .box 1 2 (.t 0)⟩,
    ⟨none, .mv 2 (.c (.sc (.bool false)))⟩])
  ((.seq
   (.reg false [⟨none, .fa 3 0 (.t 1)⟩,
     ⟨none, .ld 4 false 1 (.t 3)⟩,
     ⟨none, .call (some 5) f1 [(.t 4), (.c (.sc (.int .i64 0))), (.c (.sc (.int .i64 3)))]⟩,
     ⟨none, .mv 6 (.t 5)⟩,
     ⟨some (6, true), .fa 7 1 (.t 1)⟩,
     ⟨some (6, true), .ld 8 false 1 (.t 7)⟩,
     ⟨some (6, true), .call (some 9) f1 [(.t 8), (.c (.sc (.int .i64 0))), (.c (.sc (.int .i64 4)))]⟩,
     ⟨none, .pick 10 (.t 6) (.t 9) (.c (.sc (.bool false)))⟩,
     ⟨none, .mv 2 (.t 10)⟩])
   (.ret))))
def K_validSig (P : Program) (f : Nat) : Prop := ∀ (g : Int × Int), AF P f [eG g] (.own (eB (okG g)))
theorem a_validSig {P : Program} (hm : P.follows .mixedOrders = true) {g f1 : Nat} (hr : resF P g = some (11, k_validSig f1, [.t 2])) (hc1 : K_within P f1) : K_validSig P g := by
  intro g
  refine af_of_res hr hm rfl fun hb => ?_
  simp +contextual -implicitDefEqProofs only [k_validSig, eG, go_sem, eI, eB, ↓reduceIte, Nat.reduceEqDiff, Nat.reduceAdd, Nat.reduceLeDiff, Nat.reduceMul, Nat.reduceBEq, Nat.reduceBneDiff, Nat.reduceLT, Nat.reduceSub, decide_true, decide_false, and_self, true_and, and_true, false_and, and_false, not_true_eq_false, not_false_eq_true, false_implies, true_implies, implies_true, ge_iff_le, Bool.false_eq_true, List.cons_append, List.nil_append]
  refine callQ_self ?_ (hc1 g.1 0 3) ?_
  · exact rfl
  cases h1 : isIn g.1 0 3 <;> simp +contextual -implicitDefEqProofs only [okG, h1, go_sem, eI, eB, ↓reduceIte, Nat.reduceEqDiff, Nat.reduceAdd, Nat.reduceLeDiff, Nat.reduceMul, Nat.reduceBEq, Nat.reduceBneDiff, Nat.reduceLT, Nat.reduceSub, decide_true, decide_false, and_self, true_and, and_true, false_and, and_false, not_true_eq_false, not_false_eq_true, false_implies, true_implies, implies_true, ge_iff_le, Bool.false_eq_true, List.cons_append, List.nil_append]
  refine callQ_self ?_ (hc1 g.2 0 4) ?_
  · exact rfl
  simp +contextual -implicitDefEqProofs only [go_sem, eI, eB, ↓reduceIte, Nat.reduceEqDiff, Nat.reduceAdd, Nat.reduceLeDiff, Nat.reduceMul, Nat.reduceBEq, Nat.reduceBneDiff, Nat.reduceLT, Nat.reduceSub, decide_true, decide_false, and_self, true_and, and_true, false_and, and_false, not_true_eq_false, not_false_eq_true, false_implies, true_implies, implies_true, ge_iff_le, Bool.false_eq_true, List.cons_append, List.nil_append]

def k_l01Sig (f1 : Nat) : RC :=
 (.seq
  (.reg false [⟨none, .box 1 2 (.t 0)⟩,
    ⟨none, .mv 2 (.c (.sc (.bool false)))⟩])
  ((.seq
   (.reg false [⟨none, .fa 3 0 (.t 1)⟩,
     ⟨none, .ld 4 false 1 (.t 3)⟩,
     ⟨none, .call (some 5) f1 [(.t 4), (.c (.sc (.int .i64 0))), (.c (.sc (.int .i64 3)))]⟩,
     ⟨none, .mv 6 (.t 5)⟩,
     ⟨some (6, true), .fa 7 1 (.t 1)⟩,
     ⟨some (6, true), .ld 8 false 1 (.t 7)⟩,
     ⟨some (6, true), .call (some 9) f1 [(.t 8), (.c (.sc (.int .i64 0))), (.c (.sc (.int .i64 4)))]⟩,
     ⟨none, .pick 10 (.t 6) (.t 9) (.c (.sc (.bool false)))⟩,
     ⟨none, .mv 2 (.t 10)⟩])
   (.ret))))
def K_l01Sig (P : Program) (f : Nat) : Prop := ∀ (g : Int × Int), AF P f [eG g] (.own (eB (okG g)))
theorem a_l01Sig {P : Program} (hm : P.follows .mixedOrders = true) {g f1 : Nat} (hr : resF P g = some (11, k_l01Sig f1, [.t 2])) (hc1 : K_l00In P f1) : K_l01Sig P g := by
  intro g
  refine af_of_res hr hm rfl fun hb => ?_
  simp +contextual -implicitDefEqProofs only [k_l01Sig, eG, go_sem, eI, eB, ↓reduceIte, Nat.reduceEqDiff, Nat.reduceAdd, Nat.reduceLeDiff, Nat.reduceMul, Nat.reduceBEq, Nat.reduceBneDiff, Nat.reduceLT, Nat.reduceSub, decide_true, decide_false, and_self, true_and, and_true, false_and, and_false, not_true_eq_false, not_false_eq_true, false_implies, true_implies, implies_true, ge_iff_le, Bool.false_eq_true, List.cons_append, List.nil_append]
  refine callQ_self ?_ (hc1 g.1 0 3) ?_
  · exact rfl
  cases h1 : isIn g.1 0 3 <;> simp +contextual -implicitDefEqProofs only [okG, h1, go_sem, eI, eB, ↓reduceIte, Nat.reduceEqDiff, Nat.reduceAdd, Nat.reduceLeDiff, Nat.reduceMul, Nat.reduceBEq, Nat.reduceBneDiff, Nat.reduceLT, Nat.reduceSub, decide_true, decide_false, and_self, true_and, and_true, false_and, and_false, not_true_eq_false, not_false_eq_true, false_implies, true_implies, implies_true, ge_iff_le, Bool.false_eq_true, List.cons_append, List.nil_append]
  refine callQ_self ?_ (hc1 g.2 0 4) ?_
  · exact rfl
  simp +contextual -implicitDefEqProofs only [go_sem, eI, eB, ↓reduceIte, Nat.reduceEqDiff, Nat.reduceAdd, Nat.reduceLeDiff, Nat.reduceMul, Nat.reduceBEq, Nat.reduceBneDiff, Nat.reduceLT, Nat.reduceSub, decide_true, decide_false, and_self, true_and, and_true, false_and, and_false, not_true_eq_false, not_false_eq_true, false_implies, true_implies, implies_true, ge_iff_le, Bool.false_eq_true, List.cons_append, List.nil_append]

def k_toSig : RC :=
 (.seq
  (.reg false [⟨none, .box 1 2 (.t 0)⟩,
    ⟨none, .zer 2 2 (.ag [(.sc (.int .i64 0)), (.sc (.int .i64 0))])⟩])
  ((.seq
   (.reg false [⟨none, .zer 3 2 (.ag [(.sc (.int .i64 0)), (.sc (.int .i64 0))])⟩])
   ((.seq
    (.reg false [⟨none, .fa 4 0 (.t 1)⟩,
      ⟨none, .ld 5 false 1 (.t 4)⟩,
      ⟨none, .fa 6 0 (.t 3)⟩,
      ⟨none, .st 1 (.t 6) (.t 5)⟩])
    ((.seq
     (.reg false [⟨none, .fa 7 1 (.t 1)⟩,
       ⟨none, .ld 8 false 1 (.t 7)⟩,
       ⟨none, .fa 9 1 (.t 3)⟩,
       ⟨none, .st 1 (.t 9) (.t 8)⟩])
     ((.seq
      (.reg false [⟨none, .ld 10 true 2 (.t 3)⟩,
        ⟨none, .st 2 (.t 2) (.t 10)⟩])
      (.ret))))))))))
def K_toSig (P : Program) (f : Nat) : Prop := ∀ (g : Int × Int), AF P f [eG g] (.own (eG g))
theorem a_toSig {P : Program} (hm : P.follows .mixedOrders = true) {g : Nat} (hr : resF P g = some (11, k_toSig, [.c 2 2 true])) : K_toSig P g := by
  intro g
  refine af_of_res hr hm rfl fun hb => ?_
  simp +contextual -implicitDefEqProofs only [k_toSig, eG, go_sem, eI, eB, ↓reduceIte, Nat.reduceEqDiff, Nat.reduceAdd, Nat.reduceLeDiff, Nat.reduceMul, Nat.reduceBEq, Nat.reduceBneDiff, Nat.reduceLT, Nat.reduceSub, decide_true, decide_false, and_self, true_and, and_true, false_and, and_false, not_true_eq_false, not_false_eq_true, false_implies, true_implies, implies_true, ge_iff_le, Bool.false_eq_true, List.cons_append, List.nil_append]
def qG (a b : Int × Int) : Bool := (a.1 == b.1) && (a.2 == b.2)

def k_eqSig : RC :=
 (.seq
  (.reg false [⟨none, .box 2 2 (.t 0)⟩,
    ⟨none, .box 3 2 (.t 1)⟩,
    ⟨none, .mv 4 (.c (.sc (.bool false)))⟩])
  ((.seq
   ((.seq
    (.reg false [⟨none, .fa 5 0 (.t 2)⟩,
      ⟨none, .ld 6 false 1 (.t 5)⟩,
      ⟨none, .fa 7 0 (.t 3)⟩,
      ⟨none, .ld 8 false 1 (.t 7)⟩,
      ⟨none, .bin 9 .neq (.t 6) (.t 8)⟩])
    (.cond (.t 9)
     ((.seq
      (.reg false [⟨none, .mv 4 (.c (.sc (.bool false)))⟩])
      (.ret)))
     (.skip))))
   ((.seq
    ((.seq
     (.reg false [⟨none, .fa 10 1 (.t 2)⟩,
       ⟨none, .ld 11 false 1 (.t 10)⟩,
       ⟨none, .fa 12 1 (.t 3)⟩,
       ⟨none, .ld 13 false 1 (.t 12)⟩,
       ⟨none, .bin 14 .neq (.t 11) (.t 13)⟩])
     (.cond (.t 14)
      ((.seq
       (.reg false [⟨none, .mv 4 (.c (.sc (.bool false)))⟩])
       (.ret)))
      (.skip))))
    ((.seq
     (.reg false [⟨none, .mv 4 (.c (.sc (.bool true)))⟩])
     (.ret))))))))
def K_eqSig (P : Program) (f : Nat) : Prop := ∀ (a b : Int × Int), AF P f [eG a, eG b] (.own (eB (qG a b)))
theorem a_eqSig {P : Program} (hm : P.follows .mixedOrders = true) {g : Nat} (hr : resF P g = some (15, k_eqSig, [.t 4])) : K_eqSig P g := by
  intro a b
  refine af_of_res hr hm rfl fun hb => ?_
  cases h1 : (a.1 == b.1) <;> cases h2 : (a.2 == b.2) <;> simp +contextual -implicitDefEqProofs only [k_eqSig, eG, qG, h1, h2, bne, Bool.not_true, Bool.not_false, Bool.true_and, Bool.false_and, Bool.and_true, Bool.and_false, Bool.true_or, Bool.false_or, Bool.or_true, Bool.or_false, go_sem, eI, eB, ↓reduceIte, Nat.reduceEqDiff, Nat.reduceAdd, Nat.reduceLeDiff, Nat.reduceMul, Nat.reduceBEq, Nat.reduceBneDiff, Nat.reduceLT, Nat.reduceSub, decide_true, decide_false, and_self, true_and, and_true, false_and, and_false, not_true_eq_false, not_false_eq_true, false_implies, true_implies, implies_true, ge_iff_le, Bool.false_eq_true, List.cons_append, List.nil_append]
def k_szExpr (f1 : Nat) : RC :=
 (.seq
  (.reg false [⟨none, .box 2 3 (.t 0)⟩,
    ⟨none, .mv 4 (.c (.sc (.int .i64 0)))⟩])
  ((.seq
   (.reg false [⟨none, .fa 5 2 (.t 2)⟩,
     ⟨none, .ld 6 false 1 (.t 5)⟩,
     ⟨none, .mv 7 (.t 1)⟩,
     ⟨none, .call (some 8) f1 [(.t 6), (.t 7)]⟩,
     ⟨none, .mv 1 (.t 8)⟩])
   ((.seq
    ((.seq
     (.reg false [⟨none, .mv 9 (.t 1)⟩,
       ⟨none, .bin 10 .lss (.t 9) (.c (.sc (.int .i64 0)))⟩])
     (.cond (.t 10)
      ((.seq
       (.reg false [⟨none, .mv 4 (.c (.sc (.int .i64 (-1))))⟩])
       (.ret)))
      (.skip))))
    ((.seq
     (.reg false [⟨none, .mv 11 (.t 1)⟩,
       ⟨none, .mv 4 (.t 11)⟩])
     (.ret))))))))
def k_toExpr (f1 : Nat) : RC :=
 (.seq
  (.reg false [⟨none, .box 1 3 (.t 0)⟩,
    ⟨none, .zer 2 3 (.ag [(.sc (.int .i64 0)), (.sc (.int .i64 0)), (.ls (some true) 3 [])])⟩])
  ((.seq
   (.reg false [⟨none, .zer 3 3 (.ag [(.sc (.int .i64 0)), (.sc (.int .i64 0)), (.ls (some true) 3 [])])⟩])
   ((.seq
    (.reg false [⟨none, .fa 4 0 (.t 1)⟩,
      ⟨none, .ld 5 false 1 (.t 4)⟩,
      ⟨none, .fa 6 0 (.t 3)⟩,
      ⟨none, .st 1 (.t 6) (.t 5)⟩])
    ((.seq
     (.reg false [⟨none, .fa 7 1 (.t 1)⟩,
       ⟨none, .ld 8 false 1 (.t 7)⟩,
       ⟨none, .fa 9 1 (.t 3)⟩,
       ⟨none, .st 1 (.t 9) (.t 8)⟩])
     ((.seq
      (.reg false [⟨none, .fa 10 2 (.t 1)⟩,
        ⟨none, .ld 11 false 1 (.t 10)⟩,
        ⟨none, .call (some 12) f1 [(.t 11)]⟩,
        ⟨none, .fa 13 2 (.t 3)⟩,
        ⟨none, .st 1 (.t 13) (.t 12)⟩])
      ((.seq
       (.reg false [⟨none, .ld 14 true 3 (.t 3)⟩,
         ⟨none, .st 3 (.t 2) (.t 14)⟩])
       (.ret))))))))))))
def k_eqExpr (f1 : Nat) : RC :=
 (.seq
  (.reg false [⟨none, .box 2 3 (.t 0)⟩,
    ⟨none, .box 3 3 (.t 1)⟩,
    ⟨none, .mv 4 (.c (.sc (.bool false)))⟩])
  ((.seq
   ((.seq
    (.reg false [⟨none, .fa 5 0 (.t 2)⟩,
      ⟨none, .ld 6 false 1 (.t 5)⟩,
      ⟨none, .fa 7 0 (.t 3)⟩,
      ⟨none, .ld 8 false 1 (.t 7)⟩,
      ⟨none, .bin 9 .neq (.t 6) (.t 8)⟩])
    (.cond (.t 9)
     ((.seq
      (.reg false [⟨none, .mv 4 (.c (.sc (.bool false)))⟩])
      (.ret)))
     (.skip))))
   ((.seq
    ((.seq
     (.reg false [⟨none, .fa 10 1 (.t 2)⟩,
       ⟨none, .ld 11 false 1 (.t 10)⟩,
       ⟨none, .fa 12 1 (.t 3)⟩,
       ⟨none, .ld 13 false 1 (.t 12)⟩,
       ⟨none, .bin 14 .neq (.t 11) (.t 13)⟩])
     (.cond (.t 14)
      ((.seq
       (.reg false [⟨none, .mv 4 (.c (.sc (.bool false)))⟩])
       (.ret)))
      (.skip))))
    ((.seq
     ((.seq
      (.reg false [⟨none, .fa 15 2 (.t 2)⟩,
        ⟨none, .ld 16 false 1 (.t 15)⟩,
        ⟨none, .fa 17 2 (.t 3)⟩,
        ⟨none, .ld 18 false 1 (.t 17)⟩,
        ⟨none, .call (some 19) f1 [(.t 16), (.t 18)]⟩,
        ⟨none, .un 20 .not (.t 19)⟩])
      (.cond (.t 20)
       ((.seq
        (.reg false [⟨none, .mv 4 (.c (.sc (.bool false)))⟩])
        (.ret)))
       (.skip))))
     ((.seq
      (.reg false [⟨none, .mv 4 (.c (.sc (.bool true)))⟩])
      (.ret))))))))))
section
variable {P : Program} (hm : P.follows .mixedOrders = true)
include hm
theorem af_szExpr {g f1 : Nat} (rs : resF P g = some (12, k_szExpr f1, [.t 4])) (rss : resF P f1 = some (27, cSzC g 3 true, [.t 4])) :
    ∀ (e : Ex) (l : Int), 0 ≤ l → l ≤ 1048576 → AF P g [eE e, eI l] (.own (eI (szE e l))) :=
  Ex.ind fun k n nn ks ih l h1 h2 => by
    have hs : AF P f1 [eS 3 eE (nn, ks), eI l] (.own (eI (szS szE (nn, ks) l))) := af_szC hm encE rss szE (nn, ks) (fun x hx l g1 g2 => ⟨ih x hx l g1 g2, (szE_in x l g1 g2).1, by have := (szE_in x l g1 g2).2; omega⟩) l (by omega) h2
    rw [eE_mk, szE_mk]
    refine af_of_res rs hm rfl fun _ => ?_
    simp +contextual -implicitDefEqProofs only [k_szExpr, eS, go_sem, eI, eB, ↓reduceIte, Nat.reduceEqDiff, Nat.reduceAdd, Nat.reduceLeDiff, Nat.reduceMul, Nat.reduceBEq, Nat.reduceBneDiff, Nat.reduceLT, Nat.reduceSub, decide_true, decide_false, and_self, true_and, and_true, false_and, and_false, not_true_eq_false, not_false_eq_true, false_implies, true_implies, implies_true, ge_iff_le, Bool.false_eq_true, List.cons_append, List.nil_append]
    refine callQ_self ?_ hs ?_
    · exact rfl
    simp +contextual -implicitDefEqProofs only [eS, go_sem, eI, eB, ↓reduceIte, Nat.reduceEqDiff, Nat.reduceAdd, Nat.reduceLeDiff, Nat.reduceMul, Nat.reduceBEq, Nat.reduceBneDiff, Nat.reduceLT, Nat.reduceSub, decide_true, decide_false, and_self, true_and, and_true, false_and, and_false, not_true_eq_false, not_false_eq_true, false_implies, true_implies, implies_true, ge_iff_le, Bool.false_eq_true, List.cons_append, List.nil_append]
    exact ⟨fun h => D.Le.sc_eq (by rw [nx_neg h]), fun h => D.Le.sc_eq (by rw [nx_pos h])⟩
theorem af_toExpr {g f1 : Nat} (rs : resF P g = some (15, k_toExpr f1, [.c 2 3 true])) (rss : resF P f1 = some (23, cToC g 3 40 true (.ag [(.sc (.int .i64 0)), (.sc (.int .i64 0)), (.ls (some true) 3 [])]), [.t 2])) :
    ∀ e : Ex, fitE e → AF P g [eE e] (.own (eE (tE e))) :=
  Ex.ind fun k n nn ks ih h => by
    rw [fitE_mk] at h
    have hs : AF P f1 [eS 3 eE (nn, ks)] (.own (eS 3 eE (some false, ks.map tE))) := af_toC hm encE encE ⟨rfl, rfl, rfl⟩ rss (nn, ks) (by have := h.1; simp only; omega) fun x hx => ih x hx (h.2 x hx)
    rw [tE_mk, eE_mk, eE_mk]
    refine af_of_res rs hm rfl fun _ => ?_
    simp +contextual -implicitDefEqProofs only [k_toExpr, eS, go_sem, eI, eB, ↓reduceIte, Nat.reduceEqDiff, Nat.reduceAdd, Nat.reduceLeDiff, Nat.reduceMul, Nat.reduceBEq, Nat.reduceBneDiff, Nat.reduceLT, Nat.reduceSub, decide_true, decide_false, and_self, true_and, and_true, false_and, and_false, not_true_eq_false, not_false_eq_true, false_implies, true_implies, implies_true, ge_iff_le, Bool.false_eq_true, List.cons_append, List.nil_append]
    refine callQ_self ?_ hs ?_
    · exact rfl
    simp +contextual -implicitDefEqProofs only [eS, go_sem, eI, eB, ↓reduceIte, Nat.reduceEqDiff, Nat.reduceAdd, Nat.reduceLeDiff, Nat.reduceMul, Nat.reduceBEq, Nat.reduceBneDiff, Nat.reduceLT, Nat.reduceSub, decide_true, decide_false, and_self, true_and, and_true, false_and, and_false, not_true_eq_false, not_false_eq_true, false_implies, true_implies, implies_true, ge_iff_le, Bool.false_eq_true, List.cons_append, List.nil_append]

theorem af_eqExpr {g f1 : Nat} (rs : resF P g = some (21, k_eqExpr f1, [.t 4])) (rss : resF P f1 = some (27, cEqC g 3 true, [.t 4])) :
    ∀ a b : Ex, AF P g [eE a, eE b] (.own (eB (qE a b))) :=
  Ex.ind fun k n nn ks ih b => by
    cases b with
    | mk k' n' nn' ks' =>
    have hs : AF P f1 [eS 3 eE (nn, ks), eS 3 eE (nn', ks')] (.own (eB (eqL qE ks ks'))) := af_eqC hm encE rss qE (nn, ks) (nn', ks') fun x hx y _ => ih x hx y
    rw [eE_mk, eE_mk, qE_mk]
    refine af_of_res rs hm rfl fun _ => ?_
    cases h1 : (k == k')
    · simp +contextual -implicitDefEqProofs only [k_eqExpr, eS, h1, bne, Bool.not_true, Bool.not_false, Bool.true_and, Bool.false_and, Bool.and_true, Bool.and_false, Bool.true_or, Bool.false_or, Bool.or_true, Bool.or_false, go_sem, eI, eB, ↓reduceIte, Nat.reduceEqDiff, Nat.reduceAdd, Nat.reduceLeDiff, Nat.reduceMul, Nat.reduceBEq, Nat.reduceBneDiff, Nat.reduceLT, Nat.reduceSub, decide_true, decide_false, and_self, true_and, and_true, false_and, and_false, not_true_eq_false, not_false_eq_true, false_implies, true_implies, implies_true, ge_iff_le, Bool.false_eq_true, List.cons_append, List.nil_append]
    cases h2 : (n == n')
    · simp +contextual -implicitDefEqProofs only [k_eqExpr, eS, h1, h2, bne, Bool.not_true, Bool.not_false, Bool.true_and, Bool.false_and, Bool.and_true, Bool.and_false, Bool.true_or, Bool.false_or, Bool.or_true, Bool.or_false, go_sem, eI, eB, ↓reduceIte, Nat.reduceEqDiff, Nat.reduceAdd, Nat.reduceLeDiff, Nat.reduceMul, Nat.reduceBEq, Nat.reduceBneDiff, Nat.reduceLT, Nat.reduceSub, decide_true, decide_false, and_self, true_and, and_true, false_and, and_false, not_true_eq_false, not_false_eq_true, false_implies, true_implies, implies_true, ge_iff_le, Bool.false_eq_true, List.cons_append, List.nil_append]
    simp +contextual -implicitDefEqProofs only [k_eqExpr, eS, h1, h2, bne, Bool.not_true, Bool.not_false, Bool.true_and, Bool.false_and, Bool.and_true, Bool.and_false, Bool.true_or, Bool.false_or, Bool.or_true, Bool.or_false, go_sem, eI, eB, ↓reduceIte, Nat.reduceEqDiff, Nat.reduceAdd, Nat.reduceLeDiff, Nat.reduceMul, Nat.reduceBEq, Nat.reduceBneDiff, Nat.reduceLT, Nat.reduceSub, decide_true, decide_false, and_self, true_and, and_true, false_and, and_false, not_true_eq_false, not_false_eq_true, false_implies, true_implies, implies_true, ge_iff_le, Bool.false_eq_true, List.cons_append, List.nil_append]
    refine callQ_self ?_ hs ?_
    · exact rfl
    cases h3 : eqL qE ks ks'
    · simp +contextual -implicitDefEqProofs only [eS, h3, bne, Bool.not_true, Bool.not_false, Bool.true_and, Bool.false_and, Bool.and_true, Bool.and_false, Bool.true_or, Bool.false_or, Bool.or_true, Bool.or_false, go_sem, eI, eB, ↓reduceIte, Nat.reduceEqDiff, Nat.reduceAdd, Nat.reduceLeDiff, Nat.reduceMul, Nat.reduceBEq, Nat.reduceBneDiff, Nat.reduceLT, Nat.reduceSub, decide_true, decide_false, and_self, true_and, and_true, false_and, and_false, not_true_eq_false, not_false_eq_true, false_implies, true_implies, implies_true, ge_iff_le, Bool.false_eq_true, List.cons_append, List.nil_append]
    · simp +contextual -implicitDefEqProofs only [eS, h3, bne, Bool.not_true, Bool.not_false, Bool.true_and, Bool.false_and, Bool.and_true, Bool.and_false, Bool.true_or, Bool.false_or, Bool.or_true, Bool.or_false, go_sem, eI, eB, ↓reduceIte, Nat.reduceEqDiff, Nat.reduceAdd, Nat.reduceLeDiff, Nat.reduceMul, Nat.reduceBEq, Nat.reduceBneDiff, Nat.reduceLT, Nat.reduceSub, decide_true, decide_false, and_self, true_and, and_true, false_and, and_false, not_true_eq_false, not_false_eq_true, false_implies, true_implies, implies_true, ge_iff_le, Bool.false_eq_true, List.cons_append, List.nil_append]

def famE {sF tF qF sG tG qG : Nat} (r1 : resF P sF = some (12, k_szExpr sG, [.t 4])) (r2 : resF P sG = some (27, cSzC sF 3 true, [.t 4]))
    (r3 : resF P tF = some (15, k_toExpr tG, [.c 2 3 true])) (r4 : resF P tG = some (23, cToC tF 3 40 true (.ag [(.sc (.int .i64 0)), (.sc (.int .i64 0)), (.ls (some true) 3 [])]), [.t 2]))
    (r5 : resF P qF = some (21, k_eqExpr qG, [.t 4])) (r6 : resF P qG = some (27, cEqC qF 3 true, [.t 4])) : Fam P eE sF tF qF where
  s := szE
  t := tE
  q := qE
  fit := fitE
  s_in := szE_in
  s_fit := szE_fit
  q_refl := qE_refl
  afS := af_szExpr hm r1 r2
  afT := af_toExpr hm r3 r4
  afQ := af_eqExpr hm r5 r6
end

def k_l01Same (g : Nat) : RC :=
 (.seq
  (.reg false [⟨none, .mv 4 (.c (.sc (.bool false)))⟩])
  ((.seq
   ((.seq
    (.reg true [⟨none, .mv 6 (.t 0)⟩,
      ⟨none, .nck 7 (.t 6)⟩,
      ⟨none, .fa 8 0 (.t 7)⟩,
      ⟨none, .ld 9 false 1 (.t 8)⟩,
      ⟨none, .mv 10 (.t 1)⟩,
      ⟨none, .nck 11 (.t 10)⟩,
      ⟨none, .fa 12 0 (.t 11)⟩,
      ⟨none, .ld 13 false 1 (.t 12)⟩,
      ⟨none, .bin 14 .neq (.t 9) (.t 13)⟩,
      ⟨none, .mv 15 (.t 14)⟩,
      ⟨some (15, false), .mv 16 (.t 0)⟩,
      ⟨some (15, false), .nck 17 (.t 16)⟩,
      ⟨some (15, false), .fa 18 1 (.t 17)⟩,
      ⟨some (15, false), .ld 19 false 1 (.t 18)⟩,
      ⟨some (15, false), .mv 20 (.t 1)⟩,
      ⟨some (15, false), .nck 21 (.t 20)⟩,
      ⟨some (15, false), .fa 22 1 (.t 21)⟩,
      ⟨some (15, false), .ld 23 false 1 (.t 22)⟩,
      ⟨some (15, false), .bin 24 .neq (.t 19) (.t 23)⟩,
      ⟨none, .pick 25 (.t 15) (.c (.sc (.bool true))) (.t 24)⟩,
      ⟨none, .mv 26 (.t 25)⟩,
      ⟨some (26, false), .mv 27 (.t 0)⟩,
      ⟨some (26, false), .nck 28 (.t 27)⟩,
      ⟨some (26, false), .fa 29 2 (.t 28)⟩,
      ⟨some (26, false), .ld 30 false 1 (.t 29)⟩,
      ⟨some (26, false), .len 31 (.t 30)⟩,
      ⟨some (26, false), .mv 32 (.t 1)⟩,
      ⟨some (26, false), .nck 33 (.t 32)⟩,
      ⟨some (26, false), .fa 34 2 (.t 33)⟩,
      ⟨some (26, false), .ld 35 false 1 (.t 34)⟩,
      ⟨some (26, false), .len 36 (.t 35)⟩,
      ⟨some (26, false), .bin 37 .neq (.t 31) (.t 36)⟩,
      ⟨none, .pick 38 (.t 26) (.c (.sc (.bool true))) (.t 37)⟩])
    (.cond (.t 38)
     ((.seq
      (.reg false [⟨none, .mv 4 (.c (.sc (.bool false)))⟩])
      (.ret)))
     (.skip))))
   ((.seq
    ((.seq
     (.reg false [⟨none, .mv 5 (.c (.sc (.int .i64 0)))⟩])
     (.blk 0
      (.loop
       ((.seq
        ((.seq
         (.reg false [⟨none, .mv 39 (.t 5)⟩,
           ⟨none, .mv 40 (.t 0)⟩,
           ⟨none, .nck 41 (.t 40)⟩,
           ⟨none, .fa 42 2 (.t 41)⟩,
           ⟨none, .ld 43 false 1 (.t 42)⟩,
           ⟨none, .len 44 (.t 43)⟩,
           ⟨none, .bin 45 .lss (.t 39) (.t 44)⟩])
         (.cond (.t 45)
          (.skip)
          (.exit 0))))
        ((.seq
         (.blk 1
          ((.seq
           (.reg true [⟨none, .mv 48 (.t 0)⟩,
             ⟨none, .nck 49 (.t 48)⟩,
             ⟨none, .fa 50 2 (.t 49)⟩,
             ⟨none, .ld 51 false 1 (.t 50)⟩,
             ⟨none, .mv 52 (.t 5)⟩,
             ⟨none, .ia 53 3 (.t 51) (.t 52)⟩,
             ⟨none, .mv 54 (.t 1)⟩,
             ⟨none, .nck 55 (.t 54)⟩,
             ⟨none, .fa 56 2 (.t 55)⟩,
             ⟨none, .ld 57 false 1 (.t 56)⟩,
             ⟨none, .mv 58 (.t 5)⟩,
             ⟨none, .ia 59 3 (.t 57) (.t 58)⟩,
             ⟨none, .call (some 60) g [(.t 53), (.t 59)]⟩,
             ⟨none, .un 61 .not (.t 60)⟩])
           (.cond (.t 61)
            ((.seq
             (.reg false [⟨none, .mv 4 (.c (.sc (.bool false)))⟩])
             (.ret)))
            (.skip)))))
         (.reg false [⟨none, .mv 46 (.t 5)⟩,
           ⟨none, .bin 47 .add (.t 46) (.c (.sc (.int .i64 1)))⟩,
           ⟨none, .mv 5 (.t 47)⟩])))))))))
    ((.seq
     (.reg false [⟨none, .mv 4 (.c (.sc (.bool true)))⟩])
     (.ret))))))))
def K_l01Same (P : Program) (f : Nat) : Prop := ∀ (a b : Ex), AF P f [.pt (eE a) 0, .pt (eE b) 0] (.own (eB (qE a b)))
theorem a_l01Same {P : Program} (hm : P.follows .mixedOrders = true) {g : Nat} (hr : resF P g = some (62, k_l01Same g, [.t 4])) : K_l01Same P g := by
  intro a b
  revert b
  refine Ex.ind (p := fun a => ∀ b : Ex, AF P g [.pt (eE a) 0, .pt (eE b) 0] (.own (eB (qE a b)))) (fun k n nn ks ih b => ?_) a
  cases b with
  | mk k' n' nn' ks' =>
  rw [eE_mk, eE_mk, qE_mk]
  refine af_of_res hr hm rfl fun hb => ?_
  have hl : ks.length ≤ 9223372036854775807 := by
    have := hb.1
    simp only [D.bd, D.bdL, List.length_map, maxEl] at this
    exact this.2.2.1.1
  cases h1 : (k == k')
  · simp +contextual -implicitDefEqProofs only [k_l01Same, h1, bne, Bool.not_true, Bool.not_false, Bool.true_and, Bool.false_and, Bool.and_true, Bool.and_false, Bool.true_or, Bool.false_or, Bool.or_true, Bool.or_false, go_sem, eI, eB, ↓reduceIte, Nat.reduceEqDiff, Nat.reduceAdd, Nat.reduceLeDiff, Nat.reduceMul, Nat.reduceBEq, Nat.reduceBneDiff, Nat.reduceLT, Nat.reduceSub, decide_true, decide_false, and_self, true_and, and_true, false_and, and_false, not_true_eq_false, not_false_eq_true, false_implies, true_implies, implies_true, ge_iff_le, Bool.false_eq_true, List.cons_append, List.nil_append]
  cases h2 : (n == n')
  · simp +contextual -implicitDefEqProofs only [k_l01Same, h1, h2, bne, Bool.not_true, Bool.not_false, Bool.true_and, Bool.false_and, Bool.and_true, Bool.and_false, Bool.true_or, Bool.false_or, Bool.or_true, Bool.or_false, go_sem, eI, eB, ↓reduceIte, Nat.reduceEqDiff, Nat.reduceAdd, Nat.reduceLeDiff, Nat.reduceMul, Nat.reduceBEq, Nat.reduceBneDiff, Nat.reduceLT, Nat.reduceSub, decide_true, decide_false, and_self, true_and, and_true, false_and, and_false, not_true_eq_false, not_false_eq_true, false_implies, true_implies, implies_true, ge_iff_le, Bool.false_eq_true, List.cons_append, List.nil_append]
  cases h0 : ((ks.length : Int) == ks'.length)
  · simp +contextual -implicitDefEqProofs only [k_l01Same, h0, h1, h2, List.length_map, eqL_len (show ks.length ≠ ks'.length by simp at h0; omega), bne, Bool.not_true, Bool.not_false, Bool.true_and, Bool.false_and, Bool.and_true, Bool.and_false, Bool.true_or, Bool.false_or, Bool.or_true, Bool.or_false, go_sem, eI, eB, ↓reduceIte, Nat.reduceEqDiff, Nat.reduceAdd, Nat.reduceLeDiff, Nat.reduceMul, Nat.reduceBEq, Nat.reduceBneDiff, Nat.reduceLT, Nat.reduceSub, decide_true, decide_false, and_self, true_and, and_true, false_and, and_false, not_true_eq_false, not_false_eq_true, false_implies, true_implies, implies_true, ge_iff_le, Bool.false_eq_true, List.cons_append, List.nil_append]
  have hlen : ks.length = ks'.length := by simp at h0; omega
  simp +contextual -implicitDefEqProofs only [k_l01Same, h0, h1, h2, List.length_map, bne, Bool.not_true, Bool.not_false, Bool.true_and, Bool.false_and, Bool.and_true, Bool.and_false, Bool.true_or, Bool.false_or, Bool.or_true, Bool.or_false, go_sem, eI, eB, ↓reduceIte, Nat.reduceEqDiff, Nat.reduceAdd, Nat.reduceLeDiff, Nat.reduceMul, Nat.reduceBEq, Nat.reduceBneDiff, Nat.reduceLT, Nat.reduceSub, decide_true, decide_false, and_self, true_and, and_true, false_and, and_false, not_true_eq_false, not_false_eq_true, false_implies, true_implies, implies_true, ge_iff_le, Bool.false_eq_true, List.cons_append, List.nil_append]
  refine vc_on (α := Nat) [4, 5, 39, 40, 41, 42, 43, 44, 45, 46, 47, 48, 49, 50, 51, 52, 53, 54, 55, 56, 57, 58, 59, 60, 61] (fun i => [(5, .im none (.sc (.int .i64 i)))]) (fun i => i ≤ ks.length ∧ eqL qE (ks.drop i) (ks'.drop i) = eqL qE ks ks') (fun i => ks.length - i) 0
    (by simp only [subEnv, go_sem, ↓reduceIte, Nat.reduceEqDiff]; simp) ⟨by simp, by simp⟩ ?_
  rintro i ⟨j1, j4⟩
  by_cases hi : i < ks.length
  · have hi2 : i < ks'.length := by omega
    have e1 := at_map (f := eE) hi
    have e2 := at_map (f := eE) hi2
    rw [List.drop_eq_getElem_cons hi, List.drop_eq_getElem_cons hi2] at j4
    simp only [eqL] at j4
    simp +contextual -implicitDefEqProofs only [e1, e2, hi, hi2, eE_size, Int.ofNat_lt, List.length_map, Int.natCast_nonneg, Nat.zero_lt_one, go_sem, eI, eB, ↓reduceIte, Nat.reduceEqDiff, Nat.reduceAdd, Nat.reduceLeDiff, Nat.reduceMul, Nat.reduceBEq, Nat.reduceBneDiff, Nat.reduceLT, Nat.reduceSub, decide_true, decide_false, and_self, true_and, and_true, false_and, and_false, not_true_eq_false, not_false_eq_true, false_implies, true_implies, implies_true, ge_iff_le, Bool.false_eq_true, List.cons_append, List.nil_append]
    refine callQ_self ?_ (ih ks[i] (List.getElem_mem _) ks'[i]) ?_
    · exact rfl
    cases h : qE ks[i] ks'[i]
    · simp +contextual -implicitDefEqProofs only [eI, eB, Bool.not_false, go_sem, eI, eB, ↓reduceIte, Nat.reduceEqDiff, Nat.reduceAdd, Nat.reduceLeDiff, Nat.reduceMul, Nat.reduceBEq, Nat.reduceBneDiff, Nat.reduceLT, Nat.reduceSub, decide_true, decide_false, and_self, true_and, and_true, false_and, and_false, not_true_eq_false, not_false_eq_true, false_implies, true_implies, implies_true, ge_iff_le, Bool.false_eq_true, List.cons_append, List.nil_append]
      exact D.Le.sc_eq (by rw [← j4, h]; rfl)
    · simp +contextual -implicitDefEqProofs only [eI, eB, Bool.not_true, go_sem, eI, eB, ↓reduceIte, Nat.reduceEqDiff, Nat.reduceAdd, Nat.reduceLeDiff, Nat.reduceMul, Nat.reduceBEq, Nat.reduceBneDiff, Nat.reduceLT, Nat.reduceSub, decide_true, decide_false, and_self, true_and, and_true, false_and, and_false, not_true_eq_false, not_false_eq_true, false_implies, true_implies, implies_true, ge_iff_le, Bool.false_eq_true, List.cons_append, List.nil_append]
      rw [wrap_i64 (by omega) (by omega)]
      exact ⟨i + 1, ⟨by omega, eqL_step j4 h⟩, by omega, Ent.env (by simp only [subEnv, go_sem, ↓reduceIte, Nat.reduceEqDiff, List.length_map]; simp)⟩
  · simp +contextual -implicitDefEqProofs only [hi, Int.ofNat_lt, List.length_map, Int.natCast_nonneg, go_sem, eI, eB, ↓reduceIte, Nat.reduceEqDiff, Nat.reduceAdd, Nat.reduceLeDiff, Nat.reduceMul, Nat.reduceBEq, Nat.reduceBneDiff, Nat.reduceLT, Nat.reduceSub, decide_true, decide_false, and_self, true_and, and_true, false_and, and_false, not_true_eq_false, not_false_eq_true, false_implies, true_implies, implies_true, ge_iff_le, Bool.false_eq_true, List.cons_append, List.nil_append]
    refine D.Le.sc_eq ?_
    rw [← j4, List.drop_eq_nil_of_le (by omega), List.drop_eq_nil_of_le (by omega)]
    rfl
end Go.Ax
namespace Go.Ax
set_option linter.unusedSimpArgs false
abbrev Mo := (Int × Int) × Int × SL (SL Bool) × SL (SL (SL Bool))
def eM (m : Mo) : D := .ag [eI m.1.1, eI m.1.2, eI m.2.1, eS 1 (eS 1 eB) m.2.2.1, eS 1 (eS 1 (eS 1 eB)) m.2.2.2]
abbrev Co := (Int × Int) × Int × SL (SL Bool) × SL (SL (SL Int))
def eCo (m : Co) : D := .ag [eI m.1.1, eI m.1.2, eI m.2.1, eS 1 (eS 1 eB) m.2.2.1, eS 1 (eS 1 (eS 1 eI)) m.2.2.2]
def lenIs {α : Type} (c : Int) (x : SL α) : Bool := (x.2.length : Int) == c
def tabOk {α : Type} (r c : Int) (t : SL (SL α)) : Bool := lenIs r t && t.2.all (lenIs c)
def testsOk (g : Int × Int) (p : Int) (t : SL (SL Bool)) : Bool := okG g && (isIn p 1 8 && tabOk g.1 p t)
def actsOk {α : Type} (g : Int × Int) (p : Int) (t : SL (SL (SL α))) : Bool := lenIs g.2 t && t.2.all (tabOk p p)

def k_isTableB : RC :=
 (.seq
  (.reg false [⟨none, .mv 6 (.c (.sc (.bool false)))⟩])
  ((.seq
   ((.seq
    (.reg false [⟨none, .mv 9 (.t 0)⟩,
      ⟨none, .len 10 (.t 9)⟩,
      ⟨none, .mv 11 (.t 1)⟩,
      ⟨none, .bin 12 .neq (.t 10) (.t 11)⟩])
    (.cond (.t 12)
     ((.seq
      (.reg false [⟨none, .mv 6 (.c (.sc (.bool false)))⟩])
      (.ret)))
     (.skip))))
   ((.seq
    ((.seq
     (.reg false [⟨none, .mv 13 (.t 0)⟩,
       ⟨none, .len 14 (.t 13)⟩,
       ⟨none, .mv 15 (.c (.sc (.int .i64 0)))⟩])
     (.blk 0
      (.loop
       ((.seq
        (.reg false [⟨none, .bin 16 .lss (.t 15) (.t 14)⟩])
        ((.seq
         (.cond (.t 16)
          (.skip)
          (.exit 0))
         ((.seq
          (.blk 1
           ((.seq
            (.reg false [⟨none, .ia 17 1 (.t 13) (.t 15)⟩,
              ⟨none, .ld 18 false 1 (.t 17)⟩,
              ⟨none, .mv 8 (.t 18)⟩])
            ((.seq
             (.reg false [⟨none, .mv 19 (.t 8)⟩,
               ⟨none, .len 20 (.t 19)⟩,
               ⟨none, .mv 21 (.t 2)⟩,
               ⟨none, .bin 22 .neq (.t 20) (.t 21)⟩])
             (.cond (.t 22)
              ((.seq
               (.reg false [⟨none, .mv 6 (.c (.sc (.bool false)))⟩])
               (.ret)))
              (.skip)))))))
          (.reg false [⟨none, .bin 23 .add (.t 15) (.c (.sc (.int .i64 1)))⟩,
            ⟨none, .mv 15 (.t 23)⟩])))))))))))
    ((.seq
     (.reg false [⟨none, .mv 6 (.c (.sc (.bool true)))⟩])
     (.ret))))))))
def K_isTableB (P : Program) (f : Nat) : Prop := ∀ (t : SL (SL Bool)) (r c : Int), AF P f [eS 1 (eS 1 eB) t, eI r, eI c] (.own (eB (tabOk r c t)))
theorem a_isTableB {P : Program} (hm : P.follows .mixedOrders = true) {g : Nat} (hr : resF P g = some (24, k_isTableB, [.t 6])) : K_isTableB P g := by
  intro t r c
  refine af_of_res hr hm rfl fun hb => ?_
  have hl := bd_ls hb.1
  simp only [List.length_map] at hl
  cases h0 : lenIs r t
  · have h0' := h0
    simp only [lenIs] at h0'
    simp +contextual -implicitDefEqProofs only [k_isTableB, eS, List.length_map, h0', tabOk, h0, bne, Bool.not_true, Bool.not_false, Bool.true_and, Bool.false_and, Bool.and_true, Bool.and_false, Bool.true_or, Bool.false_or, Bool.or_true, Bool.or_false, go_sem, eI, eB, ↓reduceIte, Nat.reduceEqDiff, Nat.reduceAdd, Nat.reduceLeDiff, Nat.reduceMul, Nat.reduceBEq, Nat.reduceBneDiff, Nat.reduceLT, Nat.reduceSub, decide_true, decide_false, and_self, true_and, and_true, false_and, and_false, not_true_eq_false, not_false_eq_true, false_implies, true_implies, implies_true, ge_iff_le, Bool.false_eq_true, List.cons_append, List.nil_append]
  have h0' := h0
  simp only [lenIs] at h0'
  simp +contextual -implicitDefEqProofs only [k_isTableB, eS, List.length_map, h0', bne, Bool.not_true, Bool.not_false, Bool.true_and, Bool.false_and, Bool.and_true, Bool.and_false, Bool.true_or, Bool.false_or, Bool.or_true, Bool.or_false, go_sem, eI, eB, ↓reduceIte, Nat.reduceEqDiff, Nat.reduceAdd, Nat.reduceLeDiff, Nat.reduceMul, Nat.reduceBEq, Nat.reduceBneDiff, Nat.reduceLT, Nat.reduceSub, decide_true, decide_false, and_self, true_and, and_true, false_and, and_false, not_true_eq_false, not_false_eq_true, false_implies, true_implies, implies_true, ge_iff_le, Bool.false_eq_true, List.cons_append, List.nil_append]
  refine vc_on (α := Nat) [6, 8, 15, 16, 17, 18, 19, 20, 21, 22, 23] (fun i => [(15, .im none (.sc (.int .i64 i)))]) (fun i => i ≤ t.2.length ∧ (t.2.take i).all (lenIs c) = true) (fun i => t.2.length - i) 0 (by simp only [subEnv, go_sem, ↓reduceIte, Nat.reduceEqDiff, List.length_map]; simp) ⟨Nat.zero_le _, rfl⟩ ?_
  rintro i ⟨j1, j2⟩
  by_cases hi : i < t.2.length
  · have e1 := at_map (f := eS 1 eB) hi
    simp +contextual -implicitDefEqProofs only [e1, hi, Int.ofNat_lt, List.length_map, Int.natCast_nonneg, go_sem, eI, eB, ↓reduceIte, Nat.reduceEqDiff, Nat.reduceAdd, Nat.reduceLeDiff, Nat.reduceMul, Nat.reduceBEq, Nat.reduceBneDiff, Nat.reduceLT, Nat.reduceSub, decide_true, decide_false, and_self, true_and, and_true, false_and, and_false, not_true_eq_false, not_false_eq_true, false_implies, true_implies, implies_true, ge_iff_le, Bool.false_eq_true, List.cons_append, List.nil_append]
    cases hx : lenIs c t.2[i]
    · have hx' := hx
      simp only [lenIs] at hx'
      simp +contextual -implicitDefEqProofs only [eS, List.length_map, bne, hx', Bool.not_false, go_sem, eI, eB, ↓reduceIte, Nat.reduceEqDiff, Nat.reduceAdd, Nat.reduceLeDiff, Nat.reduceMul, Nat.reduceBEq, Nat.reduceBneDiff, Nat.reduceLT, Nat.reduceSub, decide_true, decide_false, and_self, true_and, and_true, false_and, and_false, not_true_eq_false, not_false_eq_true, false_implies, true_implies, implies_true, ge_iff_le, Bool.false_eq_true, List.cons_append, List.nil_append]
      exact D.Le.sc_eq (by simp only [tabOk, h0]; rw [all_fail hi hx]; rfl)
    · have hx' := hx
      simp only [lenIs] at hx'
      simp +contextual -implicitDefEqProofs only [eS, List.length_map, bne, hx', Bool.not_true, go_sem, eI, eB, ↓reduceIte, Nat.reduceEqDiff, Nat.reduceAdd, Nat.reduceLeDiff, Nat.reduceMul, Nat.reduceBEq, Nat.reduceBneDiff, Nat.reduceLT, Nat.reduceSub, decide_true, decide_false, and_self, true_and, and_true, false_and, and_false, not_true_eq_false, not_false_eq_true, false_implies, true_implies, implies_true, ge_iff_le, Bool.false_eq_true, List.cons_append, List.nil_append]
      rw [wrap_i64 (by omega) (by omega)]
      exact ⟨i + 1, ⟨by omega, all_take_succ hi j2 hx⟩, by omega, Ent.env (by simp only [subEnv, go_sem, ↓reduceIte, Nat.reduceEqDiff, List.length_map]; simp)⟩
  · simp +contextual -implicitDefEqProofs only [hi, Int.ofNat_lt, List.length_map, Int.natCast_nonneg, go_sem, eI, eB, ↓reduceIte, Nat.reduceEqDiff, Nat.reduceAdd, Nat.reduceLeDiff, Nat.reduceMul, Nat.reduceBEq, Nat.reduceBneDiff, Nat.reduceLT, Nat.reduceSub, decide_true, decide_false, and_self, true_and, and_true, false_and, and_false, not_true_eq_false, not_false_eq_true, false_implies, true_implies, implies_true, ge_iff_le, Bool.false_eq_true, List.cons_append, List.nil_append]
    exact D.Le.sc_eq (by simp only [tabOk, h0]; rw [all_of_take hi j2]; rfl)

def k_isTableI : RC :=
 (.seq
  (.reg false [⟨none, .mv 6 (.c (.sc (.bool false)))⟩])
  ((.seq
   ((.seq
    (.reg false [⟨none, .mv 9 (.t 0)⟩,
      ⟨none, .len 10 (.t 9)⟩,
      ⟨none, .mv 11 (.t 1)⟩,
      ⟨none, .bin 12 .neq (.t 10) (.t 11)⟩])
    (.cond (.t 12)
     ((.seq
      (.reg false [⟨none, .mv 6 (.c (.sc (.bool false)))⟩])
      (.ret)))
     (.skip))))
   ((.seq
    ((.seq
     (.reg false [⟨none, .mv 13 (.t 0)⟩,
       ⟨none, .len 14 (.t 13)⟩,
       ⟨none, .mv 15 (.c (.sc (.int .i64 0)))⟩])
     (.blk 0
      (.loop
       ((.seq
        (.reg false [⟨none, .bin 16 .lss (.t 15) (.t 14)⟩])
        ((.seq
         (.cond (.t 16)
          (.skip)
          (.exit 0))
         ((.seq
          (.blk 1
           ((.seq
            (.reg false [⟨none, .ia 17 1 (.t 13) (.t 15)⟩,
              ⟨none, .ld 18 false 1 (.t 17)⟩,
              ⟨none, .mv 8 (.t 18)⟩])
            ((.seq
             (.reg false [⟨none, .mv 19 (.t 8)⟩,
               ⟨none, .len 20 (.t 19)⟩,
               ⟨none, .mv 21 (.t 2)⟩,
               ⟨none, .bin 22 .neq (.t 20) (.t 21)⟩])
             (.cond (.t 22)
              ((.seq
               (.reg false [⟨none, .mv 6 (.c (.sc (.bool false)))⟩])
               (.ret)))
              (.skip)))))))
          (.reg false [⟨none, .bin 23 .add (.t 15) (.c (.sc (.int .i64 1)))⟩,
            ⟨none, .mv 15 (.t 23)⟩])))))))))))
    ((.seq
     (.reg false [⟨none, .mv 6 (.c (.sc (.bool true)))⟩])
     (.ret))))))))
def K_isTableI (P : Program) (f : Nat) : Prop := ∀ (t : SL (SL Int)) (r c : Int), AF P f [eS 1 (eS 1 eI) t, eI r, eI c] (.own (eB (tabOk r c t)))
theorem a_isTableI {P : Program} (hm : P.follows .mixedOrders = true) {g : Nat} (hr : resF P g = some (24, k_isTableI, [.t 6])) : K_isTableI P g := by
  intro t r c
  refine af_of_res hr hm rfl fun hb => ?_
  have hl := bd_ls hb.1
  simp only [List.length_map] at hl
  cases h0 : lenIs r t
  · have h0' := h0
    simp only [lenIs] at h0'
    simp +contextual -implicitDefEqProofs only [k_isTableI, eS, List.length_map, h0', tabOk, h0, bne, Bool.not_true, Bool.not_false, Bool.true_and, Bool.false_and, Bool.and_true, Bool.and_false, Bool.true_or, Bool.false_or, Bool.or_true, Bool.or_false, go_sem, eI, eB, ↓reduceIte, Nat.reduceEqDiff, Nat.reduceAdd, Nat.reduceLeDiff, Nat.reduceMul, Nat.reduceBEq, Nat.reduceBneDiff, Nat.reduceLT, Nat.reduceSub, decide_true, decide_false, and_self, true_and, and_true, false_and, and_false, not_true_eq_false, not_false_eq_true, false_implies, true_implies, implies_true, ge_iff_le, Bool.false_eq_true, List.cons_append, List.nil_append]
  have h0' := h0
  simp only [lenIs] at h0'
  simp +contextual -implicitDefEqProofs only [k_isTableI, eS, List.length_map, h0', bne, Bool.not_true, Bool.not_false, Bool.true_and, Bool.false_and, Bool.and_true, Bool.and_false, Bool.true_or, Bool.false_or, Bool.or_true, Bool.or_false, go_sem, eI, eB, ↓reduceIte, Nat.reduceEqDiff, Nat.reduceAdd, Nat.reduceLeDiff, Nat.reduceMul, Nat.reduceBEq, Nat.reduceBneDiff, Nat.reduceLT, Nat.reduceSub, decide_true, decide_false, and_self, true_and, and_true, false_and, and_false, not_true_eq_false, not_false_eq_true, false_implies, true_implies, implies_true, ge_iff_le, Bool.false_eq_true, List.cons_append, List.nil_append]
  refine vc_on (α := Nat) [6, 8, 15, 16, 17, 18, 19, 20, 21, 22, 23] (fun i => [(15, .im none (.sc (.int .i64 i)))]) (fun i => i ≤ t.2.length ∧ (t.2.take i).all (lenIs c) = true) (fun i => t.2.length - i) 0 (by simp only [subEnv, go_sem, ↓reduceIte, Nat.reduceEqDiff, List.length_map]; simp) ⟨Nat.zero_le _, rfl⟩ ?_
  rintro i ⟨j1, j2⟩
  by_cases hi : i < t.2.length
  · have e1 := at_map (f := eS 1 eI) hi
    simp +contextual -implicitDefEqProofs only [e1, hi, Int.ofNat_lt, List.length_map, Int.natCast_nonneg, go_sem, eI, eB, ↓reduceIte, Nat.reduceEqDiff, Nat.reduceAdd, Nat.reduceLeDiff, Nat.reduceMul, Nat.reduceBEq, Nat.reduceBneDiff, Nat.reduceLT, Nat.reduceSub, decide_true, decide_false, and_self, true_and, and_true, false_and, and_false, not_true_eq_false, not_false_eq_true, false_implies, true_implies, implies_true, ge_iff_le, Bool.false_eq_true, List.cons_append, List.nil_append]
    cases hx : lenIs c t.2[i]
    · have hx' := hx
      simp only [lenIs] at hx'
      simp +contextual -implicitDefEqProofs only [eS, List.length_map, bne, hx', Bool.not_false, go_sem, eI, eB, ↓reduceIte, Nat.reduceEqDiff, Nat.reduceAdd, Nat.reduceLeDiff, Nat.reduceMul, Nat.reduceBEq, Nat.reduceBneDiff, Nat.reduceLT, Nat.reduceSub, decide_true, decide_false, and_self, true_and, and_true, false_and, and_false, not_true_eq_false, not_false_eq_true, false_implies, true_implies, implies_true, ge_iff_le, Bool.false_eq_true, List.cons_append, List.nil_append]
      exact D.Le.sc_eq (by simp only [tabOk, h0]; rw [all_fail hi hx]; rfl)
    · have hx' := hx
      simp only [lenIs] at hx'
      simp +contextual -implicitDefEqProofs only [eS, List.length_map, bne, hx', Bool.not_true, go_sem, eI, eB, ↓reduceIte, Nat.reduceEqDiff, Nat.reduceAdd, Nat.reduceLeDiff, Nat.reduceMul, Nat.reduceBEq, Nat.reduceBneDiff, Nat.reduceLT, Nat.reduceSub, decide_true, decide_false, and_self, true_and, and_true, false_and, and_false, not_true_eq_false, not_false_eq_true, false_implies, true_implies, implies_true, ge_iff_le, Bool.false_eq_true, List.cons_append, List.nil_append]
      rw [wrap_i64 (by omega) (by omega)]
      exact ⟨i + 1, ⟨by omega, all_take_succ hi j2 hx⟩, by omega, Ent.env (by simp only [subEnv, go_sem, ↓reduceIte, Nat.reduceEqDiff, List.length_map]; simp)⟩
  · simp +contextual -implicitDefEqProofs only [hi, Int.ofNat_lt, List.length_map, Int.natCast_nonneg, go_sem, eI, eB, ↓reduceIte, Nat.reduceEqDiff, Nat.reduceAdd, Nat.reduceLeDiff, Nat.reduceMul, Nat.reduceBEq, Nat.reduceBneDiff, Nat.reduceLT, Nat.reduceSub, decide_true, decide_false, and_self, true_and, and_true, false_and, and_false, not_true_eq_false, not_false_eq_true, false_implies, true_implies, implies_true, ge_iff_le, Bool.false_eq_true, List.cons_append, List.nil_append]
    exact D.Le.sc_eq (by simp only [tabOk, h0]; rw [all_of_take hi j2]; rfl)

def k_l05Tests (f1 f2 : Nat) : RC :=
 (.seq
  (.reg false [⟨none, .box 3 2 (.t 0)⟩,
    ⟨none, .mv 6 (.c (.sc (.bool false)))⟩])
  ((.seq
   ((.seq
    (.reg false [⟨none, .ld 8 true 2 (.t 3)⟩,
      ⟨none, .call (some 9) f1 [(.t 8)]⟩,
      ⟨none, .un 10 .not (.t 9)⟩,
      ⟨none, .mv 11 (.t 10)⟩,
      ⟨some (11, false), .mv 12 (.t 1)⟩,
      ⟨some (11, false), .call (some 13) f2 [(.t 12), (.c (.sc (.int .i64 1))), (.c (.sc (.int .i64 8)))]⟩,
      ⟨some (11, false), .un 14 .not (.t 13)⟩,
      ⟨none, .pick 15 (.t 11) (.c (.sc (.bool true))) (.t 14)⟩,
      ⟨none, .mv 16 (.t 15)⟩,
      ⟨some (16, false), .mv 17 (.t 2)⟩,
      ⟨some (16, false), .len 18 (.t 17)⟩,
      ⟨some (16, false), .fa 19 0 (.t 3)⟩,
      ⟨some (16, false), .ld 20 false 1 (.t 19)⟩,
      ⟨some (16, false), .bin 21 .neq (.t 18) (.t 20)⟩,
      ⟨none, .pick 22 (.t 16) (.c (.sc (.bool true))) (.t 21)⟩])
    (.cond (.t 22)
     ((.seq
      (.reg false [⟨none, .mv 6 (.c (.sc (.bool false)))⟩])
      (.ret)))
     (.skip))))
   ((.seq
    ((.seq
     (.reg false [⟨none, .mv 7 (.c (.sc (.int .i64 0)))⟩])
     (.blk 0
      (.loop
       ((.seq
        ((.seq
         (.reg false [⟨none, .mv 23 (.t 7)⟩,
           ⟨none, .mv 24 (.t 2)⟩,
           ⟨none, .len 25 (.t 24)⟩,
           ⟨none, .bin 26 .lss (.t 23) (.t 25)⟩])
         (.cond (.t 26)
          (.skip)
          (.exit 0))))
        ((.seq
         (.blk 1
          ((.seq
           (.reg false [⟨none, .mv 29 (.t 2)⟩,
             ⟨none, .mv 30 (.t 7)⟩,
             ⟨none, .ia 31 1 (.t 29) (.t 30)⟩,
             ⟨none, .ld 32 false 1 (.t 31)⟩,
             ⟨none, .len 33 (.t 32)⟩,
             ⟨none, .mv 34 (.t 1)⟩,
             ⟨none, .bin 35 .neq (.t 33) (.t 34)⟩])
           (.cond (.t 35)
            ((.seq
             (.reg false [⟨none, .mv 6 (.c (.sc (.bool false)))⟩])
             (.ret)))
            (.skip)))))
         (.reg false [⟨none, .mv 27 (.t 7)⟩,
           ⟨none, .bin 28 .add (.t 27) (.c (.sc (.int .i64 1)))⟩,
           ⟨none, .mv 7 (.t 28)⟩])))))))))
    ((.seq
     (.reg false [⟨none, .mv 6 (.c (.sc (.bool true)))⟩])
     (.ret))))))))
def K_l05Tests (P : Program) (f : Nat) : Prop := ∀ (g : Int × Int) (p : Int) (t : SL (SL Bool)), AF P f [eG g, eI p, eS 1 (eS 1 eB) t] (.own (eB (testsOk g p t)))
theorem a_l05Tests {P : Program} (hm : P.follows .mixedOrders = true) {g f1 f2 : Nat} (hr : resF P g = some (36, k_l05Tests f1 f2, [.t 6])) (hc1 : K_l01Sig P f1) (hc2 : K_l00In P f2) : K_l05Tests P g := by
  intro g p t
  refine af_of_res hr hm rfl fun hb => ?_
  have hl := bd_ls hb.2.2.1
  simp only [List.length_map] at hl
  simp +contextual -implicitDefEqProofs only [k_l05Tests, eG, eS, List.length_map, go_sem, eI, eB, ↓reduceIte, Nat.reduceEqDiff, Nat.reduceAdd, Nat.reduceLeDiff, Nat.reduceMul, Nat.reduceBEq, Nat.reduceBneDiff, Nat.reduceLT, Nat.reduceSub, decide_true, decide_false, and_self, true_and, and_true, false_and, and_false, not_true_eq_false, not_false_eq_true, false_implies, true_implies, implies_true, ge_iff_le, Bool.false_eq_true, List.cons_append, List.nil_append]
  refine callQ_self ?_ (hc1 g) ?_
  · exact rfl
  cases hg : okG g
  · simp +contextual -implicitDefEqProofs only [testsOk, hg, bne, Bool.not_true, Bool.not_false, Bool.true_and, Bool.false_and, Bool.and_true, Bool.and_false, Bool.true_or, Bool.false_or, Bool.or_true, Bool.or_false, go_sem, eI, eB, ↓reduceIte, Nat.reduceEqDiff, Nat.reduceAdd, Nat.reduceLeDiff, Nat.reduceMul, Nat.reduceBEq, Nat.reduceBneDiff, Nat.reduceLT, Nat.reduceSub, decide_true, decide_false, and_self, true_and, and_true, false_and, and_false, not_true_eq_false, not_false_eq_true, false_implies, true_implies, implies_true, ge_iff_le, Bool.false_eq_true, List.cons_append, List.nil_append]
  simp +contextual -implicitDefEqProofs only [bne, Bool.not_true, Bool.not_false, Bool.true_and, Bool.false_and, Bool.and_true, Bool.and_false, Bool.true_or, Bool.false_or, Bool.or_true, Bool.or_false, go_sem, eI, eB, ↓reduceIte, Nat.reduceEqDiff, Nat.reduceAdd, Nat.reduceLeDiff, Nat.reduceMul, Nat.reduceBEq, Nat.reduceBneDiff, Nat.reduceLT, Nat.reduceSub, decide_true, decide_false, and_self, true_and, and_true, false_and, and_false, not_true_eq_false, not_false_eq_true, false_implies, true_implies, implies_true, ge_iff_le, Bool.false_eq_true, List.cons_append, List.nil_append]
  refine callQ_self ?_ (hc2 p 1 8) ?_
  · exact rfl
  cases hp : isIn p 1 8
  · simp +contextual -implicitDefEqProofs only [testsOk, hg, hp, bne, Bool.not_true, Bool.not_false, Bool.true_and, Bool.false_and, Bool.and_true, Bool.and_false, Bool.true_or, Bool.false_or, Bool.or_true, Bool.or_false, go_sem, eI, eB, ↓reduceIte, Nat.reduceEqDiff, Nat.reduceAdd, Nat.reduceLeDiff, Nat.reduceMul, Nat.reduceBEq, Nat.reduceBneDiff, Nat.reduceLT, Nat.reduceSub, decide_true, decide_false, and_self, true_and, and_true, false_and, and_false, not_true_eq_false, not_false_eq_true, false_implies, true_implies, implies_true, ge_iff_le, Bool.false_eq_true, List.cons_append, List.nil_append]
  cases h0 : lenIs g.1 t
  · have h0' := h0
    simp only [lenIs] at h0'
    simp +contextual -implicitDefEqProofs only [testsOk, tabOk, hg, hp, h0, h0', eS, List.length_map, bne, Bool.not_true, Bool.not_false, Bool.true_and, Bool.false_and, Bool.and_true, Bool.and_false, Bool.true_or, Bool.false_or, Bool.or_true, Bool.or_false, go_sem, eI, eB, ↓reduceIte, Nat.reduceEqDiff, Nat.reduceAdd, Nat.reduceLeDiff, Nat.reduceMul, Nat.reduceBEq, Nat.reduceBneDiff, Nat.reduceLT, Nat.reduceSub, decide_true, decide_false, and_self, true_and, and_true, false_and, and_false, not_true_eq_false, not_false_eq_true, false_implies, true_implies, implies_true, ge_iff_le, Bool.false_eq_true, List.cons_append, List.nil_append]
  have h0' := h0
  simp only [lenIs] at h0'
  simp +contextual -implicitDefEqProofs only [h0', eS, List.length_map, bne, Bool.not_true, Bool.not_false, Bool.true_and, Bool.false_and, Bool.and_true, Bool.and_false, Bool.true_or, Bool.false_or, Bool.or_true, Bool.or_false, go_sem, eI, eB, ↓reduceIte, Nat.reduceEqDiff, Nat.reduceAdd, Nat.reduceLeDiff, Nat.reduceMul, Nat.reduceBEq, Nat.reduceBneDiff, Nat.reduceLT, Nat.reduceSub, decide_true, decide_false, and_self, true_and, and_true, false_and, and_false, not_true_eq_false, not_false_eq_true, false_implies, true_implies, implies_true, ge_iff_le, Bool.false_eq_true, List.cons_append, List.nil_append]
  refine vc_on (α := Nat) [6, 7, 23, 24, 25, 26, 27, 28, 29, 30, 31, 32, 33, 34, 35] (fun i => [(7, .im none (.sc (.int .i64 i)))]) (fun i => i ≤ t.2.length ∧ (t.2.take i).all (lenIs p) = true) (fun i => t.2.length - i) 0 (by simp only [subEnv, go_sem, ↓reduceIte, Nat.reduceEqDiff, List.length_map]; simp) ⟨Nat.zero_le _, rfl⟩ ?_
  rintro i ⟨j1, j2⟩
  by_cases hi : i < t.2.length
  · have e1 := at_map (f := eS 1 eB) hi
    simp +contextual -implicitDefEqProofs only [e1, hi, Int.ofNat_lt, List.length_map, Int.natCast_nonneg, go_sem, eI, eB, ↓reduceIte, Nat.reduceEqDiff, Nat.reduceAdd, Nat.reduceLeDiff, Nat.reduceMul, Nat.reduceBEq, Nat.reduceBneDiff, Nat.reduceLT, Nat.reduceSub, decide_true, decide_false, and_self, true_and, and_true, false_and, and_false, not_true_eq_false, not_false_eq_true, false_implies, true_implies, implies_true, ge_iff_le, Bool.false_eq_true, List.cons_append, List.nil_append]
    cases hx : lenIs p t.2[i]
    · have hx' := hx
      simp only [lenIs] at hx'
      simp +contextual -implicitDefEqProofs only [eS, List.length_map, bne, hx', Bool.not_false, go_sem, eI, eB, ↓reduceIte, Nat.reduceEqDiff, Nat.reduceAdd, Nat.reduceLeDiff, Nat.reduceMul, Nat.reduceBEq, Nat.reduceBneDiff, Nat.reduceLT, Nat.reduceSub, decide_true, decide_false, and_self, true_and, and_true, false_and, and_false, not_true_eq_false, not_false_eq_true, false_implies, true_implies, implies_true, ge_iff_le, Bool.false_eq_true, List.cons_append, List.nil_append]
      exact D.Le.sc_eq (by simp only [testsOk, tabOk, hg, hp, h0]; rw [all_fail hi hx]; rfl)
    · have hx' := hx
      simp only [lenIs] at hx'
      simp +contextual -implicitDefEqProofs only [eS, List.length_map, bne, hx', Bool.not_true, go_sem, eI, eB, ↓reduceIte, Nat.reduceEqDiff, Nat.reduceAdd, Nat.reduceLeDiff, Nat.reduceMul, Nat.reduceBEq, Nat.reduceBneDiff, Nat.reduceLT, Nat.reduceSub, decide_true, decide_false, and_self, true_and, and_true, false_and, and_false, not_true_eq_false, not_false_eq_true, false_implies, true_implies, implies_true, ge_iff_le, Bool.false_eq_true, List.cons_append, List.nil_append]
      rw [wrap_i64 (by omega) (by omega)]
      exact ⟨i + 1, ⟨by omega, all_take_succ hi j2 hx⟩, by omega, Ent.env (by simp only [subEnv, go_sem, ↓reduceIte, Nat.reduceEqDiff, List.length_map]; simp)⟩
  · simp +contextual -implicitDefEqProofs only [hi, Int.ofNat_lt, List.length_map, Int.natCast_nonneg, go_sem, eI, eB, ↓reduceIte, Nat.reduceEqDiff, Nat.reduceAdd, Nat.reduceLeDiff, Nat.reduceMul, Nat.reduceBEq, Nat.reduceBneDiff, Nat.reduceLT, Nat.reduceSub, decide_true, decide_false, and_self, true_and, and_true, false_and, and_false, not_true_eq_false, not_false_eq_true, false_implies, true_implies, implies_true, ge_iff_le, Bool.false_eq_true, List.cons_append, List.nil_append]
    exact D.Le.sc_eq (by simp only [testsOk, tabOk, hg, hp, h0]; rw [all_of_take hi j2]; rfl)

def k_isFrameB (f1 f2 f3 : Nat) : RC :=
 (.seq
  (.reg false [⟨none, .box 4 2 (.t 0)⟩,
    ⟨none, .mv 8 (.c (.sc (.bool false)))⟩])
  ((.seq
   ((.seq
    (.reg false [⟨none, .ld 11 true 2 (.t 4)⟩,
      ⟨none, .call (some 12) f1 [(.t 11)]⟩,
      ⟨none, .un 13 .not (.t 12)⟩,
      ⟨none, .mv 14 (.t 13)⟩,
      ⟨some (14, false), .mv 15 (.t 1)⟩,
      ⟨some (14, false), .call (some 16) f2 [(.t 15), (.c (.sc (.int .i64 1))), (.c (.sc (.int .i64 8)))]⟩,
      ⟨some (14, false), .un 17 .not (.t 16)⟩,
      ⟨none, .pick 18 (.t 14) (.c (.sc (.bool true))) (.t 17)⟩,
      ⟨none, .mv 19 (.t 18)⟩,
      ⟨some (19, false), .mv 20 (.t 2)⟩,
      ⟨some (19, false), .fa 21 0 (.t 4)⟩,
      ⟨some (19, false), .ld 22 false 1 (.t 21)⟩,
      ⟨some (19, false), .mv 23 (.t 1)⟩,
      ⟨some (19, false), .call (some 24) f3 [(.t 20), (.t 22), (.t 23)]⟩,
      ⟨some (19, false), .un 25 .not (.t 24)⟩,
      ⟨none, .pick 26 (.t 19) (.c (.sc (.bool true))) (.t 25)⟩,
      ⟨none, .mv 27 (.t 26)⟩,
      ⟨some (27, false), .mv 28 (.t 3)⟩,
      ⟨some (27, false), .len 29 (.t 28)⟩,
      ⟨some (27, false), .fa 30 1 (.t 4)⟩,
      ⟨some (27, false), .ld 31 false 1 (.t 30)⟩,
      ⟨some (27, false), .bin 32 .neq (.t 29) (.t 31)⟩,
      ⟨none, .pick 33 (.t 27) (.c (.sc (.bool true))) (.t 32)⟩])
    (.cond (.t 33)
     ((.seq
      (.reg false [⟨none, .mv 8 (.c (.sc (.bool false)))⟩])
      (.ret)))
     (.skip))))
   ((.seq
    ((.seq
     (.reg false [⟨none, .mv 34 (.t 3)⟩,
       ⟨none, .len 35 (.t 34)⟩,
       ⟨none, .mv 36 (.c (.sc (.int .i64 0)))⟩])
     (.blk 0
      (.loop
       ((.seq
        (.reg false [⟨none, .bin 37 .lss (.t 36) (.t 35)⟩])
        ((.seq
         (.cond (.t 37)
          (.skip)
          (.exit 0))
         ((.seq
          (.blk 1
           ((.seq
            (.reg false [⟨none, .ia 38 1 (.t 34) (.t 36)⟩,
              ⟨none, .ld 39 false 1 (.t 38)⟩,
              ⟨none, .mv 10 (.t 39)⟩])
            ((.seq
             (.reg false [⟨none, .mv 40 (.t 10)⟩,
               ⟨none, .mv 41 (.t 1)⟩,
               ⟨none, .mv 42 (.t 1)⟩,
               ⟨none, .call (some 43) f3 [(.t 40), (.t 41), (.t 42)]⟩,
               ⟨none, .un 44 .not (.t 43)⟩])
             (.cond (.t 44)
              ((.seq
               (.reg false [⟨none, .mv 8 (.c (.sc (.bool false)))⟩])
               (.ret)))
              (.skip)))))))
          (.reg false [⟨none, .bin 45 .add (.t 36) (.c (.sc (.int .i64 1)))⟩,
            ⟨none, .mv 36 (.t 45)⟩])))))))))))
    ((.seq
     (.reg false [⟨none, .mv 8 (.c (.sc (.bool true)))⟩])
     (.ret))))))))
def K_isFrameB (P : Program) (f : Nat) : Prop := ∀ (g : Int × Int) (p : Int) (u : SL (SL Bool)) (t : SL (SL (SL Bool))), AF P f [eG g, eI p, eS 1 (eS 1 eB) u, eS 1 (eS 1 (eS 1 eB)) t] (.own (eB (testsOk g p u && actsOk g p t)))
theorem a_isFrameB {P : Program} (hm : P.follows .mixedOrders = true) {g f1 f2 f3 : Nat} (hr : resF P g = some (46, k_isFrameB f1 f2 f3, [.t 8])) (hc1 : K_validSig P f1) (hc2 : K_within P f2) (hc3 : K_isTableB P f3) : K_isFrameB P g := by
  intro g p u t
  refine af_of_res hr hm rfl fun hb => ?_
  have hl := bd_ls hb.2.2.2.1
  simp only [List.length_map] at hl
  simp +contextual -implicitDefEqProofs only [k_isFrameB, eG, eS, List.length_map, go_sem, eI, eB, ↓reduceIte, Nat.reduceEqDiff, Nat.reduceAdd, Nat.reduceLeDiff, Nat.reduceMul, Nat.reduceBEq, Nat.reduceBneDiff, Nat.reduceLT, Nat.reduceSub, decide_true, decide_false, and_self, true_and, and_true, false_and, and_false, not_true_eq_false, not_false_eq_true, false_implies, true_implies, implies_true, ge_iff_le, Bool.false_eq_true, List.cons_append, List.nil_append]
  refine callQ_self ?_ (hc1 g) ?_
  · exact rfl
  cases hg : okG g
  · simp +contextual -implicitDefEqProofs only [testsOk, hg, bne, Bool.not_true, Bool.not_false, Bool.true_and, Bool.false_and, Bool.and_true, Bool.and_false, Bool.true_or, Bool.false_or, Bool.or_true, Bool.or_false, go_sem, eI, eB, ↓reduceIte, Nat.reduceEqDiff, Nat.reduceAdd, Nat.reduceLeDiff, Nat.reduceMul, Nat.reduceBEq, Nat.reduceBneDiff, Nat.reduceLT, Nat.reduceSub, decide_true, decide_false, and_self, true_and, and_true, false_and, and_false, not_true_eq_false, not_false_eq_true, false_implies, true_implies, implies_true, ge_iff_le, Bool.false_eq_true, List.cons_append, List.nil_append]
  simp +contextual -implicitDefEqProofs only [bne, Bool.not_true, Bool.not_false, Bool.true_and, Bool.false_and, Bool.and_true, Bool.and_false, Bool.true_or, Bool.false_or, Bool.or_true, Bool.or_false, go_sem, eI, eB, ↓reduceIte, Nat.reduceEqDiff, Nat.reduceAdd, Nat.reduceLeDiff, Nat.reduceMul, Nat.reduceBEq, Nat.reduceBneDiff, Nat.reduceLT, Nat.reduceSub, decide_true, decide_false, and_self, true_and, and_true, false_and, and_false, not_true_eq_false, not_false_eq_true, false_implies, true_implies, implies_true, ge_iff_le, Bool.false_eq_true, List.cons_append, List.nil_append]
  refine callQ_self ?_ (hc2 p 1 8) ?_
  · exact rfl
  cases hp : isIn p 1 8
  · simp +contextual -implicitDefEqProofs only [testsOk, hg, hp, bne, Bool.not_true, Bool.not_false, Bool.true_and, Bool.false_and, Bool.and_true, Bool.and_false, Bool.true_or, Bool.false_or, Bool.or_true, Bool.or_false, go_sem, eI, eB, ↓reduceIte, Nat.reduceEqDiff, Nat.reduceAdd, Nat.reduceLeDiff, Nat.reduceMul, Nat.reduceBEq, Nat.reduceBneDiff, Nat.reduceLT, Nat.reduceSub, decide_true, decide_false, and_self, true_and, and_true, false_and, and_false, not_true_eq_false, not_false_eq_true, false_implies, true_implies, implies_true, ge_iff_le, Bool.false_eq_true, List.cons_append, List.nil_append]
  simp +contextual -implicitDefEqProofs only [bne, Bool.not_true, Bool.not_false, Bool.true_and, Bool.false_and, Bool.and_true, Bool.and_false, Bool.true_or, Bool.false_or, Bool.or_true, Bool.or_false, go_sem, eI, eB, ↓reduceIte, Nat.reduceEqDiff, Nat.reduceAdd, Nat.reduceLeDiff, Nat.reduceMul, Nat.reduceBEq, Nat.reduceBneDiff, Nat.reduceLT, Nat.reduceSub, decide_true, decide_false, and_self, true_and, and_true, false_and, and_false, not_true_eq_false, not_false_eq_true, false_implies, true_implies, implies_true, ge_iff_le, Bool.false_eq_true, List.cons_append, List.nil_append]
  refine callQ_self ?_ (hc3 u g.1 p) ?_
  · exact rfl
  cases hu : tabOk g.1 p u
  · simp +contextual -implicitDefEqProofs only [testsOk, hg, hp, hu, bne, Bool.not_true, Bool.not_false, Bool.true_and, Bool.false_and, Bool.and_true, Bool.and_false, Bool.true_or, Bool.false_or, Bool.or_true, Bool.or_false, go_sem, eI, eB, ↓reduceIte, Nat.reduceEqDiff, Nat.reduceAdd, Nat.reduceLeDiff, Nat.reduceMul, Nat.reduceBEq, Nat.reduceBneDiff, Nat.reduceLT, Nat.reduceSub, decide_true, decide_false, and_self, true_and, and_true, false_and, and_false, not_true_eq_false, not_false_eq_true, false_implies, true_implies, implies_true, ge_iff_le, Bool.false_eq_true, List.cons_append, List.nil_append]
  have hT : testsOk g p u = true := by simp [testsOk, hg, hp, hu]
  cases h0 : lenIs g.2 t
  · have h0' := h0
    simp only [lenIs] at h0'
    simp +contextual -implicitDefEqProofs only [actsOk, hT, h0, h0', eS, List.length_map, bne, Bool.not_true, Bool.not_false, Bool.true_and, Bool.false_and, Bool.and_true, Bool.and_false, Bool.true_or, Bool.false_or, Bool.or_true, Bool.or_false, go_sem, eI, eB, ↓reduceIte, Nat.reduceEqDiff, Nat.reduceAdd, Nat.reduceLeDiff, Nat.reduceMul, Nat.reduceBEq, Nat.reduceBneDiff, Nat.reduceLT, Nat.reduceSub, decide_true, decide_false, and_self, true_and, and_true, false_and, and_false, not_true_eq_false, not_false_eq_true, false_implies, true_implies, implies_true, ge_iff_le, Bool.false_eq_true, List.cons_append, List.nil_append]
  have h0' := h0
  simp only [lenIs] at h0'
  simp +contextual -implicitDefEqProofs only [h0', eS, List.length_map, bne, Bool.not_true, Bool.not_false, Bool.true_and, Bool.false_and, Bool.and_true, Bool.and_false, Bool.true_or, Bool.false_or, Bool.or_true, Bool.or_false, go_sem, eI, eB, ↓reduceIte, Nat.reduceEqDiff, Nat.reduceAdd, Nat.reduceLeDiff, Nat.reduceMul, Nat.reduceBEq, Nat.reduceBneDiff, Nat.reduceLT, Nat.reduceSub, decide_true, decide_false, and_self, true_and, and_true, false_and, and_false, not_true_eq_false, not_false_eq_true, false_implies, true_implies, implies_true, ge_iff_le, Bool.false_eq_true, List.cons_append, List.nil_append]
  refine vc_on (α := Nat) [8, 10, 36, 37, 38, 39, 40, 41, 42, 43, 44, 45] (fun i => [(36, .im none (.sc (.int .i64 i)))]) (fun i => i ≤ t.2.length ∧ (t.2.take i).all (tabOk p p) = true) (fun i => t.2.length - i) 0 (by simp only [subEnv, go_sem, ↓reduceIte, Nat.reduceEqDiff, List.length_map]; simp) ⟨Nat.zero_le _, rfl⟩ ?_
  rintro i ⟨j1, j2⟩
  by_cases hi : i < t.2.length
  · have e1 := at_map (f := eS 1 (eS 1 eB)) hi
    simp +contextual -implicitDefEqProofs only [eS, e1, hi, Int.ofNat_lt, List.length_map, Int.natCast_nonneg, go_sem, eI, eB, ↓reduceIte, Nat.reduceEqDiff, Nat.reduceAdd, Nat.reduceLeDiff, Nat.reduceMul, Nat.reduceBEq, Nat.reduceBneDiff, Nat.reduceLT, Nat.reduceSub, decide_true, decide_false, and_self, true_and, and_true, false_and, and_false, not_true_eq_false, not_false_eq_true, false_implies, true_implies, implies_true, ge_iff_le, Bool.false_eq_true, List.cons_append, List.nil_append]
    refine callQ_self ?_ (hc3 t.2[i] p p) ?_
    · exact rfl
    cases hx : tabOk p p t.2[i]
    · simp +contextual -implicitDefEqProofs only [bne, Bool.not_true, Bool.not_false, Bool.true_and, Bool.false_and, Bool.and_true, Bool.and_false, Bool.true_or, Bool.false_or, Bool.or_true, Bool.or_false, go_sem, eI, eB, ↓reduceIte, Nat.reduceEqDiff, Nat.reduceAdd, Nat.reduceLeDiff, Nat.reduceMul, Nat.reduceBEq, Nat.reduceBneDiff, Nat.reduceLT, Nat.reduceSub, decide_true, decide_false, and_self, true_and, and_true, false_and, and_false, not_true_eq_false, not_false_eq_true, false_implies, true_implies, implies_true, ge_iff_le, Bool.false_eq_true, List.cons_append, List.nil_append]
      exact D.Le.sc_eq (by simp only [actsOk, hT, h0]; rw [all_fail hi hx]; rfl)
    · simp +contextual -implicitDefEqProofs only [bne, Bool.not_true, Bool.not_false, Bool.true_and, Bool.false_and, Bool.and_true, Bool.and_false, Bool.true_or, Bool.false_or, Bool.or_true, Bool.or_false, go_sem, eI, eB, ↓reduceIte, Nat.reduceEqDiff, Nat.reduceAdd, Nat.reduceLeDiff, Nat.reduceMul, Nat.reduceBEq, Nat.reduceBneDiff, Nat.reduceLT, Nat.reduceSub, decide_true, decide_false, and_self, true_and, and_true, false_and, and_false, not_true_eq_false, not_false_eq_true, false_implies, true_implies, implies_true, ge_iff_le, Bool.false_eq_true, List.cons_append, List.nil_append]
      rw [wrap_i64 (by omega) (by omega)]
      exact ⟨i + 1, ⟨by omega, all_take_succ hi j2 hx⟩, by omega, Ent.env (by simp only [subEnv, go_sem, ↓reduceIte, Nat.reduceEqDiff, List.length_map]; simp)⟩
  · simp +contextual -implicitDefEqProofs only [eS, hi, Int.ofNat_lt, List.length_map, Int.natCast_nonneg, go_sem, eI, eB, ↓reduceIte, Nat.reduceEqDiff, Nat.reduceAdd, Nat.reduceLeDiff, Nat.reduceMul, Nat.reduceBEq, Nat.reduceBneDiff, Nat.reduceLT, Nat.reduceSub, decide_true, decide_false, and_self, true_and, and_true, false_and, and_false, not_true_eq_false, not_false_eq_true, false_implies, true_implies, implies_true, ge_iff_le, Bool.false_eq_true, List.cons_append, List.nil_append]
    exact D.Le.sc_eq (by simp only [actsOk, hT, h0]; rw [all_of_take hi j2]; rfl)

def k_isFrameI (f1 f2 f3 f4 : Nat) : RC :=
 (.seq
  (.reg false [⟨none, .box 4 2 (.t 0)⟩,
    ⟨none, .mv 8 (.c (.sc (.bool false)))⟩])
  ((.seq
   ((.seq
    (.reg false [⟨none, .ld 11 true 2 (.t 4)⟩,
      ⟨none, .call (some 12) f1 [(.t 11)]⟩,
      ⟨none, .un 13 .not (.t 12)⟩,
      ⟨none, .mv 14 (.t 13)⟩,
      ⟨some (14, false), .mv 15 (.t 1)⟩,
      ⟨some (14, false), .call (some 16) f2 [(.t 15), (.c (.sc (.int .i64 1))), (.c (.sc (.int .i64 8)))]⟩,
      ⟨some (14, false), .un 17 .not (.t 16)⟩,
      ⟨none, .pick 18 (.t 14) (.c (.sc (.bool true))) (.t 17)⟩,
      ⟨none, .mv 19 (.t 18)⟩,
      ⟨some (19, false), .mv 20 (.t 2)⟩,
      ⟨some (19, false), .fa 21 0 (.t 4)⟩,
      ⟨some (19, false), .ld 22 false 1 (.t 21)⟩,
      ⟨some (19, false), .mv 23 (.t 1)⟩,
      ⟨some (19, false), .call (some 24) f3 [(.t 20), (.t 22), (.t 23)]⟩,
      ⟨some (19, false), .un 25 .not (.t 24)⟩,
      ⟨none, .pick 26 (.t 19) (.c (.sc (.bool true))) (.t 25)⟩,
      ⟨none, .mv 27 (.t 26)⟩,
      ⟨some (27, false), .mv 28 (.t 3)⟩,
      ⟨some (27, false), .len 29 (.t 28)⟩,
      ⟨some (27, false), .fa 30 1 (.t 4)⟩,
      ⟨some (27, false), .ld 31 false 1 (.t 30)⟩,
      ⟨some (27, false), .bin 32 .neq (.t 29) (.t 31)⟩,
      ⟨none, .pick 33 (.t 27) (.c (.sc (.bool true))) (.t 32)⟩])
    (.cond (.t 33)
     ((.seq
      (.reg false [⟨none, .mv 8 (.c (.sc (.bool false)))⟩])
      (.ret)))
     (.skip))))
   ((.seq
    ((.seq
     (.reg false [⟨none, .mv 34 (.t 3)⟩,
       ⟨none, .len 35 (.t 34)⟩,
       ⟨none, .mv 36 (.c (.sc (.int .i64 0)))⟩])
     (.blk 0
      (.loop
       ((.seq
        (.reg false [⟨none, .bin 37 .lss (.t 36) (.t 35)⟩])
        ((.seq
         (.cond (.t 37)
          (.skip)
          (.exit 0))
         ((.seq
          (.blk 1
           ((.seq
            (.reg false [⟨none, .ia 38 1 (.t 34) (.t 36)⟩,
              ⟨none, .ld 39 false 1 (.t 38)⟩,
              ⟨none, .mv 10 (.t 39)⟩])
            ((.seq
             (.reg false [⟨none, .mv 40 (.t 10)⟩,
               ⟨none, .mv 41 (.t 1)⟩,
               ⟨none, .mv 42 (.t 1)⟩,
               ⟨none, .call (some 43) f4 [(.t 40), (.t 41), (.t 42)]⟩,
               ⟨none, .un 44 .not (.t 43)⟩])
             (.cond (.t 44)
              ((.seq
               (.reg false [⟨none, .mv 8 (.c (.sc (.bool false)))⟩])
               (.ret)))
              (.skip)))))))
          (.reg false [⟨none, .bin 45 .add (.t 36) (.c (.sc (.int .i64 1)))⟩,
            ⟨none, .mv 36 (.t 45)⟩])))))))))))
    ((.seq
     (.reg false [⟨none, .mv 8 (.c (.sc (.bool true)))⟩])
     (.ret))))))))
def K_isFrameI (P : Program) (f : Nat) : Prop := ∀ (g : Int × Int) (p : Int) (u : SL (SL Bool)) (t : SL (SL (SL Int))), AF P f [eG g, eI p, eS 1 (eS 1 eB) u, eS 1 (eS 1 (eS 1 eI)) t] (.own (eB (testsOk g p u && actsOk g p t)))
theorem a_isFrameI {P : Program} (hm : P.follows .mixedOrders = true) {g f1 f2 f3 f4 : Nat} (hr : resF P g = some (46, k_isFrameI f1 f2 f3 f4, [.t 8])) (hc1 : K_validSig P f1) (hc2 : K_within P f2) (hc3 : K_isTableB P f3) (hc4 : K_isTableI P f4) : K_isFrameI P g := by
  intro g p u t
  refine af_of_res hr hm rfl fun hb => ?_
  have hl := bd_ls hb.2.2.2.1
  simp only [List.length_map] at hl
  simp +contextual -implicitDefEqProofs only [k_isFrameI, eG, eS, List.length_map, go_sem, eI, eB, ↓reduceIte, Nat.reduceEqDiff, Nat.reduceAdd, Nat.reduceLeDiff, Nat.reduceMul, Nat.reduceBEq, Nat.reduceBneDiff, Nat.reduceLT, Nat.reduceSub, decide_true, decide_false, and_self, true_and, and_true, false_and, and_false, not_true_eq_false, not_false_eq_true, false_implies, true_implies, implies_true, ge_iff_le, Bool.false_eq_true, List.cons_append, List.nil_append]
  refine callQ_self ?_ (hc1 g) ?_
  · exact rfl
  cases hg : okG g
  · simp +contextual -implicitDefEqProofs only [testsOk, hg, bne, Bool.not_true, Bool.not_false, Bool.true_and, Bool.false_and, Bool.and_true, Bool.and_false, Bool.true_or, Bool.false_or, Bool.or_true, Bool.or_false, go_sem, eI, eB, ↓reduceIte, Nat.reduceEqDiff, Nat.reduceAdd, Nat.reduceLeDiff, Nat.reduceMul, Nat.reduceBEq, Nat.reduceBneDiff, Nat.reduceLT, Nat.reduceSub, decide_true, decide_false, and_self, true_and, and_true, false_and, and_false, not_true_eq_false, not_false_eq_true, false_implies, true_implies, implies_true, ge_iff_le, Bool.false_eq_true, List.cons_append, List.nil_append]
  simp +contextual -implicitDefEqProofs only [bne, Bool.not_true, Bool.not_false, Bool.true_and, Bool.false_and, Bool.and_true, Bool.and_false, Bool.true_or, Bool.false_or, Bool.or_true, Bool.or_false, go_sem, eI, eB, ↓reduceIte, Nat.reduceEqDiff, Nat.reduceAdd, Nat.reduceLeDiff, Nat.reduceMul, Nat.reduceBEq, Nat.reduceBneDiff, Nat.reduceLT, Nat.reduceSub, decide_true, decide_false, and_self, true_and, and_true, false_and, and_false, not_true_eq_false, not_false_eq_true, false_implies, true_implies, implies_true, ge_iff_le, Bool.false_eq_true, List.cons_append, List.nil_append]
  refine callQ_self ?_ (hc2 p 1 8) ?_
  · exact rfl
  cases hp : isIn p 1 8
  · simp +contextual -implicitDefEqProofs only [testsOk, hg, hp, bne, Bool.not_true, Bool.not_false, Bool.true_and, Bool.false_and, Bool.and_true, Bool.and_false, Bool.true_or, Bool.false_or, Bool.or_true, Bool.or_false, go_sem, eI, eB, ↓reduceIte, Nat.reduceEqDiff, Nat.reduceAdd, Nat.reduceLeDiff, Nat.reduceMul, Nat.reduceBEq, Nat.reduceBneDiff, Nat.reduceLT, Nat.reduceSub, decide_true, decide_false, and_self, true_and, and_true, false_and, and_false, not_true_eq_false, not_false_eq_true, false_implies, true_implies, implies_true, ge_iff_le, Bool.false_eq_true, List.cons_append, List.nil_append]
  simp +contextual -implicitDefEqProofs only [bne, Bool.not_true, Bool.not_false, Bool.true_and, Bool.false_and, Bool.and_true, Bool.and_false, Bool.true_or, Bool.false_or, Bool.or_true, Bool.or_false, go_sem, eI, eB, ↓reduceIte, Nat.reduceEqDiff, Nat.reduceAdd, Nat.reduceLeDiff, Nat.reduceMul, Nat.reduceBEq, Nat.reduceBneDiff, Nat.reduceLT, Nat.reduceSub, decide_true, decide_false, and_self, true_and, and_true, false_and, and_false, not_true_eq_false, not_false_eq_true, false_implies, true_implies, implies_true, ge_iff_le, Bool.false_eq_true, List.cons_append, List.nil_append]
  refine callQ_self ?_ (hc3 u g.1 p) ?_
  · exact rfl
  cases hu : tabOk g.1 p u
  · simp +contextual -implicitDefEqProofs only [testsOk, hg, hp, hu, bne, Bool.not_true, Bool.not_false, Bool.true_and, Bool.false_and, Bool.and_true, Bool.and_false, Bool.true_or, Bool.false_or, Bool.or_true, Bool.or_false, go_sem, eI, eB, ↓reduceIte, Nat.reduceEqDiff, Nat.reduceAdd, Nat.reduceLeDiff, Nat.reduceMul, Nat.reduceBEq, Nat.reduceBneDiff, Nat.reduceLT, Nat.reduceSub, decide_true, decide_false, and_self, true_and, and_true, false_and, and_false, not_true_eq_false, not_false_eq_true, false_implies, true_implies, implies_true, ge_iff_le, Bool.false_eq_true, List.cons_append, List.nil_append]
  have hT : testsOk g p u = true := by simp [testsOk, hg, hp, hu]
  cases h0 : lenIs g.2 t
  · have h0' := h0
    simp only [lenIs] at h0'
    simp +contextual -implicitDefEqProofs only [actsOk, hT, h0, h0', eS, List.length_map, bne, Bool.not_true, Bool.not_false, Bool.true_and, Bool.false_and, Bool.and_true, Bool.and_false, Bool.true_or, Bool.false_or, Bool.or_true, Bool.or_false, go_sem, eI, eB, ↓reduceIte, Nat.reduceEqDiff, Nat.reduceAdd, Nat.reduceLeDiff, Nat.reduceMul, Nat.reduceBEq, Nat.reduceBneDiff, Nat.reduceLT, Nat.reduceSub, decide_true, decide_false, and_self, true_and, and_true, false_and, and_false, not_true_eq_false, not_false_eq_true, false_implies, true_implies, implies_true, ge_iff_le, Bool.false_eq_true, List.cons_append, List.nil_append]
  have h0' := h0
  simp only [lenIs] at h0'
  simp +contextual -implicitDefEqProofs only [h0', eS, List.length_map, bne, Bool.not_true, Bool.not_false, Bool.true_and, Bool.false_and, Bool.and_true, Bool.and_false, Bool.true_or, Bool.false_or, Bool.or_true, Bool.or_false, go_sem, eI, eB, ↓reduceIte, Nat.reduceEqDiff, Nat.reduceAdd, Nat.reduceLeDiff, Nat.reduceMul, Nat.reduceBEq, Nat.reduceBneDiff, Nat.reduceLT, Nat.reduceSub, decide_true, decide_false, and_self, true_and, and_true, false_and, and_false, not_true_eq_false, not_false_eq_true, false_implies, true_implies, implies_true, ge_iff_le, Bool.false_eq_true, List.cons_append, List.nil_append]
  refine vc_on (α := Nat) [8, 10, 36, 37, 38, 39, 40, 41, 42, 43, 44, 45] (fun i => [(36, .im none (.sc (.int .i64 i)))]) (fun i => i ≤ t.2.length ∧ (t.2.take i).all (tabOk p p) = true) (fun i => t.2.length - i) 0 (by simp only [subEnv, go_sem, ↓reduceIte, Nat.reduceEqDiff, List.length_map]; simp) ⟨Nat.zero_le _, rfl⟩ ?_
  rintro i ⟨j1, j2⟩
  by_cases hi : i < t.2.length
  · have e1 := at_map (f := eS 1 (eS 1 eI)) hi
    simp +contextual -implicitDefEqProofs only [eS, e1, hi, Int.ofNat_lt, List.length_map, Int.natCast_nonneg, go_sem, eI, eB, ↓reduceIte, Nat.reduceEqDiff, Nat.reduceAdd, Nat.reduceLeDiff, Nat.reduceMul, Nat.reduceBEq, Nat.reduceBneDiff, Nat.reduceLT, Nat.reduceSub, decide_true, decide_false, and_self, true_and, and_true, false_and, and_false, not_true_eq_false, not_false_eq_true, false_implies, true_implies, implies_true, ge_iff_le, Bool.false_eq_true, List.cons_append, List.nil_append]
    refine callQ_self ?_ (hc4 t.2[i] p p) ?_
    · exact rfl
    cases hx : tabOk p p t.2[i]
    · simp +contextual -implicitDefEqProofs only [bne, Bool.not_true, Bool.not_false, Bool.true_and, Bool.false_and, Bool.and_true, Bool.and_false, Bool.true_or, Bool.false_or, Bool.or_true, Bool.or_false, go_sem, eI, eB, ↓reduceIte, Nat.reduceEqDiff, Nat.reduceAdd, Nat.reduceLeDiff, Nat.reduceMul, Nat.reduceBEq, Nat.reduceBneDiff, Nat.reduceLT, Nat.reduceSub, decide_true, decide_false, and_self, true_and, and_true, false_and, and_false, not_true_eq_false, not_false_eq_true, false_implies, true_implies, implies_true, ge_iff_le, Bool.false_eq_true, List.cons_append, List.nil_append]
      exact D.Le.sc_eq (by simp only [actsOk, hT, h0]; rw [all_fail hi hx]; rfl)
    · simp +contextual -implicitDefEqProofs only [bne, Bool.not_true, Bool.not_false, Bool.true_and, Bool.false_and, Bool.and_true, Bool.and_false, Bool.true_or, Bool.false_or, Bool.or_true, Bool.or_false, go_sem, eI, eB, ↓reduceIte, Nat.reduceEqDiff, Nat.reduceAdd, Nat.reduceLeDiff, Nat.reduceMul, Nat.reduceBEq, Nat.reduceBneDiff, Nat.reduceLT, Nat.reduceSub, decide_true, decide_false, and_self, true_and, and_true, false_and, and_false, not_true_eq_false, not_false_eq_true, false_implies, true_implies, implies_true, ge_iff_le, Bool.false_eq_true, List.cons_append, List.nil_append]
      rw [wrap_i64 (by omega) (by omega)]
      exact ⟨i + 1, ⟨by omega, all_take_succ hi j2 hx⟩, by omega, Ent.env (by simp only [subEnv, go_sem, ↓reduceIte, Nat.reduceEqDiff, List.length_map]; simp)⟩
  · simp +contextual -implicitDefEqProofs only [eS, hi, Int.ofNat_lt, List.length_map, Int.natCast_nonneg, go_sem, eI, eB, ↓reduceIte, Nat.reduceEqDiff, Nat.reduceAdd, Nat.reduceLeDiff, Nat.reduceMul, Nat.reduceBEq, Nat.reduceBneDiff, Nat.reduceLT, Nat.reduceSub, decide_true, decide_false, and_self, true_and, and_true, false_and, and_false, not_true_eq_false, not_false_eq_true, false_implies, true_implies, implies_true, ge_iff_le, Bool.false_eq_true, List.cons_append, List.nil_append]
    exact D.Le.sc_eq (by simp only [actsOk, hT, h0]; rw [all_of_take hi j2]; rfl)
def okMo (m : Mo) : Bool := testsOk m.1 m.2.1 m.2.2.1 && actsOk m.1 m.2.1 m.2.2.2

def k_l05Ok (f1 : Nat) : RC :=
 (.seq
  (.reg false [⟨none, .mv 2 (.c (.sc (.bool false)))⟩])
  ((.seq
   ((.seq
    (.reg true [⟨none, .mv 5 (.t 0)⟩,
      ⟨none, .nck 6 (.t 5)⟩,
      ⟨none, .fa 7 0 (.t 6)⟩,
      ⟨none, .ld 8 true 2 (.t 7)⟩,
      ⟨none, .mv 9 (.t 0)⟩,
      ⟨none, .nck 10 (.t 9)⟩,
      ⟨none, .fa 11 2 (.t 10)⟩,
      ⟨none, .ld 12 false 1 (.t 11)⟩,
      ⟨none, .mv 13 (.t 0)⟩,
      ⟨none, .nck 14 (.t 13)⟩,
      ⟨none, .fa 15 3 (.t 14)⟩,
      ⟨none, .ld 16 false 1 (.t 15)⟩,
      ⟨none, .call (some 17) f1 [(.t 8), (.t 12), (.t 16)]⟩,
      ⟨none, .un 18 .not (.t 17)⟩,
      ⟨none, .mv 19 (.t 18)⟩,
      ⟨some (19, false), .mv 20 (.t 0)⟩,
      ⟨some (19, false), .nck 21 (.t 20)⟩,
      ⟨some (19, false), .fa 22 4 (.t 21)⟩,
      ⟨some (19, false), .ld 23 false 1 (.t 22)⟩,
      ⟨some (19, false), .len 24 (.t 23)⟩,
      ⟨some (19, false), .mv 25 (.t 0)⟩,
      ⟨some (19, false), .nck 26 (.t 25)⟩,
      ⟨some (19, false), .fa 27 0 (.t 26)⟩,
      ⟨some (19, false), .fa 28 1 (.t 27)⟩,
      ⟨some (19, false), .ld 29 false 1 (.t 28)⟩,
      ⟨some (19, false), .bin 30 .neq (.t 24) (.t 29)⟩,
      ⟨none, .pick 31 (.t 19) (.c (.sc (.bool true))) (.t 30)⟩])
    (.cond (.t 31)
     ((.seq
      (.reg false [⟨none, .mv 2 (.c (.sc (.bool false)))⟩])
      (.ret)))
     (.skip))))
   ((.seq
    ((.seq
     (.reg false [⟨none, .mv 3 (.c (.sc (.int .i64 0)))⟩])
     (.blk 0
      (.loop
       ((.seq
        ((.seq
         (.reg false [⟨none, .mv 32 (.t 3)⟩,
           ⟨none, .mv 33 (.t 0)⟩,
           ⟨none, .nck 34 (.t 33)⟩,
           ⟨none, .fa 35 4 (.t 34)⟩,
           ⟨none, .ld 36 false 1 (.t 35)⟩,
           ⟨none, .len 37 (.t 36)⟩,
           ⟨none, .bin 38 .lss (.t 32) (.t 37)⟩])
         (.cond (.t 38)
          (.skip)
          (.exit 0))))
        ((.seq
         (.blk 1
          ((.seq
           ((.seq
            (.reg true [⟨none, .mv 41 (.t 0)⟩,
              ⟨none, .nck 42 (.t 41)⟩,
              ⟨none, .fa 43 4 (.t 42)⟩,
              ⟨none, .ld 44 false 1 (.t 43)⟩,
              ⟨none, .mv 45 (.t 3)⟩,
              ⟨none, .ia 46 1 (.t 44) (.t 45)⟩,
              ⟨none, .ld 47 false 1 (.t 46)⟩,
              ⟨none, .len 48 (.t 47)⟩,
              ⟨none, .mv 49 (.t 0)⟩,
              ⟨none, .nck 50 (.t 49)⟩,
              ⟨none, .fa 51 2 (.t 50)⟩,
              ⟨none, .ld 52 false 1 (.t 51)⟩,
              ⟨none, .bin 53 .neq (.t 48) (.t 52)⟩])
            (.cond (.t 53)
             ((.seq
              (.reg false [⟨none, .mv 2 (.c (.sc (.bool false)))⟩])
              (.ret)))
             (.skip))))
           ((.seq
            (.reg false [⟨none, .mv 4 (.c (.sc (.int .i64 0)))⟩])
            (.blk 2
             (.loop
              ((.seq
               ((.seq
                (.reg false [⟨none, .mv 54 (.t 4)⟩,
                  ⟨none, .mv 55 (.t 0)⟩,
                  ⟨none, .nck 56 (.t 55)⟩,
                  ⟨none, .fa 57 4 (.t 56)⟩,
                  ⟨none, .ld 58 false 1 (.t 57)⟩,
                  ⟨none, .mv 59 (.t 3)⟩,
                  ⟨none, .ia 60 1 (.t 58) (.t 59)⟩,
                  ⟨none, .ld 61 false 1 (.t 60)⟩,
                  ⟨none, .len 62 (.t 61)⟩,
                  ⟨none, .bin 63 .lss (.t 54) (.t 62)⟩])
                (.cond (.t 63)
                 (.skip)
                 (.exit 2))))
               ((.seq
                (.blk 3
                 ((.seq
                  (.reg true [⟨none, .mv 66 (.t 0)⟩,
                    ⟨none, .nck 67 (.t 66)⟩,
                    ⟨none, .fa 68 4 (.t 67)⟩,
                    ⟨none, .ld 69 false 1 (.t 68)⟩,
                    ⟨none, .mv 70 (.t 3)⟩,
                    ⟨none, .ia 71 1 (.t 69) (.t 70)⟩,
                    ⟨none, .ld 72 false 1 (.t 71)⟩,
                    ⟨none, .mv 73 (.t 4)⟩,
                    ⟨none, .ia 74 1 (.t 72) (.t 73)⟩,
                    ⟨none, .ld 75 false 1 (.t 74)⟩,
                    ⟨none, .len 76 (.t 75)⟩,
                    ⟨none, .mv 77 (.t 0)⟩,
                    ⟨none, .nck 78 (.t 77)⟩,
                    ⟨none, .fa 79 2 (.t 78)⟩,
                    ⟨none, .ld 80 false 1 (.t 79)⟩,
                    ⟨none, .bin 81 .neq (.t 76) (.t 80)⟩])
                  (.cond (.t 81)
                   ((.seq
                    (.reg false [⟨none, .mv 2 (.c (.sc (.bool false)))⟩])
                    (.ret)))
                   (.skip)))))
                (.reg false [⟨none, .mv 64 (.t 4)⟩,
                  ⟨none, .bin 65 .add (.t 64) (.c (.sc (.int .i64 1)))⟩,
                  ⟨none, .mv 4 (.t 65)⟩]))))))))))))
         (.reg false [⟨none, .mv 39 (.t 3)⟩,
           ⟨none, .bin 40 .add (.t 39) (.c (.sc (.int .i64 1)))⟩,
           ⟨none, .mv 3 (.t 40)⟩])))))))))
    ((.seq
     (.reg false [⟨none, .mv 2 (.c (.sc (.bool true)))⟩])
     (.ret))))))))
def K_l05Ok (P : Program) (f : Nat) : Prop := ∀ (m : Mo), AF P f [.pt (eM m) 0] (.own (eB (okMo m)))
theorem a_l05Ok {P : Program} (hm : P.follows .mixedOrders = true) {g f1 : Nat} (hr : resF P g = some (82, k_l05Ok f1, [.t 2])) (hc1 : K_l05Tests P f1) : K_l05Ok P g := by
  intro m
  refine af_of_res hr hm rfl fun hb => ?_
  have hb1 := hb.1
  simp only [eM, eS, D.bd, D.bdL, List.length_map] at hb1
  have hl := hb1.2.2.2.2.1.1
  have hl2 := hb1.2.2.2.2.1.2.2
  unfold maxEl at hl
  simp +contextual -implicitDefEqProofs only [k_l05Ok, eM, eS, List.length_map, go_sem, eI, eB, ↓reduceIte, Nat.reduceEqDiff, Nat.reduceAdd, Nat.reduceLeDiff, Nat.reduceMul, Nat.reduceBEq, Nat.reduceBneDiff, Nat.reduceLT, Nat.reduceSub, decide_true, decide_false, and_self, true_and, and_true, false_and, and_false, not_true_eq_false, not_false_eq_true, false_implies, true_implies, implies_true, ge_iff_le, Bool.false_eq_true, List.cons_append, List.nil_append]
  refine callQ_self ?_ (hc1 m.1 m.2.1 m.2.2.1) ?_
  · exact rfl
  cases hT : testsOk m.1 m.2.1 m.2.2.1
  · simp +contextual -implicitDefEqProofs only [okMo, hT, bne, Bool.not_true, Bool.not_false, Bool.true_and, Bool.false_and, Bool.and_true, Bool.and_false, Bool.true_or, Bool.false_or, Bool.or_true, Bool.or_false, go_sem, eI, eB, ↓reduceIte, Nat.reduceEqDiff, Nat.reduceAdd, Nat.reduceLeDiff, Nat.reduceMul, Nat.reduceBEq, Nat.reduceBneDiff, Nat.reduceLT, Nat.reduceSub, decide_true, decide_false, and_self, true_and, and_true, false_and, and_false, not_true_eq_false, not_false_eq_true, false_implies, true_implies, implies_true, ge_iff_le, Bool.false_eq_true, List.cons_append, List.nil_append]
  cases h0 : lenIs m.1.2 m.2.2.2
  · have h0' := h0
    simp only [lenIs] at h0'
    simp +contextual -implicitDefEqProofs only [okMo, actsOk, hT, h0, h0', eS, List.length_map, bne, Bool.not_true, Bool.not_false, Bool.true_and, Bool.false_and, Bool.and_true, Bool.and_false, Bool.true_or, Bool.false_or, Bool.or_true, Bool.or_false, go_sem, eI, eB, ↓reduceIte, Nat.reduceEqDiff, Nat.reduceAdd, Nat.reduceLeDiff, Nat.reduceMul, Nat.reduceBEq, Nat.reduceBneDiff, Nat.reduceLT, Nat.reduceSub, decide_true, decide_false, and_self, true_and, and_true, false_and, and_false, not_true_eq_false, not_false_eq_true, false_implies, true_implies, implies_true, ge_iff_le, Bool.false_eq_true, List.cons_append, List.nil_append]
  have h0' := h0
  simp only [lenIs] at h0'
  simp +contextual -implicitDefEqProofs only [okMo, h0', eS, List.length_map, bne, Bool.not_true, Bool.not_false, Bool.true_and, Bool.false_and, Bool.and_true, Bool.and_false, Bool.true_or, Bool.false_or, Bool.or_true, Bool.or_false, go_sem, eI, eB, ↓reduceIte, Nat.reduceEqDiff, Nat.reduceAdd, Nat.reduceLeDiff, Nat.reduceMul, Nat.reduceBEq, Nat.reduceBneDiff, Nat.reduceLT, Nat.reduceSub, decide_true, decide_false, and_self, true_and, and_true, false_and, and_false, not_true_eq_false, not_false_eq_true, false_implies, true_implies, implies_true, ge_iff_le, Bool.false_eq_true, List.cons_append, List.nil_append]
  refine vc_on (α := Nat) [2, 3, 4, 32, 33, 34, 35, 36, 37, 38, 39, 40, 41, 42, 43, 44, 45, 46, 47, 48, 49, 50, 51, 52, 53, 54, 55, 56, 57, 58, 59, 60, 61, 62, 63, 64, 65, 66, 67, 68, 69, 70, 71, 72, 73, 74, 75, 76, 77, 78, 79, 80, 81] (fun i => [(3, .im none (.sc (.int .i64 i)))]) (fun i => i ≤ m.2.2.2.2.length ∧ (m.2.2.2.2.take i).all (tabOk m.2.1 m.2.1) = true) (fun i => m.2.2.2.2.length - i) 0 (by simp only [subEnv, go_sem, ↓reduceIte, Nat.reduceEqDiff, List.length_map]; simp) ⟨Nat.zero_le _, rfl⟩ ?_
  rintro i ⟨j1, j2⟩
  by_cases hi : i < m.2.2.2.2.length
  · have e1 := at_map (f := eS 1 (eS 1 eB)) hi
    simp +contextual -implicitDefEqProofs only [eS, e1, hi, Int.ofNat_lt, List.length_map, Int.natCast_nonneg, go_sem, eI, eB, ↓reduceIte, Nat.reduceEqDiff, Nat.reduceAdd, Nat.reduceLeDiff, Nat.reduceMul, Nat.reduceBEq, Nat.reduceBneDiff, Nat.reduceLT, Nat.reduceSub, decide_true, decide_false, and_self, true_and, and_true, false_and, and_false, not_true_eq_false, not_false_eq_true, false_implies, true_implies, implies_true, ge_iff_le, Bool.false_eq_true, List.cons_append, List.nil_append]
    have hli : m.2.2.2.2[i].2.length ≤ 9223372036854775807 := by
      have := bd_ls (bdL_mem hl2 _ (List.mem_map_of_mem (List.getElem_mem hi)))
      simpa only [List.length_map] using this
    cases hy : lenIs m.2.1 m.2.2.2.2[i]
    · have hy' := hy
      simp only [lenIs] at hy'
      simp +contextual -implicitDefEqProofs only [eS, List.length_map, hy', bne, Bool.not_true, Bool.not_false, Bool.true_and, Bool.false_and, Bool.and_true, Bool.and_false, Bool.true_or, Bool.false_or, Bool.or_true, Bool.or_false, go_sem, eI, eB, ↓reduceIte, Nat.reduceEqDiff, Nat.reduceAdd, Nat.reduceLeDiff, Nat.reduceMul, Nat.reduceBEq, Nat.reduceBneDiff, Nat.reduceLT, Nat.reduceSub, decide_true, decide_false, and_self, true_and, and_true, false_and, and_false, not_true_eq_false, not_false_eq_true, false_implies, true_implies, implies_true, ge_iff_le, Bool.false_eq_true, List.cons_append, List.nil_append]
      have hx : tabOk m.2.1 m.2.1 m.2.2.2.2[i] = false := by simp only [tabOk, hy, Bool.false_and]
      exact D.Le.sc_eq (by simp only [actsOk, hT, h0]; rw [all_fail hi hx]; rfl)
    have hy' := hy
    simp only [lenIs] at hy'
    simp +contextual -implicitDefEqProofs only [eS, List.length_map, hy', bne, Bool.not_true, Bool.not_false, Bool.true_and, Bool.false_and, Bool.and_true, Bool.and_false, Bool.true_or, Bool.false_or, Bool.or_true, Bool.or_false, go_sem, eI, eB, ↓reduceIte, Nat.reduceEqDiff, Nat.reduceAdd, Nat.reduceLeDiff, Nat.reduceMul, Nat.reduceBEq, Nat.reduceBneDiff, Nat.reduceLT, Nat.reduceSub, decide_true, decide_false, and_self, true_and, and_true, false_and, and_false, not_true_eq_false, not_false_eq_true, false_implies, true_implies, implies_true, ge_iff_le, Bool.false_eq_true, List.cons_append, List.nil_append]
    refine vc_on (α := Nat) [2, 4, 54, 55, 56, 57, 58, 59, 60, 61, 62, 63, 64, 65, 66, 67, 68, 69, 70, 71, 72, 73, 74, 75, 76, 77, 78, 79, 80, 81] (fun k => [(4, .im none (.sc (.int .i64 k)))]) (fun k => k ≤ m.2.2.2.2[i].2.length ∧ (m.2.2.2.2[i].2.take k).all (lenIs m.2.1) = true) (fun k => m.2.2.2.2[i].2.length - k) 0 (by simp only [subEnv, go_sem, ↓reduceIte, Nat.reduceEqDiff, List.length_map]; simp) ⟨Nat.zero_le _, rfl⟩ ?_
    rintro k ⟨k1, k2⟩
    by_cases hk : k < m.2.2.2.2[i].2.length
    · have e2 := at_map (f := eS 1 eB) hk
      simp +contextual -implicitDefEqProofs only [eS, e1, hi, e2, hk, Int.ofNat_lt, List.length_map, Int.natCast_nonneg, go_sem, eI, eB, ↓reduceIte, Nat.reduceEqDiff, Nat.reduceAdd, Nat.reduceLeDiff, Nat.reduceMul, Nat.reduceBEq, Nat.reduceBneDiff, Nat.reduceLT, Nat.reduceSub, decide_true, decide_false, and_self, true_and, and_true, false_and, and_false, not_true_eq_false, not_false_eq_true, false_implies, true_implies, implies_true, ge_iff_le, Bool.false_eq_true, List.cons_append, List.nil_append]
      cases hz : lenIs m.2.1 m.2.2.2.2[i].2[k]
      · have hz' := hz
        simp only [lenIs] at hz'
        simp +contextual -implicitDefEqProofs only [eS, List.length_map, hz', bne, Bool.not_true, Bool.not_false, Bool.true_and, Bool.false_and, Bool.and_true, Bool.and_false, Bool.true_or, Bool.false_or, Bool.or_true, Bool.or_false, go_sem, eI, eB, ↓reduceIte, Nat.reduceEqDiff, Nat.reduceAdd, Nat.reduceLeDiff, Nat.reduceMul, Nat.reduceBEq, Nat.reduceBneDiff, Nat.reduceLT, Nat.reduceSub, decide_true, decide_false, and_self, true_and, and_true, false_and, and_false, not_true_eq_false, not_false_eq_true, false_implies, true_implies, implies_true, ge_iff_le, Bool.false_eq_true, List.cons_append, List.nil_append]
        have hx : tabOk m.2.1 m.2.1 m.2.2.2.2[i] = false := by simp only [tabOk, hy]; rw [all_fail hk hz]; rfl
        exact D.Le.sc_eq (by simp only [actsOk, hT, h0]; rw [all_fail hi hx]; rfl)
      · have hz' := hz
        simp only [lenIs] at hz'
        simp +contextual -implicitDefEqProofs only [eS, List.length_map, hz', bne, Bool.not_true, Bool.not_false, Bool.true_and, Bool.false_and, Bool.and_true, Bool.and_false, Bool.true_or, Bool.false_or, Bool.or_true, Bool.or_false, go_sem, eI, eB, ↓reduceIte, Nat.reduceEqDiff, Nat.reduceAdd, Nat.reduceLeDiff, Nat.reduceMul, Nat.reduceBEq, Nat.reduceBneDiff, Nat.reduceLT, Nat.reduceSub, decide_true, decide_false, and_self, true_and, and_true, false_and, and_false, not_true_eq_false, not_false_eq_true, false_implies, true_implies, implies_true, ge_iff_le, Bool.false_eq_true, List.cons_append, List.nil_append]
        rw [wrap_i64 (by omega) (by omega)]
        exact ⟨k + 1, ⟨by omega, all_take_succ hk k2 hz⟩, by omega, Ent.env (by simp only [subEnv, go_sem, ↓reduceIte, Nat.reduceEqDiff, List.length_map]; simp)⟩
    · simp +contextual -implicitDefEqProofs only [eS, e1, hi, hk, Int.ofNat_lt, List.length_map, Int.natCast_nonneg, go_sem, eI, eB, ↓reduceIte, Nat.reduceEqDiff, Nat.reduceAdd, Nat.reduceLeDiff, Nat.reduceMul, Nat.reduceBEq, Nat.reduceBneDiff, Nat.reduceLT, Nat.reduceSub, decide_true, decide_false, and_self, true_and, and_true, false_and, and_false, not_true_eq_false, not_false_eq_true, false_implies, true_implies, implies_true, ge_iff_le, Bool.false_eq_true, List.cons_append, List.nil_append]
      have hx : tabOk m.2.1 m.2.1 m.2.2.2.2[i] = true := by simp only [tabOk, hy]; rw [all_of_take hk k2]; rfl
      rw [wrap_i64 (by omega) (by omega)]
      exact ⟨i + 1, ⟨by omega, all_take_succ hi j2 hx⟩, by omega, Ent.env (by simp only [subEnv, go_sem, ↓reduceIte, Nat.reduceEqDiff, List.length_map]; simp)⟩
  · simp +contextual -implicitDefEqProofs only [eS, hi, Int.ofNat_lt, List.length_map, Int.natCast_nonneg, go_sem, eI, eB, ↓reduceIte, Nat.reduceEqDiff, Nat.reduceAdd, Nat.reduceLeDiff, Nat.reduceMul, Nat.reduceBEq, Nat.reduceBneDiff, Nat.reduceLT, Nat.reduceSub, decide_true, decide_false, and_self, true_and, and_true, false_and, and_false, not_true_eq_false, not_false_eq_true, false_implies, true_implies, implies_true, ge_iff_le, Bool.false_eq_true, List.cons_append, List.nil_append]
    exact D.Le.sc_eq (by simp only [actsOk, hT, h0]; rw [all_of_take hi j2]; rfl)

def k_validModel (f1 : Nat) : RC :=
 (.seq
  (.reg false [⟨none, .box 1 5 (.t 0)⟩,
    ⟨none, .mv 2 (.c (.sc (.bool false)))⟩])
  ((.seq
   (.reg false [⟨none, .fa 3 0 (.t 1)⟩,
     ⟨none, .ld 4 true 2 (.t 3)⟩,
     ⟨none, .fa 5 2 (.t 1)⟩,
     ⟨none, .ld 6 false 1 (.t 5)⟩,
     ⟨none, .fa 7 3 (.t 1)⟩,
     ⟨none, .ld 8 false 1 (.t 7)⟩,
     ⟨none, .fa 9 4 (.t 1)⟩,
     ⟨none, .ld 10 false 1 (.t 9)⟩,
     ⟨none, .call (some 11) f1 [(.t 4), (.t 6), (.t 8), (.t 10)]⟩,
     ⟨none, .mv 2 (.t 11)⟩])
   (.ret))))
def K_validModel (P : Program) (f : Nat) : Prop := ∀ (m : Mo), AF P f [eM m] (.own (eB (okMo m)))
theorem a_validModel {P : Program} (hm : P.follows .mixedOrders = true) {g f1 : Nat} (hr : resF P g = some (12, k_validModel f1, [.t 2])) (hc1 : K_isFrameB P f1) : K_validModel P g := by
  intro m
  refine af_of_res hr hm rfl fun hb => ?_
  simp +contextual -implicitDefEqProofs only [k_validModel, eM, eS, go_sem, eI, eB, ↓reduceIte, Nat.reduceEqDiff, Nat.reduceAdd, Nat.reduceLeDiff, Nat.reduceMul, Nat.reduceBEq, Nat.reduceBneDiff, Nat.reduceLT, Nat.reduceSub, decide_true, decide_false, and_self, true_and, and_true, false_and, and_false, not_true_eq_false, not_false_eq_true, false_implies, true_implies, implies_true, ge_iff_le, Bool.false_eq_true, List.cons_append, List.nil_append]
  refine callQ_self ?_ (hc1 m.1 m.2.1 m.2.2.1 m.2.2.2) ?_
  · exact rfl
  simp +contextual -implicitDefEqProofs only [eS, eM, okMo, go_sem, eI, eB, ↓reduceIte, Nat.reduceEqDiff, Nat.reduceAdd, Nat.reduceLeDiff, Nat.reduceMul, Nat.reduceBEq, Nat.reduceBneDiff, Nat.reduceLT, Nat.reduceSub, decide_true, decide_false, and_self, true_and, and_true, false_and, and_false, not_true_eq_false, not_false_eq_true, false_implies, true_implies, implies_true, ge_iff_le, Bool.false_eq_true, List.cons_append, List.nil_append]
end Go.Ax
