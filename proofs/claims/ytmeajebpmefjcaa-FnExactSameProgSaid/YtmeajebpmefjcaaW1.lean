/- Contracts of functions of the seat, proved over the engine. No condition. -/
import Derived.Test.YtmeajebpmefjcaaAxD
import Derived.Test.YtmeajebpmefjcaaChecked
namespace Go.Ax
open Go.Proofs
set_option linter.unusedSimpArgs false
theorem mixed : Try.prog.follows .mixedOrders = true := by kernel_rfl
theorem res61 : resF Try.prog 61 = some (27, cSzC 34 3 true, [.t 4]) := by kernel_rfl
theorem res34 : resF Try.prog 34 = some (12, k_szExpr 61, [.t 4]) := by kernel_rfl
theorem res35 : resF Try.prog 35 = some (27, cSzC 13 6 true, [.t 4]) := by kernel_rfl
theorem res13 : resF Try.prog 13 = some (18, k_szProg 34 35, [.t 4]) := by kernel_rfl
theorem res63 : resF Try.prog 63 = some (23, cToC 37 3 40 true (.ag [(.sc (.int .i64 0)), (.sc (.int .i64 0)), (.ls (some true) 3 [])]), [.t 2]) := by kernel_rfl
theorem res37 : resF Try.prog 37 = some (15, k_toExpr 63, [.c 2 3 true]) := by kernel_rfl
theorem res38 : resF Try.prog 38 = some (23, cToC 15 6 80 true (.ag [(.sc (.int .i64 0)), (.sc (.int .i64 0)), (.sc (.int .i64 0)), (.sc (.int .i64 0)), (.ls (some true) 3 []), (.ls (some true) 6 [])]), [.t 2]) := by kernel_rfl
theorem res15 : resF Try.prog 15 = some (19, k_toProg 37 38, [.c 2 6 true]) := by kernel_rfl
theorem res62 : resF Try.prog 62 = some (62, k_l01Same 62, [.t 4]) := by kernel_rfl
theorem af62 : K_l01Same Try.prog 62 := a_l01Same mixed res62
theorem res36 : resF Try.prog 36 = some (72, k_l06Same 36 62, [.t 4]) := by kernel_rfl
theorem af36 : K_l06Same Try.prog 36 := a_l06Same mixed res36 af62
theorem res14 : resF Try.prog 14 = some (6, k_spSameProg 36, [.t 4]) := by kernel_rfl
theorem af14 : K_spSameProg Try.prog 14 := a_spSameProg mixed res14 af36
theorem res64 : resF Try.prog 64 = some (32, cEfA 3 (.ag [(.sc (.int .i64 0)), (.sc (.int .i64 0)), (.ls (some true) 3 [])]), [.t 6]) := by kernel_rfl
theorem res39 : resF Try.prog 39 = some (24, k_sameExpr 39 64, [.t 4]) := by kernel_rfl
theorem af39 : K_sameExpr Try.prog 39 := a_sameExpr mixed res39 res64
theorem res40 : resF Try.prog 40 = some (32, cEfA 6 (.ag [(.sc (.int .i64 0)), (.sc (.int .i64 0)), (.sc (.int .i64 0)), (.sc (.int .i64 0)), (.ls (some true) 3 []), (.ls (some true) 6 [])]), [.t 6]) := by kernel_rfl
theorem res16 : resF Try.prog 16 = some (31, k_sameProg 16 39 40, [.t 4]) := by kernel_rfl
theorem af16 : K_sameProg Try.prog 16 := a_sameProg mixed res16 af39 res40
theorem res65 : resF Try.prog 65 = some (27, cEqC 41 3 true, [.t 4]) := by kernel_rfl
theorem res41 : resF Try.prog 41 = some (21, k_eqExpr 65, [.t 4]) := by kernel_rfl
theorem res42 : resF Try.prog 42 = some (27, cEqC 17 6 true, [.t 4]) := by kernel_rfl
theorem res17 : resF Try.prog 17 = some (27, k_eqProg 41 42, [.t 4]) := by kernel_rfl

def rc4 : RC :=
 (.seq
  (.reg false [⟨none, .box 2 6 (.t 0)⟩,
    ⟨none, .box 3 6 (.t 1)⟩,
    ⟨none, .mv 4 (.c (.sc (.bool false)))⟩])
  ((.seq
   (.reg false [⟨none, .mv 5 (.c (.sc (.int .i64 1048576)))⟩])
   ((.seq
    (.reg false [⟨none, .ld 10 true 6 (.t 2)⟩,
      ⟨none, .mv 11 (.t 5)⟩,
      ⟨none, .call (some 12) 13 [(.t 10), (.t 11)]⟩,
      ⟨none, .mv 5 (.t 12)⟩])
    ((.seq
     ((.seq
      (.reg false [⟨none, .mv 13 (.t 5)⟩,
        ⟨none, .bin 14 .lss (.t 13) (.c (.sc (.int .i64 0)))⟩])
      (.cond (.t 14)
       ((.seq
        (.reg false [⟨none, .mv 4 (.c (.sc (.bool true)))⟩])
        (.ret)))
       (.skip))))
     ((.seq
      (.reg false [⟨none, .ld 15 true 6 (.t 3)⟩,
        ⟨none, .mv 16 (.t 5)⟩,
        ⟨none, .call (some 17) 13 [(.t 15), (.t 16)]⟩,
        ⟨none, .mv 5 (.t 17)⟩])
      ((.seq
       ((.seq
        (.reg false [⟨none, .mv 18 (.t 5)⟩,
          ⟨none, .bin 19 .lss (.t 18) (.c (.sc (.int .i64 0)))⟩])
        (.cond (.t 19)
         ((.seq
          (.reg false [⟨none, .mv 4 (.c (.sc (.bool true)))⟩])
          (.ret)))
         (.skip))))
       ((.seq
        (.reg true [⟨none, .ld 20 true 6 (.t 2)⟩,
          ⟨none, .call (some 21) 15 [(.t 20)]⟩,
          ⟨none, .ld 22 true 6 (.t 3)⟩,
          ⟨none, .call (some 23) 15 [(.t 22)]⟩,
          ⟨none, .call (some 24) 14 [(.t 21), (.t 23)]⟩,
          ⟨none, .mv 6 (.t 24)⟩])
        ((.seq
         (.reg false [⟨none, .ld 25 true 6 (.t 2)⟩,
           ⟨none, .call (some 26) 15 [(.t 25)]⟩,
           ⟨none, .zer 7 6 (.ag [(.sc (.int .i64 0)), (.sc (.int .i64 0)), (.sc (.int .i64 0)), (.sc (.int .i64 0)), (.ls (some true) 3 []), (.ls (some true) 6 [])])⟩,
           ⟨none, .st 6 (.t 7) (.t 26)⟩])
         ((.seq
          (.reg false [⟨none, .ld 27 true 6 (.t 3)⟩,
            ⟨none, .call (some 28) 15 [(.t 27)]⟩,
            ⟨none, .zer 8 6 (.ag [(.sc (.int .i64 0)), (.sc (.int .i64 0)), (.sc (.int .i64 0)), (.sc (.int .i64 0)), (.ls (some true) 3 []), (.ls (some true) 6 [])])⟩,
            ⟨none, .st 6 (.t 8) (.t 28)⟩])
          ((.seq
           (.reg false [⟨none, .ld 29 true 6 (.t 7)⟩,
             ⟨none, .ld 30 true 6 (.t 8)⟩,
             ⟨none, .call (some 31) 16 [(.t 29), (.t 30)]⟩,
             ⟨none, .mv 9 (.t 31)⟩])
           ((.seq
            ((.seq
             (.reg false [⟨none, .mv 32 (.t 9)⟩,
               ⟨none, .mv 33 (.t 6)⟩,
               ⟨none, .beq 34 true (.t 32) (.t 33)⟩])
             (.cond (.t 34)
              ((.seq
               (.reg false [⟨none, .mv 4 (.c (.sc (.bool false)))⟩])
               (.ret)))
              (.skip))))
            ((.seq
             ((.seq
              (.reg true [⟨none, .ld 35 true 6 (.t 7)⟩,
                ⟨none, .ld 36 true 6 (.t 2)⟩,
                ⟨none, .call (some 37) 15 [(.t 36)]⟩,
                ⟨none, .call (some 38) 17 [(.t 35), (.t 37)]⟩,
                ⟨none, .un 39 .not (.t 38)⟩])
              (.cond (.t 39)
               ((.seq
                (.reg false [⟨none, .mv 4 (.c (.sc (.bool false)))⟩])
                (.ret)))
               (.skip))))
             ((.seq
              ((.seq
               (.reg true [⟨none, .ld 40 true 6 (.t 8)⟩,
                 ⟨none, .ld 41 true 6 (.t 3)⟩,
                 ⟨none, .call (some 42) 15 [(.t 41)]⟩,
                 ⟨none, .call (some 43) 17 [(.t 40), (.t 42)]⟩,
                 ⟨none, .un 44 .not (.t 43)⟩])
               (.cond (.t 44)
                ((.seq
                 (.reg false [⟨none, .mv 4 (.c (.sc (.bool false)))⟩])
                 (.ret)))
                (.skip))))
              ((.seq
               (.reg false [⟨none, .mv 4 (.c (.sc (.bool true)))⟩])
               (.ret))))))))))))))))))))))))))))
theorem res4 : resF Try.prog 4 = some (45, rc4, [.t 4]) := by kernel_rfl
noncomputable def famEx : Fam Try.prog eE 34 37 41 := famE mixed res34 res61 res37 res63 res41 res65
noncomputable def famPr : Fam Try.prog eP 13 15 17 := famPg mixed famEx ⟨rfl, rfl, rfl, rfl⟩ res13 res35 res15 res38 res17 res42
theorem famPr_t (x : Pg) : famPr.t x = tP x := rfl
theorem af4 (a b : Pg) : AF Try.prog 4 [eP a, eP b] (.own (eB true)) := by
  have ha : a = .mk a.k a.n (.mk a.c.k a.c.n a.c.nn a.c.ks) a.nn a.ks := by rcases a with ⟨ak, an, ⟨ack, acn, acnn, acks⟩, ann, aks⟩; rfl
  have hb : b = .mk b.k b.n (.mk b.c.k b.c.n b.c.nn b.c.ks) b.nn b.ks := by rcases b with ⟨ak, an, ⟨ack, acn, acnn, acks⟩, ann, aks⟩; rfl
  refine af_of_res res4 mixed rfl fun _ => ?_
  rw [ha, hb]
  simp +contextual -implicitDefEqProofs only [rc4, eP_mk, tP_mk, tE_mk, Ex.k_mk, Ex.n_mk, Ex.nn_mk, Ex.ks_mk, famPr_t, go_sem, eI, eB, ↓reduceIte, Nat.reduceEqDiff, Nat.reduceAdd, Nat.reduceLeDiff, Nat.reduceMul, Nat.reduceBEq, Nat.reduceBneDiff, Nat.reduceLT, Nat.reduceSub, decide_true, decide_false, and_self, true_and, and_true, false_and, and_false, not_true_eq_false, not_false_eq_true, false_implies, true_implies, implies_true, ge_iff_le, Bool.false_eq_true, List.cons_append, List.nil_append]
  refine callQ_self (ds := [eP (.mk a.k a.n (.mk a.c.k a.c.n a.c.nn a.c.ks) a.nn a.ks), eI 1048576]) ?_ (famPr.afS (.mk a.k a.n (.mk a.c.k a.c.n a.c.nn a.c.ks) a.nn a.ks) 1048576 (by omega) (by omega)) ?_
  · simp only [eP_mk, tP_mk, tE_mk, Ex.k_mk, Ex.n_mk, Ex.nn_mk, Ex.ks_mk, famPr_t]; exact rfl
  simp +contextual -implicitDefEqProofs only [eP_mk, tP_mk, tE_mk, Ex.k_mk, Ex.n_mk, Ex.nn_mk, Ex.ks_mk, famPr_t, go_sem, eI, eB, ↓reduceIte, Nat.reduceEqDiff, Nat.reduceAdd, Nat.reduceLeDiff, Nat.reduceMul, Nat.reduceBEq, Nat.reduceBneDiff, Nat.reduceLT, Nat.reduceSub, decide_true, decide_false, and_self, true_and, and_true, false_and, and_false, not_true_eq_false, not_false_eq_true, false_implies, true_implies, implies_true, ge_iff_le, Bool.false_eq_true, List.cons_append, List.nil_append]
  have b1 := famPr.s_in (.mk a.k a.n (.mk a.c.k a.c.n a.c.nn a.c.ks) a.nn a.ks) 1048576 (by omega) (by omega)
  refine fun hs => ?_
  have hf := famPr.s_fit (.mk a.k a.n (.mk a.c.k a.c.n a.c.nn a.c.ks) a.nn a.ks) 1048576 (by omega) (by omega) (by omega)
  refine callQ_self (ds := [eP (.mk b.k b.n (.mk b.c.k b.c.n b.c.nn b.c.ks) b.nn b.ks), eI (famPr.s (.mk a.k a.n (.mk a.c.k a.c.n a.c.nn a.c.ks) a.nn a.ks) 1048576)]) ?_ (famPr.afS (.mk b.k b.n (.mk b.c.k b.c.n b.c.nn b.c.ks) b.nn b.ks) (famPr.s (.mk a.k a.n (.mk a.c.k a.c.n a.c.nn a.c.ks) a.nn a.ks) 1048576) (by omega) (by omega)) ?_
  · simp only [eP_mk, tP_mk, tE_mk, Ex.k_mk, Ex.n_mk, Ex.nn_mk, Ex.ks_mk, famPr_t]; exact rfl
  simp +contextual -implicitDefEqProofs only [eP_mk, tP_mk, tE_mk, Ex.k_mk, Ex.n_mk, Ex.nn_mk, Ex.ks_mk, famPr_t, go_sem, eI, eB, ↓reduceIte, Nat.reduceEqDiff, Nat.reduceAdd, Nat.reduceLeDiff, Nat.reduceMul, Nat.reduceBEq, Nat.reduceBneDiff, Nat.reduceLT, Nat.reduceSub, decide_true, decide_false, and_self, true_and, and_true, false_and, and_false, not_true_eq_false, not_false_eq_true, false_implies, true_implies, implies_true, ge_iff_le, Bool.false_eq_true, List.cons_append, List.nil_append]
  refine fun hs2 => ?_
  have hf2 := famPr.s_fit (.mk b.k b.n (.mk b.c.k b.c.n b.c.nn b.c.ks) b.nn b.ks) (famPr.s (.mk a.k a.n (.mk a.c.k a.c.n a.c.nn a.c.ks) a.nn a.ks) 1048576) (by omega) (by omega) (by omega)
  refine callQ_self (ds := [eP (.mk a.k a.n (.mk a.c.k a.c.n a.c.nn a.c.ks) a.nn a.ks)]) ?_ (famPr.afT (.mk a.k a.n (.mk a.c.k a.c.n a.c.nn a.c.ks) a.nn a.ks) hf) ?_
  · simp only [eP_mk, tP_mk, tE_mk, Ex.k_mk, Ex.n_mk, Ex.nn_mk, Ex.ks_mk, famPr_t]; exact rfl
  simp +contextual -implicitDefEqProofs only [eP_mk, tP_mk, tE_mk, Ex.k_mk, Ex.n_mk, Ex.nn_mk, Ex.ks_mk, famPr_t, go_sem, eI, eB, ↓reduceIte, Nat.reduceEqDiff, Nat.reduceAdd, Nat.reduceLeDiff, Nat.reduceMul, Nat.reduceBEq, Nat.reduceBneDiff, Nat.reduceLT, Nat.reduceSub, decide_true, decide_false, and_self, true_and, and_true, false_and, and_false, not_true_eq_false, not_false_eq_true, false_implies, true_implies, implies_true, ge_iff_le, Bool.false_eq_true, List.cons_append, List.nil_append]
  refine callQ_self (ds := [eP (.mk b.k b.n (.mk b.c.k b.c.n b.c.nn b.c.ks) b.nn b.ks)]) ?_ (famPr.afT (.mk b.k b.n (.mk b.c.k b.c.n b.c.nn b.c.ks) b.nn b.ks) hf2) ?_
  · simp only [eP_mk, tP_mk, tE_mk, Ex.k_mk, Ex.n_mk, Ex.nn_mk, Ex.ks_mk, famPr_t]; exact rfl
  simp +contextual -implicitDefEqProofs only [eP_mk, tP_mk, tE_mk, Ex.k_mk, Ex.n_mk, Ex.nn_mk, Ex.ks_mk, famPr_t, go_sem, eI, eB, ↓reduceIte, Nat.reduceEqDiff, Nat.reduceAdd, Nat.reduceLeDiff, Nat.reduceMul, Nat.reduceBEq, Nat.reduceBneDiff, Nat.reduceLT, Nat.reduceSub, decide_true, decide_false, and_self, true_and, and_true, false_and, and_false, not_true_eq_false, not_false_eq_true, false_implies, true_implies, implies_true, ge_iff_le, Bool.false_eq_true, List.cons_append, List.nil_append]
  refine callQ_self (ds := [eP (famPr.t (.mk a.k a.n (.mk a.c.k a.c.n a.c.nn a.c.ks) a.nn a.ks)), eP (famPr.t (.mk b.k b.n (.mk b.c.k b.c.n b.c.nn b.c.ks) b.nn b.ks))]) ?_ (af14 (famPr.t (.mk a.k a.n (.mk a.c.k a.c.n a.c.nn a.c.ks) a.nn a.ks)) (famPr.t (.mk b.k b.n (.mk b.c.k b.c.n b.c.nn b.c.ks) b.nn b.ks))) ?_
  · simp only [eP_mk, tP_mk, tE_mk, Ex.k_mk, Ex.n_mk, Ex.nn_mk, Ex.ks_mk, famPr_t]; exact rfl
  simp +contextual -implicitDefEqProofs only [eP_mk, tP_mk, tE_mk, Ex.k_mk, Ex.n_mk, Ex.nn_mk, Ex.ks_mk, famPr_t, go_sem, eI, eB, ↓reduceIte, Nat.reduceEqDiff, Nat.reduceAdd, Nat.reduceLeDiff, Nat.reduceMul, Nat.reduceBEq, Nat.reduceBneDiff, Nat.reduceLT, Nat.reduceSub, decide_true, decide_false, and_self, true_and, and_true, false_and, and_false, not_true_eq_false, not_false_eq_true, false_implies, true_implies, implies_true, ge_iff_le, Bool.false_eq_true, List.cons_append, List.nil_append]
  refine callQ_self (ds := [eP (.mk a.k a.n (.mk a.c.k a.c.n a.c.nn a.c.ks) a.nn a.ks)]) ?_ (famPr.afT (.mk a.k a.n (.mk a.c.k a.c.n a.c.nn a.c.ks) a.nn a.ks) hf) ?_
  · simp only [eP_mk, tP_mk, tE_mk, Ex.k_mk, Ex.n_mk, Ex.nn_mk, Ex.ks_mk, famPr_t]; exact rfl
  simp +contextual -implicitDefEqProofs only [eP_mk, tP_mk, tE_mk, Ex.k_mk, Ex.n_mk, Ex.nn_mk, Ex.ks_mk, famPr_t, go_sem, eI, eB, ↓reduceIte, Nat.reduceEqDiff, Nat.reduceAdd, Nat.reduceLeDiff, Nat.reduceMul, Nat.reduceBEq, Nat.reduceBneDiff, Nat.reduceLT, Nat.reduceSub, decide_true, decide_false, and_self, true_and, and_true, false_and, and_false, not_true_eq_false, not_false_eq_true, false_implies, true_implies, implies_true, ge_iff_le, Bool.false_eq_true, List.cons_append, List.nil_append]
  refine callQ_self (ds := [eP (.mk b.k b.n (.mk b.c.k b.c.n b.c.nn b.c.ks) b.nn b.ks)]) ?_ (famPr.afT (.mk b.k b.n (.mk b.c.k b.c.n b.c.nn b.c.ks) b.nn b.ks) hf2) ?_
  · simp only [eP_mk, tP_mk, tE_mk, Ex.k_mk, Ex.n_mk, Ex.nn_mk, Ex.ks_mk, famPr_t]; exact rfl
  simp +contextual -implicitDefEqProofs only [eP_mk, tP_mk, tE_mk, Ex.k_mk, Ex.n_mk, Ex.nn_mk, Ex.ks_mk, famPr_t, go_sem, eI, eB, ↓reduceIte, Nat.reduceEqDiff, Nat.reduceAdd, Nat.reduceLeDiff, Nat.reduceMul, Nat.reduceBEq, Nat.reduceBneDiff, Nat.reduceLT, Nat.reduceSub, decide_true, decide_false, and_self, true_and, and_true, false_and, and_false, not_true_eq_false, not_false_eq_true, false_implies, true_implies, implies_true, ge_iff_le, Bool.false_eq_true, List.cons_append, List.nil_append]
  refine callQ_self (ds := [eP (famPr.t (.mk a.k a.n (.mk a.c.k a.c.n a.c.nn a.c.ks) a.nn a.ks)), eP (famPr.t (.mk b.k b.n (.mk b.c.k b.c.n b.c.nn b.c.ks) b.nn b.ks))]) ?_ (af16 (famPr.t (.mk a.k a.n (.mk a.c.k a.c.n a.c.nn a.c.ks) a.nn a.ks)) (famPr.t (.mk b.k b.n (.mk b.c.k b.c.n b.c.nn b.c.ks) b.nn b.ks))) ?_
  · simp only [eP_mk, tP_mk, tE_mk, Ex.k_mk, Ex.n_mk, Ex.nn_mk, Ex.ks_mk, famPr_t]; exact rfl
  simp +contextual -implicitDefEqProofs only [bne_self_eq_false, eP_mk, tP_mk, tE_mk, Ex.k_mk, Ex.n_mk, Ex.nn_mk, Ex.ks_mk, famPr_t, go_sem, eI, eB, ↓reduceIte, Nat.reduceEqDiff, Nat.reduceAdd, Nat.reduceLeDiff, Nat.reduceMul, Nat.reduceBEq, Nat.reduceBneDiff, Nat.reduceLT, Nat.reduceSub, decide_true, decide_false, and_self, true_and, and_true, false_and, and_false, not_true_eq_false, not_false_eq_true, false_implies, true_implies, implies_true, ge_iff_le, Bool.false_eq_true, List.cons_append, List.nil_append]
  refine callQ_self (ds := [eP (.mk a.k a.n (.mk a.c.k a.c.n a.c.nn a.c.ks) a.nn a.ks)]) ?_ (famPr.afT (.mk a.k a.n (.mk a.c.k a.c.n a.c.nn a.c.ks) a.nn a.ks) hf) ?_
  · simp only [eP_mk, tP_mk, tE_mk, Ex.k_mk, Ex.n_mk, Ex.nn_mk, Ex.ks_mk, famPr_t]; exact rfl
  simp +contextual -implicitDefEqProofs only [eP_mk, tP_mk, tE_mk, Ex.k_mk, Ex.n_mk, Ex.nn_mk, Ex.ks_mk, famPr_t, go_sem, eI, eB, ↓reduceIte, Nat.reduceEqDiff, Nat.reduceAdd, Nat.reduceLeDiff, Nat.reduceMul, Nat.reduceBEq, Nat.reduceBneDiff, Nat.reduceLT, Nat.reduceSub, decide_true, decide_false, and_self, true_and, and_true, false_and, and_false, not_true_eq_false, not_false_eq_true, false_implies, true_implies, implies_true, ge_iff_le, Bool.false_eq_true, List.cons_append, List.nil_append]
  refine callQ_self (ds := [eP (famPr.t (.mk a.k a.n (.mk a.c.k a.c.n a.c.nn a.c.ks) a.nn a.ks)), eP (famPr.t (.mk a.k a.n (.mk a.c.k a.c.n a.c.nn a.c.ks) a.nn a.ks))]) ?_ (famPr.afQ (famPr.t (.mk a.k a.n (.mk a.c.k a.c.n a.c.nn a.c.ks) a.nn a.ks)) (famPr.t (.mk a.k a.n (.mk a.c.k a.c.n a.c.nn a.c.ks) a.nn a.ks))) ?_
  · simp only [eP_mk, tP_mk, tE_mk, Ex.k_mk, Ex.n_mk, Ex.nn_mk, Ex.ks_mk, famPr_t]; exact rfl
  simp +contextual -implicitDefEqProofs only [famPr.q_refl, Bool.not_true, eP_mk, tP_mk, tE_mk, Ex.k_mk, Ex.n_mk, Ex.nn_mk, Ex.ks_mk, famPr_t, go_sem, eI, eB, ↓reduceIte, Nat.reduceEqDiff, Nat.reduceAdd, Nat.reduceLeDiff, Nat.reduceMul, Nat.reduceBEq, Nat.reduceBneDiff, Nat.reduceLT, Nat.reduceSub, decide_true, decide_false, and_self, true_and, and_true, false_and, and_false, not_true_eq_false, not_false_eq_true, false_implies, true_implies, implies_true, ge_iff_le, Bool.false_eq_true, List.cons_append, List.nil_append]
  refine callQ_self (ds := [eP (.mk b.k b.n (.mk b.c.k b.c.n b.c.nn b.c.ks) b.nn b.ks)]) ?_ (famPr.afT (.mk b.k b.n (.mk b.c.k b.c.n b.c.nn b.c.ks) b.nn b.ks) hf2) ?_
  · simp only [eP_mk, tP_mk, tE_mk, Ex.k_mk, Ex.n_mk, Ex.nn_mk, Ex.ks_mk, famPr_t]; exact rfl
  simp +contextual -implicitDefEqProofs only [eP_mk, tP_mk, tE_mk, Ex.k_mk, Ex.n_mk, Ex.nn_mk, Ex.ks_mk, famPr_t, go_sem, eI, eB, ↓reduceIte, Nat.reduceEqDiff, Nat.reduceAdd, Nat.reduceLeDiff, Nat.reduceMul, Nat.reduceBEq, Nat.reduceBneDiff, Nat.reduceLT, Nat.reduceSub, decide_true, decide_false, and_self, true_and, and_true, false_and, and_false, not_true_eq_false, not_false_eq_true, false_implies, true_implies, implies_true, ge_iff_le, Bool.false_eq_true, List.cons_append, List.nil_append]
  refine callQ_self (ds := [eP (famPr.t (.mk b.k b.n (.mk b.c.k b.c.n b.c.nn b.c.ks) b.nn b.ks)), eP (famPr.t (.mk b.k b.n (.mk b.c.k b.c.n b.c.nn b.c.ks) b.nn b.ks))]) ?_ (famPr.afQ (famPr.t (.mk b.k b.n (.mk b.c.k b.c.n b.c.nn b.c.ks) b.nn b.ks)) (famPr.t (.mk b.k b.n (.mk b.c.k b.c.n b.c.nn b.c.ks) b.nn b.ks))) ?_
  · simp only [eP_mk, tP_mk, tE_mk, Ex.k_mk, Ex.n_mk, Ex.nn_mk, Ex.ks_mk, famPr_t]; exact rfl
  simp +contextual -implicitDefEqProofs only [famPr.q_refl, Bool.not_true, eP_mk, tP_mk, tE_mk, Ex.k_mk, Ex.n_mk, Ex.nn_mk, Ex.ks_mk, famPr_t, go_sem, eI, eB, ↓reduceIte, Nat.reduceEqDiff, Nat.reduceAdd, Nat.reduceLeDiff, Nat.reduceMul, Nat.reduceBEq, Nat.reduceBneDiff, Nat.reduceLT, Nat.reduceSub, decide_true, decide_false, and_self, true_and, and_true, false_and, and_false, not_true_eq_false, not_false_eq_true, false_implies, true_implies, implies_true, ge_iff_le, Bool.false_eq_true, List.cons_append, List.nil_append]
end Go.Ax
