/- Contracts of functions of the seat, proved over the engine. No condition. -/
import Derived.Test.YtjnghfepojipiaaX46
import Derived.Test.YtjnghfepojipiaaAxXP
set_option linter.unusedSimpArgs false
set_option linter.unusedVariables false
set_option linter.unnecessarySimpa false
namespace Go.Ax
set_option linter.unusedSimpArgs false
set_option maxRecDepth 20000
set_option maxHeartbeats 4000000
def Pg.ks' : Pg → List Pg
  | .mk _ _ _ _ ks => ks
theorem Pg.ks_mk {k n : Int} {c : Ex} {nn : Option Bool} {ks : List Pg} : (Pg.mk k n c nn ks).ks' = ks := rfl
theorem Pg.ex (e : Pg) : ∃ k n ck cn cnn cks nn ks, e = .mk k n (.mk ck cn cnn cks) nn ks := by
  obtain ⟨k, n, c, nn, ks⟩ := e
  obtain ⟨ck, cn, cnn, cks, rfl⟩ := Ex.ex c
  exact ⟨_, _, _, _, _, _, _, _, rfl⟩
mutual
def cntP : Pg → Nat
  | .mk _ _ c _ ks => 4 + cntE0 c + cntPs ks
def cntPs : List Pg → Nat
  | [] => 0
  | e :: es => cntP e + cntPs es
end
theorem cntPs_eq : ∀ ks : List Pg, cntPs ks = cntL cntP ks
  | [] => rfl
  | e :: es => by simp only [cntPs, cntL, cntPs_eq es]
def mkC (c : Ex) (m : Int) : Ex := .mk (m + 1 + 1) (m + 1 + 1 + 1) c.nn (mkL mkE cntE c.ks (m + 1 + 1 + 1 + 1))
mutual
def mkP : Pg → Int → Pg
  | .mk _ _ c nn ks => fun m => .mk m (m + 1) (mkC c m) nn (mkPs ks (m + 1 + 1 + 1 + 1 + cntE0 c))
def mkPs : List Pg → Int → List Pg
  | [] => fun _ => []
  | e :: es => fun m => mkP e m :: mkPs es (m + cntP e)
end
theorem mkPs_eq : ∀ (ks : List Pg) (m : Int), mkPs ks m = mkL mkP cntP ks m
  | [], _ => rfl
  | e :: es, m => by simp only [mkPs, mkL, mkPs_eq es]
theorem cntP_mk {k n : Int} {c : Ex} {nn : Option Bool} {ks : List Pg} : cntP (.mk k n c nn ks) = 4 + cntE0 c + cntL cntP ks := by rw [cntP, cntPs_eq]
theorem mkP_mk {k n ck cn : Int} {cnn : Option Bool} {cks : List Ex} {nn : Option Bool} {ks : List Pg} {m : Int} : mkP (.mk k n (.mk ck cn cnn cks) nn ks) m = .mk m (m + 1) (.mk (m + 1 + 1) (m + 1 + 1 + 1) cnn (mkL mkE cntE cks (m + 1 + 1 + 1 + 1))) nn (mkL mkP cntP ks (m + 1 + 1 + 1 + 1 + cntL cntE cks)) := by
  rw [mkP]; simp only [mkPs_eq, mkC, cntE0_mk]; rfl
theorem eP_mk2 {k n ck cn : Int} {cnn : Option Bool} {cks : List Ex} {nn : Option Bool} {ks : List Pg} : eP (.mk k n (.mk ck cn cnn cks) nn ks) = .ag [.sc (.int .i64 k), .sc (.int .i64 n), .sc (.int .i64 ck), .sc (.int .i64 cn), .ls cnn 3 (cks.map eE), .ls nn 6 (ks.map eP)] := by rw [eP_mk]; rfl

def k_markProgS (g f1 : Nat) : RC := (.seq (.reg false [⟨none, .mv 4 (.c (.sc (.int .i64 0)))⟩]) ((.seq ((.seq (.reg false [⟨none, .mv 5 (.c (.sc (.int .i64 0)))⟩]) (.blk 0 (.loop ((.seq ((.seq (.reg false [⟨none, .mv 6 (.t 5)⟩, ⟨none, .mv 7 (.t 0)⟩, ⟨none, .len 8 (.t 7)⟩, ⟨none, .bin 9 .lss (.t 6) (.t 8)⟩]) (.cond (.t 9) (.skip) (.exit 0)))) ((.seq (.blk 1 ((.seq (.reg false [⟨none, .mv 12 (.t 0)⟩, ⟨none, .mv 13 (.t 5)⟩, ⟨none, .mv 14 (.t 1)⟩, ⟨none, .ia 15 6 (.t 12) (.t 13)⟩, ⟨none, .fa 16 0 (.t 15)⟩, ⟨none, .st 1 (.t 16) (.t 14)⟩]) ((.seq (.reg false [⟨none, .mv 17 (.t 1)⟩, ⟨none, .bin 18 .add (.t 17) (.c (.sc (.int .i64 1)))⟩, ⟨none, .mv 1 (.t 18)⟩]) ((.seq (.reg false [⟨none, .mv 19 (.t 0)⟩, ⟨none, .mv 20 (.t 5)⟩, ⟨none, .mv 21 (.t 1)⟩, ⟨none, .ia 22 6 (.t 19) (.t 20)⟩, ⟨none, .fa 23 1 (.t 22)⟩, ⟨none, .st 1 (.t 23) (.t 21)⟩]) ((.seq (.reg false [⟨none, .mv 24 (.t 1)⟩, ⟨none, .bin 25 .add (.t 24) (.c (.sc (.int .i64 1)))⟩, ⟨none, .mv 1 (.t 25)⟩]) ((.seq (.reg false [⟨none, .mv 26 (.t 0)⟩, ⟨none, .mv 27 (.t 5)⟩, ⟨none, .mv 28 (.t 1)⟩, ⟨none, .ia 29 6 (.t 26) (.t 27)⟩, ⟨none, .fa 30 2 (.t 29)⟩, ⟨none, .fa 31 0 (.t 30)⟩, ⟨none, .st 1 (.t 31) (.t 28)⟩]) ((.seq (.reg false [⟨none, .mv 32 (.t 1)⟩, ⟨none, .bin 33 .add (.t 32) (.c (.sc (.int .i64 1)))⟩, ⟨none, .mv 1 (.t 33)⟩]) ((.seq (.reg false [⟨none, .mv 34 (.t 0)⟩, ⟨none, .mv 35 (.t 5)⟩, ⟨none, .mv 36 (.t 1)⟩, ⟨none, .ia 37 6 (.t 34) (.t 35)⟩, ⟨none, .fa 38 2 (.t 37)⟩, ⟨none, .fa 39 1 (.t 38)⟩, ⟨none, .st 1 (.t 39) (.t 36)⟩]) ((.seq (.reg false [⟨none, .mv 40 (.t 1)⟩, ⟨none, .bin 41 .add (.t 40) (.c (.sc (.int .i64 1)))⟩, ⟨none, .mv 1 (.t 41)⟩]) ((.seq (.reg false [⟨none, .mv 42 (.t 0)⟩, ⟨none, .mv 43 (.t 5)⟩, ⟨none, .ia 44 6 (.t 42) (.t 43)⟩, ⟨none, .fa 45 2 (.t 44)⟩, ⟨none, .fa 46 2 (.t 45)⟩, ⟨none, .ld 47 false 1 (.t 46)⟩, ⟨none, .mv 48 (.t 1)⟩, ⟨none, .mcl 49 f1 (.t 47) (.t 48)⟩, ⟨none, .mv 1 (.t 49)⟩]) (.reg false [⟨none, .mv 50 (.t 0)⟩, ⟨none, .mv 51 (.t 5)⟩, ⟨none, .ia 52 6 (.t 50) (.t 51)⟩, ⟨none, .fa 53 5 (.t 52)⟩, ⟨none, .ld 54 false 1 (.t 53)⟩, ⟨none, .mv 55 (.t 1)⟩, ⟨none, .mcl 56 g (.t 54) (.t 55)⟩, ⟨none, .mv 1 (.t 56)⟩])))))))))))))))))))) (.reg false [⟨none, .mv 10 (.t 5)⟩, ⟨none, .bin 11 .add (.t 10) (.c (.sc (.int .i64 1)))⟩, ⟨none, .mv 5 (.t 11)⟩]))))))))) ((.seq (.reg false [⟨none, .mv 57 (.t 1)⟩, ⟨none, .mv 4 (.t 57)⟩]) (.ret))))))
def K_markProgS (P : Program) (fno : Nat) : Prop := ∀ (nn : Option Bool) (xs : List Pg) (k : Int), 0 ≤ k → k + cntL cntP xs ≤ maxK → AFM P fno (.ls nn 6 (xs.map eP)) k (.ls nn 6 ((mkL mkP cntP xs k).map eP)) (k + cntL cntP xs)
theorem a_markProgS {P : Program} (hm : P.follows .mixedOrders = true) {g f1 : Nat} (hr : resF P g = some (58, k_markProgS g f1, [.t 4])) (hc1 : K_markExprS P f1) : K_markProgS P g := by
  intro nn xs k h0 hb
  refine Pg.ind (p := fun e => ∀ (nn : Option Bool) (k : Int), 0 ≤ k → k + cntL cntP e.ks' ≤ maxK → AFM P g (.ls nn 6 (e.ks'.map eP)) k (.ls nn 6 ((mkL mkP cntP e.ks' k).map eP)) (k + cntL cntP e.ks')) (fun _ _ _ _ xs ih nn k h0 hb => ?_) (Pg.mk 0 0 default none xs) nn k h0 hb
  simp only [Pg.ks_mk] at hb ⊢
  unfold maxK at hb
  refine afm_ls hr (by omega) (by simp [mkL_length]) fun hmx bx hbx => ?_
  have hmx : xs.length ≤ 9223372036854775807 := by simpa [maxEl] using hmx
  simp +contextual -implicitDefEqProofs only [k_markProgS, go_sem]
  refine m_loop (α := Nat) (fun i => ⟨bx, (mhalf mkP cntP xs k i).map eP, [(0, .rt), (1, .va (.int .i64 (k + cntL cntP (xs.take i)))), (5, .va (.int .i64 i))]⟩) (fun i => i ≤ xs.length) (fun i => xs.length - i) 0 (MEnt.env (by rw [mhalf_zero]) (by simp only [subM, go_sem, ↓reduceIte, Nat.reduceEqDiff, List.take_zero, cntL]; simp)) (Nat.zero_le _) ?_
  intro i j1
  by_cases hi : i < xs.length
  · have hb1 : bx = true := hbx (by intro e; simp at e; subst e; simp at hi)
    have hcA := cntL_le (cnt := cntP) (l := xs) (i := i + 1)
    have hcB := cntL_succ (cnt := cntP) hi
    have e1 := mhalf_at (mk := mkP) (cnt := cntP) (f := eP) (k := k) hi
    have ihx := ih xs[i] (List.getElem_mem hi)
    have hset := mhalf_mset (mk := mkP) (cnt := cntP) (f := eP) (k := k) hi (d := eP (mkP xs[i] (k + cntL cntP (xs.take i)))) rfl
    obtain ⟨ek, en, ck, cn, cnn, cks, enn, eks, hx⟩ := Pg.ex xs[i]
    rw [hx] at e1 hcB ihx hset
    rw [eP_mk2] at e1
    rw [mkP_mk, eP_mk2] at hset
    rw [cntP_mk, cntE0_mk] at hcB
    simp only [Pg.ks_mk] at ihx
    have hat : ∀ d, D.at (((mhalf mkP cntP xs k i).map eP).set i d) i = d := fun d => at_set (by simp [mhalf_len]; exact hi)
    subst hb1
    have hw1 : IntKind.i64.wrap (k + cntL cntP (xs.take i) + 1) = k + cntL cntP (xs.take i) + 1 := wrap_i64 (by omega) (by omega)
    have hw2 : IntKind.i64.wrap (k + cntL cntP (xs.take i) + 1 + 1) = k + cntL cntP (xs.take i) + 1 + 1 := wrap_i64 (by omega) (by omega)
    have hw3 : IntKind.i64.wrap (k + cntL cntP (xs.take i) + 1 + 1 + 1) = k + cntL cntP (xs.take i) + 1 + 1 + 1 := wrap_i64 (by omega) (by omega)
    have hw4 : IntKind.i64.wrap (k + cntL cntP (xs.take i) + 1 + 1 + 1 + 1) = k + cntL cntP (xs.take i) + 1 + 1 + 1 + 1 := wrap_i64 (by omega) (by omega)
    simp +contextual -implicitDefEqProofs only [e1, hi, hw1, hw2, hw3, hw4, hat, mhalf_len, List.length_set, List.set_set, D.sub, D.isSc, D.put, D.isAg, D.cells, go_sem, ↓reduceIte, Nat.reduceEqDiff, Nat.reduceAdd, Nat.reduceLT, Bool.false_eq_true, List.cons_append, List.nil_append, Int.ofNat_lt, List.length_map, Int.natCast_nonneg]
    refine mMcl_self (e' := .ls cnn 3 ((mkL mkE cntE cks (k + cntL cntP (xs.take i) + 1 + 1 + 1 + 1)).map eE)) (n' := k + cntL cntP (xs.take i) + 1 + 1 + 1 + 1 + cntL cntE cks) ?_ ?_ ?_ ?_
    · simp only [hat, D.sub, Bool.false_eq_true, if_false, List.getD_cons_succ, List.getD_cons_zero]
      exact hc1 cnn cks _ (by omega) (by unfold maxK; omega)
    · simp only [hat, D.sub, Bool.false_eq_true, if_false, List.getD_cons_succ, List.getD_cons_zero, D.isAg]
    · right; simp only [hat, D.isAg]
    simp +contextual -implicitDefEqProofs only [hat, hi, mhalf_len, List.length_set, List.set_set, D.put, D.cells, go_sem, ↓reduceIte, Nat.reduceEqDiff, Nat.reduceAdd, Nat.reduceLT, List.cons_append, List.nil_append, Int.ofNat_lt, List.length_map, Int.natCast_nonneg]
    refine mMcl_self (e' := .ls enn 6 ((mkL mkP cntP eks (k + cntL cntP (xs.take i) + 1 + 1 + 1 + 1 + cntL cntE cks)).map eP)) (n' := k + cntL cntP (xs.take i) + 1 + 1 + 1 + 1 + cntL cntE cks + cntL cntP eks) ?_ ?_ ?_ ?_
    · simp only [hat, D.sub, Bool.false_eq_true, if_false, List.getD_cons_succ, List.getD_cons_zero]
      exact ihx enn _ (by omega) (by unfold maxK; omega)
    · simp only [hat, D.sub, Bool.false_eq_true, if_false, List.getD_cons_succ, List.getD_cons_zero, D.isAg]
    · right; simp only [hat, D.isAg]
    simp +contextual -implicitDefEqProofs only [hat, List.set_set, D.put, D.cells, go_sem, ↓reduceIte, Nat.reduceEqDiff, Nat.reduceAdd, List.cons_append, List.nil_append]
    rw [wrap_i64 (by omega) (by omega)]
    have hk : k + cntL cntP (xs.take i) + 1 + 1 + 1 + 1 + (cntL cntE cks : Int) + cntL cntP eks = k + cntL cntP (xs.take (i + 1)) := by rw [hcB]; push_cast; omega
    rw [hk]
    exact ⟨i + 1, by omega, by omega, MEnt.env (by rw [← hset]) (by simp only [subM, go_sem, ↓reduceIte, Nat.reduceEqDiff]; simp)⟩
  · simp +contextual -implicitDefEqProofs only [hi, mhalf_len, go_sem, ↓reduceIte, Nat.reduceEqDiff, Nat.reduceAdd, Nat.reduceLT, Bool.false_eq_true, Int.ofNat_lt, List.length_map, Int.natCast_nonneg]
    have hl : xs.length ≤ i := by omega
    rw [mhalf_full hl, List.take_of_length_le hl]
    simp
def mkP0 : Pg → Int → Pg
  | .mk k n c nn ks => fun m => .mk k n (mkE0 c m) nn (mkL mkP cntP ks (m + cntE0 c))
def cntP0 : Pg → Nat
  | .mk _ _ c _ ks => cntE0 c + cntL cntP ks
theorem mkP0_mk {k n : Int} {c : Ex} {nn : Option Bool} {ks : List Pg} {m : Int} : mkP0 (.mk k n c nn ks) m = .mk k n (mkE0 c m) nn (mkL mkP cntP ks (m + cntE0 c)) := by rw [mkP0]
theorem cntP0_mk {k n : Int} {c : Ex} {nn : Option Bool} {ks : List Pg} : cntP0 (.mk k n c nn ks) = cntE0 c + cntL cntP ks := by rw [cntP0]

def k_markProg (f1 f2 : Nat) : RC := (.seq (.reg false [⟨none, .box 2 6 (.t 0)⟩, ⟨none, .mv 4 (.c (.sc (.int .i64 0)))⟩]) ((.seq (.reg false [⟨none, .fa 5 2 (.t 2)⟩, ⟨none, .ld 6 true 3 (.t 5)⟩, ⟨none, .mv 7 (.t 1)⟩, ⟨none, .mcl 8 f1 (.t 6) (.t 7)⟩, ⟨none, .mv 1 (.t 8)⟩]) ((.seq (.reg false [⟨none, .fa 9 5 (.t 2)⟩, ⟨none, .ld 10 false 1 (.t 9)⟩, ⟨none, .mv 11 (.t 1)⟩, ⟨none, .mcl 12 f2 (.t 10) (.t 11)⟩, ⟨none, .mv 1 (.t 12)⟩]) ((.seq (.reg false [⟨none, .mv 13 (.t 1)⟩, ⟨none, .mv 4 (.t 13)⟩]) (.ret))))))))
def K_markProg (P : Program) (fno : Nat) : Prop := ∀ (x : Pg) (k : Int), 0 ≤ k → k + cntP0 x ≤ maxK → AFM P fno (eP x) k (eP (mkP0 x k)) (k + cntP0 x)
theorem a_markProg {P : Program} (hm : P.follows .mixedOrders = true) {g f1 f2 : Nat} (hr : resF P g = some (14, k_markProg f1 f2, [.t 4])) (hc1 : K_markExpr P f1) (hc2 : K_markProgS P f2) : K_markProg P g := by
  intro x k h0 hb
  obtain ⟨ek, en, ck, cn, cnn, cks, enn, eks, rfl⟩ := Pg.ex x
  have hE := hc1 (.mk ck cn cnn cks)
  simp only [mkE0_mk, cntE0_mk, eE_mk] at hE
  rw [mkP0_mk, cntP0_mk, cntE0_mk, mkE0_mk, eP_mk2, eP_mk2]
  rw [cntP0_mk, cntE0_mk] at hb
  refine afm_ag hr (by omega) rfl fun hbd => ?_
  simp +contextual -implicitDefEqProofs only [k_markProg, D.size, D.sizeL, D.at, D.isAg, go_sem, ↓reduceIte, Nat.reduceEqDiff, Nat.reduceAdd, Nat.reduceLeDiff, Nat.reduceLT, Nat.zero_lt_one]
  refine mMcl_sg (e' := .ag [.sc (.int .i64 ck), .sc (.int .i64 cn), .ls cnn 3 ((mkL mkE cntE cks k).map eE)]) (n' := k + cntL cntE cks) ?_ rfl ?_
  · exact hE k h0 (by omega)
  simp +contextual -implicitDefEqProofs only [D.put, D.cells, D.at, go_sem, ↓reduceIte, Nat.reduceEqDiff, Nat.reduceAdd, Nat.reduceLT, List.cons_append, List.nil_append]
  refine mMcl_self (e' := .ls enn 6 ((mkL mkP cntP eks (k + cntL cntE cks)).map eP)) (n' := k + cntL cntE cks + cntL cntP eks) ?_ rfl (.inr rfl) ?_
  · exact hc2 enn eks _ (by omega) (by omega)
  simp +contextual -implicitDefEqProofs only [D.put, D.cells, D.at, go_sem, ↓reduceIte, Nat.reduceEqDiff, Nat.reduceAdd, Bool.false_eq_true, List.cons_append, List.nil_append]
  simp only [Int.natCast_add, Int.add_assoc]
end Go.Ax
