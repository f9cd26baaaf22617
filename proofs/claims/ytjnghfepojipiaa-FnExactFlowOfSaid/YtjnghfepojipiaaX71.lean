/- Contracts of functions of the seat, proved over the engine. No condition. -/
import Derived.Test.YtjnghfepojipiaaX64
import Derived.Test.YtjnghfepojipiaaX12
import Derived.Test.YtjnghfepojipiaaX70
set_option linter.unusedSimpArgs false
set_option linter.unusedVariables false
set_option linter.unnecessarySimpa false
namespace Go.Ax
set_option linter.unusedSimpArgs false
set_option maxRecDepth 20000
set_option maxHeartbeats 4000000
theorem fitE_tE (e : Ex) : fitE e → fitE (tE e) := by
  refine Ex.ind (p := fun e => fitE e → fitE (tE e)) (fun k n nn ks ih hf => ?_) e
  rw [fitE_mk] at hf
  rw [tE_mk, fitE_mk]
  refine ⟨by simpa using hf.1, fun x hx => ?_⟩
  obtain ⟨y, hy, rfl⟩ := List.mem_map.1 hx
  exact ih y hy (hf.2 y hy)
theorem fitP_tP (e : Pg) : fitP e → fitP (tP e) := by
  refine Pg.ind (p := fun e => fitP e → fitP (tP e)) (fun k n c nn ks ih hf => ?_) e
  rw [fitP_mk] at hf
  rw [tP_mk, fitP_mk]
  refine ⟨fitE_tE c hf.1, by simpa using hf.2.1, fun x hx => ?_⟩
  obtain ⟨y, hy, rfl⟩ := List.mem_map.1 hx
  exact ih y hy (hf.2.2 y hy)
theorem cntP_tP : ∀ e : Pg, cntP (tP e) = cntP e :=
  Pg.ind fun k n c nn ks ih => by
    rw [tP_mk, cntP_mk, cntP_mk, cntE0_tE, cntL_congr ih]
theorem cntP_eq (e : Pg) : cntP e = 4 + cntP0 e := by
  obtain ⟨k, n, c, nn, ks⟩ := e
  rw [cntP_mk, cntP0_mk]; omega
theorem cntP0_tP (e : Pg) : cntP0 (tP e) = cntP0 e := by
  have := cntP_tP e
  rw [cntP_eq, cntP_eq] at this
  omega
theorem cntE_size : ∀ e : Ex, cntE e = 2 * sizeE e :=
  Ex.ind fun k n nn ks ih => by
    rw [cntE_mk, sizeE_mk]
    have : ∀ {l : List Ex}, (∀ x ∈ l, cntE x = 2 * sizeE x) → cntL cntE l = 2 * sizeEs l := by
      intro l
      induction l with
      | nil => intro _; rfl
      | cons x l il => intro h; simp only [cntL, sizeEs, h x (by simp), il fun y hy => h y (by simp [hy])]; omega
    rw [this ih]; omega
theorem szP_cnt : ∀ (e : Pg) (l : Int), 0 ≤ l → l ≤ 1048576 → 0 ≤ szP e l → (cntP0 e : Int) ≤ 4 * (l - szP e l) :=
  Pg.ind fun k n c nn ks ih l h1 h2 h => by
    have key : ∀ (ks : List Pg), (∀ e ∈ ks, ∀ l : Int, 0 ≤ l → l ≤ 1048576 → 0 ≤ szP e l → (cntP0 e : Int) ≤ 4 * (l - szP e l)) → ∀ m : Int, 0 ≤ m → m ≤ 1048576 → 0 ≤ szL szP ks m → (cntL cntP ks : Int) ≤ 4 * (m - szL szP ks m) + 4 * ks.length := by
      intro ks
      induction ks with
      | nil => intro _ m _ _ _; simp [cntL, szL]
      | cons x ks ihk =>
        intro hx m m1 m2 m3
        have hm : ¬ m < 0 := by omega
        simp only [szL, if_neg hm] at m3 ⊢
        have hin := szP_in x m m1 m2
        have h0 : 0 ≤ szP x m := by
          refine Classical.byContradiction fun hn => ?_
          rw [szL_neg (by omega)] at m3
          omega
        have e1 := hx x (by simp) m m1 m2 h0
        have e2 := ihk (fun e he => hx e (by simp [he])) (szP x m) h0 (by omega) m3
        simp only [cntL, cntP_eq, List.length_cons]
        push_cast
        omega
    rw [szP_mk] at h ⊢
    obtain ⟨p1, p2⟩ := nx_fit h
    have q1 := szE_cnt c l h1 h2 p1
    have q2 := szE_in c l h1 h2
    rw [nx_pos (show ¬ szE c l < 0 by omega)]
    obtain ⟨p3, p4⟩ := nx_fit p2
    rw [nx_pos (by omega)]
    simp only [szS] at p3 ⊢
    have hc : 0 ≤ cut (szE c l - ks.length) := by
      refine Classical.byContradiction fun hn => ?_
      rw [szL_neg (by omega)] at p3
      omega
    obtain ⟨c1, c2⟩ := cut_nonneg hc
    have := key ks ih (cut (szE c l - ks.length)) hc (by omega) p3
    rw [cntP0_mk]
    push_cast
    omega
def cntSp (s : Sp) : Nat := 4 + cntE0 s.2.2.1 + 2
def mkSp (s : Sp) (m : Int) : Sp := (m, m + 1, mkC s.2.2.1 m, m + 1 + 1 + 1 + 1 + cntE0 s.2.2.1, m + 1 + 1 + 1 + 1 + cntE0 s.2.2.1 + 1)
theorem Sp.ex (s : Sp) : ∃ k n ck cn cnn cks to els, s = (k, n, .mk ck cn cnn cks, to, els) := by
  obtain ⟨k, n, c, to, els⟩ := s
  obtain ⟨ck, cn, cnn, cks, rfl⟩ := Ex.ex c
  exact ⟨_, _, _, _, _, _, _, _, rfl⟩
theorem cntSp_mk {k n ck cn to els : Int} {cnn : Option Bool} {cks : List Ex} : cntSp (k, n, .mk ck cn cnn cks, to, els) = 4 + cntL cntE cks + 2 := by rw [cntSp, cntE0_mk]
theorem mkSp_mk {k n ck cn to els m : Int} {cnn : Option Bool} {cks : List Ex} : mkSp (k, n, .mk ck cn cnn cks, to, els) m = (m, m + 1, .mk (m + 1 + 1) (m + 1 + 1 + 1) cnn (mkL mkE cntE cks (m + 1 + 1 + 1 + 1)), m + 1 + 1 + 1 + 1 + cntL cntE cks, m + 1 + 1 + 1 + 1 + cntL cntE cks + 1) := by
  rw [mkSp]; simp only [mkC, cntE0_mk]; rfl
theorem eSp_mk {k n ck cn to els : Int} {cnn : Option Bool} {cks : List Ex} : eSp (k, n, .mk ck cn cnn cks, to, els) = .ag [.sc (.int .i64 k), .sc (.int .i64 n), .sc (.int .i64 ck), .sc (.int .i64 cn), .ls cnn 3 (cks.map eE), .sc (.int .i64 to), .sc (.int .i64 els)] := rfl

def k_markSpotS (f1 : Nat) : RC := (.seq (.reg false [⟨none, .mv 4 (.c (.sc (.int .i64 0)))⟩]) ((.seq ((.seq (.reg false [⟨none, .mv 5 (.c (.sc (.int .i64 0)))⟩]) (.blk 0 (.loop ((.seq ((.seq (.reg false [⟨none, .mv 6 (.t 5)⟩, ⟨none, .mv 7 (.t 0)⟩, ⟨none, .len 8 (.t 7)⟩, ⟨none, .bin 9 .lss (.t 6) (.t 8)⟩]) (.cond (.t 9) (.skip) (.exit 0)))) ((.seq (.blk 1 ((.seq (.reg false [⟨none, .mv 12 (.t 0)⟩, ⟨none, .mv 13 (.t 5)⟩, ⟨none, .mv 14 (.t 1)⟩, ⟨none, .ia 15 7 (.t 12) (.t 13)⟩, ⟨none, .fa 16 0 (.t 15)⟩, ⟨none, .st 1 (.t 16) (.t 14)⟩]) ((.seq (.reg false [⟨none, .mv 17 (.t 1)⟩, ⟨none, .bin 18 .add (.t 17) (.c (.sc (.int .i64 1)))⟩, ⟨none, .mv 1 (.t 18)⟩]) ((.seq (.reg false [⟨none, .mv 19 (.t 0)⟩, ⟨none, .mv 20 (.t 5)⟩, ⟨none, .mv 21 (.t 1)⟩, ⟨none, .ia 22 7 (.t 19) (.t 20)⟩, ⟨none, .fa 23 1 (.t 22)⟩, ⟨none, .st 1 (.t 23) (.t 21)⟩]) ((.seq (.reg false [⟨none, .mv 24 (.t 1)⟩, ⟨none, .bin 25 .add (.t 24) (.c (.sc (.int .i64 1)))⟩, ⟨none, .mv 1 (.t 25)⟩]) ((.seq (.reg false [⟨none, .mv 26 (.t 0)⟩, ⟨none, .mv 27 (.t 5)⟩, ⟨none, .mv 28 (.t 1)⟩, ⟨none, .ia 29 7 (.t 26) (.t 27)⟩, ⟨none, .fa 30 2 (.t 29)⟩, ⟨none, .fa 31 0 (.t 30)⟩, ⟨none, .st 1 (.t 31) (.t 28)⟩]) ((.seq (.reg false [⟨none, .mv 32 (.t 1)⟩, ⟨none, .bin 33 .add (.t 32) (.c (.sc (.int .i64 1)))⟩, ⟨none, .mv 1 (.t 33)⟩]) ((.seq (.reg false [⟨none, .mv 34 (.t 0)⟩, ⟨none, .mv 35 (.t 5)⟩, ⟨none, .mv 36 (.t 1)⟩, ⟨none, .ia 37 7 (.t 34) (.t 35)⟩, ⟨none, .fa 38 2 (.t 37)⟩, ⟨none, .fa 39 1 (.t 38)⟩, ⟨none, .st 1 (.t 39) (.t 36)⟩]) ((.seq (.reg false [⟨none, .mv 40 (.t 1)⟩, ⟨none, .bin 41 .add (.t 40) (.c (.sc (.int .i64 1)))⟩, ⟨none, .mv 1 (.t 41)⟩]) ((.seq (.reg false [⟨none, .mv 42 (.t 0)⟩, ⟨none, .mv 43 (.t 5)⟩, ⟨none, .ia 44 7 (.t 42) (.t 43)⟩, ⟨none, .fa 45 2 (.t 44)⟩, ⟨none, .fa 46 2 (.t 45)⟩, ⟨none, .ld 47 false 1 (.t 46)⟩, ⟨none, .mv 48 (.t 1)⟩, ⟨none, .mcl 49 f1 (.t 47) (.t 48)⟩, ⟨none, .mv 1 (.t 49)⟩]) ((.seq (.reg false [⟨none, .mv 50 (.t 0)⟩, ⟨none, .mv 51 (.t 5)⟩, ⟨none, .mv 52 (.t 1)⟩, ⟨none, .ia 53 7 (.t 50) (.t 51)⟩, ⟨none, .fa 54 5 (.t 53)⟩, ⟨none, .st 1 (.t 54) (.t 52)⟩]) ((.seq (.reg false [⟨none, .mv 55 (.t 1)⟩, ⟨none, .bin 56 .add (.t 55) (.c (.sc (.int .i64 1)))⟩, ⟨none, .mv 1 (.t 56)⟩]) ((.seq (.reg false [⟨none, .mv 57 (.t 0)⟩, ⟨none, .mv 58 (.t 5)⟩, ⟨none, .mv 59 (.t 1)⟩, ⟨none, .ia 60 7 (.t 57) (.t 58)⟩, ⟨none, .fa 61 6 (.t 60)⟩, ⟨none, .st 1 (.t 61) (.t 59)⟩]) (.reg false [⟨none, .mv 62 (.t 1)⟩, ⟨none, .bin 63 .add (.t 62) (.c (.sc (.int .i64 1)))⟩, ⟨none, .mv 1 (.t 63)⟩])))))))))))))))))))))))))) (.reg false [⟨none, .mv 10 (.t 5)⟩, ⟨none, .bin 11 .add (.t 10) (.c (.sc (.int .i64 1)))⟩, ⟨none, .mv 5 (.t 11)⟩]))))))))) ((.seq (.reg false [⟨none, .mv 64 (.t 1)⟩, ⟨none, .mv 4 (.t 64)⟩]) (.ret))))))
def K_markSpotS (P : Program) (fno : Nat) : Prop := ∀ (nn : Option Bool) (xs : List Sp) (k : Int), 0 ≤ k → k + cntL cntSp xs ≤ maxK → AFM P fno (.ls nn 7 (xs.map eSp)) k (.ls nn 7 ((mkL mkSp cntSp xs k).map eSp)) (k + cntL cntSp xs)
theorem a_markSpotS {P : Program} (hm : P.follows .mixedOrders = true) {g f1 : Nat} (hr : resF P g = some (65, k_markSpotS f1, [.t 4])) (hc1 : K_markExprS P f1) : K_markSpotS P g := by
  intro nn xs k h0 hb
  unfold maxK at hb
  refine afm_ls hr (by omega) (by simp [mkL_length]) fun hmx bx hbx => ?_
  have hmx : xs.length ≤ 9223372036854775807 := by simpa [maxEl] using hmx
  simp +contextual -implicitDefEqProofs only [k_markSpotS, go_sem]
  refine m_loop (α := Nat) (fun i => ⟨bx, (mhalf mkSp cntSp xs k i).map eSp, [(0, .rt), (1, .va (.int .i64 (k + cntL cntSp (xs.take i)))), (5, .va (.int .i64 i))]⟩) (fun i => i ≤ xs.length) (fun i => xs.length - i) 0 (MEnt.env (by rw [mhalf_zero]) (by simp only [subM, go_sem, ↓reduceIte, Nat.reduceEqDiff, List.take_zero, cntL]; simp)) (Nat.zero_le _) ?_
  intro i j1
  by_cases hi : i < xs.length
  · have hb1 : bx = true := hbx (by intro e; simp at e; subst e; simp at hi)
    have hcA := cntL_le (cnt := cntSp) (l := xs) (i := i + 1)
    have hcB := cntL_succ (cnt := cntSp) hi
    have e1 := mhalf_at (mk := mkSp) (cnt := cntSp) (f := eSp) (k := k) hi
    have hset := mhalf_mset (mk := mkSp) (cnt := cntSp) (f := eSp) (k := k) hi (d := eSp (mkSp xs[i] (k + cntL cntSp (xs.take i)))) rfl
    obtain ⟨ek, en, ck, cn, cnn, cks, eto, eels, hx⟩ := Sp.ex xs[i]
    rw [hx] at e1 hcB hset
    rw [eSp_mk] at e1
    rw [mkSp_mk, eSp_mk] at hset
    rw [cntSp_mk] at hcB
    have hat : ∀ d, D.at (((mhalf mkSp cntSp xs k i).map eSp).set i d) i = d := fun d => at_set (by simp [mhalf_len]; exact hi)
    subst hb1
    have hw1 : IntKind.i64.wrap (k + cntL cntSp (xs.take i) + 1) = k + cntL cntSp (xs.take i) + 1 := wrap_i64 (by omega) (by omega)
    have hw2 : IntKind.i64.wrap (k + cntL cntSp (xs.take i) + 1 + 1) = k + cntL cntSp (xs.take i) + 1 + 1 := wrap_i64 (by omega) (by omega)
    have hw3 : IntKind.i64.wrap (k + cntL cntSp (xs.take i) + 1 + 1 + 1) = k + cntL cntSp (xs.take i) + 1 + 1 + 1 := wrap_i64 (by omega) (by omega)
    have hw4 : IntKind.i64.wrap (k + cntL cntSp (xs.take i) + 1 + 1 + 1 + 1) = k + cntL cntSp (xs.take i) + 1 + 1 + 1 + 1 := wrap_i64 (by omega) (by omega)
    have hw5 : IntKind.i64.wrap (k + cntL cntSp (xs.take i) + 1 + 1 + 1 + 1 + cntL cntE cks + 1) = k + cntL cntSp (xs.take i) + 1 + 1 + 1 + 1 + cntL cntE cks + 1 := wrap_i64 (by omega) (by omega)
    have hw6 : IntKind.i64.wrap (k + cntL cntSp (xs.take i) + 1 + 1 + 1 + 1 + cntL cntE cks + 1 + 1) = k + cntL cntSp (xs.take i) + 1 + 1 + 1 + 1 + cntL cntE cks + 1 + 1 := wrap_i64 (by omega) (by omega)
    simp +contextual -implicitDefEqProofs only [e1, hi, hw1, hw2, hw3, hw4, hat, mhalf_len, List.length_set, List.set_set, D.sub, D.isSc, D.put, D.isAg, D.cells, go_sem, ↓reduceIte, Nat.reduceEqDiff, Nat.reduceAdd, Nat.reduceLT, Bool.false_eq_true, List.cons_append, List.nil_append, Int.ofNat_lt, List.length_map, Int.natCast_nonneg]
    refine mMcl_self (e' := .ls cnn 3 ((mkL mkE cntE cks (k + cntL cntSp (xs.take i) + 1 + 1 + 1 + 1)).map eE)) (n' := k + cntL cntSp (xs.take i) + 1 + 1 + 1 + 1 + cntL cntE cks) ?_ ?_ ?_ ?_
    · simp only [hat, D.sub, Bool.false_eq_true, if_false, List.getD_cons_succ, List.getD_cons_zero]
      exact hc1 cnn cks _ (by omega) (by unfold maxK; omega)
    · simp only [hat, D.sub, Bool.false_eq_true, if_false, List.getD_cons_succ, List.getD_cons_zero, D.isAg]
    · right; simp only [hat, D.isAg]
    simp +contextual -implicitDefEqProofs only [hw5, hw6, hat, hi, mhalf_len, List.length_set, List.set_set, D.sub, D.isSc, D.put, D.isAg, D.cells, go_sem, ↓reduceIte, Nat.reduceEqDiff, Nat.reduceAdd, Nat.reduceLT, Bool.false_eq_true, List.cons_append, List.nil_append, Int.ofNat_lt, List.length_map, Int.natCast_nonneg]
    rw [wrap_i64 (by omega) (by omega)]
    have hk : k + cntL cntSp (xs.take i) + 1 + 1 + 1 + 1 + cntL cntE cks + 1 + 1 = k + cntL cntSp (xs.take (i + 1)) := by rw [hcB]; push_cast; omega
    rw [hk]
    exact ⟨i + 1, by omega, by omega, MEnt.env (by rw [← hset]) (by simp only [subM, go_sem, ↓reduceIte, Nat.reduceEqDiff]; simp)⟩
  · simp +contextual -implicitDefEqProofs only [hi, mhalf_len, go_sem, ↓reduceIte, Nat.reduceEqDiff, Nat.reduceAdd, Nat.reduceLT, Bool.false_eq_true, Int.ofNat_lt, List.length_map, Int.natCast_nonneg]
    have hl : xs.length ≤ i := by omega
    rw [mhalf_full hl, List.take_of_length_le hl]
    simp
theorem eFl_mk {s : Int} {nn : Option Bool} {xs : List Sp} : eFl (s, (nn, xs)) = .ag [.sc (.int .i64 s), .ls nn 7 (xs.map eSp)] := rfl

def k_markFlow (f1 : Nat) : RC := (.seq (.reg false [⟨none, .box 2 2 (.t 0)⟩, ⟨none, .mv 4 (.c (.sc (.int .i64 0)))⟩]) ((.seq (.reg false [⟨none, .fa 5 1 (.t 2)⟩, ⟨none, .ld 6 false 1 (.t 5)⟩, ⟨none, .mv 7 (.t 1)⟩, ⟨none, .mcl 8 f1 (.t 6) (.t 7)⟩, ⟨none, .mv 1 (.t 8)⟩]) ((.seq (.reg false [⟨none, .mv 9 (.t 1)⟩, ⟨none, .mv 4 (.t 9)⟩]) (.ret))))))
def K_markFlow (P : Program) (fno : Nat) : Prop := ∀ (s : Int) (nn : Option Bool) (xs : List Sp) (k : Int), 0 ≤ k → k + cntL cntSp xs ≤ maxK → AFM P fno (eFl (s, (nn, xs))) k (eFl (s, (nn, mkL mkSp cntSp xs k))) (k + cntL cntSp xs)
theorem a_markFlow {P : Program} (hm : P.follows .mixedOrders = true) {g f1 : Nat} (hr : resF P g = some (10, k_markFlow f1, [.t 4])) (hc1 : K_markSpotS P f1) : K_markFlow P g := by
  intro s nn xs k h0 hb
  rw [eFl_mk, eFl_mk]
  refine afm_ag hr (by omega) rfl fun hbd => ?_
  simp +contextual -implicitDefEqProofs only [k_markFlow, D.size, D.sizeL, go_sem, ↓reduceIte, Nat.reduceEqDiff, Nat.reduceAdd, Nat.reduceLT, Nat.zero_lt_one]
  refine mMcl_self (e' := .ls nn 7 ((mkL mkSp cntSp xs k).map eSp)) (n' := k + cntL cntSp xs) ?_ rfl (.inr rfl) ?_
  · exact hc1 nn xs k h0 hb
  simp +contextual -implicitDefEqProofs only [D.put, D.cells, D.at, go_sem, ↓reduceIte, Nat.reduceEqDiff, Nat.reduceAdd, Bool.false_eq_true, List.cons_append, List.nil_append]

def k_heldSpotS (f1 : Nat) : RC := (.seq (.reg false [⟨none, .mv 4 (.c (.sc (.int .i64 0)))⟩]) ((.seq ((.seq (.reg false [⟨none, .mv 5 (.c (.sc (.int .i64 0)))⟩]) (.blk 0 (.loop ((.seq ((.seq (.reg false [⟨none, .mv 6 (.t 5)⟩, ⟨none, .mv 7 (.t 0)⟩, ⟨none, .len 8 (.t 7)⟩, ⟨none, .bin 9 .lss (.t 6) (.t 8)⟩]) (.cond (.t 9) (.skip) (.exit 0)))) ((.seq (.blk 1 ((.seq ((.seq (.reg false [⟨none, .mv 12 (.t 0)⟩, ⟨none, .mv 13 (.t 5)⟩, ⟨none, .ia 14 7 (.t 12) (.t 13)⟩, ⟨none, .fa 15 0 (.t 14)⟩, ⟨none, .ld 16 false 1 (.t 15)⟩, ⟨none, .mv 17 (.t 1)⟩, ⟨none, .bin 18 .neq (.t 16) (.t 17)⟩]) (.cond (.t 18) ((.seq (.reg false [⟨none, .mv 4 (.c (.sc (.int .i64 (-1))))⟩]) (.ret))) (.skip)))) ((.seq (.reg false [⟨none, .mv 19 (.t 1)⟩, ⟨none, .bin 20 .add (.t 19) (.c (.sc (.int .i64 1)))⟩, ⟨none, .mv 1 (.t 20)⟩]) ((.seq ((.seq (.reg false [⟨none, .mv 21 (.t 0)⟩, ⟨none, .mv 22 (.t 5)⟩, ⟨none, .ia 23 7 (.t 21) (.t 22)⟩, ⟨none, .fa 24 1 (.t 23)⟩, ⟨none, .ld 25 false 1 (.t 24)⟩, ⟨none, .mv 26 (.t 1)⟩, ⟨none, .bin 27 .neq (.t 25) (.t 26)⟩]) (.cond (.t 27) ((.seq (.reg false [⟨none, .mv 4 (.c (.sc (.int .i64 (-1))))⟩]) (.ret))) (.skip)))) ((.seq (.reg false [⟨none, .mv 28 (.t 1)⟩, ⟨none, .bin 29 .add (.t 28) (.c (.sc (.int .i64 1)))⟩, ⟨none, .mv 1 (.t 29)⟩]) ((.seq ((.seq (.reg false [⟨none, .mv 30 (.t 0)⟩, ⟨none, .mv 31 (.t 5)⟩, ⟨none, .ia 32 7 (.t 30) (.t 31)⟩, ⟨none, .fa 33 2 (.t 32)⟩, ⟨none, .fa 34 0 (.t 33)⟩, ⟨none, .ld 35 false 1 (.t 34)⟩, ⟨none, .mv 36 (.t 1)⟩, ⟨none, .bin 37 .neq (.t 35) (.t 36)⟩]) (.cond (.t 37) ((.seq (.reg false [⟨none, .mv 4 (.c (.sc (.int .i64 (-1))))⟩]) (.ret))) (.skip)))) ((.seq (.reg false [⟨none, .mv 38 (.t 1)⟩, ⟨none, .bin 39 .add (.t 38) (.c (.sc (.int .i64 1)))⟩, ⟨none, .mv 1 (.t 39)⟩]) ((.seq ((.seq (.reg false [⟨none, .mv 40 (.t 0)⟩, ⟨none, .mv 41 (.t 5)⟩, ⟨none, .ia 42 7 (.t 40) (.t 41)⟩, ⟨none, .fa 43 2 (.t 42)⟩, ⟨none, .fa 44 1 (.t 43)⟩, ⟨none, .ld 45 false 1 (.t 44)⟩, ⟨none, .mv 46 (.t 1)⟩, ⟨none, .bin 47 .neq (.t 45) (.t 46)⟩]) (.cond (.t 47) ((.seq (.reg false [⟨none, .mv 4 (.c (.sc (.int .i64 (-1))))⟩]) (.ret))) (.skip)))) ((.seq (.reg false [⟨none, .mv 48 (.t 1)⟩, ⟨none, .bin 49 .add (.t 48) (.c (.sc (.int .i64 1)))⟩, ⟨none, .mv 1 (.t 49)⟩]) ((.seq (.reg false [⟨none, .mv 50 (.t 0)⟩, ⟨none, .mv 51 (.t 5)⟩, ⟨none, .ia 52 7 (.t 50) (.t 51)⟩, ⟨none, .fa 53 2 (.t 52)⟩, ⟨none, .fa 54 2 (.t 53)⟩, ⟨none, .ld 55 false 1 (.t 54)⟩, ⟨none, .mv 56 (.t 1)⟩, ⟨none, .call (some 57) f1 [(.t 55), (.t 56)]⟩, ⟨none, .mv 1 (.t 57)⟩]) ((.seq ((.seq (.reg false [⟨none, .mv 58 (.t 1)⟩, ⟨none, .bin 59 .lss (.t 58) (.c (.sc (.int .i64 0)))⟩]) (.cond (.t 59) ((.seq (.reg false [⟨none, .mv 4 (.c (.sc (.int .i64 (-1))))⟩]) (.ret))) (.skip)))) ((.seq ((.seq (.reg false [⟨none, .mv 60 (.t 0)⟩, ⟨none, .mv 61 (.t 5)⟩, ⟨none, .ia 62 7 (.t 60) (.t 61)⟩, ⟨none, .fa 63 5 (.t 62)⟩, ⟨none, .ld 64 false 1 (.t 63)⟩, ⟨none, .mv 65 (.t 1)⟩, ⟨none, .bin 66 .neq (.t 64) (.t 65)⟩]) (.cond (.t 66) ((.seq (.reg false [⟨none, .mv 4 (.c (.sc (.int .i64 (-1))))⟩]) (.ret))) (.skip)))) ((.seq (.reg false [⟨none, .mv 67 (.t 1)⟩, ⟨none, .bin 68 .add (.t 67) (.c (.sc (.int .i64 1)))⟩, ⟨none, .mv 1 (.t 68)⟩]) ((.seq ((.seq (.reg false [⟨none, .mv 69 (.t 0)⟩, ⟨none, .mv 70 (.t 5)⟩, ⟨none, .ia 71 7 (.t 69) (.t 70)⟩, ⟨none, .fa 72 6 (.t 71)⟩, ⟨none, .ld 73 false 1 (.t 72)⟩, ⟨none, .mv 74 (.t 1)⟩, ⟨none, .bin 75 .neq (.t 73) (.t 74)⟩]) (.cond (.t 75) ((.seq (.reg false [⟨none, .mv 4 (.c (.sc (.int .i64 (-1))))⟩]) (.ret))) (.skip)))) (.reg false [⟨none, .mv 76 (.t 1)⟩, ⟨none, .bin 77 .add (.t 76) (.c (.sc (.int .i64 1)))⟩, ⟨none, .mv 1 (.t 77)⟩])))))))))))))))))))))))))))) (.reg false [⟨none, .mv 10 (.t 5)⟩, ⟨none, .bin 11 .add (.t 10) (.c (.sc (.int .i64 1)))⟩, ⟨none, .mv 5 (.t 11)⟩]))))))))) ((.seq (.reg false [⟨none, .mv 78 (.t 1)⟩, ⟨none, .mv 4 (.t 78)⟩]) (.ret))))))
def K_heldSpotS (P : Program) (fno : Nat) : Prop := ∀ (nn : Option Bool) (xs : List Sp) (k : Int), 0 ≤ k → k + cntL cntSp xs ≤ maxK → AF P fno [.ls nn 7 ((mkL mkSp cntSp xs k).map eSp), eI k] (.own (eI (k + cntL cntSp xs)))
theorem a_heldSpotS {P : Program} (hm : P.follows .mixedOrders = true) {g f1 : Nat} (hr : resF P g = some (79, k_heldSpotS f1, [.t 4])) (hc1 : K_heldExprS P f1) : K_heldSpotS P g := by
  intro nn xs k h0 hb
  unfold maxK at hb
  refine af_of_res hr hm rfl fun hbd => ?_
  have hl := len_of_bd hbd
  unfold maxEl at hl
  simp only [List.length_map, mkL_length] at hl
  simp +contextual -implicitDefEqProofs only [k_heldSpotS, eI, go_sem, ↓reduceIte, Nat.reduceAdd]
  refine vc_on (α := Nat) [1, 4, 5, 6, 7, 8, 9, 10, 11, 12, 13, 14, 15, 16, 17, 18, 19, 20, 21, 22, 23, 24, 25, 26, 27, 28, 29, 30, 31, 32, 33, 34, 35, 36, 37, 38, 39, 40, 41, 42, 43, 44, 45, 46, 47, 48, 49, 50, 51, 52, 53, 54, 55, 56, 57, 58, 59, 60, 61, 62, 63, 64, 65, 66, 67, 68, 69, 70, 71, 72, 73, 74, 75, 76, 77] (fun i => [(1, .im none (.sc (.int .i64 (k + cntL cntSp (xs.take i))))), (5, .im none (.sc (.int .i64 i)))]) (fun i => i ≤ xs.length) (fun i => xs.length - i) 0 (by simp only [subEnv, go_sem, ↓reduceIte, Nat.reduceEqDiff, List.take_zero, cntL]; simp) (Nat.zero_le _) ?_
  intro i j1
  by_cases hi : i < xs.length
  · have hcA := cntL_le (cnt := cntSp) (l := xs) (i := i + 1)
    have hcB := cntL_succ (cnt := cntSp) hi
    have e1 := mkL_at (mk := mkSp) (cnt := cntSp) (f := eSp) (k := k) hi
    obtain ⟨ek, en, ck, cn, cnn, cks, eto, eels, hx⟩ := Sp.ex xs[i]
    rw [hx] at e1 hcB
    rw [mkSp_mk, eSp_mk] at e1
    rw [cntSp_mk] at hcB
    have hw1 : IntKind.i64.wrap (k + cntL cntSp (xs.take i) + 1) = k + cntL cntSp (xs.take i) + 1 := wrap_i64 (by omega) (by omega)
    have hw2 : IntKind.i64.wrap (k + cntL cntSp (xs.take i) + 1 + 1) = k + cntL cntSp (xs.take i) + 1 + 1 := wrap_i64 (by omega) (by omega)
    have hw3 : IntKind.i64.wrap (k + cntL cntSp (xs.take i) + 1 + 1 + 1) = k + cntL cntSp (xs.take i) + 1 + 1 + 1 := wrap_i64 (by omega) (by omega)
    have hw4 : IntKind.i64.wrap (k + cntL cntSp (xs.take i) + 1 + 1 + 1 + 1) = k + cntL cntSp (xs.take i) + 1 + 1 + 1 + 1 := wrap_i64 (by omega) (by omega)
    have hw5 : IntKind.i64.wrap (k + cntL cntSp (xs.take i) + 1 + 1 + 1 + 1 + cntL cntE cks + 1) = k + cntL cntSp (xs.take i) + 1 + 1 + 1 + 1 + cntL cntE cks + 1 := wrap_i64 (by omega) (by omega)
    have hw6 : IntKind.i64.wrap (k + cntL cntSp (xs.take i) + 1 + 1 + 1 + 1 + cntL cntE cks + 1 + 1) = k + cntL cntSp (xs.take i) + 1 + 1 + 1 + 1 + cntL cntE cks + 1 + 1 := wrap_i64 (by omega) (by omega)
    simp +contextual (maxSteps := 2000000) -implicitDefEqProofs only [e1, hi, hw1, hw2, hw3, hw4, mkL_length, D.sub, D.size, D.sizeL, D.isAg, bne, Bool.not_true, go_sem, ↓reduceIte, Nat.reduceEqDiff, Nat.reduceAdd, Nat.reduceLeDiff, Nat.reduceLT, decide_true, and_self, true_and, implies_true, Bool.false_eq_true, List.cons_append, List.nil_append, Int.ofNat_lt, List.length_map, Int.natCast_nonneg]
    refine callQ_self ?_ (hc1 cnn cks (k + cntL cntSp (xs.take i) + 1 + 1 + 1 + 1) (by omega) (by unfold maxK; omega)) ?_
    · exact rfl
    have hn : ¬ (k + cntL cntSp (xs.take i) + 1 + 1 + 1 + 1 + cntL cntE cks < 0) := by omega
    simp +contextual -implicitDefEqProofs only [e1, hi, hn, hw5, hw6, mkL_length, D.sub, D.size, D.sizeL, D.isAg, bne, Bool.not_true, go_sem, eI, ↓reduceIte, Nat.reduceEqDiff, Nat.reduceAdd, Nat.reduceLeDiff, Nat.reduceLT, Bool.false_eq_true, Int.ofNat_lt, List.length_map, Int.natCast_nonneg]
    have hk : k + cntL cntSp (xs.take i) + 1 + 1 + 1 + 1 + cntL cntE cks + 1 + 1 = k + cntL cntSp (xs.take (i + 1)) := by rw [hcB]; push_cast; omega
    rw [hk, wrap_i64 (by omega) (by omega)]
    exact ⟨i + 1, by omega, by omega, Ent.env (by simp only [subEnv, go_sem, ↓reduceIte, Nat.reduceEqDiff]; simp)⟩
  · simp +contextual -implicitDefEqProofs only [hi, mkL_length, go_sem, ↓reduceIte, Nat.reduceEqDiff, Bool.false_eq_true, List.cons_append, List.nil_append, Int.ofNat_lt, List.length_map]
    rw [List.take_of_length_le (by omega)]
    exact D.Le.refl _

def k_heldFlow (f1 : Nat) : RC := (.seq (.reg false [⟨none, .box 2 2 (.t 0)⟩, ⟨none, .mv 4 (.c (.sc (.int .i64 0)))⟩]) ((.seq (.reg false [⟨none, .fa 5 1 (.t 2)⟩, ⟨none, .ld 6 false 1 (.t 5)⟩, ⟨none, .mv 7 (.t 1)⟩, ⟨none, .call (some 8) f1 [(.t 6), (.t 7)]⟩, ⟨none, .mv 1 (.t 8)⟩]) ((.seq ((.seq (.reg false [⟨none, .mv 9 (.t 1)⟩, ⟨none, .bin 10 .lss (.t 9) (.c (.sc (.int .i64 0)))⟩]) (.cond (.t 10) ((.seq (.reg false [⟨none, .mv 4 (.c (.sc (.int .i64 (-1))))⟩]) (.ret))) (.skip)))) ((.seq (.reg false [⟨none, .mv 11 (.t 1)⟩, ⟨none, .mv 4 (.t 11)⟩]) (.ret))))))))
def K_heldFlow (P : Program) (fno : Nat) : Prop := ∀ (s : Int) (nn : Option Bool) (xs : List Sp) (k : Int), 0 ≤ k → k + cntL cntSp xs ≤ maxK → AF P fno [eFl (s, (nn, mkL mkSp cntSp xs k)), eI k] (.own (eI (k + cntL cntSp xs)))
theorem a_heldFlow {P : Program} (hm : P.follows .mixedOrders = true) {g f1 : Nat} (hr : resF P g = some (12, k_heldFlow f1, [.t 4])) (hc1 : K_heldSpotS P f1) : K_heldFlow P g := by
  intro s nn xs k h0 hb
  rw [eFl_mk]
  refine af_of_res hr hm rfl fun hbd => ?_
  simp +contextual -implicitDefEqProofs only [k_heldFlow, eI, D.size, D.sizeL, D.at, D.sub, D.isAg, go_sem, ↓reduceIte, Nat.reduceEqDiff, Nat.reduceAdd, Nat.reduceLeDiff, Nat.reduceLT, Bool.false_eq_true, List.cons_append, List.nil_append, Nat.zero_lt_one]
  refine callQ_self ?_ (hc1 nn xs k h0 hb) ?_
  · exact rfl
  simp +contextual -implicitDefEqProofs only [eI, go_sem, ↓reduceIte, Nat.reduceEqDiff]
  exact fun h => absurd h (by omega)
theorem cntE_cpF : ∀ e : Ex, cntE (cpE e) = cntE e :=
  Ex.ind fun k n nn ks ih => by rw [cpE_mk, cntE_mk, cntE_mk, cntL_congr ih]
theorem cntL_bnd {α : Type} {cnt : α → Nat} {B : Nat} : ∀ {l : List α}, (∀ x ∈ l, cnt x ≤ B) → cntL cnt l ≤ l.length * B
  | [], _ => by simp [cntL]
  | x :: l, h => by
    have h1 := h x (by simp)
    have h2 := cntL_bnd (l := l) fun y hy => h y (by simp [hy])
    simp only [cntL, List.length_cons, Nat.succ_mul]
    omega
def condB (s : Sp) : Prop := cntE0 s.2.2.1 ≤ 2000000000
theorem cond_cnt {g : Int × Int} {c : Ex} (h : condOk g c = true) : cntE0 (cpE c) ≤ 2000000000 := by
  rw [condOk, Bool.and_eq_true] at h
  have h2 := h.1
  simp only [okE, Bool.and_eq_true, decide_eq_true_eq] at h2
  have h3 := cntE_size c
  have h4 := cntE_cpF c
  rw [cntE_eq] at h3 h4
  rw [cntE_eq c] at h4
  have := h2.1
  omega
theorem flow_cnt (gs : Int × Int) : ∀ (p : Pg), treeP gs p = true → ∀ (k : Int) (l : List Sp), (∀ s ∈ l, condB s) → ∀ s ∈ (flowP p k l).1, condB s :=
  Pg.ind fun k n c nn ks ih hT to l hl => by
    have hE : condB (4, 0, E0, 0, 0) := by simp [condB, E0, cntE0_mk, cntL]
    have hC : ∀ {k n to els : Int}, condOk gs c = true → condB (k, n, cpE c, to, els) := fun h => cond_cnt h
    rw [flowP_mk]
    rw [treeP_mk, Bool.and_eq_true, List.all_eq_true] at hT
    have hcond : asksP k = true → condOk gs c = true := by
      intro h
      have := hT.1
      rw [formP, Bool.and_eq_true, Bool.and_eq_true, cP] at this
      simpa [h] using this.2.2
    rcases kinds hT.1 with ⟨rfl, rfl⟩ | ⟨rfl, rfl⟩ | ⟨rfl, rfl⟩ | ⟨rfl, rfl⟩ | ⟨rfl, a, b, rfl⟩ | ⟨rfl, a, b, rfl⟩ | ⟨rfl, a, rfl⟩
    · rw [opF_1]; exact hl
    · rw [opF_2]; simp only [List.mem_append, List.mem_singleton]; exact fun s h => h.elim (hl s) fun h => h ▸ hE
    · rw [opF_3]; simp only [List.mem_append, List.mem_singleton]; exact fun s h => h.elim (hl s) fun h => h ▸ hE
    · rw [opF_4]; simp only [List.mem_append, List.mem_singleton]; exact fun s h => h.elim (fun h => h.elim (hl s) fun h => h ▸ hE) fun h => h ▸ hC (hcond rfl)
    · rw [opF_5]
      exact ih a (by simp) (hT.2 a (by simp)) _ _ (ih b (by simp) (hT.2 b (by simp)) _ _ hl)
    · rw [opF_6]; simp only [List.mem_append, List.mem_singleton]
      rintro s (h | rfl)
      · exact ih b (by simp) (hT.2 b (by simp)) _ _ (ih a (by simp) (hT.2 a (by simp)) _ _ hl) s h
      · exact hC (hcond rfl)
    · rw [opF_7]
      have h1 := ih a (by simp) (hT.2 a (by simp)) l.length (l ++ [((2, 0, cpE c, 0, to) : Sp)]) (by
        simp only [List.mem_append, List.mem_singleton]; exact fun s h => h.elim (hl s) fun h => h ▸ hC (hcond rfl))
      have h2 := (flow_len gs a (hT.2 a (by simp)) l.length (l ++ [((2, 0, cpE c, 0, to) : Sp)])).1
      simp only [List.length_append, List.length_cons, List.length_nil] at h2
      intro s hs
      simp only [toSp] at hs
      rcases List.mem_or_eq_of_mem_set hs with h | rfl
      · exact h1 s h
      · have h3 : l.length < (flowP a l.length (l ++ [(2, 0, cpE c, 0, to)])).1.length := by omega
        have := h1 _ (List.getElem_mem h3)
        simp only [List.getD, List.getElem?_eq_getElem h3, Option.getD_some]
        exact this
theorem flowR_cnt (gs : Int × Int) (p : Pg) : cntL cntSp (flowR gs p).1.2.2 ≤ 200000000000 := by
  unfold flowR
  split
  · simp [cntL]
  · next h =>
    simp only
    split
    · simp [cntL]
    · next h2 =>
      simp only
      have hT : treeP gs p = true := by
        simp only [Bool.not_eq_false, Bool.and_eq_true, okP] at h
        exact h.2.2.2
      have h1 := flow_cnt gs p hT 0 [((3, 0, E0, 0, 0) : Sp)] (by
        intro s hs; simp only [List.mem_singleton] at hs; subst hs; simp [condB, E0, cntE0_mk, cntL])
      have h3 := cntL_bnd (cnt := cntSp) (B := 2000000006) (l := (flowP p 0 [((3, 0, E0, 0, 0) : Sp)]).1) fun s hs => by
        have := h1 s hs
        unfold condB at this
        unfold cntSp
        omega
      have h4 : (flowP p 0 [((3, 0, E0, 0, 0) : Sp)]).1.length ≤ 60 := by omega
      have h5 := Nat.mul_le_mul_right 2000000006 h4
      omega
end Go.Ax
