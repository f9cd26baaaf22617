/- Contracts of functions of the seat, proved over the engine. No condition. -/
import Derived.Test.YtohakobkclkniaaDoorX80
import Derived.Test.YtohakobkclkniaaDoorAxSB
set_option linter.unusedSimpArgs false
set_option linter.unusedVariables false
set_option linter.unnecessarySimpa false
namespace Go.Ax
set_option linter.unusedSimpArgs false
set_option maxRecDepth 20000
set_option maxHeartbeats 4000000

def textOp (k v : Int) (ts : List ByteArray) : ByteArray :=
 if k = 1 then ⟨#[48]⟩ else if k = 2 then ⟨#[49]⟩ else if k = 3 then ⟨#[116]⟩ ++ decB v.toNat else if k = 4 then ⟨#[97]⟩ ++ decB v.toNat
 else if k = 5 then ⟨#[126]⟩ ++ ts.getD 0 ⟨#[]⟩ else if k = 6 then ⟨#[40]⟩ ++ ts.getD 0 ⟨#[]⟩ ++ ⟨#[32, 43, 32]⟩ ++ ts.getD 1 ⟨#[]⟩ ++ ⟨#[41]⟩
 else if k = 7 then ⟨#[40]⟩ ++ ts.getD 0 ⟨#[]⟩ ++ ⟨#[32]⟩ ++ ts.getD 1 ⟨#[]⟩ ++ ⟨#[41]⟩ else ts.getD 0 ⟨#[]⟩ ++ ⟨#[42]⟩
mutual
def textE : Ex → ByteArray
 | .mk k v _ ks => textOp k v (textEs ks)
def textEs : List Ex → List ByteArray
 | [] => []
 | e :: es => textE e :: textEs es
end
theorem textEs_map : ∀ {ks : List Ex}, textEs ks = ks.map textE
 | [] => rfl
 | e :: es => by rw [textEs, textEs_map]; rfl
theorem textE_mk {k v : Int} {nn : Option Bool} {ks : List Ex} : textE (.mk k v nn ks) = textOp k v (ks.map textE) := by rw [textE, textEs_map]
theorem e_app {s : ByteArray} : (⟨#[]⟩ : ByteArray) ++ s = s := ByteArray.empty_append
inductive TxOk (k v : Int) (ks : List Ex) : Prop
 | zero (h : k = 1) (hk : ks = [])
 | one (h : k = 2) (hk : ks = [])
 | test (h : k = 3) (hk : ks = []) (n : Nat) (hv : v = n) (hn : n < 100)
 | act (h : k = 4) (hk : ks = []) (n : Nat) (hv : v = n) (hn : n < 100)
 | nt (h : k = 5) (a : Ex) (hk : ks = [a])
 | sum (h : k = 6) (a b : Ex) (hk : ks = [a, b])
 | dot (h : k = 7) (a b : Ex) (hk : ks = [a, b])
 | star (h : k = 8) (a : Ex) (hk : ks = [a])
theorem tx_ok {g : Int × Int} (hg : okG g = true) {k v : Int} {ks : List Ex} (h : formOk g k v ks = true) : TxOk k v ks := by
 simp only [okG, Bool.and_eq_true, isIn_iff'] at hg
 have hw1 : IntKind.i64.wrap (g.1 - 1) = g.1 - 1 := wrap_i64 (by omega) (by omega)
 have hw2 : IntKind.i64.wrap (g.2 - 1) = g.2 - 1 := wrap_i64 (by omega) (by omega)
 simp only [formOk, Bool.and_eq_true, beq_iff_eq, hw1, hw2] at h
 obtain ⟨hk, hv⟩ := h
 unfold kidsN at hk
 have e0 : ∀ {l : List Ex}, (0 : Int) = l.length → l = [] := fun h => List.eq_nil_of_length_eq_zero (by omega)
 have e1 : ∀ {l : List Ex}, (1 : Int) = l.length → ∃ a, l = [a] := fun {l} h => by
  match l, h with
  | [a], _ => exact ⟨a, rfl⟩
  | [], h => simp at h
  | _ :: _ :: _, h => simp at h; omega
 have e2 : ∀ {l : List Ex}, (2 : Int) = l.length → ∃ a b, l = [a, b] := fun {l} h => by
  match l, h with
  | [a, b], _ => exact ⟨a, b, rfl⟩
  | [], h => simp at h
  | [_], h => simp at h
  | _ :: _ :: _ :: _, h => simp at h; omega
 by_cases h1 : k = 1
 ·subst h1; exact .zero rfl (e0 (by simpa using hk))
 by_cases h2 : k = 2
 ·subst h2; exact .one rfl (e0 (by simpa using hk))
 by_cases h3 : k = 3
 ·subst h3
  rw [if_pos rfl, isIn_iff'] at hv
  exact .test rfl (e0 (by simpa using hk)) v.toNat (by omega) (by omega)
 by_cases h4 : k = 4
 ·subst h4
  rw [if_neg (by omega), if_pos rfl, isIn_iff'] at hv
  exact .act rfl (e0 (by simpa using hk)) v.toNat (by omega) (by omega)
 by_cases h5 : k = 5
 ·subst h5; obtain ⟨a, hk⟩ := e1 (by simpa using hk); exact .nt rfl a hk
 by_cases h6 : k = 6
 ·subst h6; obtain ⟨a, b, hk⟩ := e2 (by simpa using hk); exact .sum rfl a b hk
 by_cases h7 : k = 7
 ·subst h7; obtain ⟨a, b, hk⟩ := e2 (by simpa using hk); exact .dot rfl a b hk
 by_cases h8 : k = 8
 ·subst h8; obtain ⟨a, hk⟩ := e1 (by simpa using hk); exact .star rfl a hk
 exact absurd hk (by simp [h1, h2, h3, h4, h5, h6, h7, h8])

def k_l01Text (g f1 : Nat) : RC := (.seq (.reg false [⟨none, .mv 2 (.c (.sc (.string ⟨#[]⟩)))⟩]) ((.seq ((.seq (.reg false [⟨none, .mv 3 (.t 0)⟩, ⟨none, .nck 4 (.t 3)⟩, ⟨none, .fa 5 0 (.t 4)⟩, ⟨none, .ld 6 false 1 (.t 5)⟩]) (.blk 0 ((.seq (.reg false [⟨none, .bin 8 .eql (.t 6) (.c (.sc (.int .i64 1)))⟩, ⟨none, .mv 7 (.t 8)⟩]) (.cond (.t 7) ((.seq (.reg false [⟨none, .mv 2 (.c (.sc (.string ⟨#[48]⟩)))⟩]) (.ret))) ((.seq (.reg false [⟨none, .bin 10 .eql (.t 6) (.c (.sc (.int .i64 2)))⟩, ⟨none, .mv 9 (.t 10)⟩]) (.cond (.t 9) ((.seq (.reg false [⟨none, .mv 2 (.c (.sc (.string ⟨#[49]⟩)))⟩]) (.ret))) ((.seq (.reg false [⟨none, .bin 12 .eql (.t 6) (.c (.sc (.int .i64 3)))⟩, ⟨none, .mv 11 (.t 12)⟩]) (.cond (.t 11) ((.seq (.reg false [⟨none, .mv 13 (.t 0)⟩, ⟨none, .nck 14 (.t 13)⟩, ⟨none, .fa 15 1 (.t 14)⟩, ⟨none, .ld 16 false 1 (.t 15)⟩, ⟨none, .call (some 17) f1 [(.t 16)]⟩, ⟨none, .bin 18 .add (.c (.sc (.string ⟨#[116]⟩))) (.t 17)⟩, ⟨none, .mv 2 (.t 18)⟩]) (.ret))) ((.seq (.reg false [⟨none, .bin 20 .eql (.t 6) (.c (.sc (.int .i64 4)))⟩, ⟨none, .mv 19 (.t 20)⟩]) (.cond (.t 19) ((.seq (.reg false [⟨none, .mv 21 (.t 0)⟩, ⟨none, .nck 22 (.t 21)⟩, ⟨none, .fa 23 1 (.t 22)⟩, ⟨none, .ld 24 false 1 (.t 23)⟩, ⟨none, .call (some 25) f1 [(.t 24)]⟩, ⟨none, .bin 26 .add (.c (.sc (.string ⟨#[97]⟩))) (.t 25)⟩, ⟨none, .mv 2 (.t 26)⟩]) (.ret))) ((.seq (.reg false [⟨none, .bin 28 .eql (.t 6) (.c (.sc (.int .i64 5)))⟩, ⟨none, .mv 27 (.t 28)⟩]) (.cond (.t 27) ((.seq (.reg false [⟨none, .mv 29 (.t 0)⟩, ⟨none, .nck 30 (.t 29)⟩, ⟨none, .fa 31 2 (.t 30)⟩, ⟨none, .ld 32 false 1 (.t 31)⟩, ⟨none, .ia 33 3 (.t 32) (.c (.sc (.int .i64 0)))⟩, ⟨none, .call (some 34) g [(.t 33)]⟩, ⟨none, .bin 35 .add (.c (.sc (.string ⟨#[126]⟩))) (.t 34)⟩, ⟨none, .mv 2 (.t 35)⟩]) (.ret))) ((.seq (.reg false [⟨none, .bin 37 .eql (.t 6) (.c (.sc (.int .i64 6)))⟩, ⟨none, .mv 36 (.t 37)⟩]) (.cond (.t 36) ((.seq (.reg true [⟨none, .mv 38 (.t 0)⟩, ⟨none, .nck 39 (.t 38)⟩, ⟨none, .fa 40 2 (.t 39)⟩, ⟨none, .ld 41 false 1 (.t 40)⟩, ⟨none, .ia 42 3 (.t 41) (.c (.sc (.int .i64 0)))⟩, ⟨none, .call (some 43) g [(.t 42)]⟩, ⟨none, .bin 44 .add (.c (.sc (.string ⟨#[40]⟩))) (.t 43)⟩, ⟨none, .bin 45 .add (.t 44) (.c (.sc (.string ⟨#[32, 43, 32]⟩)))⟩, ⟨none, .mv 46 (.t 0)⟩, ⟨none, .nck 47 (.t 46)⟩, ⟨none, .fa 48 2 (.t 47)⟩, ⟨none, .ld 49 false 1 (.t 48)⟩, ⟨none, .ia 50 3 (.t 49) (.c (.sc (.int .i64 1)))⟩, ⟨none, .call (some 51) g [(.t 50)]⟩, ⟨none, .bin 52 .add (.t 45) (.t 51)⟩, ⟨none, .bin 53 .add (.t 52) (.c (.sc (.string ⟨#[41]⟩)))⟩, ⟨none, .mv 2 (.t 53)⟩]) (.ret))) ((.seq (.reg false [⟨none, .bin 55 .eql (.t 6) (.c (.sc (.int .i64 7)))⟩, ⟨none, .mv 54 (.t 55)⟩]) (.cond (.t 54) ((.seq (.reg true [⟨none, .mv 56 (.t 0)⟩, ⟨none, .nck 57 (.t 56)⟩, ⟨none, .fa 58 2 (.t 57)⟩, ⟨none, .ld 59 false 1 (.t 58)⟩, ⟨none, .ia 60 3 (.t 59) (.c (.sc (.int .i64 0)))⟩, ⟨none, .call (some 61) g [(.t 60)]⟩, ⟨none, .bin 62 .add (.c (.sc (.string ⟨#[40]⟩))) (.t 61)⟩, ⟨none, .bin 63 .add (.t 62) (.c (.sc (.string ⟨#[32]⟩)))⟩, ⟨none, .mv 64 (.t 0)⟩, ⟨none, .nck 65 (.t 64)⟩, ⟨none, .fa 66 2 (.t 65)⟩, ⟨none, .ld 67 false 1 (.t 66)⟩, ⟨none, .ia 68 3 (.t 67) (.c (.sc (.int .i64 1)))⟩, ⟨none, .call (some 69) g [(.t 68)]⟩, ⟨none, .bin 70 .add (.t 63) (.t 69)⟩, ⟨none, .bin 71 .add (.t 70) (.c (.sc (.string ⟨#[41]⟩)))⟩, ⟨none, .mv 2 (.t 71)⟩]) (.ret))) (.skip))))))))))))))))))))))))) ((.seq (.reg false [⟨none, .mv 72 (.t 0)⟩, ⟨none, .nck 73 (.t 72)⟩, ⟨none, .fa 74 2 (.t 73)⟩, ⟨none, .ld 75 false 1 (.t 74)⟩, ⟨none, .ia 76 3 (.t 75) (.c (.sc (.int .i64 0)))⟩, ⟨none, .call (some 77) g [(.t 76)]⟩, ⟨none, .bin 78 .add (.t 77) (.c (.sc (.string ⟨#[42]⟩)))⟩, ⟨none, .mv 2 (.t 78)⟩]) (.ret))))))
def K_l01Text (P : Program) (fno : Nat) : Prop := ∀ (g0 : Int × Int) (hg : okG g0 = true) (e : Ex) (hT : treeE g0 e = true) (hz : (textE e).size ≤ 1000000000), AF P fno [.pt (eE e) 0] (.own (eT (textE e)))
theorem a_l01Text {P : Program} (hm : P.follows .mixedOrders = true) {g f1 : Nat} (hr : resF P g = some (79, k_l01Text g f1, [.t 2])) (hc1 : K_spDecimal P f1) : K_l01Text P g := by
 intro g0 hg e hT hz
 refine Ex.ind (p := fun e => treeE g0 e = true → (textE e).size ≤ 1000000000 → AF P g [.pt (eE e) 0] (.own (eT (textE e)))) (fun k v nn ks ih hT hz => ?_) e hT hz
 rw [treeE_mk, Bool.and_eq_true, List.all_eq_true] at hT
 have hK := tx_ok hg hT.1
 rw [textE_mk] at hz ⊢
 rw [eE_mk]
 refine af_of_res hr hm rfl fun hb => ?_
 cases hK with
 | zero hk hks =>
  subst hk hks
  rw [show textOp 1 v ([].map textE) = ⟨#[48]⟩ by simp [textOp]] at hz ⊢
  simp +contextual -implicitDefEqProofs only [k_l01Text, eE_mk, eT, eI, D.size, D.sizeL, D.sub, Int.cast_ofNat_Int, Int.reduceLT, Int.reduceLE, Int.le_refl, Int.reduceBEq, Int.reduceEq, beq_self_eq_true, Int.reduceToNat, D.isAg, List.map_nil, List.map_cons, List.length_cons, List.length_nil, D.at, List.getD_cons_zero, List.getD_cons_succ, encE.sub, eE_size, eE_isAg, go_sem, eB, ↓reduceIte, Nat.reduceEqDiff, Nat.reduceAdd, Nat.reduceLeDiff, Nat.reduceMul, Nat.reduceBEq, Nat.reduceBneDiff, Nat.reduceLT, Nat.reduceSub, Int.ofNat_lt, List.length_map, Int.natCast_nonneg]
 | one hk hks =>
  subst hk hks
  rw [show textOp 2 v ([].map textE) = ⟨#[49]⟩ by simp [textOp]] at hz ⊢
  simp +contextual -implicitDefEqProofs only [k_l01Text, eE_mk, eT, eI, D.size, D.sizeL, D.sub, Int.cast_ofNat_Int, Int.reduceLT, Int.reduceLE, Int.le_refl, Int.reduceBEq, Int.reduceEq, beq_self_eq_true, Int.reduceToNat, D.isAg, List.map_nil, List.map_cons, List.length_cons, List.length_nil, D.at, List.getD_cons_zero, List.getD_cons_succ, encE.sub, eE_size, eE_isAg, go_sem, eB, ↓reduceIte, Nat.reduceEqDiff, Nat.reduceAdd, Nat.reduceLeDiff, Nat.reduceMul, Nat.reduceBEq, Nat.reduceBneDiff, Nat.reduceLT, Nat.reduceSub, Int.ofNat_lt, List.length_map, Int.natCast_nonneg]
 | test hk hks n hv hn =>
  subst hk hks hv
  rw [show textOp 3 n ([].map textE) = ⟨#[116]⟩ ++ decB n by simp [textOp]] at hz ⊢
  have hdz := decB_size (n := n)
  simp +contextual -implicitDefEqProofs only [k_l01Text, eE_mk, eT, eI, D.size, D.sizeL, D.sub, Int.cast_ofNat_Int, Int.reduceLT, Int.reduceLE, Int.le_refl, Int.reduceBEq, Int.reduceEq, beq_self_eq_true, Int.reduceToNat, D.isAg, List.map_nil, List.map_cons, List.length_cons, List.length_nil, D.at, List.getD_cons_zero, List.getD_cons_succ, encE.sub, eE_size, eE_isAg, go_sem, eB, ↓reduceIte, Nat.reduceEqDiff, Nat.reduceAdd, Nat.reduceLeDiff, Nat.reduceMul, Nat.reduceBEq, Nat.reduceBneDiff, Nat.reduceLT, Nat.reduceSub, Int.ofNat_lt, List.length_map, Int.natCast_nonneg]
  refine callQ_self (ds := [eI n]) (by rfl) (hc1 n hn) ?_
  simp +contextual -implicitDefEqProofs only [eE_mk, eT, eI, D.size, D.sizeL, D.sub, Int.cast_ofNat_Int, Int.reduceLT, Int.reduceLE, Int.le_refl, Int.reduceBEq, Int.reduceEq, beq_self_eq_true, Int.reduceToNat, D.isAg, List.map_nil, List.map_cons, List.length_cons, List.length_nil, D.at, List.getD_cons_zero, List.getD_cons_succ, encE.sub, eE_size, eE_isAg, go_sem, eB, ↓reduceIte, Nat.reduceEqDiff, Nat.reduceAdd, Nat.reduceLeDiff, Nat.reduceMul, Nat.reduceBEq, Nat.reduceBneDiff, Nat.reduceLT, Nat.reduceSub, Int.ofNat_lt, List.length_map, Int.natCast_nonneg]
  simp only [ByteArray.size_append, bsz, List.size_toArray, List.length_cons, List.length_nil]
  omega
 | act hk hks n hv hn =>
  subst hk hks hv
  rw [show textOp 4 n ([].map textE) = ⟨#[97]⟩ ++ decB n by simp [textOp]] at hz ⊢
  have hdz := decB_size (n := n)
  simp +contextual -implicitDefEqProofs only [k_l01Text, eE_mk, eT, eI, D.size, D.sizeL, D.sub, Int.cast_ofNat_Int, Int.reduceLT, Int.reduceLE, Int.le_refl, Int.reduceBEq, Int.reduceEq, beq_self_eq_true, Int.reduceToNat, D.isAg, List.map_nil, List.map_cons, List.length_cons, List.length_nil, D.at, List.getD_cons_zero, List.getD_cons_succ, encE.sub, eE_size, eE_isAg, go_sem, eB, ↓reduceIte, Nat.reduceEqDiff, Nat.reduceAdd, Nat.reduceLeDiff, Nat.reduceMul, Nat.reduceBEq, Nat.reduceBneDiff, Nat.reduceLT, Nat.reduceSub, Int.ofNat_lt, List.length_map, Int.natCast_nonneg]
  refine callQ_self (ds := [eI n]) (by rfl) (hc1 n hn) ?_
  simp +contextual -implicitDefEqProofs only [eE_mk, eT, eI, D.size, D.sizeL, D.sub, Int.cast_ofNat_Int, Int.reduceLT, Int.reduceLE, Int.le_refl, Int.reduceBEq, Int.reduceEq, beq_self_eq_true, Int.reduceToNat, D.isAg, List.map_nil, List.map_cons, List.length_cons, List.length_nil, D.at, List.getD_cons_zero, List.getD_cons_succ, encE.sub, eE_size, eE_isAg, go_sem, eB, ↓reduceIte, Nat.reduceEqDiff, Nat.reduceAdd, Nat.reduceLeDiff, Nat.reduceMul, Nat.reduceBEq, Nat.reduceBneDiff, Nat.reduceLT, Nat.reduceSub, Int.ofNat_lt, List.length_map, Int.natCast_nonneg]
  simp only [ByteArray.size_append, bsz, List.size_toArray, List.length_cons, List.length_nil]
  omega
 | nt hk a hks =>
  subst hk hks
  rw [show textOp 5 v ([a].map textE) = ⟨#[126]⟩ ++ textE a by simp [textOp]] at hz ⊢
  have ta := hT.2 a (by simp)
  simp only [ByteArray.size_append, bsz, List.size_toArray, List.length_cons, List.length_nil] at hz
  simp +contextual -implicitDefEqProofs only [k_l01Text, eE_mk, eT, eI, D.size, D.sizeL, D.sub, Int.cast_ofNat_Int, Int.reduceLT, Int.reduceLE, Int.le_refl, Int.reduceBEq, Int.reduceEq, beq_self_eq_true, Int.reduceToNat, D.isAg, List.map_nil, List.map_cons, List.length_cons, List.length_nil, D.at, List.getD_cons_zero, List.getD_cons_succ, encE.sub, eE_size, eE_isAg, go_sem, eB, ↓reduceIte, Nat.reduceEqDiff, Nat.reduceAdd, Nat.reduceLeDiff, Nat.reduceMul, Nat.reduceBEq, Nat.reduceBneDiff, Nat.reduceLT, Nat.reduceSub, Int.ofNat_lt, List.length_map, Int.natCast_nonneg]
  refine callQ_self (ds := [.pt (eE a) 0]) (by rfl) (ih a (by simp) ta (by omega)) ?_
  simp +contextual -implicitDefEqProofs only [eE_mk, eT, eI, D.size, D.sizeL, D.sub, Int.cast_ofNat_Int, Int.reduceLT, Int.reduceLE, Int.le_refl, Int.reduceBEq, Int.reduceEq, beq_self_eq_true, Int.reduceToNat, D.isAg, List.map_nil, List.map_cons, List.length_cons, List.length_nil, D.at, List.getD_cons_zero, List.getD_cons_succ, encE.sub, eE_size, eE_isAg, go_sem, eB, ↓reduceIte, Nat.reduceEqDiff, Nat.reduceAdd, Nat.reduceLeDiff, Nat.reduceMul, Nat.reduceBEq, Nat.reduceBneDiff, Nat.reduceLT, Nat.reduceSub, Int.ofNat_lt, List.length_map, Int.natCast_nonneg]
  simp only [ByteArray.size_append, bsz, List.size_toArray, List.length_cons, List.length_nil]
  omega
 | sum hk a b hks =>
  subst hk hks
  rw [show textOp 6 v ([a, b].map textE) = ⟨#[40]⟩ ++ textE a ++ ⟨#[32, 43, 32]⟩ ++ textE b ++ ⟨#[41]⟩ by simp [textOp]] at hz ⊢
  have ta := hT.2 a (by simp)
  have tb := hT.2 b (by simp)
  simp only [ByteArray.size_append, bsz, List.size_toArray, List.length_cons, List.length_nil] at hz
  simp +contextual -implicitDefEqProofs only [k_l01Text, eE_mk, eT, eI, D.size, D.sizeL, D.sub, Int.cast_ofNat_Int, Int.reduceLT, Int.reduceLE, Int.le_refl, Int.reduceBEq, Int.reduceEq, beq_self_eq_true, Int.reduceToNat, D.isAg, List.map_nil, List.map_cons, List.length_cons, List.length_nil, D.at, List.getD_cons_zero, List.getD_cons_succ, encE.sub, eE_size, eE_isAg, go_sem, eB, ↓reduceIte, Nat.reduceEqDiff, Nat.reduceAdd, Nat.reduceLeDiff, Nat.reduceMul, Nat.reduceBEq, Nat.reduceBneDiff, Nat.reduceLT, Nat.reduceSub, Int.ofNat_lt, List.length_map, Int.natCast_nonneg]
  refine callQ_self (ds := [.pt (eE a) 0]) (by rfl) (ih a (by simp) ta (by omega)) ?_
  simp +contextual -implicitDefEqProofs only [eE_mk, eT, eI, D.size, D.sizeL, D.sub, Int.cast_ofNat_Int, Int.reduceLT, Int.reduceLE, Int.le_refl, Int.reduceBEq, Int.reduceEq, beq_self_eq_true, Int.reduceToNat, D.isAg, List.map_nil, List.map_cons, List.length_cons, List.length_nil, D.at, List.getD_cons_zero, List.getD_cons_succ, encE.sub, eE_size, eE_isAg, go_sem, eB, ↓reduceIte, Nat.reduceEqDiff, Nat.reduceAdd, Nat.reduceLeDiff, Nat.reduceMul, Nat.reduceBEq, Nat.reduceBneDiff, Nat.reduceLT, Nat.reduceSub, Int.ofNat_lt, List.length_map, Int.natCast_nonneg]
  refine ⟨by simp only [ByteArray.size_append, bsz, List.size_toArray, List.length_cons, List.length_nil]; omega, by simp only [ByteArray.size_append, bsz, List.size_toArray, List.length_cons, List.length_nil]; omega, ?_⟩
  refine callQ_self (ds := [.pt (eE b) 0]) (by rfl) (ih b (by simp) tb (by omega)) ?_
  simp +contextual -implicitDefEqProofs only [eE_mk, eT, eI, D.size, D.sizeL, D.sub, Int.cast_ofNat_Int, Int.reduceLT, Int.reduceLE, Int.le_refl, Int.reduceBEq, Int.reduceEq, beq_self_eq_true, Int.reduceToNat, D.isAg, List.map_nil, List.map_cons, List.length_cons, List.length_nil, D.at, List.getD_cons_zero, List.getD_cons_succ, encE.sub, eE_size, eE_isAg, go_sem, eB, ↓reduceIte, Nat.reduceEqDiff, Nat.reduceAdd, Nat.reduceLeDiff, Nat.reduceMul, Nat.reduceBEq, Nat.reduceBneDiff, Nat.reduceLT, Nat.reduceSub, Int.ofNat_lt, List.length_map, Int.natCast_nonneg]
  exact ⟨by simp only [ByteArray.size_append, bsz, List.size_toArray, List.length_cons, List.length_nil]; omega, by simp only [ByteArray.size_append, bsz, List.size_toArray, List.length_cons, List.length_nil]; omega⟩
 | dot hk a b hks =>
  subst hk hks
  rw [show textOp 7 v ([a, b].map textE) = ⟨#[40]⟩ ++ textE a ++ ⟨#[32]⟩ ++ textE b ++ ⟨#[41]⟩ by simp [textOp]] at hz ⊢
  have ta := hT.2 a (by simp)
  have tb := hT.2 b (by simp)
  simp only [ByteArray.size_append, bsz, List.size_toArray, List.length_cons, List.length_nil] at hz
  simp +contextual -implicitDefEqProofs only [k_l01Text, eE_mk, eT, eI, D.size, D.sizeL, D.sub, Int.cast_ofNat_Int, Int.reduceLT, Int.reduceLE, Int.le_refl, Int.reduceBEq, Int.reduceEq, beq_self_eq_true, Int.reduceToNat, D.isAg, List.map_nil, List.map_cons, List.length_cons, List.length_nil, D.at, List.getD_cons_zero, List.getD_cons_succ, encE.sub, eE_size, eE_isAg, go_sem, eB, ↓reduceIte, Nat.reduceEqDiff, Nat.reduceAdd, Nat.reduceLeDiff, Nat.reduceMul, Nat.reduceBEq, Nat.reduceBneDiff, Nat.reduceLT, Nat.reduceSub, Int.ofNat_lt, List.length_map, Int.natCast_nonneg]
  refine callQ_self (ds := [.pt (eE a) 0]) (by rfl) (ih a (by simp) ta (by omega)) ?_
  simp +contextual -implicitDefEqProofs only [eE_mk, eT, eI, D.size, D.sizeL, D.sub, Int.cast_ofNat_Int, Int.reduceLT, Int.reduceLE, Int.le_refl, Int.reduceBEq, Int.reduceEq, beq_self_eq_true, Int.reduceToNat, D.isAg, List.map_nil, List.map_cons, List.length_cons, List.length_nil, D.at, List.getD_cons_zero, List.getD_cons_succ, encE.sub, eE_size, eE_isAg, go_sem, eB, ↓reduceIte, Nat.reduceEqDiff, Nat.reduceAdd, Nat.reduceLeDiff, Nat.reduceMul, Nat.reduceBEq, Nat.reduceBneDiff, Nat.reduceLT, Nat.reduceSub, Int.ofNat_lt, List.length_map, Int.natCast_nonneg]
  refine ⟨by simp only [ByteArray.size_append, bsz, List.size_toArray, List.length_cons, List.length_nil]; omega, by simp only [ByteArray.size_append, bsz, List.size_toArray, List.length_cons, List.length_nil]; omega, ?_⟩
  refine callQ_self (ds := [.pt (eE b) 0]) (by rfl) (ih b (by simp) tb (by omega)) ?_
  simp +contextual -implicitDefEqProofs only [eE_mk, eT, eI, D.size, D.sizeL, D.sub, Int.cast_ofNat_Int, Int.reduceLT, Int.reduceLE, Int.le_refl, Int.reduceBEq, Int.reduceEq, beq_self_eq_true, Int.reduceToNat, D.isAg, List.map_nil, List.map_cons, List.length_cons, List.length_nil, D.at, List.getD_cons_zero, List.getD_cons_succ, encE.sub, eE_size, eE_isAg, go_sem, eB, ↓reduceIte, Nat.reduceEqDiff, Nat.reduceAdd, Nat.reduceLeDiff, Nat.reduceMul, Nat.reduceBEq, Nat.reduceBneDiff, Nat.reduceLT, Nat.reduceSub, Int.ofNat_lt, List.length_map, Int.natCast_nonneg]
  exact ⟨by simp only [ByteArray.size_append, bsz, List.size_toArray, List.length_cons, List.length_nil]; omega, by simp only [ByteArray.size_append, bsz, List.size_toArray, List.length_cons, List.length_nil]; omega⟩
 | star hk a hks =>
  subst hk hks
  rw [show textOp 8 v ([a].map textE) = textE a ++ ⟨#[42]⟩ by simp [textOp]] at hz ⊢
  have ta := hT.2 a (by simp)
  simp only [ByteArray.size_append, bsz, List.size_toArray, List.length_cons, List.length_nil] at hz
  simp +contextual -implicitDefEqProofs only [k_l01Text, eE_mk, eT, eI, D.size, D.sizeL, D.sub, Int.cast_ofNat_Int, Int.reduceLT, Int.reduceLE, Int.le_refl, Int.reduceBEq, Int.reduceEq, beq_self_eq_true, Int.reduceToNat, D.isAg, List.map_nil, List.map_cons, List.length_cons, List.length_nil, D.at, List.getD_cons_zero, List.getD_cons_succ, encE.sub, eE_size, eE_isAg, go_sem, eB, ↓reduceIte, Nat.reduceEqDiff, Nat.reduceAdd, Nat.reduceLeDiff, Nat.reduceMul, Nat.reduceBEq, Nat.reduceBneDiff, Nat.reduceLT, Nat.reduceSub, Int.ofNat_lt, List.length_map, Int.natCast_nonneg]
  refine callQ_self (ds := [.pt (eE a) 0]) (by rfl) (ih a (by simp) ta (by omega)) ?_
  simp +contextual -implicitDefEqProofs only [eE_mk, eT, eI, D.size, D.sizeL, D.sub, Int.cast_ofNat_Int, Int.reduceLT, Int.reduceLE, Int.le_refl, Int.reduceBEq, Int.reduceEq, beq_self_eq_true, Int.reduceToNat, D.isAg, List.map_nil, List.map_cons, List.length_cons, List.length_nil, D.at, List.getD_cons_zero, List.getD_cons_succ, encE.sub, eE_size, eE_isAg, go_sem, eB, ↓reduceIte, Nat.reduceEqDiff, Nat.reduceAdd, Nat.reduceLeDiff, Nat.reduceMul, Nat.reduceBEq, Nat.reduceBneDiff, Nat.reduceLT, Nat.reduceSub, Int.ofNat_lt, List.length_map, Int.natCast_nonneg]
  simp only [ByteArray.size_append, bsz, List.size_toArray, List.length_cons, List.length_nil]
  omega

def K_wrS (P : Program) (fno : Nat) : Prop := ∀ s : ByteArray, s.size ≤ 1000000000 → AFB P fno 117 5 [.sc (.string s)] s

def K_bdS (P : Program) (fno : Nat) : Prop := AFS P fno 117 5

def k_writeExpr (g f1 f2 : Nat) : RC := (.seq (.reg false [⟨none, .box 3 3 (.t 1)⟩]) ((.seq (.reg false [⟨none, .fa 5 0 (.t 3)⟩, ⟨none, .ld 6 false 1 (.t 5)⟩]) (.blk 0 ((.seq (.reg false [⟨none, .bin 8 .eql (.t 6) (.c (.sc (.int .i64 1)))⟩, ⟨none, .mv 7 (.t 8)⟩]) (.cond (.t 7) (.reg false [⟨none, .mv 9 (.t 0)⟩, ⟨none, .bwr (some 10) f2 (.t 9) [(.c (.sc (.string ⟨#[48]⟩)))]⟩]) ((.seq (.reg false [⟨none, .bin 12 .eql (.t 6) (.c (.sc (.int .i64 2)))⟩, ⟨none, .mv 11 (.t 12)⟩]) (.cond (.t 11) (.reg false [⟨none, .mv 13 (.t 0)⟩, ⟨none, .bwr (some 14) f2 (.t 13) [(.c (.sc (.string ⟨#[49]⟩)))]⟩]) ((.seq (.reg false [⟨none, .bin 16 .eql (.t 6) (.c (.sc (.int .i64 3)))⟩, ⟨none, .mv 15 (.t 16)⟩]) (.cond (.t 15) (.reg false [⟨none, .mv 17 (.t 0)⟩, ⟨none, .fa 18 1 (.t 3)⟩, ⟨none, .ld 19 false 1 (.t 18)⟩, ⟨none, .call (some 20) f1 [(.t 19)]⟩, ⟨none, .bin 21 .add (.c (.sc (.string ⟨#[116]⟩))) (.t 20)⟩, ⟨none, .bwr (some 22) f2 (.t 17) [(.t 21)]⟩]) ((.seq (.reg false [⟨none, .bin 24 .eql (.t 6) (.c (.sc (.int .i64 4)))⟩, ⟨none, .mv 23 (.t 24)⟩]) (.cond (.t 23) (.reg false [⟨none, .mv 25 (.t 0)⟩, ⟨none, .fa 26 1 (.t 3)⟩, ⟨none, .ld 27 false 1 (.t 26)⟩, ⟨none, .call (some 28) f1 [(.t 27)]⟩, ⟨none, .bin 29 .add (.c (.sc (.string ⟨#[97]⟩))) (.t 28)⟩, ⟨none, .bwr (some 30) f2 (.t 25) [(.t 29)]⟩]) ((.seq (.reg false [⟨none, .bin 32 .eql (.t 6) (.c (.sc (.int .i64 5)))⟩, ⟨none, .mv 31 (.t 32)⟩]) (.cond (.t 31) ((.seq (.reg false [⟨none, .mv 33 (.t 0)⟩, ⟨none, .bwr (some 34) f2 (.t 33) [(.c (.sc (.string ⟨#[126]⟩)))]⟩]) (.reg false [⟨none, .mv 35 (.t 0)⟩, ⟨none, .fa 36 2 (.t 3)⟩, ⟨none, .ld 37 false 1 (.t 36)⟩, ⟨none, .ia 38 3 (.t 37) (.c (.sc (.int .i64 0)))⟩, ⟨none, .ld 39 true 3 (.t 38)⟩, ⟨none, .bwr (some 40) g (.t 35) [(.t 39)]⟩]))) ((.seq (.reg false [⟨none, .bin 42 .eql (.t 6) (.c (.sc (.int .i64 8)))⟩, ⟨none, .mv 41 (.t 42)⟩]) (.cond (.t 41) ((.seq (.reg false [⟨none, .mv 43 (.t 0)⟩, ⟨none, .fa 44 2 (.t 3)⟩, ⟨none, .ld 45 false 1 (.t 44)⟩, ⟨none, .ia 46 3 (.t 45) (.c (.sc (.int .i64 0)))⟩, ⟨none, .ld 47 true 3 (.t 46)⟩, ⟨none, .bwr (some 48) g (.t 43) [(.t 47)]⟩]) (.reg false [⟨none, .mv 49 (.t 0)⟩, ⟨none, .bwr (some 50) f2 (.t 49) [(.c (.sc (.string ⟨#[42]⟩)))]⟩]))) ((.seq ((.seq (.reg false [⟨none, .bin 52 .eql (.t 6) (.c (.sc (.int .i64 6)))⟩, ⟨none, .mv 51 (.t 52)⟩]) (.cond (.t 51) (.skip) (.reg false [⟨none, .bin 53 .eql (.t 6) (.c (.sc (.int .i64 7)))⟩, ⟨none, .mv 51 (.t 53)⟩])))) (.cond (.t 51) ((.seq (.reg false [⟨none, .mv 4 (.c (.sc (.string ⟨#[32]⟩)))⟩]) ((.seq ((.seq (.reg false [⟨none, .fa 54 0 (.t 3)⟩, ⟨none, .ld 55 false 1 (.t 54)⟩, ⟨none, .bin 56 .eql (.t 55) (.c (.sc (.int .i64 6)))⟩]) (.cond (.t 56) (.reg false [⟨none, .mv 4 (.c (.sc (.string ⟨#[32, 43, 32]⟩)))⟩]) (.skip)))) ((.seq (.reg false [⟨none, .mv 57 (.t 0)⟩, ⟨none, .bwr (some 58) f2 (.t 57) [(.c (.sc (.string ⟨#[40]⟩)))]⟩]) ((.seq (.reg false [⟨none, .mv 59 (.t 0)⟩, ⟨none, .fa 60 2 (.t 3)⟩, ⟨none, .ld 61 false 1 (.t 60)⟩, ⟨none, .ia 62 3 (.t 61) (.c (.sc (.int .i64 0)))⟩, ⟨none, .ld 63 true 3 (.t 62)⟩, ⟨none, .bwr (some 64) g (.t 59) [(.t 63)]⟩]) ((.seq (.reg false [⟨none, .mv 65 (.t 0)⟩, ⟨none, .mv 66 (.t 4)⟩, ⟨none, .bwr (some 67) f2 (.t 65) [(.t 66)]⟩]) ((.seq (.reg false [⟨none, .mv 68 (.t 0)⟩, ⟨none, .fa 69 2 (.t 3)⟩, ⟨none, .ld 70 false 1 (.t 69)⟩, ⟨none, .ia 71 3 (.t 70) (.c (.sc (.int .i64 1)))⟩, ⟨none, .ld 72 true 3 (.t 71)⟩, ⟨none, .bwr (some 73) g (.t 68) [(.t 72)]⟩]) (.reg false [⟨none, .mv 74 (.t 0)⟩, ⟨none, .bwr (some 75) f2 (.t 74) [(.c (.sc (.string ⟨#[41]⟩)))]⟩]))))))))))))) (.skip))))))))))))))))))))))))))
def K_writeExpr (P : Program) (fno : Nat) : Prop := ∀ (g0 : Int × Int) (hg : okG g0 = true) (e : Ex) (hT : treeE g0 e = true) (hz : (textE e).size ≤ 1000000000), AFB P fno 117 5 [eE e] (textE e)
theorem a_writeExpr {P : Program} (hm : P.follows .mixedOrders = true) {g f1 f2 : Nat} (hr : resF P g = some (76, k_writeExpr g f1 f2, [])) (hc1 : K_imDecimal P f1) (hc2 : K_wrS P f2) : K_writeExpr P g := by
 intro g0 hg e hT hz
 refine Ex.ind (p := fun e => treeE g0 e = true → (textE e).size ≤ 1000000000 → AFB P g 117 5 [eE e] (textE e)) (fun k v nn ks ih hT hz => ?_) e hT hz
 rw [treeE_mk, Bool.and_eq_true, List.all_eq_true] at hT
 have hK := tx_ok hg hT.1
 rw [textE_mk] at hz ⊢
 rw [eE_mk]
 refine afb_of_res (wv := .no) hr hm (by rfl) (by omega) fun hb s hs => ?_
 cases hK with
 | zero hk hks =>
  subst hk hks
  rw [show textOp 1 v ([].map textE) = ⟨#[48]⟩ by simp [textOp]] at hz hs ⊢
  simp only [ByteArray.size_append, bsz, List.size_toArray, List.length_cons, List.length_nil] at hz hs
  simp +contextual -implicitDefEqProofs only [k_writeExpr, stW, eE_mk, eT, eI, D.size, D.sizeL, Int.cast_ofNat_Int, Int.reduceLT, Int.reduceLE, Int.le_refl, Int.reduceBEq, Int.reduceEq, beq_self_eq_true, Int.reduceToNat, List.map_nil, List.map_cons, List.length_cons, List.length_nil, D.at, List.getD_cons_zero, List.getD_cons_succ, encE.sub, eE_size, eE_isAg, sub_agt, sub_agf, sub_sc, sub_ls, isAg_ag, isAg_sc, isAg_ls, List.drop_zero, List.take_succ_cons, List.take_zero, List.drop_succ_cons, go_sem, eB, ↓reduceIte, Nat.reduceEqDiff, Nat.reduceAdd, Nat.reduceLeDiff, Nat.reduceMul, Nat.reduceBEq, Nat.reduceBneDiff, Nat.reduceLT, Nat.reduceSub, Int.ofNat_lt, List.length_map, Int.natCast_nonneg]
  refine bwr_self (T := 117) (E := 5) (t := ⟨#[48]⟩) [.sc (.string ⟨#[48]⟩)] (by rfl) (by rfl) (by rfl) (hc2 ⟨#[48]⟩ (by decide)) (by first | (simp only [ByteArray.size_append, bsz, List.size_toArray, List.length_cons, List.length_nil]; omega) | omega) ?_
  simp +contextual -implicitDefEqProofs only [eE_mk, eT, eI, D.size, D.sizeL, Int.cast_ofNat_Int, Int.reduceLT, Int.reduceLE, Int.le_refl, Int.reduceBEq, Int.reduceEq, beq_self_eq_true, Int.reduceToNat, List.map_nil, List.map_cons, List.length_cons, List.length_nil, D.at, List.getD_cons_zero, List.getD_cons_succ, encE.sub, eE_size, eE_isAg, sub_agt, sub_agf, sub_sc, sub_ls, isAg_ag, isAg_sc, isAg_ls, List.drop_zero, List.take_succ_cons, List.take_zero, List.drop_succ_cons, go_sem, eB, ↓reduceIte, Nat.reduceEqDiff, Nat.reduceAdd, Nat.reduceLeDiff, Nat.reduceMul, Nat.reduceBEq, Nat.reduceBneDiff, Nat.reduceLT, Nat.reduceSub, Int.ofNat_lt, List.length_map, Int.natCast_nonneg]
  exact ⟨rfl, rfl, rfl⟩
 | one hk hks =>
  subst hk hks
  rw [show textOp 2 v ([].map textE) = ⟨#[49]⟩ by simp [textOp]] at hz hs ⊢
  simp only [ByteArray.size_append, bsz, List.size_toArray, List.length_cons, List.length_nil] at hz hs
  simp +contextual -implicitDefEqProofs only [k_writeExpr, stW, eE_mk, eT, eI, D.size, D.sizeL, Int.cast_ofNat_Int, Int.reduceLT, Int.reduceLE, Int.le_refl, Int.reduceBEq, Int.reduceEq, beq_self_eq_true, Int.reduceToNat, List.map_nil, List.map_cons, List.length_cons, List.length_nil, D.at, List.getD_cons_zero, List.getD_cons_succ, encE.sub, eE_size, eE_isAg, sub_agt, sub_agf, sub_sc, sub_ls, isAg_ag, isAg_sc, isAg_ls, List.drop_zero, List.take_succ_cons, List.take_zero, List.drop_succ_cons, go_sem, eB, ↓reduceIte, Nat.reduceEqDiff, Nat.reduceAdd, Nat.reduceLeDiff, Nat.reduceMul, Nat.reduceBEq, Nat.reduceBneDiff, Nat.reduceLT, Nat.reduceSub, Int.ofNat_lt, List.length_map, Int.natCast_nonneg]
  refine bwr_self (T := 117) (E := 5) (t := ⟨#[49]⟩) [.sc (.string ⟨#[49]⟩)] (by rfl) (by rfl) (by rfl) (hc2 ⟨#[49]⟩ (by decide)) (by first | (simp only [ByteArray.size_append, bsz, List.size_toArray, List.length_cons, List.length_nil]; omega) | omega) ?_
  simp +contextual -implicitDefEqProofs only [eE_mk, eT, eI, D.size, D.sizeL, Int.cast_ofNat_Int, Int.reduceLT, Int.reduceLE, Int.le_refl, Int.reduceBEq, Int.reduceEq, beq_self_eq_true, Int.reduceToNat, List.map_nil, List.map_cons, List.length_cons, List.length_nil, D.at, List.getD_cons_zero, List.getD_cons_succ, encE.sub, eE_size, eE_isAg, sub_agt, sub_agf, sub_sc, sub_ls, isAg_ag, isAg_sc, isAg_ls, List.drop_zero, List.take_succ_cons, List.take_zero, List.drop_succ_cons, go_sem, eB, ↓reduceIte, Nat.reduceEqDiff, Nat.reduceAdd, Nat.reduceLeDiff, Nat.reduceMul, Nat.reduceBEq, Nat.reduceBneDiff, Nat.reduceLT, Nat.reduceSub, Int.ofNat_lt, List.length_map, Int.natCast_nonneg]
  exact ⟨rfl, rfl, rfl⟩
 | test hk hks n hv hn =>
  subst hk hks hv
  rw [show textOp 3 n ([].map textE) = ⟨#[116]⟩ ++ decB n by simp [textOp]] at hz hs ⊢
  simp only [ByteArray.size_append, bsz, List.size_toArray, List.length_cons, List.length_nil] at hz hs
  have hdz := decB_size (n := n)
  simp +contextual -implicitDefEqProofs only [k_writeExpr, stW, eE_mk, eT, eI, D.size, D.sizeL, Int.cast_ofNat_Int, Int.reduceLT, Int.reduceLE, Int.le_refl, Int.reduceBEq, Int.reduceEq, beq_self_eq_true, Int.reduceToNat, List.map_nil, List.map_cons, List.length_cons, List.length_nil, D.at, List.getD_cons_zero, List.getD_cons_succ, encE.sub, eE_size, eE_isAg, sub_agt, sub_agf, sub_sc, sub_ls, isAg_ag, isAg_sc, isAg_ls, List.drop_zero, List.take_succ_cons, List.take_zero, List.drop_succ_cons, go_sem, eB, ↓reduceIte, Nat.reduceEqDiff, Nat.reduceAdd, Nat.reduceLeDiff, Nat.reduceMul, Nat.reduceBEq, Nat.reduceBneDiff, Nat.reduceLT, Nat.reduceSub, Int.ofNat_lt, List.length_map, Int.natCast_nonneg]
  refine callQ_self (ds := [eI n]) (by rfl) (hc1 n hn) ?_
  simp +contextual -implicitDefEqProofs only [eE_mk, eT, eI, D.size, D.sizeL, Int.cast_ofNat_Int, Int.reduceLT, Int.reduceLE, Int.le_refl, Int.reduceBEq, Int.reduceEq, beq_self_eq_true, Int.reduceToNat, List.map_nil, List.map_cons, List.length_cons, List.length_nil, D.at, List.getD_cons_zero, List.getD_cons_succ, encE.sub, eE_size, eE_isAg, sub_agt, sub_agf, sub_sc, sub_ls, isAg_ag, isAg_sc, isAg_ls, List.drop_zero, List.take_succ_cons, List.take_zero, List.drop_succ_cons, go_sem, eB, ↓reduceIte, Nat.reduceEqDiff, Nat.reduceAdd, Nat.reduceLeDiff, Nat.reduceMul, Nat.reduceBEq, Nat.reduceBneDiff, Nat.reduceLT, Nat.reduceSub, Int.ofNat_lt, List.length_map, Int.natCast_nonneg]
  refine ⟨by simp only [ByteArray.size_append, bsz, List.size_toArray, List.length_cons, List.length_nil]; omega, ?_⟩
  refine bwr_self (T := 117) (E := 5) (t := ⟨#[116]⟩ ++ decB n) [.sc (.string (⟨#[116]⟩ ++ decB n))] (by rfl) (by rfl) (by rfl) (hc2 (⟨#[116]⟩ ++ decB n) (by simp only [ByteArray.size_append, bsz, List.size_toArray, List.length_cons, List.length_nil]; omega)) (by first | (simp only [ByteArray.size_append, bsz, List.size_toArray, List.length_cons, List.length_nil]; omega) | omega) ?_
  simp +contextual -implicitDefEqProofs only [eE_mk, eT, eI, D.size, D.sizeL, Int.cast_ofNat_Int, Int.reduceLT, Int.reduceLE, Int.le_refl, Int.reduceBEq, Int.reduceEq, beq_self_eq_true, Int.reduceToNat, List.map_nil, List.map_cons, List.length_cons, List.length_nil, D.at, List.getD_cons_zero, List.getD_cons_succ, encE.sub, eE_size, eE_isAg, sub_agt, sub_agf, sub_sc, sub_ls, isAg_ag, isAg_sc, isAg_ls, List.drop_zero, List.take_succ_cons, List.take_zero, List.drop_succ_cons, go_sem, eB, ↓reduceIte, Nat.reduceEqDiff, Nat.reduceAdd, Nat.reduceLeDiff, Nat.reduceMul, Nat.reduceBEq, Nat.reduceBneDiff, Nat.reduceLT, Nat.reduceSub, Int.ofNat_lt, List.length_map, Int.natCast_nonneg]
  exact ⟨rfl, rfl, rfl⟩
 | act hk hks n hv hn =>
  subst hk hks hv
  rw [show textOp 4 n ([].map textE) = ⟨#[97]⟩ ++ decB n by simp [textOp]] at hz hs ⊢
  simp only [ByteArray.size_append, bsz, List.size_toArray, List.length_cons, List.length_nil] at hz hs
  have hdz := decB_size (n := n)
  simp +contextual -implicitDefEqProofs only [k_writeExpr, stW, eE_mk, eT, eI, D.size, D.sizeL, Int.cast_ofNat_Int, Int.reduceLT, Int.reduceLE, Int.le_refl, Int.reduceBEq, Int.reduceEq, beq_self_eq_true, Int.reduceToNat, List.map_nil, List.map_cons, List.length_cons, List.length_nil, D.at, List.getD_cons_zero, List.getD_cons_succ, encE.sub, eE_size, eE_isAg, sub_agt, sub_agf, sub_sc, sub_ls, isAg_ag, isAg_sc, isAg_ls, List.drop_zero, List.take_succ_cons, List.take_zero, List.drop_succ_cons, go_sem, eB, ↓reduceIte, Nat.reduceEqDiff, Nat.reduceAdd, Nat.reduceLeDiff, Nat.reduceMul, Nat.reduceBEq, Nat.reduceBneDiff, Nat.reduceLT, Nat.reduceSub, Int.ofNat_lt, List.length_map, Int.natCast_nonneg]
  refine callQ_self (ds := [eI n]) (by rfl) (hc1 n hn) ?_
  simp +contextual -implicitDefEqProofs only [eE_mk, eT, eI, D.size, D.sizeL, Int.cast_ofNat_Int, Int.reduceLT, Int.reduceLE, Int.le_refl, Int.reduceBEq, Int.reduceEq, beq_self_eq_true, Int.reduceToNat, List.map_nil, List.map_cons, List.length_cons, List.length_nil, D.at, List.getD_cons_zero, List.getD_cons_succ, encE.sub, eE_size, eE_isAg, sub_agt, sub_agf, sub_sc, sub_ls, isAg_ag, isAg_sc, isAg_ls, List.drop_zero, List.take_succ_cons, List.take_zero, List.drop_succ_cons, go_sem, eB, ↓reduceIte, Nat.reduceEqDiff, Nat.reduceAdd, Nat.reduceLeDiff, Nat.reduceMul, Nat.reduceBEq, Nat.reduceBneDiff, Nat.reduceLT, Nat.reduceSub, Int.ofNat_lt, List.length_map, Int.natCast_nonneg]
  refine ⟨by simp only [ByteArray.size_append, bsz, List.size_toArray, List.length_cons, List.length_nil]; omega, ?_⟩
  refine bwr_self (T := 117) (E := 5) (t := ⟨#[97]⟩ ++ decB n) [.sc (.string (⟨#[97]⟩ ++ decB n))] (by rfl) (by rfl) (by rfl) (hc2 (⟨#[97]⟩ ++ decB n) (by simp only [ByteArray.size_append, bsz, List.size_toArray, List.length_cons, List.length_nil]; omega)) (by first | (simp only [ByteArray.size_append, bsz, List.size_toArray, List.length_cons, List.length_nil]; omega) | omega) ?_
  simp +contextual -implicitDefEqProofs only [eE_mk, eT, eI, D.size, D.sizeL, Int.cast_ofNat_Int, Int.reduceLT, Int.reduceLE, Int.le_refl, Int.reduceBEq, Int.reduceEq, beq_self_eq_true, Int.reduceToNat, List.map_nil, List.map_cons, List.length_cons, List.length_nil, D.at, List.getD_cons_zero, List.getD_cons_succ, encE.sub, eE_size, eE_isAg, sub_agt, sub_agf, sub_sc, sub_ls, isAg_ag, isAg_sc, isAg_ls, List.drop_zero, List.take_succ_cons, List.take_zero, List.drop_succ_cons, go_sem, eB, ↓reduceIte, Nat.reduceEqDiff, Nat.reduceAdd, Nat.reduceLeDiff, Nat.reduceMul, Nat.reduceBEq, Nat.reduceBneDiff, Nat.reduceLT, Nat.reduceSub, Int.ofNat_lt, List.length_map, Int.natCast_nonneg]
  exact ⟨rfl, rfl, rfl⟩
 | nt hk a hks =>
  subst hk hks
  rw [show textOp 5 v ([a].map textE) = ⟨#[126]⟩ ++ textE a by simp [textOp]] at hz hs ⊢
  simp only [ByteArray.size_append, bsz, List.size_toArray, List.length_cons, List.length_nil] at hz hs
  have ta := hT.2 a (by simp)
  simp +contextual -implicitDefEqProofs only [k_writeExpr, stW, eE_mk, eT, eI, D.size, D.sizeL, Int.cast_ofNat_Int, Int.reduceLT, Int.reduceLE, Int.le_refl, Int.reduceBEq, Int.reduceEq, beq_self_eq_true, Int.reduceToNat, List.map_nil, List.map_cons, List.length_cons, List.length_nil, D.at, List.getD_cons_zero, List.getD_cons_succ, encE.sub, eE_size, eE_isAg, sub_agt, sub_agf, sub_sc, sub_ls, isAg_ag, isAg_sc, isAg_ls, List.drop_zero, List.take_succ_cons, List.take_zero, List.drop_succ_cons, go_sem, eB, ↓reduceIte, Nat.reduceEqDiff, Nat.reduceAdd, Nat.reduceLeDiff, Nat.reduceMul, Nat.reduceBEq, Nat.reduceBneDiff, Nat.reduceLT, Nat.reduceSub, Int.ofNat_lt, List.length_map, Int.natCast_nonneg]
  refine bwr_self (T := 117) (E := 5) (t := ⟨#[126]⟩) [.sc (.string ⟨#[126]⟩)] (by rfl) (by rfl) (by rfl) (hc2 ⟨#[126]⟩ (by decide)) (by first | (simp only [ByteArray.size_append, bsz, List.size_toArray, List.length_cons, List.length_nil]; omega) | omega) ?_
  simp +contextual -implicitDefEqProofs only [eE_mk, eT, eI, D.size, D.sizeL, Int.cast_ofNat_Int, Int.reduceLT, Int.reduceLE, Int.le_refl, Int.reduceBEq, Int.reduceEq, beq_self_eq_true, Int.reduceToNat, List.map_nil, List.map_cons, List.length_cons, List.length_nil, D.at, List.getD_cons_zero, List.getD_cons_succ, encE.sub, eE_size, eE_isAg, sub_agt, sub_agf, sub_sc, sub_ls, isAg_ag, isAg_sc, isAg_ls, List.drop_zero, List.take_succ_cons, List.take_zero, List.drop_succ_cons, go_sem, eB, ↓reduceIte, Nat.reduceEqDiff, Nat.reduceAdd, Nat.reduceLeDiff, Nat.reduceMul, Nat.reduceBEq, Nat.reduceBneDiff, Nat.reduceLT, Nat.reduceSub, Int.ofNat_lt, List.length_map, Int.natCast_nonneg]
  refine bwr_self (T := 117) (E := 5) (t := textE a) [eE a] (by rfl) (by rfl) (by rfl) (ih a (by simp) ta (by omega)) (by first | (simp only [ByteArray.size_append, bsz, List.size_toArray, List.length_cons, List.length_nil]; omega) | omega) ?_
  simp +contextual -implicitDefEqProofs only [eE_mk, eT, eI, D.size, D.sizeL, Int.cast_ofNat_Int, Int.reduceLT, Int.reduceLE, Int.le_refl, Int.reduceBEq, Int.reduceEq, beq_self_eq_true, Int.reduceToNat, List.map_nil, List.map_cons, List.length_cons, List.length_nil, D.at, List.getD_cons_zero, List.getD_cons_succ, encE.sub, eE_size, eE_isAg, sub_agt, sub_agf, sub_sc, sub_ls, isAg_ag, isAg_sc, isAg_ls, List.drop_zero, List.take_succ_cons, List.take_zero, List.drop_succ_cons, go_sem, eB, ↓reduceIte, Nat.reduceEqDiff, Nat.reduceAdd, Nat.reduceLeDiff, Nat.reduceMul, Nat.reduceBEq, Nat.reduceBneDiff, Nat.reduceLT, Nat.reduceSub, Int.ofNat_lt, List.length_map, Int.natCast_nonneg]
  exact ⟨rfl, rfl, by simp only [ByteArray.append_assoc]⟩
 | sum hk a b hks =>
  subst hk hks
  rw [show textOp 6 v ([a, b].map textE) = ⟨#[40]⟩ ++ textE a ++ ⟨#[32, 43, 32]⟩ ++ textE b ++ ⟨#[41]⟩ by simp [textOp]] at hz hs ⊢
  simp only [ByteArray.size_append, bsz, List.size_toArray, List.length_cons, List.length_nil] at hz hs
  have ta := hT.2 a (by simp)
  have tb := hT.2 b (by simp)
  simp +contextual -implicitDefEqProofs only [k_writeExpr, stW, eE_mk, eT, eI, D.size, D.sizeL, Int.cast_ofNat_Int, Int.reduceLT, Int.reduceLE, Int.le_refl, Int.reduceBEq, Int.reduceEq, beq_self_eq_true, Int.reduceToNat, List.map_nil, List.map_cons, List.length_cons, List.length_nil, D.at, List.getD_cons_zero, List.getD_cons_succ, encE.sub, eE_size, eE_isAg, sub_agt, sub_agf, sub_sc, sub_ls, isAg_ag, isAg_sc, isAg_ls, List.drop_zero, List.take_succ_cons, List.take_zero, List.drop_succ_cons, go_sem, eB, ↓reduceIte, Nat.reduceEqDiff, Nat.reduceAdd, Nat.reduceLeDiff, Nat.reduceMul, Nat.reduceBEq, Nat.reduceBneDiff, Nat.reduceLT, Nat.reduceSub, Int.ofNat_lt, List.length_map, Int.natCast_nonneg]
  refine bwr_self (T := 117) (E := 5) (t := ⟨#[40]⟩) [.sc (.string ⟨#[40]⟩)] (by rfl) (by rfl) (by rfl) (hc2 ⟨#[40]⟩ (by decide)) (by first | (simp only [ByteArray.size_append, bsz, List.size_toArray, List.length_cons, List.length_nil]; omega) | omega) ?_
  simp +contextual -implicitDefEqProofs only [eE_mk, eT, eI, D.size, D.sizeL, Int.cast_ofNat_Int, Int.reduceLT, Int.reduceLE, Int.le_refl, Int.reduceBEq, Int.reduceEq, beq_self_eq_true, Int.reduceToNat, List.map_nil, List.map_cons, List.length_cons, List.length_nil, D.at, List.getD_cons_zero, List.getD_cons_succ, encE.sub, eE_size, eE_isAg, sub_agt, sub_agf, sub_sc, sub_ls, isAg_ag, isAg_sc, isAg_ls, List.drop_zero, List.take_succ_cons, List.take_zero, List.drop_succ_cons, go_sem, eB, ↓reduceIte, Nat.reduceEqDiff, Nat.reduceAdd, Nat.reduceLeDiff, Nat.reduceMul, Nat.reduceBEq, Nat.reduceBneDiff, Nat.reduceLT, Nat.reduceSub, Int.ofNat_lt, List.length_map, Int.natCast_nonneg]
  refine bwr_self (T := 117) (E := 5) (t := textE a) [eE a] (by rfl) (by rfl) (by rfl) (ih a (by simp) ta (by omega)) (by first | (simp only [ByteArray.size_append, bsz, List.size_toArray, List.length_cons, List.length_nil]; omega) | omega) ?_
  simp +contextual -implicitDefEqProofs only [eE_mk, eT, eI, D.size, D.sizeL, Int.cast_ofNat_Int, Int.reduceLT, Int.reduceLE, Int.le_refl, Int.reduceBEq, Int.reduceEq, beq_self_eq_true, Int.reduceToNat, List.map_nil, List.map_cons, List.length_cons, List.length_nil, D.at, List.getD_cons_zero, List.getD_cons_succ, encE.sub, eE_size, eE_isAg, sub_agt, sub_agf, sub_sc, sub_ls, isAg_ag, isAg_sc, isAg_ls, List.drop_zero, List.take_succ_cons, List.take_zero, List.drop_succ_cons, go_sem, eB, ↓reduceIte, Nat.reduceEqDiff, Nat.reduceAdd, Nat.reduceLeDiff, Nat.reduceMul, Nat.reduceBEq, Nat.reduceBneDiff, Nat.reduceLT, Nat.reduceSub, Int.ofNat_lt, List.length_map, Int.natCast_nonneg]
  refine bwr_self (T := 117) (E := 5) (t := ⟨#[32, 43, 32]⟩) [.sc (.string ⟨#[32, 43, 32]⟩)] (by rfl) (by rfl) (by rfl) (hc2 ⟨#[32, 43, 32]⟩ (by decide)) (by first | (simp only [ByteArray.size_append, bsz, List.size_toArray, List.length_cons, List.length_nil]; omega) | omega) ?_
  simp +contextual -implicitDefEqProofs only [eE_mk, eT, eI, D.size, D.sizeL, Int.cast_ofNat_Int, Int.reduceLT, Int.reduceLE, Int.le_refl, Int.reduceBEq, Int.reduceEq, beq_self_eq_true, Int.reduceToNat, List.map_nil, List.map_cons, List.length_cons, List.length_nil, D.at, List.getD_cons_zero, List.getD_cons_succ, encE.sub, eE_size, eE_isAg, sub_agt, sub_agf, sub_sc, sub_ls, isAg_ag, isAg_sc, isAg_ls, List.drop_zero, List.take_succ_cons, List.take_zero, List.drop_succ_cons, go_sem, eB, ↓reduceIte, Nat.reduceEqDiff, Nat.reduceAdd, Nat.reduceLeDiff, Nat.reduceMul, Nat.reduceBEq, Nat.reduceBneDiff, Nat.reduceLT, Nat.reduceSub, Int.ofNat_lt, List.length_map, Int.natCast_nonneg]
  refine bwr_self (T := 117) (E := 5) (t := textE b) [eE b] (by rfl) (by rfl) (by rfl) (ih b (by simp) tb (by omega)) (by first | (simp only [ByteArray.size_append, bsz, List.size_toArray, List.length_cons, List.length_nil]; omega) | omega) ?_
  simp +contextual -implicitDefEqProofs only [eE_mk, eT, eI, D.size, D.sizeL, Int.cast_ofNat_Int, Int.reduceLT, Int.reduceLE, Int.le_refl, Int.reduceBEq, Int.reduceEq, beq_self_eq_true, Int.reduceToNat, List.map_nil, List.map_cons, List.length_cons, List.length_nil, D.at, List.getD_cons_zero, List.getD_cons_succ, encE.sub, eE_size, eE_isAg, sub_agt, sub_agf, sub_sc, sub_ls, isAg_ag, isAg_sc, isAg_ls, List.drop_zero, List.take_succ_cons, List.take_zero, List.drop_succ_cons, go_sem, eB, ↓reduceIte, Nat.reduceEqDiff, Nat.reduceAdd, Nat.reduceLeDiff, Nat.reduceMul, Nat.reduceBEq, Nat.reduceBneDiff, Nat.reduceLT, Nat.reduceSub, Int.ofNat_lt, List.length_map, Int.natCast_nonneg]
  refine bwr_self (T := 117) (E := 5) (t := ⟨#[41]⟩) [.sc (.string ⟨#[41]⟩)] (by rfl) (by rfl) (by rfl) (hc2 ⟨#[41]⟩ (by decide)) (by first | (simp only [ByteArray.size_append, bsz, List.size_toArray, List.length_cons, List.length_nil]; omega) | omega) ?_
  simp +contextual -implicitDefEqProofs only [eE_mk, eT, eI, D.size, D.sizeL, Int.cast_ofNat_Int, Int.reduceLT, Int.reduceLE, Int.le_refl, Int.reduceBEq, Int.reduceEq, beq_self_eq_true, Int.reduceToNat, List.map_nil, List.map_cons, List.length_cons, List.length_nil, D.at, List.getD_cons_zero, List.getD_cons_succ, encE.sub, eE_size, eE_isAg, sub_agt, sub_agf, sub_sc, sub_ls, isAg_ag, isAg_sc, isAg_ls, List.drop_zero, List.take_succ_cons, List.take_zero, List.drop_succ_cons, go_sem, eB, ↓reduceIte, Nat.reduceEqDiff, Nat.reduceAdd, Nat.reduceLeDiff, Nat.reduceMul, Nat.reduceBEq, Nat.reduceBneDiff, Nat.reduceLT, Nat.reduceSub, Int.ofNat_lt, List.length_map, Int.natCast_nonneg]
  exact ⟨rfl, rfl, by simp only [ByteArray.append_assoc]⟩
 | dot hk a b hks =>
  subst hk hks
  rw [show textOp 7 v ([a, b].map textE) = ⟨#[40]⟩ ++ textE a ++ ⟨#[32]⟩ ++ textE b ++ ⟨#[41]⟩ by simp [textOp]] at hz hs ⊢
  simp only [ByteArray.size_append, bsz, List.size_toArray, List.length_cons, List.length_nil] at hz hs
  have ta := hT.2 a (by simp)
  have tb := hT.2 b (by simp)
  simp +contextual -implicitDefEqProofs only [k_writeExpr, stW, eE_mk, eT, eI, D.size, D.sizeL, Int.cast_ofNat_Int, Int.reduceLT, Int.reduceLE, Int.le_refl, Int.reduceBEq, Int.reduceEq, beq_self_eq_true, Int.reduceToNat, List.map_nil, List.map_cons, List.length_cons, List.length_nil, D.at, List.getD_cons_zero, List.getD_cons_succ, encE.sub, eE_size, eE_isAg, sub_agt, sub_agf, sub_sc, sub_ls, isAg_ag, isAg_sc, isAg_ls, List.drop_zero, List.take_succ_cons, List.take_zero, List.drop_succ_cons, go_sem, eB, ↓reduceIte, Nat.reduceEqDiff, Nat.reduceAdd, Nat.reduceLeDiff, Nat.reduceMul, Nat.reduceBEq, Nat.reduceBneDiff, Nat.reduceLT, Nat.reduceSub, Int.ofNat_lt, List.length_map, Int.natCast_nonneg]
  refine bwr_self (T := 117) (E := 5) (t := ⟨#[40]⟩) [.sc (.string ⟨#[40]⟩)] (by rfl) (by rfl) (by rfl) (hc2 ⟨#[40]⟩ (by decide)) (by first | (simp only [ByteArray.size_append, bsz, List.size_toArray, List.length_cons, List.length_nil]; omega) | omega) ?_
  simp +contextual -implicitDefEqProofs only [eE_mk, eT, eI, D.size, D.sizeL, Int.cast_ofNat_Int, Int.reduceLT, Int.reduceLE, Int.le_refl, Int.reduceBEq, Int.reduceEq, beq_self_eq_true, Int.reduceToNat, List.map_nil, List.map_cons, List.length_cons, List.length_nil, D.at, List.getD_cons_zero, List.getD_cons_succ, encE.sub, eE_size, eE_isAg, sub_agt, sub_agf, sub_sc, sub_ls, isAg_ag, isAg_sc, isAg_ls, List.drop_zero, List.take_succ_cons, List.take_zero, List.drop_succ_cons, go_sem, eB, ↓reduceIte, Nat.reduceEqDiff, Nat.reduceAdd, Nat.reduceLeDiff, Nat.reduceMul, Nat.reduceBEq, Nat.reduceBneDiff, Nat.reduceLT, Nat.reduceSub, Int.ofNat_lt, List.length_map, Int.natCast_nonneg]
  refine bwr_self (T := 117) (E := 5) (t := textE a) [eE a] (by rfl) (by rfl) (by rfl) (ih a (by simp) ta (by omega)) (by first | (simp only [ByteArray.size_append, bsz, List.size_toArray, List.length_cons, List.length_nil]; omega) | omega) ?_
  simp +contextual -implicitDefEqProofs only [eE_mk, eT, eI, D.size, D.sizeL, Int.cast_ofNat_Int, Int.reduceLT, Int.reduceLE, Int.le_refl, Int.reduceBEq, Int.reduceEq, beq_self_eq_true, Int.reduceToNat, List.map_nil, List.map_cons, List.length_cons, List.length_nil, D.at, List.getD_cons_zero, List.getD_cons_succ, encE.sub, eE_size, eE_isAg, sub_agt, sub_agf, sub_sc, sub_ls, isAg_ag, isAg_sc, isAg_ls, List.drop_zero, List.take_succ_cons, List.take_zero, List.drop_succ_cons, go_sem, eB, ↓reduceIte, Nat.reduceEqDiff, Nat.reduceAdd, Nat.reduceLeDiff, Nat.reduceMul, Nat.reduceBEq, Nat.reduceBneDiff, Nat.reduceLT, Nat.reduceSub, Int.ofNat_lt, List.length_map, Int.natCast_nonneg]
  refine bwr_self (T := 117) (E := 5) (t := ⟨#[32]⟩) [.sc (.string ⟨#[32]⟩)] (by rfl) (by rfl) (by rfl) (hc2 ⟨#[32]⟩ (by decide)) (by first | (simp only [ByteArray.size_append, bsz, List.size_toArray, List.length_cons, List.length_nil]; omega) | omega) ?_
  simp +contextual -implicitDefEqProofs only [eE_mk, eT, eI, D.size, D.sizeL, Int.cast_ofNat_Int, Int.reduceLT, Int.reduceLE, Int.le_refl, Int.reduceBEq, Int.reduceEq, beq_self_eq_true, Int.reduceToNat, List.map_nil, List.map_cons, List.length_cons, List.length_nil, D.at, List.getD_cons_zero, List.getD_cons_succ, encE.sub, eE_size, eE_isAg, sub_agt, sub_agf, sub_sc, sub_ls, isAg_ag, isAg_sc, isAg_ls, List.drop_zero, List.take_succ_cons, List.take_zero, List.drop_succ_cons, go_sem, eB, ↓reduceIte, Nat.reduceEqDiff, Nat.reduceAdd, Nat.reduceLeDiff, Nat.reduceMul, Nat.reduceBEq, Nat.reduceBneDiff, Nat.reduceLT, Nat.reduceSub, Int.ofNat_lt, List.length_map, Int.natCast_nonneg]
  refine bwr_self (T := 117) (E := 5) (t := textE b) [eE b] (by rfl) (by rfl) (by rfl) (ih b (by simp) tb (by omega)) (by first | (simp only [ByteArray.size_append, bsz, List.size_toArray, List.length_cons, List.length_nil]; omega) | omega) ?_
  simp +contextual -implicitDefEqProofs only [eE_mk, eT, eI, D.size, D.sizeL, Int.cast_ofNat_Int, Int.reduceLT, Int.reduceLE, Int.le_refl, Int.reduceBEq, Int.reduceEq, beq_self_eq_true, Int.reduceToNat, List.map_nil, List.map_cons, List.length_cons, List.length_nil, D.at, List.getD_cons_zero, List.getD_cons_succ, encE.sub, eE_size, eE_isAg, sub_agt, sub_agf, sub_sc, sub_ls, isAg_ag, isAg_sc, isAg_ls, List.drop_zero, List.take_succ_cons, List.take_zero, List.drop_succ_cons, go_sem, eB, ↓reduceIte, Nat.reduceEqDiff, Nat.reduceAdd, Nat.reduceLeDiff, Nat.reduceMul, Nat.reduceBEq, Nat.reduceBneDiff, Nat.reduceLT, Nat.reduceSub, Int.ofNat_lt, List.length_map, Int.natCast_nonneg]
  refine bwr_self (T := 117) (E := 5) (t := ⟨#[41]⟩) [.sc (.string ⟨#[41]⟩)] (by rfl) (by rfl) (by rfl) (hc2 ⟨#[41]⟩ (by decide)) (by first | (simp only [ByteArray.size_append, bsz, List.size_toArray, List.length_cons, List.length_nil]; omega) | omega) ?_
  simp +contextual -implicitDefEqProofs only [eE_mk, eT, eI, D.size, D.sizeL, Int.cast_ofNat_Int, Int.reduceLT, Int.reduceLE, Int.le_refl, Int.reduceBEq, Int.reduceEq, beq_self_eq_true, Int.reduceToNat, List.map_nil, List.map_cons, List.length_cons, List.length_nil, D.at, List.getD_cons_zero, List.getD_cons_succ, encE.sub, eE_size, eE_isAg, sub_agt, sub_agf, sub_sc, sub_ls, isAg_ag, isAg_sc, isAg_ls, List.drop_zero, List.take_succ_cons, List.take_zero, List.drop_succ_cons, go_sem, eB, ↓reduceIte, Nat.reduceEqDiff, Nat.reduceAdd, Nat.reduceLeDiff, Nat.reduceMul, Nat.reduceBEq, Nat.reduceBneDiff, Nat.reduceLT, Nat.reduceSub, Int.ofNat_lt, List.length_map, Int.natCast_nonneg]
  exact ⟨rfl, rfl, by simp only [ByteArray.append_assoc]⟩
 | star hk a hks =>
  subst hk hks
  rw [show textOp 8 v ([a].map textE) = textE a ++ ⟨#[42]⟩ by simp [textOp]] at hz hs ⊢
  simp only [ByteArray.size_append, bsz, List.size_toArray, List.length_cons, List.length_nil] at hz hs
  have ta := hT.2 a (by simp)
  simp +contextual -implicitDefEqProofs only [k_writeExpr, stW, eE_mk, eT, eI, D.size, D.sizeL, Int.cast_ofNat_Int, Int.reduceLT, Int.reduceLE, Int.le_refl, Int.reduceBEq, Int.reduceEq, beq_self_eq_true, Int.reduceToNat, List.map_nil, List.map_cons, List.length_cons, List.length_nil, D.at, List.getD_cons_zero, List.getD_cons_succ, encE.sub, eE_size, eE_isAg, sub_agt, sub_agf, sub_sc, sub_ls, isAg_ag, isAg_sc, isAg_ls, List.drop_zero, List.take_succ_cons, List.take_zero, List.drop_succ_cons, go_sem, eB, ↓reduceIte, Nat.reduceEqDiff, Nat.reduceAdd, Nat.reduceLeDiff, Nat.reduceMul, Nat.reduceBEq, Nat.reduceBneDiff, Nat.reduceLT, Nat.reduceSub, Int.ofNat_lt, List.length_map, Int.natCast_nonneg]
  refine bwr_self (T := 117) (E := 5) (t := textE a) [eE a] (by rfl) (by rfl) (by rfl) (ih a (by simp) ta (by omega)) (by first | (simp only [ByteArray.size_append, bsz, List.size_toArray, List.length_cons, List.length_nil]; omega) | omega) ?_
  simp +contextual -implicitDefEqProofs only [eE_mk, eT, eI, D.size, D.sizeL, Int.cast_ofNat_Int, Int.reduceLT, Int.reduceLE, Int.le_refl, Int.reduceBEq, Int.reduceEq, beq_self_eq_true, Int.reduceToNat, List.map_nil, List.map_cons, List.length_cons, List.length_nil, D.at, List.getD_cons_zero, List.getD_cons_succ, encE.sub, eE_size, eE_isAg, sub_agt, sub_agf, sub_sc, sub_ls, isAg_ag, isAg_sc, isAg_ls, List.drop_zero, List.take_succ_cons, List.take_zero, List.drop_succ_cons, go_sem, eB, ↓reduceIte, Nat.reduceEqDiff, Nat.reduceAdd, Nat.reduceLeDiff, Nat.reduceMul, Nat.reduceBEq, Nat.reduceBneDiff, Nat.reduceLT, Nat.reduceSub, Int.ofNat_lt, List.length_map, Int.natCast_nonneg]
  refine bwr_self (T := 117) (E := 5) (t := ⟨#[42]⟩) [.sc (.string ⟨#[42]⟩)] (by rfl) (by rfl) (by rfl) (hc2 ⟨#[42]⟩ (by decide)) (by first | (simp only [ByteArray.size_append, bsz, List.size_toArray, List.length_cons, List.length_nil]; omega) | omega) ?_
  simp +contextual -implicitDefEqProofs only [eE_mk, eT, eI, D.size, D.sizeL, Int.cast_ofNat_Int, Int.reduceLT, Int.reduceLE, Int.le_refl, Int.reduceBEq, Int.reduceEq, beq_self_eq_true, Int.reduceToNat, List.map_nil, List.map_cons, List.length_cons, List.length_nil, D.at, List.getD_cons_zero, List.getD_cons_succ, encE.sub, eE_size, eE_isAg, sub_agt, sub_agf, sub_sc, sub_ls, isAg_ag, isAg_sc, isAg_ls, List.drop_zero, List.take_succ_cons, List.take_zero, List.drop_succ_cons, go_sem, eB, ↓reduceIte, Nat.reduceEqDiff, Nat.reduceAdd, Nat.reduceLeDiff, Nat.reduceMul, Nat.reduceBEq, Nat.reduceBneDiff, Nat.reduceLT, Nat.reduceSub, Int.ofNat_lt, List.length_map, Int.natCast_nonneg]
  exact ⟨rfl, rfl, by simp only [ByteArray.append_assoc]⟩

def k_textOf (f1 f2 : Nat) : RC := (.seq (.reg false [⟨none, .box 1 3 (.t 0)⟩, ⟨none, .mv 2 (.c (.sc (.string ⟨#[]⟩)))⟩]) ((.seq (.reg false [⟨none, .bld 4 (.ag [(.sc (.pointer none)), (.ls (some true) 1 [])]) []⟩, ⟨none, .zsb 3 117 5⟩, ⟨none, .st 2 (.t 3) (.t 4)⟩]) ((.seq (.reg false [⟨none, .ld 5 true 3 (.t 1)⟩, ⟨none, .bwr (some 6) f1 (.t 3) [(.t 5)]⟩]) ((.seq (.reg false [⟨none, .bst 7 f2 (.t 3)⟩, ⟨none, .mv 2 (.t 7)⟩]) (.ret))))))))
def K_textOf (P : Program) (fno : Nat) : Prop := ∀ (g0 : Int × Int) (hg : okG g0 = true) (e : Ex) (hT : treeE g0 e = true) (hz : (textE e).size ≤ 1000000000), AF P fno [eE e] (.own (eT (textE e)))
theorem a_textOf {P : Program} (hm : P.follows .mixedOrders = true) {g f1 f2 : Nat} (hr : resF P g = some (8, k_textOf f1 f2, [.t 2])) (hc1 : K_writeExpr P f1) (hc2 : K_bdS P f2) : K_textOf P g := by
 intro g0 hg e hT hz
 refine af_of_res hr hm rfl fun hb => ?_
 simp +contextual -implicitDefEqProofs only [k_textOf, eE_mk, eT, eI, D.size, D.sizeL, Int.cast_ofNat_Int, Int.reduceLT, Int.reduceLE, Int.le_refl, Int.reduceBEq, Int.reduceEq, beq_self_eq_true, Int.reduceToNat, List.map_nil, List.map_cons, List.length_cons, List.length_nil, D.at, List.getD_cons_zero, List.getD_cons_succ, encE.sub, eE_size, eE_isAg, sub_agt, sub_agf, sub_sc, sub_ls, isAg_ag, isAg_sc, isAg_ls, List.drop_zero, List.take_succ_cons, List.take_zero, List.drop_succ_cons, go_sem, eB, ↓reduceIte, Nat.reduceEqDiff, Nat.reduceAdd, Nat.reduceLeDiff, Nat.reduceMul, Nat.reduceBEq, Nat.reduceBneDiff, Nat.reduceLT, Nat.reduceSub, Int.ofNat_lt, List.length_map, Int.natCast_nonneg]
 refine bwr_self (T := 117) (E := 5) (t := textE e) [eE e] (by rfl) (by rfl) (by rfl) (hc1 g0 hg e hT hz) (by simp only [ByteArray.size_append, bsz, List.size_toArray, List.length_cons, List.length_nil]; omega) ?_
 simp +contextual -implicitDefEqProofs only [eE_mk, eT, eI, D.size, D.sizeL, Int.cast_ofNat_Int, Int.reduceLT, Int.reduceLE, Int.le_refl, Int.reduceBEq, Int.reduceEq, beq_self_eq_true, Int.reduceToNat, List.map_nil, List.map_cons, List.length_cons, List.length_nil, D.at, List.getD_cons_zero, List.getD_cons_succ, encE.sub, eE_size, eE_isAg, sub_agt, sub_agf, sub_sc, sub_ls, isAg_ag, isAg_sc, isAg_ls, List.drop_zero, List.take_succ_cons, List.take_zero, List.drop_succ_cons, go_sem, eB, ↓reduceIte, Nat.reduceEqDiff, Nat.reduceAdd, Nat.reduceLeDiff, Nat.reduceMul, Nat.reduceBEq, Nat.reduceBneDiff, Nat.reduceLT, Nat.reduceSub, Int.ofNat_lt, List.length_map, Int.natCast_nonneg]
 refine bst_self (T := 117) (E := 5) (by rfl) hc2 ?_
 simp +contextual -implicitDefEqProofs only [eE_mk, eT, eI, D.size, D.sizeL, Int.cast_ofNat_Int, Int.reduceLT, Int.reduceLE, Int.le_refl, Int.reduceBEq, Int.reduceEq, beq_self_eq_true, Int.reduceToNat, List.map_nil, List.map_cons, List.length_cons, List.length_nil, D.at, List.getD_cons_zero, List.getD_cons_succ, encE.sub, eE_size, eE_isAg, sub_agt, sub_agf, sub_sc, sub_ls, isAg_ag, isAg_sc, isAg_ls, List.drop_zero, List.take_succ_cons, List.take_zero, List.drop_succ_cons, e_app, go_sem, eB, ↓reduceIte, Nat.reduceEqDiff, Nat.reduceAdd, Nat.reduceLeDiff, Nat.reduceMul, Nat.reduceBEq, Nat.reduceBneDiff, Nat.reduceLT, Nat.reduceSub, Int.ofNat_lt, List.length_map, Int.natCast_nonneg]
end Go.Ax
