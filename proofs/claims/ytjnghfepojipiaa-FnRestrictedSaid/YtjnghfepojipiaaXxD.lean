/- Contracts of functions of the seat, proved over the engine. No condition. -/
import Derived.Test.YtjnghfepojipiaaXxC
import Derived.Test.YtjnghfepojipiaaXxA
import Derived.Test.YtjnghfepojipiaaXxB
import Derived.Test.YtjnghfepojipiaaEnH
set_option linter.unusedSimpArgs false
set_option linter.unusedVariables false
set_option linter.unnecessarySimpa false
set_option linter.unusedSectionVars false
namespace Go.Ax
set_option maxRecDepth 20000
set_option maxHeartbeats 4000000

def relS (z : Option Bool) (m : Mo) (e : Ex) : SL (SL Bool) × Int := if okMo m = true ∧ okE m.1 e = true then (rTab m.2.1.toNat (relE m e), 0) else ((z, []), 1)
theorem relS_eq {z : Option Bool} {m : Mo} {n : Nat} {e : Ex} (h1 : okMo m = true) (h2 : okE m.1 e = true) (hM : MoOk m n) : relS z m e = (rTab n (relE m e), 0) := by
 have hn : m.2.1.toNat = n := by rw [hM.pts]; rfl
 simp [relS, h1, h2, hn]
theorem rTab_fst {n : Nat} {R : Rel} : (rTab n R).1 = some false := rfl
theorem rTab_map {n : Nat} {R : Rel} : (rTab n R).2.map (eS 1 eB) = rD n R := (D.ls.inj (rD_eq (n := n) (R := R))).2.2
theorem okE_tree {g : Int × Int} {e : Ex} (h : okE g e = true) : treeE g e = true := by
 simp only [okE, bA] at h
 exact h.2.2

def k_imRelationOf (f1 f2 f3 : Nat) : RC := (.seq (.r [.b 2 5 0, .b 3 3 1, .o (.mv 4 (.c (.ls (some true) 1 []))), .v 5 (.ci 0)]) (.seq (.seq (.r [.L 6 5 2, .c 7 f1 [.t 6], .o (.un 8 .not (.t 7)), .m 9 8, .u 9 (.fa 10 0 (.t 2)), .u 9 (.ld 11 true 2 (.t 10)), .u 9 (.ld 12 true 3 (.t 3)), .u 9 (.call (some 13) f2 [.t 11, .t 12]), .u 9 (.un 14 .not (.t 13)), .o (.pick 15 (.t 9) .ct (.t 14))]) (.cond (.t 15) (.seq (.r [.o (.mv 4 (.c (.ls (some true) 1 []))), .v 5 (.ci 1)]) .ret) .skip)) (.seq (.r [.L 16 5 2, .L 17 3 3, .c 18 f3 [.t 16, .t 17], .m 4 18, .v 5 (.ci 0)]) .ret)))
def K_imRelationOf (P : Program) (fno : Nat) : Prop := ∀ (m : Mo) (e : Ex), AF P fno [eM m, eE e] (.tup ([.own (eS 1 (eS 1 eB) (relS (some true) m e).1), .own (eI (relS (some true) m e).2)]))
theorem a_imRelationOf {P : Program} (hm : P.follows .mixedOrders = true) {g f1 f2 f3 : Nat} (hr : resF P g = some (19, k_imRelationOf f1 f2 f3, [.t 4, .t 5])) (hc1 : K_validModel P f1) (hc2 : K_isExpr P f2) (hc3 : K_relation P f3) : K_imRelationOf P g := by
 intro m e
 obtain ⟨k, v, nn, ks, rfl⟩ := Ex.ex e
 rw [eE_mk]
 refine af_of_res hr hm rfl fun hb => ?_
 simp +contextual -implicitDefEqProofs only [k_imRelationOf, eM, eS, eI, D.at, D.size, D.sizeL, D.sub, D.isAg, lN, lC, bne, bN, bU, go_sem]
 refine callQ_self (ds := [eM m]) (by rfl) (hc1 m) ?_
 cases ho : okMo m
 ·rw [show relS (some true) m (.mk k v nn ks) = (((some true), []), 1) by simp [relS, ho]]
  simp +contextual -implicitDefEqProofs only [eB, bE, lN, bN, bU, go_sem]
 obtain ⟨n, hM⟩ := okMo_ok ho
 have hg := hM.g
 have hx := hc2 m.1 (.mk k v nn ks)
 rw [eE_mk] at hx
 simp +contextual -implicitDefEqProofs only [eB, D.at, D.sub, D.isAg, lN, lC, bT, go_sem]
 refine callQ_self (ds := [eG m.1, .ag [.sc (.int .i64 k), .sc (.int .i64 v), .ls nn 3 (ks.map eE)]]) (by rfl) hx ?_
 cases hq : okE m.1 (.mk k v nn ks)
 ·rw [show relS (some true) m (.mk k v nn ks) = (((some true), []), 1) by simp [relS, hq]]
  simp +contextual -implicitDefEqProofs only [eB, bE, lN, bN, bU, go_sem]
 rw [relS_eq ho hq hM]
 have hr0 := hc3 m n (.mk k v nn ks) hM (okE_tree hq)
 rw [eE_mk] at hr0
 simp +contextual -implicitDefEqProofs only [eB, D.at, D.sub, D.isAg, lN, lC, bT, rTab_fst, rTab_map, go_sem]
 refine callQ_self (ds := [eM m, .ag [.sc (.int .i64 k), .sc (.int .i64 v), .ls nn 3 (ks.map eE)]]) (by rfl) hr0 ?_
 simp +contextual -implicitDefEqProofs only [bE, bne, bN, bU, go_sem]

def fI (p : Int → Bool) (l : List Int) : Nat → Int
 | 0 => -1
 | k + 1 => if p (l.getD (l.length - (k + 1)) 0) = true then ((l.length - (k + 1) : Nat) : Int) else fI p l k
theorem fI_step {p : Int → Bool} {l : List Int} {i : Nat} (h : i < l.length) : fI p l (l.length - i) = if p (l.getD i 0) = true then (i : Int) else fI p l (l.length - (i + 1)) := by
 rw [show l.length - i = (l.length - (i + 1)) + 1 by omega]
 simp only [fI]
 rw [show l.length - (l.length - (i + 1) + 1) = i by omega]
theorem fI_pos {p : Int → Bool} {l : List Int} : ∀ {k : Nat}, k ≤ l.length → decide (fI p l k ≥ 0) = (l.drop (l.length - k)).any p
 | 0, _ => by simp [fI]
 | k + 1, h => by
  have hi : l.length - (k + 1) < l.length := by omega
  rw [List.drop_eq_getElem_cons hi]
  have e1 : l.getD (l.length - (k + 1)) 0 = l[l.length - (k + 1)] := by simp [hi]
  have ih := fI_pos (p := p) (l := l) (k := k) (by omega)
  simp only [fI, e1, List.any_cons]
  rw [show l.length - (k + 1) + 1 = l.length - k by omega, ← ih]
  by_cases hp : p l[l.length - (k + 1)] = true
  ·rw [if_pos hp, hp, Bool.true_or]
   exact decide_eq_true (by omega)
  ·rw [if_neg hp, Bool.eq_false_iff.2 hp, Bool.false_or]
theorem fI_any {p : Int → Bool} {l : List Int} : decide (fI p l l.length ≥ 0) = l.any p := by rw [fI_pos (Nat.le_refl _), Nat.sub_self, List.drop_zero]
theorem fI_nil {p : Int → Bool} {l : List Int} : fI p l (l.length - l.length) = -1 := by rw [Nat.sub_self]; rfl
def imL (f : Nat → Bool) (n : Nat) : List Int := ((List.range n).filter f).map fun (i : Nat) => (i : Int)
theorem imL_t {f : Nat → Bool} {n : Nat} (h : f n = true) : imL f (n + 1) = imL f n ++ [(n : Int)] := by simp [imL, List.range_succ, h]
theorem imL_f {f : Nat → Bool} {n : Nat} (h : f n = false) : imL f (n + 1) = imL f n := by simp [imL, List.range_succ, h]
theorem imL_len {f : Nat → Bool} {n : Nat} : (imL f n).length ≤ n := by
 have := List.length_filter_le f (List.range n)
 simpa [imL] using this
theorem imL_zero {f : Nat → Bool} : imL f 0 = [] := rfl
def iD (l : List Int) : List D := l.map eI
theorem iD_app {l : List Int} {v : Int} : iD (l ++ [v]) = iD l ++ [.sc (.int .i64 v)] := by simp [iD, eI]
theorem iD_nil : iD [] = [] := rfl
theorem iD_len {l : List Int} : (iD l).length = l.length := by simp [iD]
theorem iD_map {l : List Int} : l.map eI = iD l := rfl
def hitF (R : Rel) (s : List Int) (y : Nat) : Bool := s.any fun x => R x.toNat y
def askR (m : Mo) (e : Ex) (s : List Int) : Int := if okMo m = true ∧ okE m.1 e = true then (if isSetB m.2.1 s = true then 0 else 2) else 1

def setS (F : Rel → List Int → Nat → Nat → Bool) (z : Option Bool) (m : Mo) (e : Ex) (s : List Int) : SL Int × Int :=
 if askR m e s = 0 then ((some false, imL (F (relE m e) s m.2.1.toNat) m.2.1.toNat), 0) else ((z, []), askR m e s)
abbrev imgS := setS fun R s _ y => hitF R s y
theorem set_mem {m : Mo} {n : Nat} {s : List Int} (hM : MoOk m n) (h : isSetB m.2.1 s = true) {x : Int} (hx : x ∈ s) : 0 ≤ x ∧ x.toNat < n ∧ x < (n : Int) := by
 have h1 := hM.pts
 simp only [isSetB, allIn, bA, List.all_eq_true, isIn_iff'] at h
 have h2 := h.2 x hx
 omega
def k_indexFI : RC := (.seq (.r [.v 4 (.ci 0)]) (.seq (.seq (.r [.m 6 0, .o (.len 7 (.t 6)), .v 8 (.ci 0)]) (.blk 0 (.loop (.seq (.r [.o (.bin 9 .lss (.t 8) (.t 7))]) (.seq (.cond (.t 9) .skip (.exit 0)) (.seq (.blk 1 (.seq (.r [.m 10 8, .m 5 10]) (.seq (.r [.m 11 1, .m 12 0, .m 13 5, .o (.ia 14 1 (.t 12) (.t 13)), .l 15 1 14, .o (.calv (some 16) (.t 11) [.t 15])]) (.cond (.t 16) (.seq (.r [.m 17 5, .m 4 17]) .ret) .skip)))) (.r [.o (.bin 18 .add (.t 8) (.ci 1)), .m 8 18]))))))) (.seq (.r [.o (.mv 4 (.c (.sc (.int .i64 (-1)))))]) .ret)))
def K_indexFI (P : Program) (fno : Nat) : Prop := ∀ (s : SL Int) (f : Nat) (caps : List D) (p : Int → Bool) (hf : ∀ x ∈ s.2, AF P f (eI x :: caps) (.own (eB (p x)))), AF P fno [eS 1 eI s, .fn f caps] (.own (eI (fI p s.2 s.2.length)))
theorem a_indexFI {P : Program} (hm : P.follows .mixedOrders = true) {g : Nat} (hr : resF P g = some (19, k_indexFI, [.t 4])) : K_indexFI P g := by
 intro s f caps p hf
 refine af_of_res hr hm rfl fun hb => ?_
 have hl := bd_ls hb.1
 simp only [lM] at hl
 simp +contextual -implicitDefEqProofs only [k_indexFI, eS, go_sem, eI, lM]
 refine vc_onU (α := Nat) [4, 5, 8, 9, 10, 11, 12, 13, 14, 15, 16, 17, 18] (fun i => [(8, .im none (.sc (.int .i64 i)))]) (fun i => []) (fun i => i ≤ s.2.length ∧ fI p s.2 s.2.length = fI p s.2 (s.2.length - i)) (fun i => s.2.length - i) 0 (Ent.to [] (by simp only [go_sem]; rfl) rfl (by simp) (by rfl) (by simp only [subEnv, go_sem, keep, memN] <;> simp)) ⟨Nat.zero_le _, rfl⟩ ?_
 rintro i ⟨hi0, hi1⟩
 by_cases hi : i < s.2.length
 ·rw [fI_step hi] at hi1
  have e1 := at_mapD (f := eI) (d := 0) hi
  simp +contextual -implicitDefEqProofs only [hi, e1, eI, Int.toNat_natCast, go_sem, iL, lM, iN]
  refine callQ_self (ds := eI (s.2.getD i 0) :: caps) (by simp only [argsOf, AV.arg, argsOf_ims]; rfl) (hf _ (getD_mem hi)) ?_
  cases hp : p (s.2.getD i 0)
  ·rw [if_neg (by rw [hp]; exact Bool.false_ne_true)] at hi1
   simp +contextual -implicitDefEqProofs only [go_sem, eB]
   rw [wrap_i64 (by omega) (by omega)]
   exact ⟨i + 1, ⟨by omega, hi1⟩, by omega, Ent.to [] (by simp only [go_sem]; rfl) rfl (by simp) (by rfl) (by simp only [subEnv, go_sem] <;> simp)⟩
  ·rw [if_pos hp] at hi1
   simp +contextual -implicitDefEqProofs only [hi1, go_sem, eB]
 ·obtain rfl : i = s.2.length := by omega
  rw [fI_nil] at hi1
  simp +contextual -implicitDefEqProofs only [hi, hi1, go_sem, iL]

def k_containsFI (f1 : Nat) : RC := (.seq (.r [.v 4 .cf]) (.seq (.r [.m 5 0, .m 6 1, .c 7 f1 [.t 5, .t 6], .o (.bin 8 .geq (.t 7) (.ci 0)), .m 4 8]) .ret))
def K_containsFI (P : Program) (fno : Nat) : Prop := ∀ (s : SL Int) (f : Nat) (caps : List D) (p : Int → Bool) (hf : ∀ x ∈ s.2, AF P f (eI x :: caps) (.own (eB (p x)))), AF P fno [eS 1 eI s, .fn f caps] (.own (eB (s.2.any p)))
theorem a_containsFI {P : Program} (hm : P.follows .mixedOrders = true) {g f1 : Nat} (hr : resF P g = some (9, k_containsFI f1, [.t 4])) (hc1 : K_indexFI P f1) : K_containsFI P g := by
 intro s f caps p hf
 refine af_of_res hr hm rfl fun hb => ?_
 simp +contextual -implicitDefEqProofs only [k_containsFI, go_sem, eB]
 refine callQ_self (ds := [eS 1 eI s, .fn f caps]) (by rfl) (hc1 s f caps p hf) ?_
 simp +contextual -implicitDefEqProofs only [eI, ← fI_any, go_sem]

def bSt (F : Int → Int → Bool × Int × Int) : Nat → Int × Int
 | 0 => (0, 0)
 | x + 1 => (F (bSt F x).1 (bSt F x).2).2
def bF (F : Int → Int → Bool × Int × Int) (x : Nat) : Bool := (F (bSt F x).1 (bSt F x).2).1
theorem bSt_bd {P : Program} {f2 : Nat} {nn : Option Bool} {c : List Int} {F : Int → Int → Bool × Int × Int} (hF : OneS P f2 nn c F) : ∀ x : Nat, x ≤ 1000 → 0 ≤ (bSt F x).1 ∧ (bSt F x).1 ≤ 2 * x
 | 0, _ => by simp [bSt]
 | x + 1, h => by
  obtain ⟨i1, i2⟩ := bSt_bd hF x (by omega)
  obtain ⟨p1, p2, _⟩ := hF (bSt F x).1 (bSt F x).2 (by omega) (by omega)
  simp only [bSt]; push_cast
  exact ⟨by omega, by omega⟩
theorem imL_mem {f : Nat → Bool} {n : Nat} {v : Int} : v ∈ imL f n ↔ ∃ i : Nat, i < n ∧ f i = true ∧ (i : Int) = v := by
 simp only [imL, List.mem_map, List.mem_filter, List.mem_range]
 constructor
 ·rintro ⟨i, ⟨h1, h2⟩, h3⟩; exact ⟨i, h1, h2, h3⟩
 ·rintro ⟨i, h1, h2, h3⟩; exact ⟨i, ⟨h1, h2⟩, h3⟩
def k_p6Model (f1 f2 : Nat) : RC := (.seq (.r [.b 3 2 1, .o (.zer 4 5 (.ag [(.sc (.int .i64 0)), (.sc (.int .i64 0)), (.sc (.int .i64 0)), (.ls (some true) 1 []), (.ls (some true) 1 [])]))]) (.seq (.reg true [.m 5 0, .c 6 f1 [.t 5], .L 7 2 3, .o (.wcl (some 8) f2 [.t 6, .t 7, .ci 4]), .s 5 4 8]) .ret))
def K_p6Model (P : Program) (fno : Nat) : Prop := ∀ (nn : Option Bool) (c : List Int) (g : Int × Int), srcOk c → okG g = true → ∃ mo, mo.1 = g ∧ okMo mo = true ∧ mo.2.1 ≤ 4 ∧ 1 ≤ mo.2.1 ∧ AF P fno [.ls nn 1 (c.map eU), eG g] (.own (eM mo))
theorem a_p6Model {P : Program} (hm : P.follows .mixedOrders = true) {g f1 f2 : Nat} (hr : resF P g = some (9, k_p6Model f1 f2, [.c 4 5 true])) (hc1 : K_l00From P f1) (hc2 : K_l05Draw P f2) : K_p6Model P g := by
 intro nn c g hc hg
 obtain ⟨a1, sd1, mo, s1, s2, s3, s4, s5, s6, hE⟩ := hc2 nn c 0 0 g 4 hc hg (by omega) (by omega) (by omega) (by omega)
 refine ⟨mo, s3, s4, s5, s6, ?_⟩
 refine af_of_res hr hm rfl fun hb => ?_
 simp +contextual -implicitDefEqProofs only [k_p6Model, eI, eG, eM, eS, D.size, D.sizeL, bne, bN, bU, go_sem]
 refine callQ_self ?_ (hc1 nn c) ?_
 ·exact rfl
 simp +contextual -implicitDefEqProofs only [srcD, D.size, D.sizeL, D.isAg, D.sub, bne, bN, bU, go_sem]
 refine wcl_self [6] [] (by rfl) (by rfl) (by rfl) hE rfl (by simp [wOut, outU, uS, srcD, noPtrs, D.noPtr, shWL, AV.shW, posW, shUs, U.shW, St.unit, lu]) ?_
 simp +contextual -implicitDefEqProofs only [uS, srcD, eI, eM, eS, D.put, D.size, D.sizeL, D.isAg, D.sub, modeOf, noPtrs, bne, bN, bI, bU, bJ, Bool.or_false, go_sem]
theorem imL_asc {f : Nat → Bool} : ∀ {n : Nat}, asc (imL f n) = true := by
 intro n
 have hp : (imL f n).Pairwise (· < ·) := by
  unfold imL
  rw [List.pairwise_map]
  exact (List.pairwise_lt_range.filter f).imp fun h => by omega
 rw [List.pairwise_iff_getElem] at hp
 simp only [asc, ascI, List.all_eq_true, List.mem_range, decide_eq_true_eq]
 intro i hi
 have h := hp i (i + 1) (by omega) (by omega) (by omega)
 rw [getD_at (by omega), getD_at (by omega)]
 exact h

def k_p6Points (f1 f2 : Nat) : RC := (.seq (.r [.b 3 5 1, .o (.mv 4 (.c (.ls (some true) 1 [])))]) (.seq (.r [.m 8 0, .c 9 f1 [.t 8], .m 5 9]) (.seq (.r [.o (.bs 10 1 (.sc (.int .i64 0)) 0 []), .m 6 10]) (.seq (.seq (.r [.v 7 (.ci 0)]) (.blk 0 (.loop (.seq (.seq (.r [.m 11 7, .f 12 2 3, .l 13 1 12, .o (.bin 14 .lss (.t 11) (.t 13))]) (.cond (.t 14) .skip (.exit 0))) (.seq (.blk 1 (.seq (.r [.m 17 5, .o (.wcl (some 18) f2 [.t 17, .ci 2])]) (.cond (.t 18) (.r [.m 19 6, .m 20 7, .o (.bs 21 1 (.sc (.int .i64 0)) 1 [(0, (.t 20))]), .o (.app 22 1 8 (.t 19) (.t 21)), .m 6 22]) .skip))) (.r [.m 15 7, .o (.bin 16 .add (.t 15) (.ci 1)), .m 7 16])))))) (.seq (.r [.m 23 6, .m 4 23]) .ret)))))
def K_p6Points (P : Program) (fno : Nat) : Prop := ∀ (nn : Option Bool) (c : List Int) (m : Mo) (n : Nat), srcOk c → m.2.1 = n → n ≤ 8 → ∃ s : List Int, isSetB n s = true ∧ AF P fno [.ls nn 1 (c.map eU), eM m] (.own (eS 1 eI (some false, s)))
theorem a_p6Points {P : Program} (hm : P.follows .mixedOrders = true) {g f1 f2 : Nat} (hr : resF P g = some (24, k_p6Points f1 f2, [.t 4])) (hc1 : K_l00From P f1) (hc2 : K_srcOne P f2) : K_p6Points P g := by
 intro nn c m n hc hn hn8
 obtain ⟨F, hF⟩ := one_fun hc2 nn hc
 refine ⟨imL (bF F) n, ?_, ?_⟩
 ·have hlt : ∀ n, ∀ x ∈ imL (bF F) n, 0 ≤ x ∧ x < n := fun n x hx => by
   obtain ⟨i, h1, _, rfl⟩ := imL_mem.1 hx
   omega
  simp only [isSetB, bA]
  constructor
  ·exact imL_asc
  ·simp only [allIn, List.all_eq_true]
   intro x hx
   have := hlt n x hx
   simp [isIn]; omega
 obtain ⟨⟨g1, g2⟩, p, T, A⟩ := m
 simp only at hn
 subst hn
 refine af_of_res hr hm rfl fun hb => ?_
 simp +contextual -implicitDefEqProofs only [k_p6Points, eI, eM, eS, D.size, D.sizeL, bU, go_sem]
 refine callQ_self ?_ (hc1 nn c) ?_
 ·exact rfl
 simp +contextual -implicitDefEqProofs only [srcD, D.size, D.sizeL, bne, bN, bU, go_sem]
 refine vc_onU (α := Nat) [6, 7, 10, 11, 12, 13, 14, 15, 16, 17, 18, 19, 20, 21, 22] (fun x => [(7, .im none (.sc (.int .i64 x))), (6, .sm 10 0 (imL (bF F) x).length)]) (fun x => [(10, .ar true (some false) 1 (iD (imL (bF F) x))), (9, .ar false (some false) 3 [.ag [.ls nn 1 (c.map eU), .sc (.int .i64 (bSt F x).1), .sc (.int .u64 (bSt F x).2)]]), (3, .ar false (some false) 5 [.ag [.sc (.int .i64 g1), .sc (.int .i64 g2), .sc (.int .i64 n), .ls T.1 1 (T.2.map (eS 1 eB)), .ls A.1 1 (A.2.map (eS 1 (eS 1 eB)))]])]) (fun x => x ≤ n) (fun x => n - x) 0 (Ent.to [] (by simp only [go_sem]; rfl) rfl (by simp [imL_zero, iD_nil, bSt]) (by rfl) (by simp only [subEnv, go_sem, keep, memN] <;> simp [imL_zero])) (Nat.zero_le _) ?_
 intro x hx0
 obtain ⟨q1, q2⟩ := bSt_bd hF x (by omega)
 have hbd := @imL_len (bF F) x
 by_cases hx : x < n
 ·have hO := (hF (bSt F x).1 (bSt F x).2 (by omega) (by omega)).2.2
  rw [show (F (bSt F x).1 (bSt F x).2).1 = bF F x from rfl] at hO
  simp +contextual -implicitDefEqProofs only [hx, iL, D.isAg, D.sub, go_sem]
  refine wcl_self [9] [] (by rfl) (by rfl) (by rfl) hO rfl (by simp [wOut, outU, uS, srcD, noPtrs, D.noPtr, shWL, AV.shW, posW, shUs, U.shW, St.unit, lu]) ?_
  cases hv : bF F x
  ·simp +contextual -implicitDefEqProofs only [uS, srcD, eB, Bool.or_false, go_sem]
   rw [wrap_i64 (by omega) (by omega)]
   exact ⟨x + 1, by omega, by omega, Ent.to [] (by simp only [go_sem]; rfl) rfl (by simp [imL_f hv, bSt]) (by rfl) (by simp only [subEnv, go_sem] <;> simp [imL_f hv])⟩
  ·simp +contextual -implicitDefEqProofs only [uS, srcD, eB, iD_len, D.size, modeOf, noPtrs, bne, bN, bU, Bool.or_true, Bool.or_false, go_sem, Nat.reduceMul]
   refine ⟨rfl, ⟨by (try simp); omega, by unfold maxEl; (try simp); omega, by simp [D.size]⟩, x + 1, by omega, by omega, ?_⟩
   rw [wrap_i64 (by omega) (by omega)]
   exact Ent.to [] (by simp only [go_sem]; rfl) rfl (by simp [imL_t hv, iD_app, bSt]) (by rfl) (by simp only [subEnv, go_sem] <;> simp [imL_t hv])
 ·obtain rfl : n = x := by omega
  simp +contextual -implicitDefEqProofs only [hx, iL, iD_len, D.isAg, D.sub, go_sem]
  exact D.Le.refl _
theorem take_getD {α : Type} {l : List α} {i : Nat} {d : α} (h : i < l.length) : l.take (i + 1) = l.take i ++ [l.getD i d] := by
 rw [List.take_succ_eq_append_getElem h]; simp [h]

theorem all_take {α : Type} {p : α → Bool} {l : List α} {i : Nat} {d : α} (h : i < l.length) : (l.take (i + 1)).all p = ((l.take i).all p && p (l.getD i d)) := by
 rw [take_getD (d := d) h, List.all_append]; simp
theorem all_false {α : Type} {p : α → Bool} {l : List α} {i : Nat} (h : (l.take i).all p = false) : l.all p = false := by
 rw [← List.take_append_drop i l, List.all_append, h, bG]

def k_f6square : RC := (.seq (.r [.v 4 .cf]) (.seq (.seq (.r [.m 6 0, .o (.len 7 (.t 6)), .m 8 1, .o (.bin 9 .neq (.t 7) (.t 8))]) (.cond (.t 9) (.seq (.r [.v 4 .cf]) .ret) .skip)) (.seq (.seq (.r [.v 5 (.ci 0)]) (.blk 0 (.loop (.seq (.seq (.r [.m 10 5, .m 11 0, .o (.len 12 (.t 11)), .o (.bin 13 .lss (.t 10) (.t 12))]) (.cond (.t 13) .skip (.exit 0))) (.seq (.blk 1 (.seq (.r [.m 16 0, .m 17 5, .o (.ia 18 1 (.t 16) (.t 17)), .l 19 1 18, .o (.len 20 (.t 19)), .m 21 1, .o (.bin 22 .neq (.t 20) (.t 21))]) (.cond (.t 22) (.seq (.r [.v 4 .cf]) .ret) .skip))) (.r [.m 14 5, .o (.bin 15 .add (.t 14) (.ci 1)), .m 5 15])))))) (.seq (.r [.v 4 .ct]) .ret))))
def K_f6square (P : Program) (fno : Nat) : Prop := ∀ (t : SL (SL Bool)) (n : Int), AF P fno [eS 1 (eS 1 eB) t, eI n] (.own (eB (tabOk n n t)))
theorem a_f6square {P : Program} (hm : P.follows .mixedOrders = true) {g : Nat} (hr : resF P g = some (23, k_f6square, [.t 4])) : K_f6square P g := by
 intro t n
 refine af_of_res hr hm rfl fun hb => ?_
 have hl := bd_ls hb.1
 simp only [lM] at hl
 by_cases hlen : (t.2.length : Int) = n
 case neg =>
  have h1 : ((t.2.length : Int) == n) = false := by simpa using hlen
  rw [show tabOk n n t = false by simp [tabOk, lenIs, h1]]
  simp +contextual -implicitDefEqProofs only [k_f6square, eS, h1, bne, bN, lM, go_sem, eI, eB]
 have h1 : ((t.2.length : Int) == n) = true := by simpa using hlen
 rw [show tabOk n n t = t.2.all (lenIs n) by simp [tabOk, lenIs, h1]]
 simp +contextual -implicitDefEqProofs only [k_f6square, eS, eB, h1, bne, bT, lM, go_sem, eI]
 refine vc_onU (α := Nat) [4, 5, 10, 11, 12, 13, 14, 15, 16, 17, 18, 19, 20, 21, 22] (fun i => [(5, .im none (.sc (.int .i64 i)))]) (fun i => []) (fun i => i ≤ t.2.length ∧ (t.2.take i).all (lenIs n) = true) (fun i => t.2.length - i) 0 (Ent.to [] (by simp only [go_sem]; rfl) rfl (by simp) (by rfl) (by simp only [subEnv, go_sem, keep, memN] <;> simp)) ⟨Nat.zero_le _, rfl⟩ ?_
 rintro i ⟨hi0, hi1⟩
 by_cases hi : i < t.2.length
 ·have e1 := at_mapD (f := eS 1 eB) (d := (none, [])) hi
  have e2 := all_take (p := lenIs n) (d := (none, [])) hi
  rw [hi1, bI] at e2
  cases hp : lenIs n (t.2.getD i (none, []))
  ·have hp' : ((((t.2.getD i (none, [])).2.length : Nat) : Int) == n) = false := hp
   rw [all_false (e2.trans hp)]
   simp +contextual -implicitDefEqProofs only [hi, e1, eS, Int.toNat_natCast, hp', bne, bN, iL, lM, go_sem, iN]
  ·have hp' : ((((t.2.getD i (none, [])).2.length : Nat) : Int) == n) = true := hp
   simp +contextual -implicitDefEqProofs only [hi, e1, eS, Int.toNat_natCast, hp', bne, bT, iL, lM, go_sem, iN]
   rw [wrap_i64 (by omega) (by omega)]
   exact ⟨i + 1, ⟨by omega, e2.trans hp⟩, by omega, Ent.to [] (by simp only [go_sem]; rfl) rfl (by simp) (by rfl) (by simp only [subEnv, go_sem] <;> simp)⟩
 ·obtain rfl : i = t.2.length := by omega
  rw [List.take_length] at hi1
  rw [hi1]
  simp +contextual -implicitDefEqProofs only [hi, iL, lM, go_sem]
theorem setS_no {F : Rel → List Int → Nat → Nat → Bool} {z : Option Bool} {m : Mo} {e : Ex} {s : List Int} {k : Int} (h : askR m e s = k) (hk : k ≠ 0) : setS F z m e s = ((z, []), k) := by simp [setS, h, hk]
theorem setS_ok {F : Rel → List Int → Nat → Nat → Bool} {z : Option Bool} {m : Mo} {n : Nat} {e : Ex} {s : List Int} (hM : MoOk m n) (h : askR m e s = 0) : setS F z m e s = ((some false, imL (F (relE m e) s n) n), 0) := by
 have hn : m.2.1.toNat = n := by rw [hM.pts]; rfl
 simp [setS, h, hn]
theorem imL_bd {f : Nat → Bool} {y n : Nat} (h : y ≤ n) : (imL f y).length ≤ n := Nat.le_trans imL_len h

def k_imageOf1 : RC := (.seq (.r [.v 4 .cf]) (.seq (.reg true [.l 5 1 1, .m 6 0, .o (.ia 7 1 (.t 5) (.t 6)), .l 8 1 7, .l 9 1 2, .o (.ia 10 1 (.t 8) (.t 9)), .l 11 1 10, .m 4 11]) .ret))
def K_imageOf1 (P : Program) (fno : Nat) : Prop := ∀ (n : Nat) (R : Rel) (x : Int) (y : Nat) (hx0 : 0 ≤ x) (hx1 : x.toNat < n) (hy : y < n), AF P fno [eI x, .pt (.ls (some false) 1 (rD n R)) 0, .pt (eI y) 0] (.own (eB (R x.toNat y)))
theorem a_imageOf1 {P : Program} (hm : P.follows .mixedOrders = true) {g : Nat} (hr : resF P g = some (12, k_imageOf1, [.t 4])) : K_imageOf1 P g := by
 intro n R x y hx0 hx1 hy
 have b1 := rD_at (R := R) hx1
 have b2 := rRow_at (f := R x.toNat) hy
 have hx2 : x < (n : Int) := by omega
 refine af_of_res hr hm rfl fun hb => ?_
 simp +contextual -implicitDefEqProofs only [k_imageOf1, b1, b2, hx0, hx2, hy, rD_len, rRow_len, Int.toNat_natCast, eI, eB, D.size, D.sub, D.isAg, go_sem, iL, iN]

def k_imImage (f1 f2 f3 f4 f5 f6 : Nat) : RC := (.seq (.r [.b 3 5 0, .b 4 3 1, .o (.mv 6 (.c (.ls (some true) 1 []))), .v 7 (.ci 0)]) (.seq (.seq (.r [.L 11 5 3, .c 12 f1 [.t 11], .o (.un 13 .not (.t 12)), .m 14 13, .u 14 (.fa 15 0 (.t 3)), .u 14 (.ld 16 true 2 (.t 15)), .u 14 (.ld 17 true 3 (.t 4)), .u 14 (.call (some 18) f2 [.t 16, .t 17]), .u 14 (.un 19 .not (.t 18)), .o (.pick 20 (.t 14) .ct (.t 19))]) (.cond (.t 20) (.seq (.r [.o (.mv 6 (.c (.ls (some true) 1 []))), .v 7 (.ci 1)]) .ret) .skip)) (.seq (.seq (.r [.L 21 5 3, .m 22 2, .c 23 f3 [.t 21, .t 22], .o (.un 24 .not (.t 23))]) (.cond (.t 24) (.seq (.r [.o (.mv 6 (.c (.ls (some true) 1 []))), .v 7 (.ci 2)]) .ret) .skip)) (.seq (.r [.L 25 5 3, .L 26 3 4, .c 27 f4 [.t 25, .t 26], .o (.zer 8 1 (.ls (some true) 1 [])), .s 1 8 27]) (.seq (.r [.o (.bs 28 1 (.sc (.int .i64 0)) 0 []), .m 9 28]) (.seq (.seq (.r [.f 29 2 3, .l 30 1 29, .v 31 (.ci 0)]) (.blk 0 (.loop (.seq (.r [.o (.bin 32 .lss (.t 31) (.t 30))]) (.seq (.cond (.t 32) .skip (.exit 0)) (.seq (.blk 1 (.seq (.r [.m 33 31, .o (.zer 10 1 (.sc (.int .i64 0))), .s 1 10 33]) (.seq (.r [.m 34 2, .o (.mkf 35 f6 [.t 8, .t 10]), .c 36 f5 [.t 34, .t 35]]) (.cond (.t 36) (.r [.m 37 9, .l 38 1 10, .o (.bs 39 1 (.sc (.int .i64 0)) 1 [(0, (.t 38))]), .o (.app 40 1 8 (.t 37) (.t 39)), .m 9 40]) .skip)))) (.r [.o (.bin 41 .add (.t 31) (.ci 1)), .m 31 41]))))))) (.seq (.r [.m 42 9, .m 6 42, .v 7 (.ci 0)]) .ret)))))))
def K_imImage (P : Program) (fno : Nat) : Prop := ∀ (m : Mo) (e : Ex) (s : SL Int), AF P fno [eM m, eE e, eS 1 eI s] (.tup ([.own (eS 1 eI (imgS (some true) m e s.2).1), .own (eI (imgS (some true) m e s.2).2)]))
theorem a_imImage {P : Program} (hm : P.follows .mixedOrders = true) {g f1 f2 f3 f4 f5 f6 : Nat} (hr : resF P g = some (43, k_imImage f1 f2 f3 f4 f5 f6, [.t 6, .t 7])) (hc1 : K_validModel P f1) (hc2 : K_isExpr P f2) (hc3 : K_isSet P f3) (hc4 : K_relation P f4) (hc5 : K_containsFI P f5) (hc6 : K_imageOf1 P f6) : K_imImage P g := by
 intro m e s
 unfold imgS
 obtain ⟨k, v, nn, ks, rfl⟩ := Ex.ex e
 obtain ⟨gs, p, T, A⟩ := m
 rw [eE_mk]
 refine af_of_res hr hm rfl fun hb => ?_
 simp +contextual -implicitDefEqProofs only [k_imImage, eM, eS, eI, at0, D.size, D.sizeL, D.sub, D.isAg, lN, lC, bne, bN, bU, go_sem]
 refine callQ_self (ds := [eM (gs, p, T, A)]) (by rfl) (hc1 (gs, p, T, A)) ?_
 cases ho : okMo (gs, p, T, A)
 ·rw [setS_no (k := 1) (by simp [askR, ho]) (by decide)]
  simp +contextual -implicitDefEqProofs only [eB, bE, lN, bN, bU, go_sem]
 obtain ⟨n, hM⟩ := okMo_ok ho
 obtain rfl : p = n := hM.pts
 have n8 := hM.n8
 have hxe := hc2 gs (.mk k v nn ks)
 rw [eE_mk] at hxe
 simp +contextual -implicitDefEqProofs only [eB, at0, D.sub, D.isAg, lN, lC, bT, go_sem]
 refine callQ_self (ds := [eG gs, .ag [.sc (.int .i64 k), .sc (.int .i64 v), .ls nn 3 (ks.map eE)]]) (by rfl) hxe ?_
 cases hq : okE gs (.mk k v nn ks)
 ·rw [setS_no (k := 1) (by simp [askR, hq]) (by decide)]
  simp +contextual -implicitDefEqProofs only [eB, bE, lN, bN, bU, go_sem]
 simp +contextual -implicitDefEqProofs only [eB, at0, D.sub, D.isAg, lN, lC, bT, go_sem]
 refine callQ_self (ds := [eM (gs, (n : Int), T, A), eS 1 eI s]) (by rfl) (hc3 (gs, (n : Int), T, A) s (by simp only; omega)) ?_
 cases hs : isSetB (n : Int) s.2
 ·rw [setS_no (k := 2) (by simp [askR, ho, hq, hs]) (by decide)]
  simp +contextual -implicitDefEqProofs only [eB, bE, lN, bN, bU, go_sem]
 rw [setS_ok hM (show askR (gs, (n : Int), T, A) (.mk k v nn ks) s.2 = 0 by simp [askR, ho, hq, hs])]
 have hrel := hc4 (gs, (n : Int), T, A) n (.mk k v nn ks) hM (okE_tree hq)
 rw [eE_mk] at hrel
 have hsl := fun x hx => set_mem hM hs (x := x) hx
 simp +contextual -implicitDefEqProofs only [eB, at0, D.sub, D.isAg, lN, lC, bT, go_sem]
 refine callQ_self (ds := [eM (gs, (n : Int), T, A), .ag [.sc (.int .i64 k), .sc (.int .i64 v), .ls nn 3 (ks.map eE)]]) (by rfl) hrel ?_
 generalize relE (gs, (n : Int), T, A) (.mk k v nn ks) = R
 simp +contextual -implicitDefEqProofs only [at0, D.size, D.sub, bE, D.isAg, lN, lK, lZ, bne, bN, bG, bU, D.put, go_sem]
 refine vc_onU (α := Nat) [9, 10, 28, 31, 32, 33, 34, 36, 37, 38, 39, 40, 41] (fun y => [(31, .im none (.sc (.int .i64 y))), (9, .sm 28 0 (imL (fun y => hitF R s.2 y) y).length)]) (fun y => [(28, .ar true (some false) 1 (iD (imL (fun y => hitF R s.2 y) y))), (8, .ar true (some false) 1 [.ls (some false) 1 (rD n R)]), (4, .ar false (some false) 3 [.ag [.sc (.int .i64 k), .sc (.int .i64 v), .ls nn 3 (ks.map eE)]]), (3, .ar false (some false) 5 [.ag [.sc (.int .i64 gs.1), .sc (.int .i64 gs.2), .sc (.int .i64 n), .ls T.1 1 (T.2.map (eS 1 eB)), .ls A.1 1 (A.2.map (eS 1 (eS 1 eB)))]])]) (fun y => y ≤ n) (fun y => n - y) 0 (Ent.to [] (by simp only [go_sem]; rfl) rfl (by simp [imL_zero, iD_nil]) (by rfl) (by simp only [subEnv, go_sem, keep, memN] <;> simp [imL_zero])) (Nat.zero_le _) ?_
 intro y hy0
 by_cases hy : y < n
 ·have hbd := imL_bd (f := (fun y => hitF R s.2 y)) hy0
  simp +contextual -implicitDefEqProofs only [hy, at0, D.size, D.isAg, lN, lC, lK, lZ, bne, bN, bU, D.put, go_sem, iL]
  refine callQ_self (ds := [eS 1 eI s, .fn f6 [.pt (.ls (some false) 1 (rD n R)) 0, .pt (eI y) 0]]) (by rfl) (hc5 s f6 _ (fun x => R x.toNat y) (fun x hx => hc6 n R x y (hsl x hx).1 (hsl x hx).2.1 hy)) ?_
  cases hF : (fun y => hitF R s.2 y) y
  ·have hF' : (s.2.any fun x => R x.toNat y) = false := hF
   simp +contextual -implicitDefEqProofs only [hF', eB, go_sem]
   rw [wrap_i64 (by omega) (by omega)]
   exact ⟨y + 1, by omega, by omega, Ent.to [10] (by simp only [go_sem]; rfl) rfl (by simp [imL_f hF]) (by rfl) (by simp only [subEnv, go_sem] <;> simp [imL_f hF])⟩
  ·have hF' : (s.2.any fun x => R x.toNat y) = true := hF
   simp +contextual -implicitDefEqProofs only [hF', iD_len, eB, at0, D.size, D.sub, bE, D.isAg, lN, lC, lK, lZ, bne, bN, bU, Bool.or_true, Bool.or_false, go_sem, Nat.reduceMul]
   refine ⟨rfl, ⟨by (try simp); omega, by unfold maxEl; (try simp); omega, by simp [D.size]⟩, y + 1, by omega, by omega, ?_⟩
   rw [wrap_i64 (by omega) (by omega)]
   exact Ent.to [10] (by simp only [go_sem]; rfl) rfl (by simp [imL_t hF, iD_app]) (by rfl) (by simp only [subEnv, go_sem] <;> simp [imL_t hF])
 ·obtain rfl : y = n := by omega
  simp +contextual -implicitDefEqProofs only [hy, iD_len, bE, go_sem, iL]
  exact D.Le.refl _


def k_f6big : RC := (.seq (.r [.v 2 .cf]) (.seq (.r [.m 3 0, .o (.len 4 (.t 3)), .o (.bin 5 .gtr (.t 4) (.ci 4096)), .m 2 5]) .ret))
def K_f6big (P : Program) (fno : Nat) : Prop := ∀ (nn : Option Bool) (c : List Int), AF P fno [.ls nn 1 (c.map eU)] (.own (eB (decide ((c.length : Int) > 4096))))
theorem a_f6big {P : Program} (hm : P.follows .mixedOrders = true) {g : Nat} (hr : resF P g = some (6, k_f6big, [.t 2])) : K_f6big P g := by
 intro nn c
 refine af_of_res hr hm rfl fun hb => ?_
 simp +contextual -implicitDefEqProofs only [k_f6big, eB, lM, go_sem]
theorem imL_set {f : Nat → Bool} {n : Nat} : isSetB n (imL f n) = true := by
 simp only [isSetB, bA]
 refine ⟨imL_asc, ?_⟩
 simp only [allIn, List.all_eq_true]
 intro x hx
 obtain ⟨i, h1, _, rfl⟩ := imL_mem.1 hx
 simp [isIn]; omega

theorem okE_drn {g : Int × Int} {e : Ex} {s : Int} (h : Drn g false s 7 e) (hs : s ≤ 200) : okE g e = true := by
 obtain ⟨h1, _, _, _, h5, h6⟩ := h
 simp only [okE, bA, decide_eq_true_eq]
 exact ⟨by omega, by omega, h1⟩
set_option maxHeartbeats 1000000

structure Emb (m m2 : Mo) (n n2 : Nat) (φ : Nat → Nat) : Prop where
 ok : MoOk m n
 ok2 : MoOk m2 n2
 sg : m2.1 = m.1
 lt : ∀ x, x < n → φ x < n2
 inj : ∀ x y, x < n → y < n → φ x = φ y → x = y
 tst : ∀ (v : Int) x, 0 ≤ v → v.toNat < m.2.2.1.2.length → x < n → testOf m2 v (φ x) = testOf m v x
 act : ∀ (v : Int) x y', 0 ≤ v → v.toNat < m.2.2.2.2.length → x < n → y' < n2 → (relOf (actOf m2 v) (φ x) y' = true ↔ ∃ y, y < n ∧ φ y = y' ∧ relOf (actOf m v) x y = true)
def EmbR (n n2 : Nat) (φ : Nat → Nat) (A A2 : Rel) : Prop := ∀ x y', x < n → y' < n2 → (A2 (φ x) y' = true ↔ ∃ y, y < n ∧ φ y = y' ∧ A x y = true)
section
variable {m m2 : Mo} {n n2 : Nat} {φ : Nat → Nat} {A A2 B B2 : Rel}
theorem EmbR.at (lt : ∀ x, x < n → φ x < n2) (inj : ∀ x y, x < n → y < n → φ x = φ y → x = y) (h : EmbR n n2 φ A A2) {x y : Nat} (hx : x < n) (hy : y < n) : A2 (φ x) (φ y) = A x y := by
 rw [Bool.eq_iff_iff, h x (φ y) hx (lt y hy)]
 constructor
 ·rintro ⟨z, h1, h2, h3⟩
  rw [inj z y h1 hy h2] at h3
  exact h3
 ·intro h3; exact ⟨y, hy, rfl, h3⟩
theorem EmbR.dot (lt : ∀ x, x < n → φ x < n2) (h : EmbR n n2 φ A A2) (h' : EmbR n n2 φ B B2) : EmbR n n2 φ (dotR n A B) (dotR n2 A2 B2) := by
 intro x y' hx hy
 simp only [dotR, dotU, List.any_eq_true, bA, List.mem_range]
 constructor
 ·rintro ⟨k', hk, h1, h2⟩
  obtain ⟨k, q1, rfl, q3⟩ := (h x k' hx hk).1 h1
  obtain ⟨y, p1, p2, p3⟩ := (h' k y' q1 hy).1 h2
  exact ⟨y, p1, p2, k, q1, q3, p3⟩
 ·rintro ⟨y, p1, p2, k, q1, q2, q3⟩
  exact ⟨φ k, lt k q1, (h x (φ k) hx (lt k q1)).2 ⟨k, q1, rfl, q2⟩, (h' k y' q1 hy).2 ⟨y, p1, p2, q3⟩⟩
theorem star_one {x y : Nat} (h : A x y = true) : starR n A x y = true := warR_le (Nat.zero_le n) (by simp [warR, h])
theorem star_trans {x z y : Nat} (hz : z < n) (h : starR n A x z = true) (h' : starR n A z y = true) : starR n A x y = true := warR_trans hz h h'
theorem EmbR.star (lt : ∀ x, x < n → φ x < n2) (h : EmbR n n2 φ A A2) : EmbR n n2 φ (starR n A) (starR n2 A2) := by
 intro x y' hx hy
 constructor
 ·suffices H : ∀ k, k ≤ n2 → ∀ x y', x < n → y' < n2 → warR A2 k (φ x) y' = true → ∃ y, y < n ∧ φ y = y' ∧ starR n A x y = true from H n2 (Nat.le_refl _) x y' hx hy
  intro k
  induction k with
  | zero =>
   intro _ x y' hx hy hw
   simp only [warR, Bool.or_eq_true] at hw
   rcases hw with hw | hw
   ·obtain ⟨y, p1, p2, p3⟩ := (h x y' hx hy).1 hw
    exact ⟨y, p1, p2, star_one p3⟩
   ·exact ⟨x, hx, by simpa using hw, warR_refl⟩
  | succ k ih =>
   intro hk x y' hx hy hw
   simp only [warR, Bool.or_eq_true, bA] at hw
   rcases hw with hw | ⟨h1, h2⟩
   ·exact ih (by omega) x y' hx hy hw
   ·obtain ⟨z, p1, rfl, p3⟩ := ih (by omega) x k hx (by omega) h1
    obtain ⟨y, q1, q2, q3⟩ := ih (by omega) z y' p1 hy h2
    exact ⟨y, q1, q2, star_trans p1 p3 q3⟩
 ·rintro ⟨y, p1, rfl, p3⟩
  suffices H : ∀ k, k ≤ n → ∀ x y, x < n → y < n → warR A k x y = true → starR n2 A2 (φ x) (φ y) = true from H n (Nat.le_refl _) x y hx p1 p3
  intro k
  induction k with
  | zero =>
   intro _ x y hx hy hw
   simp only [warR, Bool.or_eq_true] at hw
   rcases hw with hw | hw
   ·exact star_one ((h x (φ y) hx (lt y hy)).2 ⟨y, hy, rfl, hw⟩)
   ·rw [show x = y by simpa using hw]; exact warR_refl
  | succ k ih =>
   intro hk x y hx hy hw
   simp only [warR, Bool.or_eq_true, bA] at hw
   rcases hw with hw | ⟨h1, h2⟩
   ·exact ih (by omega) x y hx hy hw
   ·exact star_trans (lt k (by omega)) (ih (by omega) x k hx (by omega) h1) (ih (by omega) k y (by omega) hy h2)
theorem EmbR.diag (_lt : ∀ x, x < n → φ x < n2) (_inj : ∀ x y, x < n → y < n → φ x = φ y → x = y) {f f2 : Nat → Bool} (h : ∀ x, x < n → f2 (φ x) = f x) : EmbR n n2 φ (diagR f) (diagR f2) := by
 intro x y' hx hy
 simp only [diagR, bA, beq_iff_eq, h x hx]
 constructor
 ·rintro ⟨h1, h2⟩; exact ⟨x, hx, h1, rfl, h2⟩
 ·rintro ⟨y, h1, h2, h3, h4⟩; subst h3; exact ⟨h2, h4⟩

theorem Emb.rel (E : Emb m m2 n n2 φ) : ∀ e : Ex, treeE m.1 e = true → EmbR n n2 φ (relE m e) (relE m2 e) := by
 refine Ex.ind fun k v nn ks ih ht => ?_
 rw [treeE_mk, bA, List.all_eq_true] at ht
 have hn : m.2.1.toNat = n := by rw [E.ok.pts]; rfl
 have hn2 : m2.2.1.toNat = n2 := by rw [E.ok2.pts]; rfl
 rw [relE_mk, relE_mk]
 cases kind_ok E.ok ht.1 with
 | zero h hk =>
  subst h hk
  intro x y' hx hy
  simp [relOp, noneR]
 | one h hk =>
  subst h hk
  exact EmbR.diag E.lt E.inj fun _ _ => rfl
 | test h hk h0 h1 =>
  subst h hk
  exact EmbR.diag E.lt E.inj fun x hx => E.tst v x h0 h1 hx
 | act h hk h0 h1 =>
  subst h hk
  exact fun x y' hx hy => E.act v x y' h0 h1 hx hy
 | nt h a hk =>
  subst h hk
  have ia := ih a (by simp) (ht.2 a (by simp))
  refine EmbR.diag E.lt E.inj fun x hx => ?_
  simp only [lC, List.getD_cons_zero]
  rw [ia.at E.lt E.inj hx hx]
 | sum h a b hk =>
  subst h hk
  have ia := ih a (by simp) (ht.2 a (by simp))
  have ib := ih b (by simp) (ht.2 b (by simp))
  intro x y' hx hy
  simp only [relOp, lC, List.getD_cons_zero, List.getD_cons_succ, ↓reduceIte, show ¬ ((6 : Int) = 2) by decide, show ¬ ((6 : Int) = 3) by decide, show ¬ ((6 : Int) = 4) by decide, show ¬ ((6 : Int) = 5) by decide, Bool.or_eq_true]
  rw [ia x y' hx hy, ib x y' hx hy]
  constructor
  ·rintro (⟨y, h1, h2, h3⟩ | ⟨y, h1, h2, h3⟩)
   ·exact ⟨y, h1, h2, .inl h3⟩
   ·exact ⟨y, h1, h2, .inr h3⟩
  ·rintro ⟨y, h1, h2, h3 | h3⟩
   ·exact .inl ⟨y, h1, h2, h3⟩
   ·exact .inr ⟨y, h1, h2, h3⟩
 | dot h a b hk =>
  subst h hk
  have ia := ih a (by simp) (ht.2 a (by simp))
  have ib := ih b (by simp) (ht.2 b (by simp))
  have h7 : ∀ m : Mo, relOp m 7 v ([a, b].map (relE m)) = dotR m.2.1.toNat (relE m a) (relE m b) := fun m => rfl
  rw [h7, h7, hn, hn2]
  exact EmbR.dot E.lt ia ib
 | star h a hk =>
  subst h hk
  have ia := ih a (by simp) (ht.2 a (by simp))
  have h8 : ∀ m : Mo, relOp m 8 v ([a].map (relE m)) = starR m.2.1.toNat (relE m a) := fun m => rfl
  rw [h8, h8, hn, hn2]
  exact EmbR.star E.lt ia
end
end Go.Ax
namespace Go.Ax
set_option maxHeartbeats 1000000

theorem getD_int {l : List Int} {i : Nat} (h : i < l.length) : l.getD i 0 ∈ l := by simp [h]
theorem nodup_getD {l : List Int} (h : l.Nodup) {i j : Nat} (hi : i < l.length) (hj : j < l.length) (e : l.getD i 0 = l.getD j 0) : i = j := by
 rw [getD_at hi, getD_at hj] at e
 exact (List.getElem_inj h).1 e
theorem pick_ok2 {m : Mo} {n : Nat} {l : List Int} (hM : MoOk m n) (h1 : 1 ≤ l.length) (h8 : l.length ≤ 8) : MoOk (pickMo m l) l.length := by
 refine ⟨rfl, h1, h8, hM.g, ?_, ?_, ?_, ?_⟩
 ·simp only [pickMo, lM]; exact hM.tl
 ·intro r hr
  simp only [pickMo, List.mem_map] at hr
  obtain ⟨r', _, rfl⟩ := hr
  simp [tRow]
 ·simp only [pickMo, lM]; exact hM.al
 ·intro a ha
  simp only [pickMo, List.mem_map] at ha
  obtain ⟨a', _, rfl⟩ := ha
  refine ⟨by simp [aTab], fun r hr => ?_⟩
  simp only [aTab, List.mem_map] at hr
  obtain ⟨x, _, rfl⟩ := hr
  simp [tRow]
theorem pick_test {m : Mo} {l : List Int} {v : Int} {x : Nat} (hv : v.toNat < m.2.2.1.2.length) (hx : x < l.length) : testOf (pickMo m l) v x = testOf m v (l.getD x 0).toNat := by
 simp only [testOf, pickMo]
 rw [getD_at (d := (none, [])) (by simpa using hv), getD_at (d := (none, [])) hv, List.getElem_map]
 simp only [tRow]
 rw [getD_at (d := false) (by simpa using hx), List.getElem_map, getD_at hx]
theorem pick_act {m : Mo} {l : List Int} {v : Int} {x y : Nat} (hv : v.toNat < m.2.2.2.2.length) (hx : x < l.length) (hy : y < l.length) : relOf (actOf (pickMo m l) v) x y = relOf (actOf m v) (l.getD x 0).toNat (l.getD y 0).toNat := by
 simp only [actOf, pickMo, relOf]
 rw [getD_at (l := m.2.2.2.2.map _) (d := (none, [])) (by simpa using hv), getD_at (d := (none, [])) hv, List.getElem_map]
 simp only [aTab]
 rw [getD_at (d := (none, [])) (by simpa using hx), List.getElem_map, getD_at hx]
 simp only [tRow]
 rw [getD_at (d := false) (by simpa using hy), List.getElem_map, getD_at hy]

theorem pick_emb {m : Mo} {n : Nat} {l : List Int} (hM : MoOk m n) (h1 : 1 ≤ l.length) (h8 : l.length ≤ 8) (hr : ∀ x ∈ l, 0 ≤ x ∧ x.toNat < n) (hd : l.Nodup)
  (hc : ∀ (v : Int) x (y : Nat), 0 ≤ v → v.toNat < m.2.2.2.2.length → x ∈ l → y < n → relOf (actOf m v) x.toNat y = true → (y : Int) ∈ l) : Emb (pickMo m l) m l.length n fun x => (l.getD x 0).toNat where
 ok := pick_ok2 hM h1 h8
 ok2 := hM
 sg := rfl
 lt := fun x hx => (hr _ (getD_int hx)).2
 inj := fun x y hx hy e => by
  have a := hr _ (getD_int hx)
  have b := hr _ (getD_int hy)
  exact nodup_getD hd hx hy (by omega)
 tst := fun v x h0 hv hx => by
  rw [pick_test (by simpa [pickMo] using hv) hx]
 act := fun v x y' h0 hv hx hy => by
  have hv' : v.toNat < m.2.2.2.2.length := by simpa [pickMo] using hv
  constructor
  ·intro h
   have hm := hc v _ y' h0 hv' (getD_int hx) hy h
   obtain ⟨y, p1, p2⟩ := List.getElem_of_mem hm
   have e : (l.getD y 0).toNat = y' := by rw [getD_at p1, p2]; rfl
   refine ⟨y, p1, e, ?_⟩
   rw [pick_act hv' hx p1, e]
   exact h
  ·rintro ⟨y, p1, rfl, p3⟩
   rw [pick_act hv' hx p1] at p3
   exact p3

set_option maxRecDepth 20000
set_option maxHeartbeats 4000000
theorem iD_at {l : List Int} {k : Nat} (h : k < l.length) : D.at (iD l) k = .sc (.int .i64 (l.getD k 0)) := by
 unfold iD
 exact at_mapD (f := eI) (d := 0) h
abbrev qRow (x y : SL Bool) : Bool := eqL (fun x y => x == y) x.2 y.2

def k_l05SameRows (f1 : Nat) : RC := (.seq (.r [.v 4 .cf]) (.seq (.seq (.r [.m 6 0, .o (.len 7 (.t 6)), .m 8 1, .o (.len 9 (.t 8)), .o (.bin 10 .neq (.t 7) (.t 9))]) (.cond (.t 10) (.seq (.r [.v 4 .cf]) .ret) .skip)) (.seq (.seq (.r [.v 5 (.ci 0)]) (.blk 0 (.loop (.seq (.seq (.r [.m 11 5, .m 12 0, .o (.len 13 (.t 12)), .o (.bin 14 .lss (.t 11) (.t 13))]) (.cond (.t 14) .skip (.exit 0))) (.seq (.blk 1 (.seq (.reg true [.m 17 0, .m 18 5, .o (.ia 19 1 (.t 17) (.t 18)), .l 20 1 19, .m 21 1, .m 22 5, .o (.ia 23 1 (.t 21) (.t 22)), .l 24 1 23, .c 25 f1 [.t 20, .t 24], .o (.un 26 .not (.t 25))]) (.cond (.t 26) (.seq (.r [.v 4 .cf]) .ret) .skip))) (.r [.m 15 5, .o (.bin 16 .add (.t 15) (.ci 1)), .m 5 16])))))) (.seq (.r [.v 4 .ct]) .ret))))
def K_l05SameRows (P : Program) (fno : Nat) : Prop := ∀ (a b : SL (SL Bool)), AF P fno [eS 1 (eS 1 eB) a, eS 1 (eS 1 eB) b] (.own (eB (eqL qRow a.2 b.2)))
theorem a_l05SameRows {P : Program} (hm : P.follows .mixedOrders = true) {g f1 : Nat} (hr : resF P g = some (27, k_l05SameRows f1, [.t 4])) (hc1 : resF P f1 = some (26, cEqB, [.t 4])) : K_l05SameRows P g := by
 intro a b
 exact af_eqC hm (encS eB 1) (show resF P g = some (27, cEqC f1 1 false, [.t 4]) from hr) qRow a b fun x _ y _ => af_eqB hm hc1 x y
theorem eqL_self {α : Type} {q : α → α → Bool} (h : ∀ x, q x x = true) : ∀ l : List α, eqL q l l = true
 | [] => rfl
 | x :: l => by simp only [eqL, h x, eqL_self h l, Bool.and_self]
theorem rows_self (x : SL (SL Bool)) : eqL qRow x.2 x.2 = true := eqL_self (fun y => eqL_self (fun z => by simp) y.2) x.2

def k_spSameModel (f1 : Nat) : RC := (.seq (.r [.b 2 5 0, .b 3 5 1, .v 4 .cf]) (.seq (.seq (.r [.f 6 0 2, .L 7 2 6, .f 8 0 3, .L 9 2 8, .o (.ceq 10 true 2 (.t 7) (.t 9)), .m 11 10, .u 11 (.fa 12 2 (.t 2)), .u 11 (.ld 13 false 1 (.t 12)), .u 11 (.fa 14 2 (.t 3)), .u 11 (.ld 15 false 1 (.t 14)), .u 11 (.bin 16 .neq (.t 13) (.t 15)), .o (.pick 17 (.t 11) .ct (.t 16)), .m 18 17, .u 18 (.fa 19 3 (.t 2)), .u 18 (.ld 20 false 1 (.t 19)), .u 18 (.fa 21 3 (.t 3)), .u 18 (.ld 22 false 1 (.t 21)), .u 18 (.call (some 23) f1 [.t 20, .t 22]), .u 18 (.un 24 .not (.t 23)), .o (.pick 25 (.t 18) .ct (.t 24)), .m 26 25, .u 26 (.fa 27 4 (.t 2)), .u 26 (.ld 28 false 1 (.t 27)), .u 26 (.len 29 (.t 28)), .u 26 (.fa 30 4 (.t 3)), .u 26 (.ld 31 false 1 (.t 30)), .u 26 (.len 32 (.t 31)), .u 26 (.bin 33 .neq (.t 29) (.t 32)), .o (.pick 34 (.t 26) .ct (.t 33))]) (.cond (.t 34) (.seq (.r [.v 4 .cf]) .ret) .skip)) (.seq (.seq (.r [.v 5 (.ci 0)]) (.blk 0 (.loop (.seq (.seq (.r [.m 35 5, .f 36 4 2, .l 37 1 36, .o (.len 38 (.t 37)), .o (.bin 39 .lss (.t 35) (.t 38))]) (.cond (.t 39) .skip (.exit 0))) (.seq (.blk 1 (.seq (.reg true [.f 42 4 2, .l 43 1 42, .m 44 5, .o (.ia 45 1 (.t 43) (.t 44)), .l 46 1 45, .f 47 4 3, .l 48 1 47, .m 49 5, .o (.ia 50 1 (.t 48) (.t 49)), .l 51 1 50, .c 52 f1 [.t 46, .t 51], .o (.un 53 .not (.t 52))]) (.cond (.t 53) (.seq (.r [.v 4 .cf]) .ret) .skip))) (.r [.m 40 5, .o (.bin 41 .add (.t 40) (.ci 1)), .m 5 41])))))) (.seq (.r [.v 4 .ct]) .ret))))
def K_spSameModel (P : Program) (fno : Nat) : Prop := ∀ (m : Mo), AF P fno [eM m, eM m] (.own (eB true))
theorem a_spSameModel {P : Program} (hm : P.follows .mixedOrders = true) {g f1 : Nat} (hr : resF P g = some (54, k_spSameModel f1, [.t 4])) (hc1 : K_l05SameRows P f1) : K_spSameModel P g := by
 intro m
 obtain ⟨⟨g1, g2⟩, p, T, A⟩ := m
 refine af_of_res hr hm rfl fun hb => ?_
 have hl : A.2.length ≤ 9223372036854775807 := by
  have h := hb.1
  simp only [eM, eS, D.bd, D.bdL, lM, maxEl] at h
  omega
 have hT := hc1 T T
 rw [rows_self] at hT
 simp +contextual -implicitDefEqProofs only [k_spSameModel, bne, eM, eS, eI, eB, D.size, D.sizeL, D.sub, bE, D.isAg, lN, lC, lK, lZ, bT, bN, bI, bU, go_sem]
 refine callQ_self ?_ hT ?_
 ·exact rfl
 simp +contextual -implicitDefEqProofs only [bne, eB, D.sub, bE, D.isAg, bT, go_sem, lM]
 refine vc_onU (α := Nat) [4, 5, 35, 36, 37, 38, 39, 40, 41, 42, 43, 44, 45, 46, 47, 48, 49, 50, 51, 52, 53] (fun i => [(5, .im none (.sc (.int .i64 i)))]) (fun i => [(3, .ar false (some false) 5 [.ag [.sc (.int .i64 g1), .sc (.int .i64 g2), .sc (.int .i64 p), .ls T.1 1 (T.2.map (eS 1 eB)), .ls A.1 1 (A.2.map (eS 1 (eS 1 eB)))]]), (2, .ar false (some false) 5 [.ag [.sc (.int .i64 g1), .sc (.int .i64 g2), .sc (.int .i64 p), .ls T.1 1 (T.2.map (eS 1 eB)), .ls A.1 1 (A.2.map (eS 1 (eS 1 eB)))]])]) (fun i => i ≤ A.2.length) (fun i => A.2.length - i) 0 (Ent.to [] (by simp only [go_sem]; rfl) rfl (by simp []) (by rfl) (by simp only [subEnv, go_sem, keep, memN] <;> simp)) (Nat.zero_le _) ?_
 intro i hi0
 by_cases hi : i < A.2.length
 ·have e1 := at_mapD (f := eS 1 (eS 1 eB)) (d := (none, [])) hi
  have hA := hc1 (A.2.getD i (none, [])) (A.2.getD i (none, []))
  rw [rows_self] at hA
  simp +contextual -implicitDefEqProofs only [hi, e1, Int.toNat_natCast, iL, lM, eS, D.size, D.sub, D.isAg, lN, lC, go_sem, iN]
  refine callQ_self ?_ hA ?_
  ·exact rfl
  simp +contextual -implicitDefEqProofs only [eB, bT, go_sem]
  rw [wrap_i64 (by omega) (by omega)]
  exact ⟨i + 1, by omega, by omega, Ent.to [] (by simp only [go_sem]; rfl) rfl (by simp) (by rfl) (by simp only [subEnv, go_sem] <;> simp)⟩
 ·simp +contextual -implicitDefEqProofs only [hi, iL, lM, D.sub, D.isAg, go_sem]
attribute [go_sem] List.length_cons List.length_nil List.map_cons List.map_nil Bool.or_false Bool.and_false Bool.or_true Bool.and_true Bool.true_and Bool.false_and Bool.not_false Bool.not_true beq_self_eq_true Int.cast_ofNat_Int Int.le_refl
attribute [go_sem_proc] Nat.reduceMul Nat.reduceSub Int.reduceLT Int.reduceToNat Int.reduceLE Int.reduceBEq Int.reduceEq Int.reduceAdd Int.reduceNeg
mutual

def sumsE : Ex → List Ex → List Ex
 | .mk k n nn ks, acc => if k = 1 then acc else if k = 6 then sumsEs ks acc else if acc.any (fun x => qE x (.mk k n nn ks)) = true then acc else acc ++ [.mk k n nn ks]
def sumsEs : List Ex → List Ex → List Ex
 | [], acc => acc
 | e :: es, acc => sumsEs es (sumsE e acc)
end
mutual
theorem sumsE_len : ∀ (e : Ex) (acc : List Ex), (sumsE e acc).length ≤ acc.length + sizeE e
 | .mk k n nn ks, acc => by
  rw [sizeE_mk, sumsE]
  have := sumsEs_len ks acc
  split <;> (try split) <;> (try split) <;> (try rw [lP, lK, lZ]) <;> omega
theorem sumsEs_len : ∀ (es : List Ex) (acc : List Ex), (sumsEs es acc).length ≤ acc.length + sizeEs es
 | [], acc => by simp [sumsEs]
 | e :: es, acc => by
  have h1 := sumsE_len e acc
  have h2 := sumsEs_len es (sumsE e acc)
  simp only [sumsEs, sizeEs]
  omega
end
theorem two_kids {g0 : Int × Int} {n : Int} {nn : Option Bool} {ks : List Ex} {k : Int} (hk : k = 6 ∨ k = 7) (h : treeE g0 (.mk k n nn ks) = true) : ∃ a b, ks = [a, b] ∧ treeE g0 a = true ∧ treeE g0 b = true := by
 rw [treeE_mk, bA, formOk, bA] at h
 obtain ⟨⟨h1, _⟩, h2⟩ := h
 have h3 : ks.length = 2 := by rcases hk with rfl | rfl <;> simp [kidsN] at h1 <;> omega
 match ks, h3 with
 | [a, b], _ =>
  simp only [List.all_cons, List.all_nil, bU, bA] at h2
  exact ⟨a, b, rfl, h2.1, h2.2⟩

def k_summandsE (g f1 : Nat) : RC := (.seq (.seq (.r [.m 5 0, .n 6 5, .f 7 0 6, .l 8 1 7]) (.blk 0 (.seq (.r [.q 10 8 1, .m 9 10]) (.cond (.t 9) .ret (.seq (.r [.q 12 8 6, .m 11 12]) (.cond (.t 11) (.seq (.r [.m 13 0, .n 14 13, .f 15 2 14, .l 16 1 15, .i 17 3 16 0, .m 18 1, .o (.lcl (some 19) g [.t 17, .t 18])]) (.seq (.r [.m 20 0, .n 21 20, .f 22 2 21, .l 23 1 22, .i 24 3 23 1, .m 25 1, .o (.lcl (some 26) g [.t 24, .t 25])]) .ret)) .skip)))))) (.seq (.seq (.r [.v 4 (.ci 0)]) (.blk 1 (.loop (.seq (.seq (.r [.m 27 4, .m 28 1, .n 29 28, .l 30 1 29, .o (.len 31 (.t 30)), .o (.bin 32 .lss (.t 27) (.t 31))]) (.cond (.t 32) .skip (.exit 1))) (.seq (.blk 2 (.seq (.r [.m 35 1, .n 36 35, .l 37 1 36, .m 38 4, .o (.ia 39 3 (.t 37) (.t 38)), .m 40 0, .c 41 f1 [.t 39, .t 40]]) (.cond (.t 41) .ret .skip))) (.r [.m 33 4, .o (.bin 34 .add (.t 33) (.ci 1)), .m 4 34])))))) (.regT [.m 42 1, .n 43 42, .l 44 1 43, .m 45 0, .n 46 45, .L 47 3 46, .o (.len 48 (.t 44)), .o (.bs 49 3 .ze 1 [(0, (.c .ze))])] (.br [] [(.o (.aps 50 3 40 (.t 44) (.t 49)), (.br [] [(.o (.ia 51 3 (.t 50) (.t 48)), (.br [] [(.o (.stp 3 (.t 51) (.t 47)), (.br [] [(.n 52 42, (.br [] [(.o (.stp 1 (.t 52) (.t 50)), (.br [] []))]))])), (.n 52 42, (.br [] [(.o (.stp 3 (.t 51) (.t 47)), (.br [] [(.o (.stp 1 (.t 52) (.t 50)), (.br [] []))])), (.o (.stp 1 (.t 52) (.t 50)), (.br [] [(.o (.stp 3 (.t 51) (.t 47)), (.br [] []))]))]))])), (.n 52 42, (.br [] [(.o (.ia 51 3 (.t 50) (.t 48)), (.br [] [(.o (.stp 3 (.t 51) (.t 47)), (.br [] [(.o (.stp 1 (.t 52) (.t 50)), (.br [] []))])), (.o (.stp 1 (.t 52) (.t 50)), (.br [] [(.o (.stp 3 (.t 51) (.t 47)), (.br [] []))]))])), (.o (.stp 1 (.t 52) (.t 50)), (.br [] [(.o (.ia 51 3 (.t 50) (.t 48)), (.br [] [(.o (.stp 3 (.t 51) (.t 47)), (.br [] []))]))]))]))]))]))))
def K_summandsE (P : Program) (fno : Nat) : Prop := ∀ (g0 : Int × Int) (e : Ex), treeE g0 e = true → ∀ acc : List Ex, acc.length + sizeE e ≤ 1000000 → AFL P fno false 3 [.pt (eE e) 0] (acc.map eE) ((sumsE e acc).map eE)
theorem a_summandsE {P : Program} (hm : P.follows .mixedOrders = true) {g f1 : Nat} (hr : resFw P .sh g = some (53, k_summandsE g f1, [])) (hc1 : K_l01Same P f1) : K_summandsE P g := by
 intro g0 e
 have key : ∀ N : Nat, ∀ e : Ex, sizeE e ≤ N → treeE g0 e = true → ∀ acc : List Ex, acc.length + sizeE e ≤ 1000000 → AFL P g false 3 [.pt (eE e) 0] (acc.map eE) ((sumsE e acc).map eE) := by
  intro N
  induction N with
  | zero => intro e hz; obtain ⟨k, n, nn, ks, rfl⟩ := Ex.ex e; rw [sizeE_mk] at hz; omega
  | succ N ih =>
   intro e hz hT acc hl
   obtain ⟨k, n, nn, ks, rfl⟩ := Ex.ex e
   refine afl_of_res hr hm rfl fun _ _ _ => ?_
   by_cases h1 : k = 1
   ·subst h1
    simp +contextual -implicitDefEqProofs only [k_summandsE, eE_mk, Nat.zero_add, Nat.add_zero, D.size, D.sizeL, sub_agf, isAg_ag, List.getD_cons_zero, lM, go_sem]
    rw [sumsE, if_pos rfl]
    exact lvEnd_of 3000000001 (by simp [lu]) (by rfl)
   by_cases h6 : k = 6
   ·subst h6
    obtain ⟨a, b, rfl, hTa, hTb⟩ := two_kids (.inl rfl) hT
    rw [sizeE_mk] at hz hl
    simp only [sizeEs] at hz hl
    have hla := sumsE_len a acc
    simp +contextual -implicitDefEqProofs only [k_summandsE, eE_mk, Nat.zero_add, Nat.add_zero, D.size, D.sizeL, sub_agf, isAg_ag, List.getD_cons_zero, List.getD_cons_succ, lM, go_sem]
    have hl1 : (List.map eE (sumsE a acc)).length = (sumsE a acc).length := List.length_map _
    refine lcl_l [.im none (.pt (eE a) 0)] 3000000000 3000000001 (by rfl) (by rfl) (by rfl) ⟨by decide, (List.length_map _).symm, .inl rfl⟩ (by rfl) (by rfl) (ih a (by omega) hTa acc (by omega)) ?_
    simp +contextual -implicitDefEqProofs only [hl1, Bool.or_self, Nat.zero_add, Nat.add_zero, D.size, D.sizeL, sub_agf, isAg_ag, List.getD_cons_zero, List.getD_cons_succ, go_sem]
    refine lcl_l [.im none (.pt (eE b) 0)] 3000000000 3000000001 (by rfl) (by rfl) (by rfl) ⟨by decide, (List.length_map _).symm, .inl rfl⟩ (by rfl) (by rfl) (ih b (by omega) hTb (sumsE a acc) (by omega)) ?_
    simp +contextual -implicitDefEqProofs only [Bool.or_self, lM, go_sem]
    rw [sumsE, if_neg (by decide), if_pos rfl]
    simp only [sumsEs]
    exact lvEnd_of 3000000001 (by simp [lu]) (by rfl)
   have b1 : (k == 1) = false := beq_false_of_ne h1
   have b6 : (k == 6) = false := beq_false_of_ne h6
   rw [sumsE, if_neg h1, if_neg h6]
   generalize he : Ex.mk k n nn ks = e at *
   have heE : eE e = .ag [eI k, eI n, .ls nn 3 (ks.map eE)] := by rw [← he, eE_mk]; rfl
   simp only [stW_eq, lC, lN, heE]
   simp +contextual -implicitDefEqProofs only [k_summandsE, b1, b6, eI, Nat.zero_add, Nat.add_zero, D.size, D.sizeL, sub_agf, isAg_ag, List.getD_cons_zero, lM, go_sem]
   refine vc_onU (α := Nat) [4, 27, 28, 29, 30, 31, 32, 33, 34, 35, 36, 37, 38, 39, 40, 41] (fun i => [(4, .im none (.sc (.int .i64 i)))]) (fun i => [(3000000000, .bx 1 [.sm 3000000001 0 acc.length]), (3000000001, .ar false (some false) 3 (acc.map eE))]) (fun i => i ≤ acc.length ∧ ∀ j (h : j < acc.length), j < i → qE acc[j] e = false) (fun i => acc.length - i) 0 (Ent.to [] (by simp only [go_sem]; rfl) rfl (by simp) (by rfl) (by simp only [subEnv, go_sem, keep, memN] <;> simp)) ⟨Nat.zero_le _, fun j _ h => absurd h (Nat.not_lt_zero j)⟩ ?_
   rintro i ⟨hi0, hj0⟩
   by_cases hi : i < acc.length
   ·have ai : D.at (acc.map eE) i = eE acc[i] := at_map hi
    simp +contextual -implicitDefEqProofs only [hi, Int.toNat_natCast, Nat.zero_add, go_sem, iL, iN]
    refine callQ_self (ds := [.pt (eE acc[i]) 0, .pt (eE e) 0]) (by show some [D.pt (D.at (acc.map eE) i) 0, D.pt (D.ag [eI k, eI n, .ls nn 3 (ks.map eE)]) 0] = _; rw [ai, heE]) (hc1 acc[i] e) ?_
    cases hq : qE acc[i] e with
    | true =>
     have hany : acc.any (fun x => qE x e) = true := List.any_eq_true.2 ⟨_, List.getElem_mem hi, hq⟩
     rw [if_pos hany]
     simp +contextual -implicitDefEqProofs only [eB, go_sem]
     exact lvEnd_of 3000000001 (by simp [lu]) (by rfl)
    | false =>
     simp +contextual -implicitDefEqProofs only [eB, go_sem]
     refine ⟨i + 1, ⟨by omega, fun j h hj => ?_⟩, by omega, ?_⟩
     ·by_cases e1 : j = i
      ·subst e1; exact hq
      ·exact hj0 j h (by omega)
     rw [wrap_i64 (by omega) (by omega)]
     exact Ent.to [] (by simp only [go_sem]; rfl) rfl (by simp) (by rfl) (by simp only [subEnv, go_sem] <;> simp)
   ·obtain rfl : i = acc.length := by omega
    have hany : acc.any (fun x => qE x e) = false := by
     rw [List.any_eq_false]
     intro x hx
     obtain ⟨j, h, rfl⟩ := List.getElem_of_mem hx
     rw [hj0 j h h]; simp
    rw [hany]
    simp +contextual -implicitDefEqProofs only [Int.lt_irrefl, List.any_cons, List.any_nil, Bool.or_self, D.put, Int.toNat_natCast, Nat.zero_add, Nat.add_zero, D.size, D.sizeL, sub_agt, isAg_ag, List.drop_zero, List.take_succ_cons, List.take_zero, modeOf, lM, go_sem, iL, iN]
    have hset : ∀ z : D, (List.map eE acc ++ [z]).set acc.length (.ag [eI k, eI n, .ls nn 3 (ks.map eE)]) = List.map eE (acc ++ [e]) := by
     intro z
     rw [List.map_append, lC, lN, heE, List.set_append_right _ _ (by simp)]
     simp
    simp only [eI] at hset
    refine ⟨rfl, ⟨by omega, by unfold maxEl; omega, by simp [D.size, D.sizeL]⟩, ?_⟩
    repeat' apply And.intro
    all_goals first
     | exact lvEnd_of 3000000001 (by simp [lu]) (by simp only [lu, Nat.reduceEqDiff, ↓reduceIte, hset])
     | (rw [lP, lM]; exact Nat.lt_succ_self _)
     | omega
 exact fun hT acc hl => key _ e (Nat.le_refl _) hT acc hl

def ltT (a b : Ex) : Bool := Op.bytesLess (textE a).toList (textE b).toList
def insE (x : Ex) : List Ex → List Ex
 | [] => [x]
 | y :: ys => if ltT y x = true then y :: insE x ys else x :: y :: ys

def posE (x : Ex) : List Ex → Nat
 | [] => 0
 | y :: ys => if ltT y x = true then posE x ys + 1 else 0
theorem posE_le {x : Ex} : ∀ {l : List Ex}, posE x l ≤ l.length
 | [] => by simp [posE]
 | y :: ys => by
  have := posE_le (x := x) (l := ys)
  simp only [posE]
  split <;> simp <;> omega
theorem insE_pos {x : Ex} : ∀ {l : List Ex}, insE x l = l.take (posE x l) ++ [x] ++ l.drop (posE x l)
 | [] => by simp [insE]
 | y :: ys => by
  simp only [insE, posE]
  split
  ·rw [insE_pos]; simp
  ·simp
theorem posE_of {x : Ex} : ∀ {l : List Ex} {p : Nat}, p ≤ l.length → (∀ j (h : j < l.length), j < p → ltT l[j] x = true) → (∀ h : p < l.length, ltT l[p] x = false) → posE x l = p
 | [], p, h, _, _ => by simp at h; simp [posE, h]
 | y :: ys, 0, _, _, h3 => by
  have := h3 (by simp)
  simp only [List.getElem_cons_zero] at this
  simp [posE, this]
 | y :: ys, p + 1, h1, h2, h3 => by
  have h0 := h2 0 (by simp) (by omega)
  simp only [List.getElem_cons_zero] at h0
  rw [posE, if_pos h0, posE_of (l := ys) (p := p) (by simpa using h1) (fun j h hj => by have := h2 (j + 1) (by simpa using h) (by omega); simpa using this) (fun h => by have := h3 (by simpa using h); simpa using this)]
def sortE (l : List Ex) : List Ex := l.foldl (fun acc x => insE x acc) []
theorem insE_len {x : Ex} {l : List Ex} : (insE x l).length = l.length + 1 := by
 have := posE_le (x := x) (l := l)
 rw [insE_pos]
 simp
 omega
theorem sortE_take {l : List Ex} {i : Nat} (h : i < l.length) : sortE (l.take (i + 1)) = insE l[i] (sortE (l.take i)) := by
 rw [List.take_succ_eq_append_getElem h, sortE, List.foldl_append]
 rfl
theorem sortE_len {l : List Ex} : (sortE l).length = l.length := by
 have : ∀ (l acc : List Ex), (l.foldl (fun acc x => insE x acc) acc).length = acc.length + l.length := by
  intro l
  induction l with
  | nil => simp
  | cons x l ih => intro acc; rw [List.foldl_cons, ih, insE_len]; simp; omega
 rw [sortE, this]; simp
def tsD (l : List Ex) : List D := l.map fun e => eT (textE e)
def osD (l : List Ex) : List D := l.map eE
theorem tsD_len {l : List Ex} : (tsD l).length = l.length := by simp [tsD]
theorem osD_len {l : List Ex} : (osD l).length = l.length := by simp [osD]
theorem tsD_ins {x : Ex} {l : List Ex} : tsD (insE x l) = (tsD l).take (posE x l) ++ [eT (textE x)] ++ (tsD l).drop (posE x l) := by rw [insE_pos]; simp [tsD]
theorem osD_ins {x : Ex} {l : List Ex} : osD (insE x l) = (osD l).take (posE x l) ++ [eE x] ++ (osD l).drop (posE x l) := by rw [insE_pos]; simp [osD]
theorem at_tsD {l : List Ex} {i : Nat} (h : i < l.length) : D.at (tsD l) i = eT (textE l[i]) := at_map h
theorem at_osD {l : List Ex} {i : Nat} (h : i < l.length) : D.at (osD l) i = eE l[i] := at_map h
theorem tsD_size {l : List Ex} : ∀ e ∈ tsD l, e.size = 1 := by intro e he; obtain ⟨x, _, rfl⟩ := List.mem_map.1 he; rfl
theorem osD_size {l : List Ex} : ∀ e ∈ osD l, e.size = 3 := by intro e he; obtain ⟨x, _, rfl⟩ := List.mem_map.1 he; exact eE_size x

def k_sortedE (f1 : Nat) : RC := (.seq (.r [.o (.mv 2 (.c (.ls (some true) 3 [])))]) (.seq (.r [⟨none, .bs 10 1 (.sc (.string ⟨#[]⟩)) 0 []⟩, .m 3 10]) (.seq (.r [.o (.bs 11 3 .ze 0 []), .m 4 11]) (.seq (.seq (.r [.v 5 (.ci 0)]) (.blk 0 (.loop (.seq (.seq (.r [.m 12 5, .m 13 0, .o (.len 14 (.t 13)), .o (.bin 15 .lss (.t 12) (.t 14))]) (.cond (.t 15) .skip (.exit 0))) (.seq (.blk 1 (.seq (.r [.m 18 0, .m 19 5, .o (.ia 20 3 (.t 18) (.t 19)), .c 21 f1 [.t 20], .m 6 21]) (.seq (.r [.v 7 (.ci 0)]) (.seq (.blk 2 (.loop (.seq (.seq (.r [.m 22 7, .m 23 3, .o (.len 24 (.t 23)), .o (.bin 25 .lss (.t 22) (.t 24)), .m 26 25, .wm 26 27 3, .wm 26 28 7, .w 26 (.ia 29 1 (.t 27) (.t 28)), .w 26 (.ld 30 false 1 (.t 29)), .wm 26 31 6, .w 26 (.bin 32 .lss (.t 30) (.t 31)), .k 33 26 32]) (.cond (.t 33) .skip (.exit 2))) (.blk 3 (.r [.m 34 7, .o (.bin 35 .add (.t 34) (.ci 1)), .m 7 35]))))) (.seq (.r [⟨none, .bs 36 1 (.sc (.string ⟨#[]⟩)) 0 []⟩, .m 37 3, .m 38 7, .o (.slc 39 1 (.t 37) (some (.t 38)) none), .o (.aps 40 1 16 (.t 36) (.t 39)), .m 8 40]) (.seq (.r [.o (.bs 41 3 .ze 0 []), .m 42 4, .m 43 7, .o (.slc 44 3 (.t 42) (some (.t 43)) none), .o (.aps 45 3 40 (.t 41) (.t 44)), .m 9 45]) (.seq (.r [.m 46 3, .m 47 7, .o (.slc 48 1 (.t 46) none (some (.t 47))), .m 49 6, ⟨none, .bs 50 1 (.sc (.string ⟨#[]⟩)) 1 [(0, (.t 49))]⟩, .o (.aps 51 1 16 (.t 48) (.t 50)), .m 52 8, .o (.aps 53 1 16 (.t 51) (.t 52)), .m 3 53]) (.reg true [.m 54 4, .m 55 7, .o (.slc 56 3 (.t 54) none (some (.t 55))), .m 57 0, .m 58 5, .o (.ia 59 3 (.t 57) (.t 58)), .L 60 3 59, .o (.bs 61 3 .ze 1 [(0, (.t 60))]), .m 63 9, .o (.aps 62 3 40 (.t 56) (.t 61)), .o (.aps 64 3 40 (.t 62) (.t 63)), .m 4 64])))))))) (.r [.m 16 5, .o (.bin 17 .add (.t 16) (.ci 1)), .m 5 17])))))) (.seq (.r [.m 65 4, .m 2 65]) .ret)))))
def K_sortedE (P : Program) (fno : Nat) : Prop := ∀ (g0 : Int × Int) (_ : okG g0 = true) (nn : Option Bool) (l : List Ex) (_ : ∀ e ∈ l, treeE g0 e = true ∧ (textE e).size ≤ 1000000000), l.length ≤ 1000000 → AF P fno [.ls nn 3 (osD l)] (.sh (.ls (some false) 3 (osD (sortE l))))
theorem a_sortedE {P : Program} (hm : P.follows .mixedOrders = true) {g f1 : Nat} (hr : resFw P .sh g = some (66, k_sortedE f1, [.t 2])) (hc1 : K_l01Text P f1) : K_sortedE P g := by
 intro g0 hg nn l hT hl
 refine af_of_resE hr hm rfl fun hb => ?_
 simp (maxSteps := 5000000) +contextual -implicitDefEqProofs only [k_sortedE, lN, Nat.zero_add, List.append_nil, List.nil_append, List.cons_append, go_sem, ↓reduceIte, Nat.reduceBneDiff, Nat.reduceLT, and_self, true_and, bFt, List.cons_append, List.nil_append]
 refine vc_onU (α := Nat) [3, 4, 5, 6, 7, 8, 9, 10, 11, 12, 13, 14, 15, 16, 17, 18, 19, 20, 21, 22, 23, 24, 25, 26, 27, 28, 29, 30, 31, 32, 33, 34, 35, 36, 37, 38, 39, 41, 42, 43, 44, 46, 47, 48, 49, 50, 52, 54, 55, 56, 57, 58, 59, 60, 61, 63] (fun i => [(5, .im none (.sc (.int .i64 i))), (3, .sm 10 0 i), (4, .sm 11 0 i)]) (fun i => [(10, .ar false (some false) 1 (tsD (sortE (l.take i)))), (11, .ar false (some false) 3 (osD (sortE (l.take i))))]) (fun i => i ≤ l.length) (fun i => l.length - i) 0 (Ent.trans (Ent.sha _ 10 (by rfl)) (Ent.trans (Ent.sha _ 11 (by rfl)) (Ent.to [] (by simp only [go_sem]; rfl) rfl (by simp [sortE, tsD, osD]) (by rfl) (by simp only [subEnv, go_sem, keep, memN] <;> simp)))) (Nat.zero_le _) ?_
 intro i hi0
 have hal : (sortE (l.take i)).length = i := by rw [sortE_len, List.length_take]; omega
 by_cases hi : i < l.length
 ·have ai : D.at (osD l) i = eE l[i] := at_osD hi
  obtain ⟨hx1, hx2⟩ := hT l[i] (List.getElem_mem hi)
  have htk := sortE_take hi
  generalize l[i] = x at ai hx1 hx2 htk
  generalize hacc : sortE (l.take i) = acc at hal htk ⊢
  simp (maxSteps := 5000000) +contextual -implicitDefEqProofs only [hi, ai, osD_len, lC, lN, Int.toNat_natCast, List.nil_append, List.cons_append, go_sem, ↓reduceIte, Nat.reduceEqDiff, Nat.reduceLT, decide_true, and_self, true_and, bFt, List.cons_append, List.nil_append, iL, iN]
  refine callQ_self (ds := [.pt (eE x) 0]) (by rfl) (hc1 g0 hg x hx1 hx2) ?_
  simp (maxSteps := 5000000) +contextual -implicitDefEqProofs only [eT, go_sem, ↓reduceIte]
  refine vc_onU (α := Nat) [7, 22, 23, 24, 25, 26, 27, 28, 29, 30, 31, 32, 33, 34, 35] (fun p => [(7, .im none (.sc (.int .i64 p)))]) (fun p => [(10, .ar false (some false) 1 (tsD acc)), (11, .ar false (some false) 3 (osD acc))]) (fun p => p ≤ i ∧ ∀ j (h : j < acc.length), j < p → ltT acc[j] x = true) (fun p => i - p) 0 (Ent.to [] (by simp only [go_sem]; rfl) rfl (by simp) (by rfl) (by simp only [subEnv, go_sem, keep, memN] <;> simp)) ⟨Nat.zero_le _, fun j _ h => absurd h (Nat.not_lt_zero j)⟩ ?_
  rintro p ⟨hp0, hp1⟩
  have hstop : (∃ hp : p < acc.length, ltT acc[p] x = true) ∨ (posE x acc = p ∧ ∀ hp : p < acc.length, ltT acc[p] x = false) := by
   by_cases hp : p < acc.length
   ·cases hq : ltT acc[p] x with
    | true => exact .inl ⟨hp, hq⟩
    | false => exact .inr ⟨posE_of (by omega) hp1 fun _ => hq, fun _ => hq⟩
   ·exact .inr ⟨posE_of (by omega) hp1 fun h => absurd h hp, fun h => absurd h hp⟩
  rcases hstop with ⟨hp, hlt⟩ | ⟨hpos, hlt⟩
  ·have ap : D.at (tsD acc) p = eT (textE acc[p]) := at_tsD hp
   have hpi : p < i := by omega
   have hb1 : Op.bytesLess (textE acc[p]).toList (textE x).toList = true := hlt
   simp (maxSteps := 5000000) +contextual -implicitDefEqProofs only [hpi, ap, hb1, hal, eT, Int.toNat_natCast, Nat.zero_add, List.nil_append, List.cons_append, sub_sc, isAg_sc, go_sem, ↓reduceIte, Nat.reduceEqDiff, Nat.reduceLeDiff, Nat.reduceLT, decide_true, and_self, true_and, implies_true, bFt, List.cons_append, List.nil_append, iL, iN]
   refine ⟨p + 1, ⟨by omega, fun j h hj => ?_⟩, by omega, ?_⟩
   ·by_cases e1 : j = p
    ·subst e1; exact hlt
    ·exact hp1 j (by omega) (by omega)
   rw [wrap_i64 (by omega) (by omega)]
   exact Ent.to [] (by simp only [go_sem]; rfl) rfl (by simp) (by rfl) (by simp only [subEnv, go_sem] <;> simp)
  ·obtain ⟨xk, xn, xnn, xks, hxe⟩ := Ex.ex x
   have hX : eE x = .ag [eI xk, eI xn, .ls xnn 3 (xks.map eE)] := by rw [hxe, eE_mk]; rfl
   have e1 : List.take (i - p) (List.drop p (tsD acc)) = List.drop p (tsD acc) := List.take_of_length_le (by rw [List.length_drop, tsD_len]; omega)
   have e2 : List.take (i - p) (List.drop p (osD acc)) = List.drop p (osD acc) := List.take_of_length_le (by rw [List.length_drop, osD_len]; omega)
   have l1 : (List.drop p (tsD acc)).length = i - p := by rw [List.length_drop, tsD_len]; omega
   have l2 : (List.drop p (osD acc)).length = i - p := by rw [List.length_drop, osD_len]; omega
   have c1 : (if p = i then tsD acc else List.take p (tsD acc)) = List.take p (tsD acc) := by
    split
    ·exact (List.take_of_length_le (by rw [tsD_len]; omega)).symm
    ·rfl
   have c2 : (if p = i then osD acc else List.take p (osD acc)) = List.take p (osD acc) := by
    split
    ·exact (List.take_of_length_le (by rw [osD_len]; omega)).symm
    ·rfl
   have l3 : ∀ d : D, (List.take p (tsD acc) ++ [d]).length = p + 1 := fun d => by rw [lP, List.length_take, tsD_len]; simp; omega
   have l4 : ∀ d : D, (List.take p (osD acc) ++ [d]).length = p + 1 := fun d => by rw [lP, List.length_take, osD_len]; simp; omega
   have hpl : (p : Int) ≤ (i : Int) := by omega
   have hq1 : tsD (sortE (l.take (i + 1))) = List.take p (tsD acc) ++ [eT (textE x)] ++ List.drop p (tsD acc) := by rw [htk, tsD_ins, hpos]
   have hq2 : osD (sortE (l.take (i + 1))) = List.take p (osD acc) ++ [eE x] ++ List.drop p (osD acc) := by rw [htk, osD_ins, hpos]
   rw [hX] at hq2
   simp only [eT, eI] at hq1 hq2
   have n1 : nnGrow (some false) (List.drop p (tsD acc)) = some false := nnGrow_sf
   have n2 : nnGrow (some false) (List.drop p (osD acc)) = some false := nnGrow_sf
   unfold nnGrow at n1 n2
   by_cases hpi : p < i
   ·have hp : p < acc.length := by omega
    have ap : D.at (tsD acc) p = eT (textE acc[p]) := at_tsD hp
    have hb1 : Op.bytesLess (textE acc[p]).toList (textE x).toList = false := hlt hp
    simp (maxSteps := 5000000) +contextual -implicitDefEqProofs only [e1, e2, l1, l2, l3, l4, c1, c2, hpl, ite_self, ai, hX, List.any_cons, List.any_nil, n1, n2, hpi, ap, hb1, tsD_len, osD_len, hal, List.any_cons, List.any_nil, Bool.or_false, Bool.or_self, eI, eT, lC, lN, Int.toNat_natCast, Nat.zero_add, Nat.add_zero, List.nil_append, List.cons_append, lK, lZ, Int.le_refl, bE, D.size, D.sizeL, sub_agt, sub_sc, isAg_ag, isAg_sc, List.drop_zero, List.take_succ_cons, List.take_zero, go_sem, eI, ↓reduceIte, Nat.reduceEqDiff, Nat.reduceAdd, Nat.reduceLeDiff, Nat.reduceMul, Nat.reduceBEq, Nat.reduceBneDiff, Nat.reduceLT, decide_true, and_self, true_and, and_true, implies_true, bFt, List.cons_append, List.nil_append, iL, iN]
    refine ⟨⟨by omega, by unfold maxEl; omega, fun e he => tsD_size e (List.mem_of_mem_drop he)⟩, ⟨by omega, by unfold maxEl; omega, fun e he => osD_size e (List.mem_of_mem_drop he)⟩, rfl, ⟨by omega, by unfold maxEl; omega, by simp [D.size]⟩,
     ⟨by omega, by unfold maxEl; omega, fun e he => tsD_size e (List.mem_of_mem_drop he)⟩, hi, rfl, ⟨by omega, by unfold maxEl; omega, by simp [D.size, D.sizeL]⟩, ⟨by omega, by unfold maxEl; omega, fun e he => osD_size e (List.mem_of_mem_drop he)⟩, i + 1, by omega, by omega, ?_⟩
    rw [wrap_i64 (by omega) (by omega), hq1, hq2, show p + 1 + (i - p) = i + 1 by omega]
    exact Ent.to [36, 41] (by simp only [go_sem]; rfl) rfl (by simp) (by rfl) (by simp only [subEnv, go_sem] <;> simp)
   ·have hpe : p = i := by omega
    have c3 : (if p = i then True else False) = True := by simp [hpe]
    simp (maxSteps := 5000000) +contextual -implicitDefEqProofs only [c3, e1, e2, l1, l2, l3, l4, c1, c2, hpl, ai, hX, List.any_cons, List.any_nil, n1, n2, hpi, tsD_len, osD_len, hal, List.any_cons, List.any_nil, Bool.or_false, Bool.or_self, eI, lC, lN, Int.toNat_natCast, Nat.zero_add, Nat.add_zero, List.nil_append, List.cons_append, lK, lZ, Int.le_refl, bE, D.size, D.sizeL, sub_agt, isAg_ag, List.drop_zero, List.take_succ_cons, List.take_zero, go_sem, eI, ↓reduceIte, Nat.reduceEqDiff, Nat.reduceAdd, Nat.reduceLeDiff, Nat.reduceMul, Nat.reduceBEq, Nat.reduceBneDiff, Nat.reduceLT, decide_false, and_self, true_and, and_true, implies_true, bFt, List.cons_append, List.nil_append, iL, iN]
    refine ⟨⟨by omega, by unfold maxEl; omega, fun e he => tsD_size e (List.mem_of_mem_drop he)⟩, ⟨by omega, by unfold maxEl; omega, fun e he => osD_size e (List.mem_of_mem_drop he)⟩, rfl, ⟨by omega, by unfold maxEl; omega, by simp [D.size]⟩,
     ⟨by omega, by unfold maxEl; omega, fun e he => tsD_size e (List.mem_of_mem_drop he)⟩, hi, rfl, ⟨by omega, by unfold maxEl; omega, by simp [D.size, D.sizeL]⟩, ⟨by omega, by unfold maxEl; omega, fun e he => osD_size e (List.mem_of_mem_drop he)⟩, i + 1, by omega, by omega, ?_⟩
    rw [wrap_i64 (by omega) (by omega), hq1, hq2, show p + 1 + (i - p) = i + 1 by omega]
    exact Ent.to [36, 41] (by simp only [go_sem]; rfl) rfl (by simp) (by rfl) (by simp only [subEnv, go_sem] <;> simp)
 ·obtain rfl : i = l.length := by omega
  rw [List.take_length] at hal ⊢
  generalize sortE l = acc at hal ⊢
  simp (maxSteps := 5000000) +contextual -implicitDefEqProofs only [Int.lt_irrefl, osD_len, List.nil_append, List.cons_append, go_sem, ↓reduceIte, Nat.reduceEqDiff, decide_false, true_and, bFt, List.cons_append, List.nil_append]
  refine ⟨_, Ent.frz _ 11 (u := .ar false (some false) 3 (osD acc)) (by rfl) rfl, ?_⟩
  simp (maxSteps := 5000000) +contextual -implicitDefEqProofs only [osD_len, hal, go_sem, ↓reduceIte, Nat.reduceEqDiff, Nat.reduceBEq, and_self, bFt]
theorem tree_kids {g : Int × Int} {k n : Int} {nn : Option Bool} {ks : List Ex} (h : treeE g (.mk k n nn ks) = true) : ∀ x ∈ ks, treeE g x = true := by
 rw [treeE_mk, bA] at h
 exact List.all_eq_true.1 h.2
theorem tree_form {g : Int × Int} {k n : Int} {nn : Option Bool} {ks : List Ex} (h : treeE g (.mk k n nn ks) = true) : formOk g k n ks = true := by
 rw [treeE_mk, bA] at h
 exact h.1
theorem fit_tree {g : Int × Int} (hg : okG g = true) (e : Ex) : treeE g e = true → fitE e := by
 refine Ex.ind (p := fun e => treeE g e = true → fitE e) (fun k n nn ks ih h => ?_) e
 have hk := tree_kids h
 rw [fitE_mk]
 refine ⟨?_, fun x hx => ih x hx (hk x hx)⟩
 rcases tx_ok hg (tree_form h) with ⟨_, rfl⟩ | ⟨_, rfl⟩ | ⟨_, rfl, _⟩ | ⟨_, rfl, _⟩ | ⟨_, a, rfl⟩ | ⟨_, a, b, rfl⟩ | ⟨_, a, b, rfl⟩ | ⟨_, a, rfl⟩ <;> simp
theorem text_size {g : Int × Int} (hg : okG g = true) (e : Ex) : treeE g e = true → (textE e).size ≤ 6 * sizeE e := by
 refine Ex.ind (p := fun e => treeE g e = true → (textE e).size ≤ 6 * sizeE e) (fun k n nn ks ih h => ?_) e
 have hk := tree_kids h
 rw [textE_mk, sizeE_mk]
 have s1 : ∀ a : UInt8, (⟨#[a]⟩ : ByteArray).size = 1 := fun _ => rfl
 have s3 : ∀ a b c : UInt8, (⟨#[a, b, c]⟩ : ByteArray).size = 3 := fun _ _ _ => rfl
 rcases tx_ok hg (tree_form h) with ⟨rfl, rfl⟩ | ⟨rfl, rfl⟩ | ⟨rfl, rfl, m, rfl, _⟩ | ⟨rfl, rfl, m, rfl, _⟩ | ⟨rfl, a, rfl⟩ | ⟨rfl, a, b, rfl⟩ | ⟨rfl, a, b, rfl⟩ | ⟨rfl, a, rfl⟩
 ·rw [show textOp 1 n ([].map textE) = ⟨#[48]⟩ by simp [textOp], s1]; omega
 ·rw [show textOp 2 n ([].map textE) = ⟨#[49]⟩ by simp [textOp], s1]; omega
 ·rw [show textOp 3 m ([].map textE) = ⟨#[116]⟩ ++ decB m by simp [textOp], ByteArray.size_append, s1]
  have := decB_size (n := m)
  omega
 ·rw [show textOp 4 m ([].map textE) = ⟨#[97]⟩ ++ decB m by simp [textOp], ByteArray.size_append, s1]
  have := decB_size (n := m)
  omega
 ·rw [show textOp 5 n ([a].map textE) = ⟨#[126]⟩ ++ textE a by simp [textOp], ByteArray.size_append, s1]
  have := ih a (by simp) (hk a (by simp))
  simp only [sizeEs]
  omega
 ·rw [show textOp 6 n ([a, b].map textE) = ⟨#[40]⟩ ++ textE a ++ ⟨#[32, 43, 32]⟩ ++ textE b ++ ⟨#[41]⟩ by simp [textOp]]
  have h1 := ih a (by simp) (hk a (by simp))
  have h2 := ih b (by simp) (hk b (by simp))
  simp only [ByteArray.size_append, s1, s3, sizeEs]
  omega
 ·rw [show textOp 7 n ([a, b].map textE) = ⟨#[40]⟩ ++ textE a ++ ⟨#[32]⟩ ++ textE b ++ ⟨#[41]⟩ by simp [textOp]]
  have h1 := ih a (by simp) (hk a (by simp))
  have h2 := ih b (by simp) (hk b (by simp))
  simp only [ByteArray.size_append, s1, sizeEs]
  omega
 ·rw [show textOp 8 n ([a].map textE) = textE a ++ ⟨#[42]⟩ by simp [textOp], ByteArray.size_append, s1]
  have := ih a (by simp) (hk a (by simp))
  simp only [sizeEs]
  omega
mutual
theorem mem_sumsE {g : Int × Int} : ∀ (e : Ex) (acc : List Ex), treeE g e = true → ∀ x ∈ sumsE e acc, x ∈ acc ∨ (treeE g x = true ∧ sizeE x ≤ sizeE e)
 | .mk k n nn ks, acc, h, x, hx => by
  rw [sumsE] at hx
  split at hx
  ·exact .inl hx
  ·split at hx
   ·rcases mem_sumsEs ks acc (tree_kids h) x hx with h1 | h1
    ·exact .inl h1
    ·rw [sizeE_mk]; exact .inr ⟨h1.1, by omega⟩
   ·split at hx
    ·exact .inl hx
    ·rcases List.mem_append.1 hx with h1 | h1
     ·exact .inl h1
     ·rw [List.mem_singleton] at h1
      subst h1
      exact .inr ⟨h, Nat.le_refl _⟩
theorem mem_sumsEs {g : Int × Int} : ∀ (es : List Ex) (acc : List Ex), (∀ e ∈ es, treeE g e = true) → ∀ x ∈ sumsEs es acc, x ∈ acc ∨ (treeE g x = true ∧ sizeE x ≤ sizeEs es)
 | [], acc, _, x, hx => .inl (by simpa [sumsEs] using hx)
 | e :: es, acc, h, x, hx => by
  rw [sumsEs] at hx
  simp only [sizeEs]
  rcases mem_sumsEs es (sumsE e acc) (fun y hy => h y (by simp [hy])) x hx with h1 | h1
  ·rcases mem_sumsE e acc (h e (by simp)) x h1 with h2 | h2
   ·exact .inl h2
   ·exact .inr ⟨h2.1, by omega⟩
  ·exact .inr ⟨h1.1, by omega⟩
end
theorem mem_insE {x y : Ex} : ∀ {l : List Ex}, y ∈ insE x l ↔ y = x ∨ y ∈ l
 | [] => by simp [insE]
 | z :: l => by
  rw [insE]
  split
  ·rw [List.mem_cons, mem_insE (l := l), List.mem_cons]
   constructor
   ·rintro (h | h | h) <;> simp [h]
   ·rintro (h | h | h) <;> simp [h]
  ·simp
theorem mem_sortE {y : Ex} {l : List Ex} : y ∈ sortE l ↔ y ∈ l := by
 have : ∀ (l acc : List Ex), y ∈ l.foldl (fun acc x => insE x acc) acc ↔ y ∈ acc ∨ y ∈ l := by
  intro l
  induction l with
  | nil => simp
  | cons x l ih =>
   intro acc
   rw [List.foldl_cons, ih, mem_insE, List.mem_cons]
   constructor
   ·rintro ((h | h) | h) <;> simp [h]
   ·rintro (h | h | h) <;> simp [h]
 rw [sortE, this]; simp

def sumTs : List Ex → Ex
 | [] => .mk 1 0 (some true) []
 | x :: xs => xs.foldl (fun acc y => .mk 6 0 (some false) [acc, cpE y]) (cpE x)
def sumT (a b : Ex) : Ex := sumTs (sortE (sumsE b (sumsE a [])))
theorem sumTs_take {l : List Ex} {i : Nat} (h0 : 1 ≤ i) (h : i < l.length) : sumTs (l.take (i + 1)) = .mk 6 0 (some false) [sumTs (l.take i), cpE l[i]] := by
 rw [List.take_succ_eq_append_getElem h]
 cases l with
 | nil => simp at h
 | cons x xs =>
  obtain ⟨j, rfl⟩ : ∃ j, i = j + 1 := ⟨i - 1, by omega⟩
  have hj : j < xs.length := by simpa using h
  simp only [List.take_succ_cons, List.cons_append, sumTs, List.getElem_cons_succ, List.foldl_append, List.foldl_cons, List.foldl_nil]
theorem eE_pr {k : Int} {a b : Ex} : eE (.mk k 0 (some false) [a, b]) = .ag [.sc (.int .i64 k), .sc (.int .i64 0), .ls (some false) 3 [eE a, eE b]] := by rw [eE_mk]; rfl

def k_l02Sum (f1 f2 f3 f4 f5 : Nat) : RC := (.seq (.r [.o (.zer 4 3 .ze)]) (.seq (.r [.o (.bs 8 3 .ze 0 []), .o (.zer 5 1 (.ls (some true) 3 [])), .o (.stp 1 (.t 5) (.t 8))]) (.seq (.r [.m 9 0, .o (.lcl (some 10) f1 [.t 9, .t 5])]) (.seq (.r [.m 11 1, .o (.lcl (some 12) f1 [.t 11, .t 5])]) (.seq (.r [.l 13 1 5, .o (.lcl (some 14) f2 [.t 13]), .o (.stp 1 (.t 5) (.t 14))]) (.seq (.seq (.r [.l 15 1 5, .o (.len 16 (.t 15)), .q 17 16 0]) (.cond (.t 17) (.seq (.r [.c 18 f3 [], .o (.stp 3 (.t 4) (.t 18))]) .ret) .skip)) (.seq (.r [.l 19 1 5, .i 20 3 19 0, .c 21 f4 [.t 20], .o (.zer 6 3 .ze), .o (.stp 3 (.t 6) (.t 21))]) (.seq (.seq (.r [.v 7 (.ci 1)]) (.blk 0 (.loop (.seq (.seq (.r [.m 22 7, .l 23 1 5, .o (.len 24 (.t 23)), .o (.bin 25 .lss (.t 22) (.t 24))]) (.cond (.t 25) .skip (.exit 0))) (.seq (.blk 1 (.reg true [.L 28 3 6, .l 29 1 5, .m 30 7, .o (.ia 31 3 (.t 29) (.t 30)), .c 32 f4 [.t 31], .c 33 f5 [.ci 6, .t 28, .t 32], .o (.stp 3 (.t 6) (.t 33))])) (.r [.m 26 7, .o (.bin 27 .add (.t 26) (.ci 1)), .m 7 27])))))) (.seq (.r [.L 34 3 6, .o (.stp 3 (.t 4) (.t 34))]) .ret)))))))))
def K_l02Sum (P : Program) (fno : Nat) : Prop := ∀ (g0 : Int × Int) (_ : okG g0 = true) (a b : Ex), treeE g0 a = true → treeE g0 b = true → sizeE a + sizeE b ≤ 100000 → AF P fno [.pt (eE a) 0, .pt (eE b) 0] (.own (eE (sumT a b)))
theorem a_l02Sum {P : Program} (hm : P.follows .mixedOrders = true) {g f1 f2 f3 f4 f5 : Nat} (hr : resFw P .sh g = some (35, k_l02Sum f1 f2 f3 f4 f5, [.c 4 3 true])) (hc1 : K_summandsE P f1) (hc2 : K_sortedE P f2) (hc3 : K_l02Zero P f3) (hc4 : K_l01Own P f4) (hc5 : K_l02PairX P f5) : K_l02Sum P g := by
 intro g0 hg a b hTa hTb hsz
 have hA := hc1 g0 a hTa [] (by simp; omega)
 have hl1 := sumsE_len a []
 have hB := hc1 g0 b hTb (sumsE a []) (by simp at hl1; omega)
 have hl2 := sumsE_len b (sumsE a [])
 have hmem : ∀ x ∈ sumsE b (sumsE a []), treeE g0 x = true ∧ sizeE x ≤ 1000000 := by
  intro x hx
  rcases mem_sumsE b _ hTb x hx with h | h
  ·rcases mem_sumsE a _ hTa x h with h | h
   ·cases h
   ·exact ⟨h.1, by omega⟩
  ·exact ⟨h.1, by omega⟩
 have hS := hc2 g0 hg (some false) (sumsE b (sumsE a [])) (fun x hx => ⟨(hmem x hx).1, by have := text_size hg x (hmem x hx).1; have := (hmem x hx).2; omega⟩) (by simp at hl1; omega)
 unfold sumT
 have hmL : ∀ x ∈ sortE (sumsE b (sumsE a [])), fitE x := fun x hx => fit_tree hg x (hmem x (mem_sortE.1 hx)).1
 have hlL : (sortE (sumsE b (sumsE a []))).length ≤ 1000000 := by rw [sortE_len]; simp at hl1; omega
 generalize sortE (sumsE b (sumsE a [])) = L at hS hmL hlL ⊢
 refine af_of_resw hr hm rfl fun hb => ?_
 simp +contextual -implicitDefEqProofs only [k_l02Sum, AV.one0, Nat.zero_add, Nat.add_zero, List.append_nil, D.size, D.sizeL, go_sem]
 have la : (List.map eE (sumsE a [])).length = (sumsE a []).length := List.length_map _
 have lb : (List.map eE (sumsE b (sumsE a []))).length = (sumsE b (sumsE a [])).length := List.length_map _
 refine lcl_le (Ent.sha _ 8 (by rfl)) [.im none (.pt (eE a) 0)] 5 8 (by rfl) (by rfl) (by rfl) ⟨by decide, rfl, .inl rfl⟩ (by rfl) (by rfl) hA ?_
 simp +contextual -implicitDefEqProofs only [la, Bool.or_self, go_sem]
 refine lcl_l [.im none (.pt (eE b) 0)] 5 8 (by rfl) (by rfl) (by rfl) ⟨by decide, la.symm, .inl rfl⟩ (by rfl) (by rfl) hB ?_
 simp +contextual -implicitDefEqProofs only [lb, Bool.or_self, ldV, wholeOk, AV.one0, go_sem]
 refine lcl_q _ (Ent.frz _ 8 (u := .ar false (some false) 3 (osD (sumsE b (sumsE a [])))) (by rfl) rfl) ?_
 simp +contextual -implicitDefEqProofs only [osD_len, go_sem]
 refine callQ_self (ds := [.ls (some false) 3 (osD (sumsE b (sumsE a [])))]) (by rfl) hS ?_
 simp +contextual -implicitDefEqProofs only [ldV, wholeOk, AV.one0, setV, D.size, isAg_ls, go_sem]
 have hl0 : (osD L).length = L.length := osD_len
 by_cases hL : L = []
 ·subst hL
  have hk0 : (((0 : Nat) : Int) == 0) = true := rfl
  simp +contextual -implicitDefEqProofs only [hl0, go_sem]
  refine callQ_self (ds := []) (by rfl) (hc3 ()) ?_
  rw [sumTs, eE_mk]
  simp +contextual -implicitDefEqProofs only [D.put, Nat.zero_add, Nat.add_zero, D.size, D.sizeL, sub_agt, isAg_ag, List.drop_zero, List.take_succ_cons, List.take_zero, modeOf, noPtrs, go_sem]
 have hLp : 0 < L.length := List.length_pos_iff.2 hL
 have hk0 : ((L.length : Int) == 0) = false := by simp; omega
 have a0 : D.at (osD L) 0 = eE L[0] := at_osD hLp
 have hfit : ∀ (j : Nat) (h : j < L.length), fitE L[j] := fun j h => hmL _ (List.getElem_mem h)
 have ht1 : sumTs (L.take 1) = cpE L[0] := by cases L with
  | nil => exact absurd rfl hL
  | cons x xs => rfl
 simp +contextual -implicitDefEqProofs only [hl0, hk0, a0, go_sem]
 refine ⟨by omega, callQ_self (ds := [.pt (eE L[0]) 0]) (by rfl) (hc4 L[0] (hfit 0 hLp)) ?_⟩
 simp +contextual -implicitDefEqProofs only [D.put, eE_size, Nat.zero_add, Nat.add_zero, D.size, D.sizeL, isAg_ag, modeOf, noPtrs, go_sem]
 refine vc_onU (α := Nat) [7, 22, 23, 24, 25, 26, 27, 28, 29, 30, 31, 32, 33] (fun i => [(7, .im none (.sc (.int .i64 i)))]) (fun i => [(6, .ar true (some false) 3 [eE (sumTs (L.take i))]), (5, .bx 1 [.im none (.ls (some false) 3 (osD L))]), (4, .ar true (some false) 3 [.ag [.sc (.int .i64 0), .sc (.int .i64 0), .ls (some true) 3 []]])]) (fun i => 1 ≤ i ∧ i ≤ L.length) (fun i => L.length - i) 1 (Ent.to [] (by simp only [go_sem]; rfl) rfl (by simp [ht1]) (by rfl) (by simp only [subEnv, go_sem, keep, memN] <;> simp)) ⟨Nat.le_refl _, hLp⟩ ?_
 rintro i ⟨hi1, hi0⟩
 by_cases hi : i < L.length
 ·have ai : D.at (osD L) i = eE L[i] := at_osD hi
  simp +contextual -implicitDefEqProofs only [hi, hl0, ai, ldV, wholeOk, AV.one0, encE.sub, eE_isAg, Int.toNat_natCast, Nat.zero_add, D.size, isAg_ls, go_sem, iL, iN]
  refine callQ_self (ds := [.pt (eE L[i]) 0]) (by rfl) (hc4 L[i] (hfit i hi)) ?_
  simp +contextual -implicitDefEqProofs only [go_sem]
  refine callP_self rfl hc5 (by simp only [AV.aggV, itemOk, go_sem, Bool.and_self] <;> rfl) (by simp only [AV.aggV, itemOk, eE_isAg, eE_size, go_sem, Bool.and_self] <;> rfl) ?_
  simp +contextual -implicitDefEqProofs only [Bool.or_self, D.put, D.cells, encE.sub, eE_isAg, Nat.zero_add, Nat.add_zero, List.append_nil, D.size, D.sizeL, isAg_ag, modeOf, noPtrs, go_sem]
  have hst := sumTs_take hi1 hi
  have hst2 : eE (sumTs (L.take (i + 1))) = .ag [.sc (.int .i64 6), .sc (.int .i64 0), .ls (some false) 3 [eE (sumTs (L.take i)), eE (cpE L[i])]] := by rw [hst, eE_pr]
  refine ⟨by simp [eE_size], i + 1, ⟨by omega, by omega⟩, by omega, ?_⟩
  rw [wrap_i64 (by omega) (by omega)]
  exact Ent.to [] (by simp only [go_sem]; rfl) rfl (by simp [hst2]) (by rfl) (by simp only [subEnv, go_sem] <;> simp)
 ·obtain rfl : i = L.length := by omega
  rw [List.take_length]
  simp +contextual -implicitDefEqProofs only [hl0, Int.lt_irrefl, D.put, ldV, wholeOk, AV.one0, encE.sub, eE_size, eE_isAg, Nat.zero_add, D.size, isAg_ag, isAg_ls, modeOf, noPtrs, go_sem]
end Go.Ax
