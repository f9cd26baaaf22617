/- Contracts of functions of the seat, proved over the engine. No condition. -/
import Derived.Test.YtjnghfepojipiaaXxA
import Derived.Test.YtjnghfepojipiaaEnH
set_option linter.unusedSimpArgs false
set_option linter.unusedVariables false
set_option linter.unnecessarySimpa false
set_option linter.unusedSectionVars false
namespace Go.Ax
set_option maxRecDepth 20000
set_option maxHeartbeats 4000000
abbrev Rel := Nat → Nat → Bool
def rTab (n : Nat) (R : Rel) : SL (SL Bool) := (some false, tabL n fun x => (some false, tabL n (R x)))
def rRow (n : Nat) (f : Nat → Bool) : List D := tabL n fun y => .sc (.bool (f y))
def rD (n : Nat) (R : Rel) : List D := tabL n fun x => .ls (some false) 1 (rRow n (R x))
theorem rD_eq {n : Nat} {R : Rel} : eS 1 (eS 1 eB) (rTab n R) = .ls (some false) 1 (rD n R) := by
 simp only [eS, rTab, rD, rRow, tabL_map, eB]
theorem rD_len {n : Nat} {R : Rel} : (rD n R).length = n := tabL_len
theorem rRow_len {n : Nat} {f : Nat → Bool} : (rRow n f).length = n := tabL_len
theorem tab_get {α : Type} {n i : Nat} {g : Nat → α} {d : α} (h : i < n) : (tabL n g).getD i d = g i := by simp [tabL, h]
theorem rD_at {n x : Nat} {R : Rel} (h : x < n) : D.at (rD n R) x = .ls (some false) 1 (rRow n (R x)) := tab_get h
theorem rRow_at {n y : Nat} {f : Nat → Bool} (h : y < n) : D.at (rRow n f) y = .sc (.bool (f y)) := tab_get h
theorem tab_congr {α : Type} {n : Nat} {f g : Nat → α} (h : ∀ i, i < n → f i = g i) : tabL n f = tabL n g := List.map_congr_left fun i hi => h i (List.mem_range.1 hi)
theorem rRow_congr {n : Nat} {f g : Nat → Bool} (h : ∀ i, i < n → f i = g i) : rRow n f = rRow n g := tab_congr fun i hi => by rw [h i hi]
theorem rD_congr {n : Nat} {R S : Rel} (h : ∀ x y, x < n → y < n → R x y = S x y) : rD n R = rD n S := tab_congr fun x hx => by rw [rRow_congr fun y hy => h x y hx hy]
theorem tab_set {α : Type} {n i : Nat} {f : Nat → α} {v : α} : (tabL n f).set i v = tabL n fun k => if k = i then v else f k := by
 apply List.ext_getElem
 ·simp [tabL]
 ·intro k h1 h2
  simp [tabL] at h1
  by_cases e : i = k
  ·subst e; simp [tabL]
  ·simp [tabL, e, Ne.symm e]
def setR (R : Rel) (x y : Nat) (v : Bool) : Rel := fun a b => if a = x ∧ b = y then v else R a b
theorem rD_set {n x y : Nat} {R : Rel} {v : Bool} : (rD n R).set x (.ls (some false) 1 ((rRow n (R x)).set y (.sc (.bool v)))) = rD n (setR R x y v) := by
 unfold rD rRow
 rw [tab_set, tab_set]
 refine tab_congr fun a _ => ?_
 by_cases ha : a = x
 ·subst ha
  simp only [if_true, setR]
  congr 1
  refine tab_congr fun b _ => ?_
  by_cases hb : b = y
  ·simp [hb]
  ·simp [hb]
 ·simp [ha, setR]
def setRow (R : Rel) (x : Nat) (f : Nat → Bool) : Rel := fun a b => if a = x then f b else R a b
theorem repl_row {n : Nat} : List.replicate n (D.sc (.bool false)) = rRow n fun _ => false := by
 unfold rRow tabL
 apply List.ext_getElem
 ·simp
 ·intro i h1 h2; simp
structure Sq (n : Nat) (a : SL (SL Bool)) : Prop where
 len : a.2.length = n
 row : ∀ r ∈ a.2, r.2.length = n
def relOf (a : SL (SL Bool)) : Rel := fun x y => (a.2.getD x (none, [])).2.getD y false
theorem Sq.rows {n x : Nat} {a : SL (SL Bool)} (h : Sq n a) (hx : x < n) : (a.2.getD x (none, [])).2.length = n := by
 have hx' : x < a.2.length := by rw [h.len]; exact hx
 rw [show a.2.getD x (none, []) = a.2[x] by simp [hx']]
 exact h.row _ (List.getElem_mem hx')
theorem rTab_sq {n : Nat} {R : Rel} : Sq n (rTab n R) := ⟨tabL_len, fun r hr => by
 obtain ⟨x, _, rfl⟩ := List.mem_map.1 hr
 exact tabL_len⟩
theorem relOf_tab {n x y : Nat} {R : Rel} (hx : x < n) (hy : y < n) : relOf (rTab n R) x y = R x y := by
 unfold relOf rTab
 rw [tab_get hx, tab_get hy]
theorem Sq.at {n x : Nat} {a : SL (SL Bool)} (h : Sq n a) (hx : x < n) : D.at (a.2.map (eS 1 eB)) x = .ls (a.2.getD x (none, [])).1 1 ((a.2.getD x (none, [])).2.map eB) := by
 have hx' : x < a.2.length := by rw [h.len]; exact hx
 rw [at_map hx']
 simp [eS, hx']
theorem Sq.at2 {n x y : Nat} {a : SL (SL Bool)} (h : Sq n a) (hx : x < n) (hy : y < n) : D.at ((a.2.getD x (none, [])).2.map eB) y = .sc (.bool (relOf a x y)) := by
 have hy' : y < (a.2.getD x (none, [])).2.length := by rw [h.rows hx]; exact hy
 rw [at_map hy']
 show D.sc (.bool _) = _
 unfold relOf
 congr 2
 simp only [List.getD_eq_getElem?_getD] at hy' ⊢
 rw [List.getElem?_eq_getElem hy']
 rfl
def dotU (A B : Rel) (z x y : Nat) : Bool := (List.range z).any fun k => A x k && B k y
def dotR (n : Nat) (A B : Rel) : Rel := dotU A B n
theorem dotU_succ {A B : Rel} {z x y : Nat} : dotU A B (z + 1) x y = (dotU A B z x y || (A x z && B z y)) := by simp [dotU, List.range_succ]
theorem dotU_congr {A B A' B' : Rel} {n x y : Nat} (h1 : ∀ k, k < n → A x k = A' x k) (h2 : ∀ k, k < n → B k y = B' k y) : dotU A B n x y = dotU A' B' n x y := by
 induction n with
 | zero => rfl
 | succ n ih => rw [dotU_succ, dotU_succ, ih (fun k hk => h1 k (by omega)) (fun k hk => h2 k (by omega)), h1 n (by omega), h2 n (by omega)]

def warR (A : Rel) : Nat → Rel
 | 0 => fun x y => A x y || x == y
 | k + 1 => fun x y => warR A k x y || (warR A k x k && warR A k k y)
def starR (n : Nat) (A : Rel) : Rel := warR A n
theorem warR_refl {A : Rel} : ∀ {k x : Nat}, warR A k x x = true
 | 0, x => by simp [warR]
 | k + 1, x => by simp [warR, warR_refl (k := k)]
def k_l05None : RC := (.seq (.r [.o (.mv 2 (.c (.ls (some true) 1 [])))]) (.seq (.r [.o (.bs 5 1 (.ls (some true) 1 []) 0 []), .m 3 5]) (.seq (.seq (.r [.v 4 (.ci 0)]) (.blk 0 (.loop (.seq (.seq (.r [.m 6 4, .m 7 0, .o (.bin 8 .lss (.t 6) (.t 7))]) (.cond (.t 8) .skip (.exit 0))) (.seq (.blk 1 (.r [.m 11 3, .m 12 0, .o (.mk 13 1 1 (.sc (.bool false)) (.t 12) (.t 12)), .o (.bs 14 1 (.ls (some true) 1 []) 1 [(0, (.t 13))]), .o (.app 15 1 24 (.t 11) (.t 14)), .m 3 15])) (.r [.m 9 4, .o (.bin 10 .add (.t 9) (.ci 1)), .m 4 10])))))) (.seq (.r [.m 16 3, .m 2 16]) .ret))))
def K_l05None (P : Program) (fno : Nat) : Prop := ∀ (n : Nat) (hn : n ≤ 1000), AF P fno [eI n] (.arr 1 (rD n fun _ _ => false))
theorem a_l05None {P : Program} (hm : P.follows .mixedOrders = true) {g : Nat} (hr : resF P g = some (17, k_l05None, [.t 2])) : K_l05None P g := by
 intro n hn
 refine af_of_res hr hm rfl fun hb => ?_
 simp +contextual -implicitDefEqProofs only [k_l05None, go_sem, eI]
 refine vc_onU (α := Nat) [3, 4, 5, 6, 7, 8, 9, 10, 11, 12, 13, 14, 15] (fun i => [(4, .im none (.sc (.int .i64 i))), (3, .sm 5 0 i)]) (fun i => [(5, .ar true (some false) 1 (tabL i fun _ => .ls (some false) 1 (rRow n fun _ => false)))]) (fun i => i ≤ n) (fun i => n - i) 0 (Ent.to [] (by simp only [go_sem]; rfl) rfl (by simp [tabL_zero]) (by rfl) (by simp only [subEnv, go_sem, keep, memN] <;> simp)) (Nat.zero_le _) ?_
 intro i hi0
 by_cases hi : i < n
 ·simp +contextual -implicitDefEqProofs only [hi, tabL_len, go_sem, Nat.reduceMul, iL, iN]
  refine ⟨⟨by omega, by omega, by omega⟩, rfl, by simp, ⟨by omega, by unfold maxEl; omega, by simp [D.size]⟩, i + 1, by omega, by omega, ?_⟩
  rw [wrap_i64 (by omega) (by omega)]
  exact Ent.to [] (by simp only [go_sem]; rfl) rfl (by simp [tabL_succ, repl_row]) (by rfl) (by simp only [subEnv, go_sem] <;> simp)
 ·obtain rfl : i = n := by omega
  simp +contextual -implicitDefEqProofs only [hi, rD_len, go_sem, iL]
  rfl
theorem dotU_true {A B : Rel} {n z x y : Nat} (hz : z < n) (h1 : A x z = true) (h2 : B z y = true) : dotU A B n x y = true := by
 simp only [dotU, List.any_eq_true, List.mem_range]
 exact ⟨z, hz, by simp [h1, h2]⟩

def k_composed1 : RC := (.seq (.r [.v 6 .cf]) (.seq (.seq (.r [.l 8 1 2, .o (.len 9 (.t 8)), .v 10 (.ci 0)]) (.blk 0 (.loop (.seq (.r [.o (.bin 11 .lss (.t 10) (.t 9))]) (.seq (.cond (.t 11) .skip (.exit 0)) (.seq (.blk 1 (.seq (.r [.m 12 10, .m 7 12]) (.seq (.r [.l 13 1 3, .m 14 0, .o (.ia 15 1 (.t 13) (.t 14)), .l 16 1 15, .m 17 7, .o (.ia 18 1 (.t 16) (.t 17)), .l 19 1 18, .m 20 19, .w 20 (.ld 21 false 1 (.t 2)), .wm 20 22 7, .w 20 (.ia 23 1 (.t 21) (.t 22)), .w 20 (.ld 24 false 1 (.t 23)), .wm 20 25 1, .w 20 (.ia 26 1 (.t 24) (.t 25)), .w 20 (.ld 27 false 1 (.t 26)), .k 28 20 27]) (.cond (.t 28) (.seq (.r [.v 6 .ct]) .ret) .skip)))) (.r [.o (.bin 29 .add (.t 10) (.ci 1)), .m 10 29]))))))) (.seq (.r [.v 6 .cf]) .ret)))
def K_composed1 (P : Program) (fno : Nat) : Prop := ∀ (n : Nat) (a b : SL (SL Bool)) (x y : Nat) (hn : n ≤ 1000) (ha : Sq n a) (hb2 : Sq n b) (hx : x < n) (hy : y < n), AF P fno [eI x, eI y, .pt (eS 1 (eS 1 eB) b) 0, .pt (eS 1 (eS 1 eB) a) 0] (.own (eB (dotR n (relOf a) (relOf b) x y)))
theorem a_composed1 {P : Program} (hm : P.follows .mixedOrders = true) {g : Nat} (hr : resF P g = some (30, k_composed1, [.t 6])) : K_composed1 P g := by
 intro n a b x y hn ha hb2 hx hy
 refine af_of_res hr hm rfl fun hb => ?_
 have la := ha.len
 have lb := hb2.len
 have ax := ha.at hx
 have rx := ha.rows hx
 simp +contextual -implicitDefEqProofs only [k_composed1, eS, lb, go_sem, eI, eB, lM]
 refine vc_onU (α := Nat) [6, 7, 10, 11, 12, 13, 14, 15, 16, 17, 18, 19, 20, 21, 22, 23, 24, 25, 26, 27, 28, 29] (fun z => [(10, .im none (.sc (.int .i64 z)))]) (fun z => []) (fun z => z ≤ n ∧ dotU (relOf a) (relOf b) z x y = false) (fun z => n - z) 0 (Ent.to [] (by simp only [go_sem]; rfl) rfl (by simp) (by rfl) (by simp only [subEnv, go_sem, keep, memN] <;> simp)) ⟨Nat.zero_le _, rfl⟩ ?_
 rintro z ⟨hz0, hz1⟩
 by_cases hz : z < n
 ·have az := ha.at2 hx hz
  have bz := hb2.at hz
  have by_ := hb2.at2 hz hy
  have rz := hb2.rows hz
  cases h1 : relOf a x z
  ·rw [h1] at az
   simp +contextual -implicitDefEqProofs only [ax, az, hz, hx, la, rx, D.size, D.sub, go_sem, iL, lM, iN]
   rw [wrap_i64 (by omega) (by omega)]
   exact ⟨z + 1, ⟨by omega, by rw [dotU_succ, hz1, h1]; rfl⟩, by omega, Ent.to [] (by simp only [go_sem]; rfl) rfl (by simp) (by rfl) (by simp only [subEnv, go_sem] <;> simp)⟩
  rw [h1] at az
  cases h2 : relOf b z y
  ·rw [h2] at by_
   simp +contextual -implicitDefEqProofs only [ax, az, bz, by_, hz, hx, hy, la, lb, rx, rz, D.size, D.sub, go_sem, iL, lM, iN]
   rw [wrap_i64 (by omega) (by omega)]
   exact ⟨z + 1, ⟨by omega, by rw [dotU_succ, hz1, h1, h2]; rfl⟩, by omega, Ent.to [] (by simp only [go_sem]; rfl) rfl (by simp) (by rfl) (by simp only [subEnv, go_sem] <;> simp)⟩
  ·rw [h2] at by_
   simp +contextual -implicitDefEqProofs only [ax, az, bz, by_, hz, hx, hy, la, lb, rx, rz, D.size, D.sub, go_sem, iL, lM, iN]
   exact D.Le.sc_eq (by unfold dotR; rw [dotU_true hz h1 h2])
 ·obtain rfl : z = n := by omega
  simp +contextual -implicitDefEqProofs only [hz, go_sem, iL]
  exact D.Le.sc_eq (by unfold dotR; rw [hz1])

def k_composed (f1 f2 : Nat) : RC := (.seq (.r [.b 2 1 0, .b 3 1 1, .o (.mv 4 (.c (.ls (some true) 1 [])))]) (.seq (.r [.l 5 1 2, .o (.len 6 (.t 5)), .o (.mkf 7 f2 [.t 3, .t 2]), .c 8 f1 [.t 6, .t 7], .m 4 8]) .ret))
def K_composed (P : Program) (fno : Nat) : Prop := ∀ (n : Nat) (a b : SL (SL Bool)) (hn : n ≤ 1000) (ha : Sq n a) (hb2 : Sq n b), AF P fno [eS 1 (eS 1 eB) a, eS 1 (eS 1 eB) b] (.own (eS 1 (eS 1 eB) (rTab n (dotR n (relOf a) (relOf b)))))
theorem a_composed {P : Program} (hm : P.follows .mixedOrders = true) {g f1 f2 : Nat} (hr : resF P g = some (9, k_composed f1 f2, [.t 4])) (hc1 : K_tableB P f1) (hc2 : K_composed1 P f2) : K_composed P g := by
 intro n a b hn ha hb2
 refine af_of_res hr hm rfl fun hb => ?_
 have la := ha.len
 simp +contextual -implicitDefEqProofs only [k_composed, eS, D.at, D.sub, la, go_sem, lM]
 refine callQ_self (ds := [eI n, .fn f2 [.pt (eS 1 (eS 1 eB) b) 0, .pt (eS 1 (eS 1 eB) a) 0]]) (by rfl) (hc1 n f2 _ (dotR n (relOf a) (relOf b)) hn (fun x y hx hy => hc2 n a b x y hn ha hb2 hx hy)) ?_
 simp +contextual -implicitDefEqProofs only [eS, rTab, go_sem]
theorem okMo_pts {m : Mo} (h : okMo m = true) : 1 ≤ m.2.1 ∧ m.2.1 ≤ 8 := by
 simp only [okMo, testsOk, bA, isIn, decide_eq_true_eq] at h
 exact h.1.2.1

mutual
def cpE : Ex → Ex
 | .mk k n _ ks => .mk k n (nnL ks) (cpEs ks)
def cpEs : List Ex → List Ex
 | [] => []
 | e :: es => cpE e :: cpEs es
end
theorem cpEs_eq : ∀ ks : List Ex, cpEs ks = ks.map cpE
 | [] => rfl
 | e :: es => by simp only [cpEs, lC, cpEs_eq es]
theorem cpE_mk {k n : Int} {nn : Option Bool} {ks : List Ex} : cpE (.mk k n nn ks) = .mk k n (nnL ks) (ks.map cpE) := by rw [cpE]; simp only [cpEs_eq]

def k_l01Own (g : Nat) : RC := (.seq (.r [.o (.zer 2 3 .ze)]) (.seq (.reg true [.m 5 0, .n 6 5, .f 7 0 6, .l 8 1 7, .m 9 0, .n 10 9, .f 11 1 10, .l 12 1 11, .o (.bld 13 .ze [(0, 1, (.t 8)), (1, 1, (.t 12))]), .o (.zer 3 3 .ze), .s 3 3 13]) (.seq (.seq (.r [.v 4 (.ci 0)]) (.blk 0 (.loop (.seq (.seq (.r [.m 14 4, .m 15 0, .n 16 15, .f 17 2 16, .l 18 1 17, .o (.len 19 (.t 18)), .o (.bin 20 .lss (.t 14) (.t 19))]) (.cond (.t 20) .skip (.exit 0))) (.seq (.blk 1 (.reg true [.f 23 2 3, .l 24 1 23, .m 25 0, .n 26 25, .f 27 2 26, .l 28 1 27, .m 29 4, .o (.ia 30 3 (.t 28) (.t 29)), .c 31 g [.t 30], .o (.bs 32 3 .ze 1 [(0, (.t 31))]), .o (.app 33 3 40 (.t 24) (.t 32)), .f 34 2 3, .s 1 34 33])) (.r [.m 21 4, .o (.bin 22 .add (.t 21) (.ci 1)), .m 4 22])))))) (.seq (.r [.L 35 3 3, .s 3 2 35]) .ret))))
def K_l01Own (P : Program) (fno : Nat) : Prop := ∀ (e : Ex) (hf0 : fitE e), AF P fno [.pt (eE e) 0] (.own (eE (cpE e)))
theorem a_l01Own {P : Program} (hm : P.follows .mixedOrders = true) {g : Nat} (hr : resF P g = some (36, k_l01Own g, [.c 2 3 true])) : K_l01Own P g := by
 intro e hf0
 refine Ex.ind (p := fun e => fitE e → AF P g [.pt (eE e) 0] (.own (eE (cpE e)))) (fun k n nn ks ih hf => ?_) e hf0
 rw [fitE_mk] at hf
 rw [eE_mk, cpE_mk, eE_mk]
 refine af_of_res hr hm rfl fun hb => ?_
 have hl : ks.length ≤ 9223372036854775807 := by
  have := hb.1
  simp only [D.bd, D.bdL, lM, maxEl] at this
  exact this.2.2.1.1
 simp +contextual -implicitDefEqProofs only [k_l01Own, D.put, D.cells, D.size, D.sizeL, D.at, D.sub, D.isAg, modeOf, noPtrs, go_sem, Nat.reduceSub]
 refine vc_onU (α := Nat) [4, 14, 15, 16, 17, 18, 19, 20, 21, 22, 23, 24, 25, 26, 27, 28, 29, 30, 31, 32, 33, 34] (fun i => [(4, .im none (.sc (.int .i64 i)))]) (fun i => [(3, .ar true (some false) 3 [.ag [.sc (.int .i64 k), .sc (.int .i64 n), .ls (nnL (ks.take i)) 3 (((ks.take i).map cpE).map eE)]]), (2, .ar true (some false) 3 [.ag [.sc (.int .i64 0), .sc (.int .i64 0), .ls (some true) 3 []]])]) (fun i => i ≤ ks.length) (fun i => ks.length - i) 0 (Ent.to [] (by simp only [go_sem]; rfl) rfl (by simp [nnL]) (by rfl) (by simp only [subEnv, go_sem, keep, memN]; simp)) (Nat.zero_le _) ?_
 intro i hi0
 by_cases hi : i < ks.length
 ·have e1 := at_map (f := eE) hi
  have hlen : ((ks.take i).map (fun x => eE (cpE x))).length = i := by simp; omega
  simp +contextual -implicitDefEqProofs only [hi, e1, go_sem, iL, lM, iN]
  refine callQ_self ?_ (ih ks[i] (List.getElem_mem hi) (hf.2 _ (List.getElem_mem hi))) ?_
  ·exact rfl
  simp +contextual -implicitDefEqProofs only [eE_size, go_sem, Nat.reduceMul, lM]
  have hl2 : (ks.take i).length = i := by simp; omega
  refine ⟨rfl, ⟨by omega, by unfold maxEl; omega, by simp [eE_size]⟩, i + 1, by omega, by omega, ?_⟩
  rw [wrap_i64 (by omega) (by omega)]
  exact Ent.to [] (by simp only [go_sem]; rfl) rfl (by simp [nnL_take hi, map_take hi, List.map_append]) (by rfl) (by simp only [subEnv, go_sem]; simp)
 ·simp +contextual -implicitDefEqProofs only [hi, go_sem, iL, lM]
  rw [List.take_of_length_le (by omega)]
  exact D.Le.refl _
abbrev Wd := SL Int × SL (SL Int)
def allIn (lo hi : Int) (l : List Int) : Bool := l.all fun x => isIn x lo hi
def rowOk (n : Int) (r : SL Int) : Bool := lenIs n r && allIn (-1) (n - 1) r.2
def atomsOf (g : Int × Int) : Int := 2 ^ g.1.toNat
def okW (g : Int × Int) (w : Wd) : Bool := isIn w.1.2.length 1 12 && (allIn 0 (atomsOf g - 1) w.1.2 && (lenIs g.2 w.2 && w.2.2.all (rowOk w.1.2.length)))
def k_inRange (f1 : Nat) : RC := (.seq (.r [.v 4 .cf]) (.seq (.seq (.r [.m 7 0, .o (.len 8 (.t 7)), .v 9 (.ci 0)]) (.blk 0 (.loop (.seq (.r [.o (.bin 10 .lss (.t 9) (.t 8))]) (.seq (.cond (.t 10) .skip (.exit 0)) (.seq (.blk 1 (.seq (.r [.o (.ia 11 1 (.t 7) (.t 9)), .l 12 1 11, .m 6 12]) (.seq (.r [.m 13 6, .m 14 1, .o (.bin 15 .sub (.t 14) (.ci 1)), .c 16 f1 [.t 13, .ci 0, .t 15], .o (.un 17 .not (.t 16))]) (.cond (.t 17) (.seq (.r [.v 4 .cf]) .ret) .skip)))) (.r [.o (.bin 18 .add (.t 9) (.ci 1)), .m 9 18]))))))) (.seq (.r [.v 4 .ct]) .ret)))
def K_inRange (P : Program) (f : Nat) : Prop := ∀ (s : SL Int) (n : Int) (h1 : 0 ≤ n) (h2 : n ≤ 1048576), AF P f [eS 1 eI s, eI n] (.own (eB (allIn 0 (n - 1) s.2)))
theorem a_inRange {P : Program} (hm : P.follows .mixedOrders = true) {g f1 : Nat} (hr : resF P g = some (19, k_inRange f1, [.t 4])) (hc1 : K_within P f1) : K_inRange P g := by
 intro s n h1 h2
 refine af_of_res hr hm rfl fun hb => ?_
 have hl := bd_ls hb.1
 simp only [lM] at hl
 simp +contextual -implicitDefEqProofs only [k_inRange, eS, lM, go_sem, eI, eB]
 refine vc_on (α := Nat) [4, 6, 9, 10, 11, 12, 13, 14, 15, 16, 17, 18] (fun i => [(9, .im none (.sc (.int .i64 i)))]) (fun i => i ≤ s.2.length ∧ (s.2.take i).all ((fun x => isIn x 0 (n - 1))) = true) (fun i => s.2.length - i) 0 (by simp only [subEnv, go_sem]; simp) ⟨Nat.zero_le _, rfl⟩ ?_
 rintro i ⟨j1, j2⟩
 by_cases hi : i < s.2.length
 ·have e1 := at_map (f := eI) hi
  simp +contextual -implicitDefEqProofs only [e1, hi, iL, lM, iN, go_sem, eI]
  rw [wrap_i64 (by omega) (by omega)]
  refine callQ_self ?_ (hc1 s.2[i] 0 (n - 1)) ?_
  ·exact rfl
  cases hx : isIn s.2[i] 0 (n - 1)
  ·simp +contextual -implicitDefEqProofs only [bN, go_sem, eB]
   exact D.Le.sc_eq (by simp only [allIn]; rw [all_fail hi hx])
  ·simp +contextual -implicitDefEqProofs only [bT, go_sem, eB]
   rw [wrap_i64 (by omega) (by omega)]
   exact ⟨i + 1, ⟨by omega, all_take_succ hi j2 hx⟩, by omega, Ent.env (by simp only [subEnv, go_sem]; simp)⟩
 ·simp +contextual -implicitDefEqProofs only [hi, iL, go_sem]
  exact D.Le.sc_eq (by simp only [allIn]; rw [all_of_take hi j2])


def ascI (l : List Int) (n : Nat) : Bool := (List.range n).all fun i => decide (l.getD i 0 < l.getD (i + 1) 0)
def asc (l : List Int) : Bool := ascI l (l.length - 1)
theorem ascI_succ {l : List Int} {n : Nat} : ascI l (n + 1) = (ascI l n && decide (l.getD n 0 < l.getD (n + 1) 0)) := by
 simp [ascI, List.range_succ]
theorem ascI_false {l : List Int} {n m : Nat} (h : ascI l n = false) (hm : n ≤ m) : ascI l m = false := by
 rw [ascI, List.all_eq_false] at h ⊢
 obtain ⟨x, hx, h⟩ := h
 exact ⟨x, List.mem_range.2 (by have := List.mem_range.1 hx; omega), h⟩
def isSetB (p : Int) (l : List Int) : Bool := asc l && allIn 0 (p - 1) l
theorem getD_at {α : Type} {l : List α} {i : Nat} {d : α} (h : i < l.length) : l.getD i d = l[i] := by simp [h]
theorem at_mapD {α : Type} {f : α → D} {l : List α} {i : Nat} {d : α} (h : i < l.length) : D.at (l.map f) i = f (l.getD i d) := by rw [at_map h, getD_at h]
theorem wrap_pred {i : Nat} (h : 1 ≤ i) (h2 : i ≤ 9223372036854775807) : IntKind.i64.wrap ((i : Int) - 1) = ((i - 1 : Nat) : Int) := by rw [wrap_i64 (by omega) (by omega)]; omega

def k_ascending : RC := (.seq (.r [.v 2 .cf]) (.seq (.seq (.r [.v 3 (.ci 1)]) (.blk 0 (.loop (.seq (.seq (.r [.m 4 3, .m 5 0, .o (.len 6 (.t 5)), .o (.bin 7 .lss (.t 4) (.t 6))]) (.cond (.t 7) .skip (.exit 0))) (.seq (.blk 1 (.seq (.reg true [.m 10 0, .m 11 3, .o (.ia 12 1 (.t 10) (.t 11)), .l 13 1 12, .m 14 0, .m 15 3, .o (.bin 16 .sub (.t 15) (.ci 1)), .o (.ia 17 1 (.t 14) (.t 16)), .l 18 1 17, .o (.bin 19 .leq (.t 13) (.t 18))]) (.cond (.t 19) (.seq (.r [.v 2 .cf]) .ret) .skip))) (.r [.m 8 3, .o (.bin 9 .add (.t 8) (.ci 1)), .m 3 9])))))) (.seq (.r [.v 2 .ct]) .ret)))
def K_ascending (P : Program) (fno : Nat) : Prop := ∀ (s : SL Int), AF P fno [eS 1 eI s] (.own (eB (asc s.2)))
theorem a_ascending {P : Program} (hm : P.follows .mixedOrders = true) {g : Nat} (hr : resF P g = some (20, k_ascending, [.t 2])) : K_ascending P g := by
 intro s
 refine af_of_res hr hm rfl fun hb => ?_
 have hl := bd_ls hb.1
 simp only [lM] at hl
 simp +contextual -implicitDefEqProofs only [k_ascending, eS, go_sem, eB]
 refine vc_on (α := Nat) [2, 3, 4, 5, 6, 7, 8, 9, 10, 11, 12, 13, 14, 15, 16, 17, 18, 19] (fun i => [(3, .im none (.sc (.int .i64 i)))]) (fun i => 1 ≤ i ∧ ascI s.2 (i - 1) = true) (fun i => s.2.length - i) 1 (by simp only [subEnv, go_sem] <;> simp) ⟨Nat.le_refl _, rfl⟩ ?_
 rintro i ⟨h1, h2⟩
 by_cases hi : i < s.2.length
 ·have w1 := wrap_pred h1 (by omega)
  have e1 := at_mapD (f := eI) (d := 0) hi
  have hi' : i - 1 < s.2.length := by omega
  have e2 := at_mapD (f := eI) (d := 0) hi'
  have hs := ascI_succ (l := s.2) (n := i - 1)
  rw [show i - 1 + 1 = i by omega, h2, bI] at hs
  simp +contextual -implicitDefEqProofs only [hi, hi', e1, e2, w1, Int.toNat_natCast, go_sem, eI, iL, lM, iN]
  refine ⟨fun h => D.Le.sc_eq ?_, fun h => ?_⟩
  ·have : ascI s.2 i = false := by rw [hs]; simpa using h
   rw [asc, ascI_false this (by omega)]
  ·rw [wrap_i64 (by omega) (by omega)]
   exact ⟨i + 1, ⟨by omega, by rw [Nat.add_sub_cancel, hs]; simpa using h⟩, by omega, Ent.env (by simp only [subEnv, go_sem] <;> simp)⟩
 ·simp +contextual -implicitDefEqProofs only [hi, go_sem, iL, lM]
  refine D.Le.sc_eq ?_
  congr 1
  unfold asc
  cases hh : ascI s.2 (s.2.length - 1) with
  | true => rfl
  | false => rw [ascI_false hh (by omega)] at h2; cases h2

def k_isSet (f1 f2 : Nat) : RC := (.seq (.r [.b 2 5 0, .v 4 .cf]) (.seq (.r [.m 5 1, .c 6 f1 [.t 5], .m 7 6, .wm 7 8 1, .w 7 (.fa 9 2 (.t 2)), .w 7 (.ld 10 false 1 (.t 9)), .w 7 (.call (some 11) f2 [.t 8, .t 10]), .k 12 7 11, .m 4 12]) .ret))
def K_isSet (P : Program) (fno : Nat) : Prop := ∀ (m : Mo) (s : SL Int) (hp : 0 ≤ m.2.1 ∧ m.2.1 ≤ 1048576), AF P fno [eM m, eS 1 eI s] (.own (eB (isSetB m.2.1 s.2)))
theorem a_isSet {P : Program} (hm : P.follows .mixedOrders = true) {g f1 f2 : Nat} (hr : resF P g = some (13, k_isSet f1 f2, [.t 4])) (hc1 : K_ascending P f1) (hc2 : K_inRange P f2) : K_isSet P g := by
 intro m s hp
 refine af_of_res hr hm rfl fun hb => ?_
 simp +contextual -implicitDefEqProofs only [k_isSet, eM, eS, go_sem, eI, eB]
 refine callQ_self (ds := [eS 1 eI s]) (by rfl) (hc1 s) ?_
 cases h : asc s.2
 ·simp +contextual -implicitDefEqProofs only [isSetB, h, eB, bG, go_sem]
 simp +contextual -implicitDefEqProofs only [isSetB, h, eB, bI, go_sem]
 refine callQ_self (ds := [eS 1 eI s, eI m.2.1]) (by rfl) (hc2 s m.2.1 hp.1 hp.2) ?_
 simp +contextual -implicitDefEqProofs only [eB, go_sem]

def k_l05Set (f1 : Nat) : RC := (.seq (.r [.v 4 .cf]) (.seq (.seq (.r [.v 5 (.ci 0)]) (.blk 0 (.loop (.seq (.seq (.r [.m 6 5, .m 7 1, .o (.len 8 (.t 7)), .o (.bin 9 .lss (.t 6) (.t 8))]) (.cond (.t 9) .skip (.exit 0))) (.seq (.blk 1 (.seq (.reg true [.m 12 1, .m 13 5, .o (.ia 14 1 (.t 12) (.t 13)), .l 15 1 14, .m 16 0, .n 17 16, .f 18 2 17, .l 19 1 18, .o (.bin 20 .sub (.t 19) (.ci 1)), .c 21 f1 [.t 15, .ci 0, .t 20], .o (.un 22 .not (.t 21)), .m 23 22, .u 23 (.mv 24 (.t 5)), .u 23 (.bin 25 .gtr (.t 24) (.ci 0)), .u 23 (.mv 26 (.t 25)), .wm 26 27 1, .wm 26 28 5, .w 26 (.bin 29 .sub (.t 28) (.ci 1)), .w 26 (.ia 30 1 (.t 27) (.t 29)), .w 26 (.ld 31 false 1 (.t 30)), .wm 26 32 1, .wm 26 33 5, .w 26 (.ia 34 1 (.t 32) (.t 33)), .w 26 (.ld 35 false 1 (.t 34)), .w 26 (.bin 36 .geq (.t 31) (.t 35)), .u 23 (.pick 37 (.t 26) (.t 36) .cf), .o (.pick 38 (.t 23) .ct (.t 37))]) (.cond (.t 38) (.seq (.r [.v 4 .cf]) .ret) .skip))) (.r [.m 10 5, .o (.bin 11 .add (.t 10) (.ci 1)), .m 5 11])))))) (.seq (.r [.v 4 .ct]) .ret)))
def K_l05Set (P : Program) (fno : Nat) : Prop := ∀ (m : Mo) (s : SL Int) (hp : 0 ≤ m.2.1 ∧ m.2.1 ≤ 1048576), AF P fno [.pt (eM m) 0, eS 1 eI s] (.own (eB (isSetB m.2.1 s.2)))
theorem a_l05Set {P : Program} (hm : P.follows .mixedOrders = true) {g f1 : Nat} (hr : resF P g = some (39, k_l05Set f1, [.t 4])) (hc1 : K_l00In P f1) : K_l05Set P g := by
 intro m s hp
 refine af_of_res hr hm rfl fun hb => ?_
 have hl := bd_ls hb.2.1
 simp only [lM] at hl
 have wp : IntKind.i64.wrap (m.2.1 - 1) = m.2.1 - 1 := wrap_i64 (by omega) (by omega)
 simp +contextual -implicitDefEqProofs only [k_l05Set, eS, eM, go_sem, eI, eB]
 refine vc_on (α := Nat) [4, 5, 6, 7, 8, 9, 10, 11, 12, 13, 14, 15, 16, 17, 18, 19, 20, 21, 22, 23, 24, 25, 26, 27, 28, 29, 30, 31, 32, 33, 34, 35, 36, 37, 38] (fun i => [(5, .im none (.sc (.int .i64 i)))]) (fun i => i ≤ s.2.length ∧ ascI s.2 (i - 1) = true ∧ (s.2.take i).all (fun x => isIn x 0 (m.2.1 - 1)) = true) (fun i => s.2.length - i) 0 (by simp only [subEnv, go_sem] <;> simp) ⟨Nat.zero_le _, rfl, rfl⟩ ?_
 rintro i ⟨h1, h2, h3⟩
 by_cases hi : i < s.2.length
 ·have e1 := at_mapD (f := eI) (d := 0) hi
  simp +contextual -implicitDefEqProofs only [hi, e1, wp, Int.toNat_natCast, D.size, D.sizeL, go_sem, eI, iL, lM, iN]
  refine callQ_self (ds := [eI (s.2.getD i 0), eI 0, eI (m.2.1 - 1)]) (by rfl) (hc1 (s.2.getD i 0) 0 (m.2.1 - 1)) ?_
  cases hx : isIn (s.2.getD i 0) 0 (m.2.1 - 1)
  ·simp +contextual -implicitDefEqProofs only [eB, bN, go_sem]
   refine D.Le.sc_eq ?_
   have : allIn 0 (m.2.1 - 1) s.2 = false := by
    unfold allIn
    exact all_fail hi (by rw [← getD_at hi]; exact hx)
   rw [isSetB, this, bJ]
  have h4 : (s.2.take (i + 1)).all (fun x => isIn x 0 (m.2.1 - 1)) = true := all_take_succ hi h3 (by rw [← getD_at hi]; exact hx)
  have w2 : IntKind.i64.wrap (↑i + 1) = ((i + 1 : Nat) : Int) := by rw [wrap_i64 (by omega) (by omega)]; omega
  by_cases h0 : i = 0
  ·have hg : ¬ ((i : Int) > 0) := by omega
   simp +contextual -implicitDefEqProofs only [h0, eB, bT, gt_iff_lt, Int.lt_irrefl, Int.natCast_zero, go_sem]
   rw [show IntKind.i64.wrap (0 + 1) = 1 from by decide]
   exact ⟨1, ⟨by omega, rfl, by simpa [h0] using h4⟩, by omega, Ent.env (by simp only [subEnv, go_sem] <;> simp)⟩
  ·have hg : (i : Int) > 0 := by omega
   have hg' : (0 : Int) < i := hg
   have w1 := wrap_pred (show 1 ≤ i by omega) (by omega)
   have hi' : i - 1 < s.2.length := by omega
   have e2 := at_mapD (f := eI) (d := 0) hi'
   have hs := ascI_succ (l := s.2) (n := i - 1)
   rw [show i - 1 + 1 = i by omega, h2, bI] at hs
   simp +contextual -implicitDefEqProofs only [hg, hi, hi', e1, e2, w1, w2, eB, Int.toNat_natCast, bT, go_sem, eI, iL, lM, iN]
   refine ⟨fun h => D.Le.sc_eq ?_, fun h => ?_⟩
   ·have : ascI s.2 i = false := by rw [hs]; simpa using h
    rw [isSetB, asc, ascI_false this (by omega), bG]
   ·exact ⟨i + 1, ⟨by omega, by rw [Nat.add_sub_cancel, hs]; simpa using h, h4⟩, by omega, Ent.env (by simp only [subEnv, go_sem] <;> simp)⟩
 ·simp +contextual -implicitDefEqProofs only [hi, go_sem, iL, lM]
  refine D.Le.sc_eq ?_
  have hi2 : i = s.2.length := by omega
  subst hi2
  rw [List.take_length] at h3
  unfold isSetB asc allIn
  rw [h2, h3]
  rfl
def tRow (r : SL Bool) (l : List Int) : SL Bool := (some false, l.map fun x => r.2.getD x.toNat false)
def aTab (a : SL (SL Bool)) (l : List Int) : SL (SL Bool) := (some false, l.map fun x => tRow (a.2.getD x.toNat (none, [])) l)

def pickMo (m : Mo) (l : List Int) : Mo := (m.1, l.length, (nnL m.2.2.1.2, m.2.2.1.2.map fun r => tRow r l), (nnL m.2.2.2.2, m.2.2.2.2.map fun a => aTab a l))
def dRow (r : SL Bool) (l : List Int) : D := .ls (some false) 1 (l.map fun x => .sc (.bool (r.2.getD x.toNat false)))
def dTab (a : SL (SL Bool)) (l k : List Int) : D := .ls (some false) 1 (k.map fun x => dRow (a.2.getD x.toNat (none, [])) l)
structure PickOk (m : Mo) (l : List Int) : Prop where
 small : l.length ≤ 1000
 st : m.2.2.1.2.length ≤ 1000
 sa : m.2.2.2.2.length ≤ 1000
 nn : ∀ x ∈ l, 0 ≤ x
 t : ∀ r ∈ m.2.2.1.2, ∀ x ∈ l, x.toNat < r.2.length
 a : ∀ a ∈ m.2.2.2.2, ∀ x ∈ l, x.toNat < a.2.length
 b : ∀ a ∈ m.2.2.2.2, ∀ r ∈ a.2, ∀ x ∈ l, x.toNat < r.2.length
theorem dRow_eq {r : SL Bool} {l : List Int} : eS 1 eB (tRow r l) = dRow r l := by simp [eS, tRow, dRow, eB]
theorem dTab_eq {a : SL (SL Bool)} {l : List Int} : eS 1 (eS 1 eB) (aTab a l) = dTab a l l := by simp only [eS, aTab, dTab, ← dRow_eq, List.map_map, Function.comp_def]
theorem pick_eq {m : Mo} {l : List Int} : eM (pickMo m l) = .ag [.sc (.int .i64 m.1.1), .sc (.int .i64 m.1.2), .sc (.int .i64 l.length), .ls (nnL m.2.2.1.2) 1 (m.2.2.1.2.map fun r => dRow r l), .ls (nnL m.2.2.2.2) 1 (m.2.2.2.2.map fun a => dTab a l l)] := by
 simp [eM, eI, pickMo, eS, ← dRow_eq, ← dTab_eq]
theorem nat_lt_of {x : Int} {n : Nat} (h0 : 0 ≤ x) (h : x.toNat < n) : x < (n : Int) := by omega

def k_l05Pick : RC := (.seq (.r [.o (.zer 4 5 (.ag [(.sc (.int .i64 0)), (.sc (.int .i64 0)), (.sc (.int .i64 0)), (.ls (some true) 1 []), (.ls (some true) 1 [])]))]) (.seq (.r [.m 14 0, .n 15 14, .f 16 0 15, .L 17 2 16, .m 18 1, .o (.len 19 (.t 18)), .o (.bld 20 (.ag [(.sc (.int .i64 0)), (.sc (.int .i64 0)), (.sc (.int .i64 0)), (.ls (some true) 1 []), (.ls (some true) 1 [])]) [(0, 2, (.t 17)), (2, 1, (.t 19))]), .o (.zer 5 5 (.ag [(.sc (.int .i64 0)), (.sc (.int .i64 0)), (.sc (.int .i64 0)), (.ls (some true) 1 []), (.ls (some true) 1 [])])), .s 5 5 20]) (.seq (.seq (.r [.v 6 (.ci 0)]) (.blk 0 (.loop (.seq (.seq (.r [.m 21 6, .m 22 0, .n 23 22, .f 24 3 23, .l 25 1 24, .o (.len 26 (.t 25)), .o (.bin 27 .lss (.t 21) (.t 26))]) (.cond (.t 27) .skip (.exit 0))) (.seq (.blk 1 (.seq (.r [.o (.bs 30 1 (.sc (.bool false)) 0 []), .m 7 30]) (.seq (.seq (.r [.v 8 (.ci 0)]) (.blk 2 (.loop (.seq (.seq (.r [.m 31 8, .m 32 1, .o (.len 33 (.t 32)), .o (.bin 34 .lss (.t 31) (.t 33))]) (.cond (.t 34) .skip (.exit 2))) (.seq (.blk 3 (.reg true [.m 37 7, .m 38 0, .n 39 38, .f 40 3 39, .l 41 1 40, .m 42 6, .o (.ia 43 1 (.t 41) (.t 42)), .l 44 1 43, .m 45 1, .m 46 8, .o (.ia 47 1 (.t 45) (.t 46)), .l 48 1 47, .o (.ia 49 1 (.t 44) (.t 48)), .l 50 1 49, .o (.bs 51 1 (.sc (.bool false)) 1 [(0, (.t 50))]), .o (.app 52 1 1 (.t 37) (.t 51)), .m 7 52])) (.r [.m 35 8, .o (.bin 36 .add (.t 35) (.ci 1)), .m 8 36])))))) (.r [.f 53 3 5, .l 54 1 53, .m 55 7, .o (.bs 56 1 (.ls (some true) 1 []) 1 [(0, (.t 55))]), .o (.app 57 1 24 (.t 54) (.t 56)), .f 58 3 5, .s 1 58 57])))) (.r [.m 28 6, .o (.bin 29 .add (.t 28) (.ci 1)), .m 6 29])))))) (.seq (.seq (.r [.v 9 (.ci 0)]) (.blk 4 (.loop (.seq (.seq (.r [.m 59 9, .m 60 0, .n 61 60, .f 62 4 61, .l 63 1 62, .o (.len 64 (.t 63)), .o (.bin 65 .lss (.t 59) (.t 64))]) (.cond (.t 65) .skip (.exit 4))) (.seq (.blk 5 (.seq (.r [.o (.bs 68 1 (.ls (some true) 1 []) 0 []), .m 10 68]) (.seq (.seq (.r [.v 11 (.ci 0)]) (.blk 6 (.loop (.seq (.seq (.r [.m 69 11, .m 70 1, .o (.len 71 (.t 70)), .o (.bin 72 .lss (.t 69) (.t 71))]) (.cond (.t 72) .skip (.exit 6))) (.seq (.blk 7 (.seq (.r [.o (.bs 75 1 (.sc (.bool false)) 0 []), .m 12 75]) (.seq (.seq (.r [.v 13 (.ci 0)]) (.blk 8 (.loop (.seq (.seq (.r [.m 76 13, .m 77 1, .o (.len 78 (.t 77)), .o (.bin 79 .lss (.t 76) (.t 78))]) (.cond (.t 79) .skip (.exit 8))) (.seq (.blk 9 (.reg true [.m 82 12, .m 83 0, .n 84 83, .f 85 4 84, .l 86 1 85, .m 87 9, .o (.ia 88 1 (.t 86) (.t 87)), .l 89 1 88, .m 90 1, .m 91 11, .o (.ia 92 1 (.t 90) (.t 91)), .l 93 1 92, .o (.ia 94 1 (.t 89) (.t 93)), .l 95 1 94, .m 96 1, .m 97 13, .o (.ia 98 1 (.t 96) (.t 97)), .l 99 1 98, .o (.ia 100 1 (.t 95) (.t 99)), .l 101 1 100, .o (.bs 102 1 (.sc (.bool false)) 1 [(0, (.t 101))]), .o (.app 103 1 1 (.t 82) (.t 102)), .m 12 103])) (.r [.m 80 13, .o (.bin 81 .add (.t 80) (.ci 1)), .m 13 81])))))) (.r [.m 104 10, .m 105 12, .o (.bs 106 1 (.ls (some true) 1 []) 1 [(0, (.t 105))]), .o (.app 107 1 24 (.t 104) (.t 106)), .m 10 107])))) (.r [.m 73 11, .o (.bin 74 .add (.t 73) (.ci 1)), .m 11 74])))))) (.r [.f 108 4 5, .l 109 1 108, .m 110 10, .o (.bs 111 1 (.ls (some true) 1 []) 1 [(0, (.t 110))]), .o (.app 112 1 24 (.t 109) (.t 111)), .f 113 4 5, .s 1 113 112])))) (.r [.m 66 9, .o (.bin 67 .add (.t 66) (.ci 1)), .m 9 67])))))) (.seq (.r [.L 114 5 5, .s 5 4 114]) .ret)))))
def K_l05Pick (P : Program) (fno : Nat) : Prop := ∀ (m : Mo) (s : SL Int) (hp : PickOk m s.2), AF P fno [.pt (eM m) 0, eS 1 eI s] (.own (eM (pickMo m s.2)))
theorem a_l05Pick {P : Program} (hm : P.follows .mixedOrders = true) {g : Nat} (hr : resF P g = some (115, k_l05Pick, [.c 4 5 true])) : K_l05Pick P g := by
 intro m s hp
 refine af_of_res hr hm rfl fun hb => ?_
 simp +contextual -implicitDefEqProofs only [k_l05Pick, eM, eS, eI, D.put, D.cells, D.size, D.sizeL, D.isAg, modeOf, noPtrs, lM, D.at, D.sub, go_sem, Nat.reduceSub]
 refine vc_onU (α := Nat) [6, 7, 8, 21, 22, 23, 24, 25, 26, 27, 28, 29, 30, 31, 32, 33, 34, 35, 36, 37, 38, 39, 40, 41, 42, 43, 44, 45, 46, 47, 48, 49, 50, 51, 52, 53, 54, 55, 56, 57, 58] (fun i => [(6, .im none (.sc (.int .i64 i)))]) (fun i => [(5, .ar true (some false) 5 [.ag [.sc (.int .i64 m.1.1), .sc (.int .i64 m.1.2), .sc (.int .i64 s.2.length), .ls (nnL (m.2.2.1.2.take i)) 1 ((m.2.2.1.2.take i).map fun r => dRow r s.2), .ls (some true) 1 []]]), (4, .ar true (some false) 5 [.ag [.sc (.int .i64 0), .sc (.int .i64 0), .sc (.int .i64 0), .ls (some true) 1 [], .ls (some true) 1 []]])]) (fun i => i ≤ m.2.2.1.2.length) (fun i => m.2.2.1.2.length - i) 0 (Ent.to [] (by simp only [go_sem]; rfl) rfl (by simp [nnL]) (by rfl) (by simp only [subEnv, go_sem, keep, memN] <;> simp)) (Nat.zero_le _) ?_
 intro i hi0
 by_cases hi : i < m.2.2.1.2.length
 ·have e1 := at_map (f := eS 1 eB) hi
  have hmem : m.2.2.1.2[i] ∈ m.2.2.1.2 := List.getElem_mem hi
  simp +contextual -implicitDefEqProofs only [hi, D.size, D.sizeL, D.isAg, lM, go_sem, iL]
  refine vc_onU (α := Nat) [7, 8, 30, 31, 32, 33, 34, 35, 36, 37, 38, 39, 40, 41, 42, 43, 44, 45, 46, 47, 48, 49, 50, 51, 52] (fun j => [(8, .im none (.sc (.int .i64 j))), (7, .sm 30 0 j)]) (fun j => [(30, .ar true (some false) 1 ((s.2.take j).map fun x => .sc (.bool (m.2.2.1.2[i].2.getD x.toNat false)))), (5, .ar true (some false) 5 [.ag [.sc (.int .i64 m.1.1), .sc (.int .i64 m.1.2), .sc (.int .i64 s.2.length), .ls (nnL (m.2.2.1.2.take i)) 1 ((m.2.2.1.2.take i).map fun r => dRow r s.2), .ls (some true) 1 []]]), (4, .ar true (some false) 5 [.ag [.sc (.int .i64 0), .sc (.int .i64 0), .sc (.int .i64 0), .ls (some true) 1 [], .ls (some true) 1 []]])]) (fun j => j ≤ s.2.length) (fun j => s.2.length - j) 0 (Ent.to [] (by simp only [go_sem]; rfl) rfl (by simp) (by rfl) (by simp only [subEnv, go_sem, keep, memN] <;> simp)) (Nat.zero_le _) ?_
  intro j hj0
  by_cases hj : j < s.2.length
  ·have e2 := at_mapD (f := eI) (d := 0) hj
   have hx0 := hp.nn _ (List.getElem_mem hj)
   have hx1 := hp.t _ hmem _ (List.getElem_mem hj)
   rw [← getD_at (d := (0 : Int)) hj] at hx0 hx1
   have hx2 := nat_lt_of hx0 hx1
   have e3 := at_mapD (f := eB) (d := false) hx1
   have hlen : (s.2.take j).length = j := by simp; omega
   simp +contextual -implicitDefEqProofs only [hj, e1, e2, e3, hi, hx0, hx2, hlen, eS, D.size, D.sizeL, D.isAg, modeOf, noPtrs, lM, go_sem, eI, eB, Nat.reduceMul, iL, iN]
   have hsm := hp.small
   refine ⟨rfl, ⟨by (try simp); omega, by unfold maxEl; (try simp); omega, by simp [D.size]⟩, j + 1, by omega, by omega, ?_⟩
   rw [wrap_i64 (by omega) (by omega)]
   exact Ent.to [] (by simp only [go_sem]; rfl) rfl (by simp [map_take hj, hj]) (by rfl) (by simp only [subEnv, go_sem] <;> simp)
  ·obtain rfl : j = s.2.length := by omega
   simp +contextual -implicitDefEqProofs only [hj, List.take_length, go_sem, Nat.reduceMul, iL, lM]
   have hsm := hp.st
   refine ⟨rfl, ⟨by (try simp); omega, by unfold maxEl; (try simp); omega, by simp [D.size]⟩, i + 1, by omega, by omega, ?_⟩
   rw [wrap_i64 (by omega) (by omega)]
   exact Ent.to [] (by simp only [go_sem]; rfl) rfl (by simp [nnL_take hi, map_take hi, dRow]) (by rfl) (by simp only [subEnv, go_sem] <;> simp)
 ·rw [List.take_of_length_le (show m.2.2.1.2.length ≤ i by omega)]
  simp +contextual -implicitDefEqProofs only [hi, go_sem, iL, lM]
  refine vc_onU (α := Nat) [9, 10, 11, 12, 13, 59, 60, 61, 62, 63, 64, 65, 66, 67, 68, 69, 70, 71, 72, 73, 74, 75, 76, 77, 78, 79, 80, 81, 82, 83, 84, 85, 86, 87, 88, 89, 90, 91, 92, 93, 94, 95, 96, 97, 98, 99, 100, 101, 102, 103, 104, 105, 106, 107, 108, 109, 110, 111, 112, 113] (fun i => [(9, .im none (.sc (.int .i64 i)))]) (fun i => [(5, .ar true (some false) 5 [.ag [.sc (.int .i64 m.1.1), .sc (.int .i64 m.1.2), .sc (.int .i64 s.2.length), .ls (nnL (m.2.2.1.2)) 1 ((m.2.2.1.2).map fun r => dRow r s.2), .ls (nnL (m.2.2.2.2.take i)) 1 ((m.2.2.2.2.take i).map fun a => dTab a s.2 s.2)]]), (4, .ar true (some false) 5 [.ag [.sc (.int .i64 0), .sc (.int .i64 0), .sc (.int .i64 0), .ls (some true) 1 [], .ls (some true) 1 []]])]) (fun i => i ≤ m.2.2.2.2.length) (fun i => m.2.2.2.2.length - i) 0 (Ent.to [] (by simp only [go_sem]; rfl) rfl (by simp [nnL]) (by rfl) (by simp only [subEnv, go_sem, keep, memN] <;> simp)) (Nat.zero_le _) ?_
  intro i hi0
  by_cases hi : i < m.2.2.2.2.length
  ·have e1 := at_map (f := eS 1 (eS 1 eB)) hi
   have hmem : m.2.2.2.2[i] ∈ m.2.2.2.2 := List.getElem_mem hi
   simp +contextual -implicitDefEqProofs only [hi, D.size, D.sizeL, D.isAg, lM, go_sem, iL]
   refine vc_onU (α := Nat) [10, 11, 12, 13, 68, 69, 70, 71, 72, 73, 74, 75, 76, 77, 78, 79, 80, 81, 82, 83, 84, 85, 86, 87, 88, 89, 90, 91, 92, 93, 94, 95, 96, 97, 98, 99, 100, 101, 102, 103, 104, 105, 106, 107] (fun j => [(11, .im none (.sc (.int .i64 j))), (10, .sm 68 0 j)]) (fun j => [(68, .ar true (some false) 1 ((s.2.take j).map fun x => dRow (m.2.2.2.2[i].2.getD x.toNat (none, [])) s.2)), (5, .ar true (some false) 5 [.ag [.sc (.int .i64 m.1.1), .sc (.int .i64 m.1.2), .sc (.int .i64 s.2.length), .ls (nnL (m.2.2.1.2)) 1 ((m.2.2.1.2).map fun r => dRow r s.2), .ls (nnL (m.2.2.2.2.take i)) 1 ((m.2.2.2.2.take i).map fun a => dTab a s.2 s.2)]]), (4, .ar true (some false) 5 [.ag [.sc (.int .i64 0), .sc (.int .i64 0), .sc (.int .i64 0), .ls (some true) 1 [], .ls (some true) 1 []]])]) (fun j => j ≤ s.2.length) (fun j => s.2.length - j) 0 (Ent.to [] (by simp only [go_sem]; rfl) rfl (by simp) (by rfl) (by simp only [subEnv, go_sem, keep, memN] <;> simp)) (Nat.zero_le _) ?_
   intro j hj0
   by_cases hj : j < s.2.length
   ·have e2 := at_mapD (f := eI) (d := 0) hj
    have hx0 := hp.nn _ (List.getElem_mem hj)
    have hx1 := hp.a _ hmem _ (List.getElem_mem hj)
    rw [← getD_at (d := (0 : Int)) hj] at hx0 hx1
    have hx2 := nat_lt_of hx0 hx1
    have e3 := at_mapD (f := eS 1 eB) (d := (none, [])) hx1
    have hlen : (s.2.take j).length = j := by simp; omega
    have hmem2 : m.2.2.2.2[i].2.getD (s.2.getD j 0).toNat (none, []) ∈ m.2.2.2.2[i].2 := by rw [getD_at hx1]; exact List.getElem_mem hx1
    simp +contextual -implicitDefEqProofs only [hj, lM, go_sem, iL]
    refine vc_onU (α := Nat) [12, 13, 75, 76, 77, 78, 79, 80, 81, 82, 83, 84, 85, 86, 87, 88, 89, 90, 91, 92, 93, 94, 95, 96, 97, 98, 99, 100, 101, 102, 103] (fun k => [(13, .im none (.sc (.int .i64 k))), (12, .sm 75 0 k)]) (fun k => [(75, .ar true (some false) 1 ((s.2.take k).map fun x => .sc (.bool ((m.2.2.2.2[i].2.getD (s.2.getD j 0).toNat (none, [])).2.getD x.toNat false)))), (68, .ar true (some false) 1 ((s.2.take j).map fun x => dRow (m.2.2.2.2[i].2.getD x.toNat (none, [])) s.2)), (5, .ar true (some false) 5 [.ag [.sc (.int .i64 m.1.1), .sc (.int .i64 m.1.2), .sc (.int .i64 s.2.length), .ls (nnL (m.2.2.1.2)) 1 ((m.2.2.1.2).map fun r => dRow r s.2), .ls (nnL (m.2.2.2.2.take i)) 1 ((m.2.2.2.2.take i).map fun a => dTab a s.2 s.2)]]), (4, .ar true (some false) 5 [.ag [.sc (.int .i64 0), .sc (.int .i64 0), .sc (.int .i64 0), .ls (some true) 1 [], .ls (some true) 1 []]])]) (fun k => k ≤ s.2.length) (fun k => s.2.length - k) 0 (Ent.to [] (by simp only [go_sem]; rfl) rfl (by simp) (by rfl) (by simp only [subEnv, go_sem, keep, memN] <;> simp)) (Nat.zero_le _) ?_
    intro k hk0
    by_cases hk : k < s.2.length
    ·have f2 := at_mapD (f := eI) (d := 0) hk
     have hy0 := hp.nn _ (List.getElem_mem hk)
     have hy1 := hp.b _ hmem _ hmem2 _ (List.getElem_mem hk)
     rw [← getD_at (d := (0 : Int)) hk] at hy0 hy1
     have hy2 := nat_lt_of hy0 hy1
     have f3 := at_mapD (f := eB) (d := false) hy1
     have hlen' : (s.2.take k).length = k := by simp; omega
     simp +contextual -implicitDefEqProofs only [hj, hk, e1, e2, e3, f2, f3, hi, hx0, hx2, hy0, hy2, hlen', eS, D.size, D.sizeL, D.isAg, modeOf, noPtrs, lM, go_sem, eI, eB, Nat.reduceMul, iL, iN]
     have hsm := hp.small
     refine ⟨rfl, ⟨by (try simp); omega, by unfold maxEl; (try simp); omega, by simp [D.size]⟩, k + 1, by omega, by omega, ?_⟩
     rw [wrap_i64 (by omega) (by omega)]
     exact Ent.to [] (by simp only [go_sem]; rfl) rfl (by simp [map_take hk, hk]) (by rfl) (by simp only [subEnv, go_sem] <;> simp)
    ·obtain rfl : k = s.2.length := by omega
     simp +contextual -implicitDefEqProofs only [hk, List.take_length, hlen, go_sem, Nat.reduceMul, iL, lM]
     have hsm := hp.small
     refine ⟨rfl, ⟨by (try simp); omega, by unfold maxEl; (try simp); omega, by simp [D.size]⟩, j + 1, by omega, by omega, ?_⟩
     rw [wrap_i64 (by omega) (by omega)]
     exact Ent.to [] (by simp only [go_sem]; rfl) rfl (by simp [map_take hj, hj, dRow]) (by rfl) (by simp only [subEnv, go_sem] <;> simp)
   ·obtain rfl : j = s.2.length := by omega
    simp +contextual -implicitDefEqProofs only [hj, List.take_length, go_sem, Nat.reduceMul, iL, lM]
    have hsm := hp.sa
    refine ⟨rfl, ⟨by (try simp); omega, by unfold maxEl; (try simp); omega, by simp [D.size]⟩, i + 1, by omega, by omega, ?_⟩
    rw [wrap_i64 (by omega) (by omega)]
    exact Ent.to [] (by simp only [go_sem]; rfl) rfl (by simp [nnL_take hi, map_take hi, dTab]) (by rfl) (by simp only [subEnv, go_sem] <;> simp)
  ·rw [List.take_of_length_le (show m.2.2.2.2.length ≤ i by omega)]
   simp +contextual -implicitDefEqProofs only [hi, go_sem, iL, lM]
   exact D.Le.of_eq (pick_eq (m := m) (l := s.2)).symm
theorem tab_map {α β : Type} {l : List α} {d : α} {f : α → β} : tabL l.length (fun i => f (l.getD i d)) = l.map f := by
 unfold tabL
 apply List.ext_getElem
 ·simp
 ·intro i h1 h2
  simp at h1
  simp [h1]
theorem aTab_tab {a : SL (SL Bool)} {l : List Int} : (some false, tabL l.length fun x => (some false, tabL l.length fun y => (a.2.getD (l.getD x 0).toNat (none, [])).2.getD (l.getD y 0).toNat false)) = aTab a l := by
 unfold aTab tRow
 refine Prod.ext rfl ?_
 refine (tab_map (f := fun (x : Int) => (some false, tabL l.length fun y => (a.2.getD x.toNat (none, [])).2.getD (l.getD y 0).toNat false))).trans ?_
 refine List.map_congr_left fun x _ => Prod.ext rfl ?_
 exact tab_map (f := fun (y : Int) => (a.2.getD x.toNat (none, [])).2.getD y.toNat false)

def k_chosen1 : RC := (.seq (.r [.v 6 .cf]) (.seq (.reg true [.l 7 1 2, .l 8 1 3, .m 9 0, .o (.ia 10 1 (.t 8) (.t 9)), .l 11 1 10, .o (.ia 12 1 (.t 7) (.t 11)), .l 13 1 12, .l 14 1 3, .m 15 1, .o (.ia 16 1 (.t 14) (.t 15)), .l 17 1 16, .o (.ia 18 1 (.t 13) (.t 17)), .l 19 1 18, .m 6 19]) .ret))
def K_chosen1 (P : Program) (fno : Nat) : Prop := ∀ (a : SL (SL Bool)) (s : SL Int) (x y : Nat) (hx : x < s.2.length) (hy : y < s.2.length) (hx0 : 0 ≤ s.2.getD x 0) (hx1 : (s.2.getD x 0).toNat < a.2.length) (hy0 : 0 ≤ s.2.getD y 0) (hy1 : (s.2.getD y 0).toNat < (a.2.getD (s.2.getD x 0).toNat (none, [])).2.length), AF P fno [eI x, eI y, .pt (eS 1 (eS 1 eB) a) 0, .pt (eS 1 eI s) 0] (.own (eB ((a.2.getD (s.2.getD x 0).toNat (none, [])).2.getD (s.2.getD y 0).toNat false)))
theorem a_chosen1 {P : Program} (hm : P.follows .mixedOrders = true) {g : Nat} (hr : resF P g = some (20, k_chosen1, [.t 6])) : K_chosen1 P g := by
 intro a s x y hx hy hx0 hx1 hy0 hy1
 refine af_of_res hr hm rfl fun hb => ?_
 have e1 := at_mapD (f := eI) (d := 0) hx
 have e2 := at_mapD (f := eI) (d := 0) hy
 have hx2 := nat_lt_of hx0 hx1
 have hy2 := nat_lt_of hy0 hy1
 have e3 := at_mapD (f := eS 1 eB) (d := (none, [])) hx1
 have e4 := at_mapD (f := eB) (d := false) hy1
 simp +contextual -implicitDefEqProofs only [k_chosen1, eS, e1, e2, e3, e4, hx, hy, hx0, hy0, hx2, hy2, D.size, go_sem, eI, eB, iL, lM, iN]

def k_chosen (f1 f2 : Nat) : RC := (.seq (.r [.b 2 5 0, .b 3 1 1, .o (.zer 4 5 (.ag [(.sc (.int .i64 0)), (.sc (.int .i64 0)), (.sc (.int .i64 0)), (.ls (some true) 1 []), (.ls (some true) 1 [])]))]) (.seq (.r [.f 13 0 2, .L 14 2 13, .l 15 1 3, .o (.len 16 (.t 15)), .o (.bld 17 (.ag [(.sc (.int .i64 0)), (.sc (.int .i64 0)), (.sc (.int .i64 0)), (.ls (some true) 1 []), (.ls (some true) 1 [])]) [(0, 2, (.t 14)), (2, 1, (.t 16))]), .o (.zer 5 5 (.ag [(.sc (.int .i64 0)), (.sc (.int .i64 0)), (.sc (.int .i64 0)), (.ls (some true) 1 []), (.ls (some true) 1 [])])), .s 5 5 17]) (.seq (.seq (.r [.f 18 3 2, .l 19 1 18, .o (.len 20 (.t 19)), .v 21 (.ci 0)]) (.blk 0 (.loop (.seq (.r [.o (.bin 22 .lss (.t 21) (.t 20))]) (.seq (.cond (.t 22) .skip (.exit 0)) (.seq (.blk 1 (.seq (.r [.o (.ia 23 1 (.t 19) (.t 21)), .l 24 1 23, .m 7 24]) (.seq (.r [.o (.bs 25 1 (.sc (.bool false)) 0 []), .m 8 25]) (.seq (.seq (.r [.l 26 1 3, .o (.len 27 (.t 26)), .v 28 (.ci 0)]) (.blk 2 (.loop (.seq (.r [.o (.bin 29 .lss (.t 28) (.t 27))]) (.seq (.cond (.t 29) .skip (.exit 2)) (.seq (.blk 3 (.seq (.r [.o (.ia 30 1 (.t 26) (.t 28)), .l 31 1 30, .m 10 31]) (.r [.m 32 8, .m 33 7, .m 34 10, .o (.ia 35 1 (.t 33) (.t 34)), .l 36 1 35, .o (.bs 37 1 (.sc (.bool false)) 1 [(0, (.t 36))]), .o (.app 38 1 1 (.t 32) (.t 37)), .m 8 38]))) (.r [.o (.bin 39 .add (.t 28) (.ci 1)), .m 28 39]))))))) (.r [.f 40 3 5, .l 41 1 40, .m 42 8, .o (.bs 43 1 (.ls (some true) 1 []) 1 [(0, (.t 42))]), .o (.app 44 1 24 (.t 41) (.t 43)), .f 45 3 5, .s 1 45 44]))))) (.r [.o (.bin 46 .add (.t 21) (.ci 1)), .m 21 46]))))))) (.seq (.seq (.r [.f 47 4 2, .l 48 1 47, .o (.len 49 (.t 48)), .v 50 (.ci 0)]) (.blk 4 (.loop (.seq (.r [.o (.bin 51 .lss (.t 50) (.t 49))]) (.seq (.cond (.t 51) .skip (.exit 4)) (.seq (.blk 5 (.seq (.r [.o (.ia 52 1 (.t 48) (.t 50)), .l 53 1 52, .o (.zer 12 1 (.ls (some true) 1 [])), .s 1 12 53]) (.reg true [.f 54 4 5, .l 55 1 54, .f 56 2 5, .l 57 1 56, .o (.mkf 58 f2 [.t 12, .t 3]), .c 59 f1 [.t 57, .t 58], .o (.bs 60 1 (.ls (some true) 1 []) 1 [(0, (.t 59))]), .o (.app 61 1 24 (.t 55) (.t 60)), .f 62 4 5, .s 1 62 61]))) (.r [.o (.bin 63 .add (.t 50) (.ci 1)), .m 50 63]))))))) (.seq (.r [.L 64 5 5, .s 5 4 64]) .ret)))))
def K_chosen (P : Program) (fno : Nat) : Prop := ∀ (m : Mo) (s : SL Int) (hp : PickOk m s.2), AF P fno [eM m, eS 1 eI s] (.own (eM (pickMo m s.2)))
theorem a_chosen {P : Program} (hm : P.follows .mixedOrders = true) {g f1 f2 : Nat} (hr : resF P g = some (65, k_chosen f1 f2, [.c 4 5 true])) (hc1 : K_tableB P f1) (hc2 : K_chosen1 P f2) : K_chosen P g := by
 intro m s hp
 refine af_of_res hr hm rfl fun hb => ?_
 simp +contextual -implicitDefEqProofs only [k_chosen, eM, eS, eI, D.put, D.cells, D.size, D.sizeL, D.isAg, modeOf, noPtrs, lM, D.at, D.sub, go_sem, Nat.reduceSub]
 refine vc_onU (α := Nat) [7, 8, 10, 21, 22, 23, 24, 25, 26, 27, 28, 29, 30, 31, 32, 33, 34, 35, 36, 37, 38, 39, 40, 41, 42, 43, 44, 45, 46] (fun i => [(21, .im none (.sc (.int .i64 i)))]) (fun i => [(5, .ar true (some false) 5 [.ag [.sc (.int .i64 m.1.1), .sc (.int .i64 m.1.2), .sc (.int .i64 s.2.length), .ls (nnL (m.2.2.1.2.take i)) 1 ((m.2.2.1.2.take i).map fun r => dRow r s.2), .ls (some true) 1 []]]), (4, .ar true (some false) 5 [.ag [.sc (.int .i64 0), .sc (.int .i64 0), .sc (.int .i64 0), .ls (some true) 1 [], .ls (some true) 1 []]]), (3, .ar false (some false) 1 [.ls s.1 1 (s.2.map eI)]), (2, .ar false (some false) 5 [.ag [.sc (.int .i64 m.1.1), .sc (.int .i64 m.1.2), .sc (.int .i64 m.2.1), .ls m.2.2.1.1 1 (m.2.2.1.2.map (eS 1 eB)), .ls m.2.2.2.1 1 (m.2.2.2.2.map (eS 1 (eS 1 eB)))]])]) (fun i => i ≤ m.2.2.1.2.length) (fun i => m.2.2.1.2.length - i) 0 (Ent.to [] (by simp only [go_sem]; rfl) rfl (by simp [nnL]) (by rfl) (by simp only [subEnv, go_sem, keep, memN] <;> simp)) (Nat.zero_le _) ?_
 intro i hi0
 by_cases hi : i < m.2.2.1.2.length
 ·have e1 := at_map (f := eS 1 eB) hi
  have hmem : m.2.2.1.2[i] ∈ m.2.2.1.2 := List.getElem_mem hi
  simp +contextual -implicitDefEqProofs only [hi, e1, eS, D.size, D.isAg, lM, go_sem, iL, iN]
  refine vc_onU (α := Nat) [8, 10, 25, 28, 29, 30, 31, 32, 33, 34, 35, 36, 37, 38, 39] (fun j => [(28, .im none (.sc (.int .i64 j))), (8, .sm 25 0 j)]) (fun j => [(25, .ar true (some false) 1 ((s.2.take j).map fun x => .sc (.bool (m.2.2.1.2[i].2.getD x.toNat false)))), (5, .ar true (some false) 5 [.ag [.sc (.int .i64 m.1.1), .sc (.int .i64 m.1.2), .sc (.int .i64 s.2.length), .ls (nnL (m.2.2.1.2.take i)) 1 ((m.2.2.1.2.take i).map fun r => dRow r s.2), .ls (some true) 1 []]]), (4, .ar true (some false) 5 [.ag [.sc (.int .i64 0), .sc (.int .i64 0), .sc (.int .i64 0), .ls (some true) 1 [], .ls (some true) 1 []]]), (3, .ar false (some false) 1 [.ls s.1 1 (s.2.map eI)]), (2, .ar false (some false) 5 [.ag [.sc (.int .i64 m.1.1), .sc (.int .i64 m.1.2), .sc (.int .i64 m.2.1), .ls m.2.2.1.1 1 (m.2.2.1.2.map (eS 1 eB)), .ls m.2.2.2.1 1 (m.2.2.2.2.map (eS 1 (eS 1 eB)))]])]) (fun j => j ≤ s.2.length) (fun j => s.2.length - j) 0 (Ent.to [] (by simp only [go_sem]; rfl) rfl (by simp) (by rfl) (by simp only [subEnv, go_sem, keep, memN] <;> simp)) (Nat.zero_le _) ?_
  intro j hj0
  by_cases hj : j < s.2.length
  ·have e2 := at_mapD (f := eI) (d := 0) hj
   have hx0 := hp.nn _ (List.getElem_mem hj)
   have hx1 := hp.t _ hmem _ (List.getElem_mem hj)
   rw [← getD_at (d := (0 : Int)) hj] at hx0 hx1
   have hx2 := nat_lt_of hx0 hx1
   have e3 := at_mapD (f := eB) (d := false) hx1
   have hlen : (s.2.take j).length = j := by simp; omega
   simp +contextual -implicitDefEqProofs only [hj, e2, e3, hx0, hx2, hlen, D.size, D.isAg, modeOf, noPtrs, lM, go_sem, eI, eB, Nat.reduceMul, iL, iN]
   have hsm := hp.small
   refine ⟨rfl, ⟨by (try simp); omega, by unfold maxEl; (try simp); omega, by simp [D.size]⟩, j + 1, by omega, by omega, ?_⟩
   rw [wrap_i64 (by omega) (by omega)]
   exact Ent.to [] (by simp only [go_sem]; rfl) rfl (by simp [map_take hj, hj]) (by rfl) (by simp only [subEnv, go_sem] <;> simp)
  ·obtain rfl : j = s.2.length := by omega
   simp +contextual -implicitDefEqProofs only [hj, List.take_length, go_sem, Nat.reduceMul, iL, lM]
   have hsm := hp.st
   refine ⟨rfl, ⟨by (try simp); omega, by unfold maxEl; (try simp); omega, by simp [D.size]⟩, i + 1, by omega, by omega, ?_⟩
   rw [wrap_i64 (by omega) (by omega)]
   exact Ent.to [] (by simp only [go_sem]; rfl) rfl (by simp [nnL_take hi, map_take hi, dRow]) (by rfl) (by simp only [subEnv, go_sem] <;> simp)
 ·rw [List.take_of_length_le (show m.2.2.1.2.length ≤ i by omega)]
  simp +contextual -implicitDefEqProofs only [hi, D.at, D.sub, D.isAg, lM, go_sem, iL]
  refine vc_onU (α := Nat) [12, 50, 51, 52, 53, 54, 55, 56, 57, 59, 60, 61, 62, 63] (fun i => [(50, .im none (.sc (.int .i64 i)))]) (fun i => [(5, .ar true (some false) 5 [.ag [.sc (.int .i64 m.1.1), .sc (.int .i64 m.1.2), .sc (.int .i64 s.2.length), .ls (nnL (m.2.2.1.2)) 1 ((m.2.2.1.2).map fun r => dRow r s.2), .ls (nnL (m.2.2.2.2.take i)) 1 ((m.2.2.2.2.take i).map fun a => dTab a s.2 s.2)]]), (4, .ar true (some false) 5 [.ag [.sc (.int .i64 0), .sc (.int .i64 0), .sc (.int .i64 0), .ls (some true) 1 [], .ls (some true) 1 []]]), (3, .ar false (some false) 1 [.ls s.1 1 (s.2.map eI)]), (2, .ar false (some false) 5 [.ag [.sc (.int .i64 m.1.1), .sc (.int .i64 m.1.2), .sc (.int .i64 m.2.1), .ls m.2.2.1.1 1 (m.2.2.1.2.map (eS 1 eB)), .ls m.2.2.2.1 1 (m.2.2.2.2.map (eS 1 (eS 1 eB)))]])]) (fun i => i ≤ m.2.2.2.2.length) (fun i => m.2.2.2.2.length - i) 0 (Ent.to [] (by simp only [go_sem]; rfl) rfl (by simp [nnL]) (by rfl) (by simp only [subEnv, go_sem, keep, memN] <;> simp)) (Nat.zero_le _) ?_
  intro i hi0
  by_cases hi : i < m.2.2.2.2.length
  ·have e1 := at_map (f := eS 1 (eS 1 eB)) hi
   have hmem : m.2.2.2.2[i] ∈ m.2.2.2.2 := List.getElem_mem hi
   have hf : ∀ x y : Nat, x < s.2.length → y < s.2.length → AF P f2 (eI x :: eI y :: [.pt (eS 1 (eS 1 eB) m.2.2.2.2[i]) 0, .pt (eS 1 eI s) 0]) (.own (eB ((m.2.2.2.2[i].2.getD (s.2.getD x 0).toNat (none, [])).2.getD (s.2.getD y 0).toNat false))) := fun x y hx hy => by
    have gx := hp.nn _ (List.getElem_mem hx)
    have gx1 := hp.a _ hmem _ (List.getElem_mem hx)
    have gy := hp.nn _ (List.getElem_mem hy)
    rw [← getD_at (d := (0 : Int)) hx] at gx gx1
    have hmem2 : m.2.2.2.2[i].2.getD (s.2.getD x 0).toNat (none, []) ∈ m.2.2.2.2[i].2 := by rw [getD_at gx1]; exact List.getElem_mem gx1
    have gy1 := hp.b _ hmem _ hmem2 _ (List.getElem_mem hy)
    rw [← getD_at (d := (0 : Int)) hy] at gy gy1
    exact hc2 m.2.2.2.2[i] s x y hx hy gx gx1 gy gy1
   simp +contextual -implicitDefEqProofs only [hi, e1, eS, D.put, D.size, D.isAg, modeOf, noPtrs, lM, go_sem, iL, iN]
   refine callQ_self (ds := [eI s.2.length, .fn f2 [.pt (eS 1 (eS 1 eB) m.2.2.2.2[i]) 0, .pt (eS 1 eI s) 0]]) (by rfl) (hc1 s.2.length f2 _ (fun x y => (m.2.2.2.2[i].2.getD (s.2.getD x 0).toNat (none, [])).2.getD (s.2.getD y 0).toNat false) hp.small hf) ?_
   rw [aTab_tab, dTab_eq]
   simp +contextual -implicitDefEqProofs only [dTab, D.put, D.cells, D.size, D.isAg, modeOf, noPtrs, lM, go_sem, Nat.reduceMul]
   have hsm := hp.sa
   refine ⟨rfl, ⟨by (try simp); omega, by unfold maxEl; (try simp); omega, by simp [D.size]⟩, i + 1, by omega, by omega, ?_⟩
   rw [wrap_i64 (by omega) (by omega)]
   exact Ent.to [12] (by simp only [go_sem]; rfl) rfl (by simp [nnL_take hi, map_take hi]) (by rfl) (by simp only [subEnv, go_sem] <;> simp)
  ·rw [List.take_of_length_le (show m.2.2.2.2.length ≤ i by omega)]
   simp +contextual -implicitDefEqProofs only [hi, D.at, D.sub, D.put, D.size, D.sizeL, D.isAg, modeOf, noPtrs, go_sem, iL]
   exact D.Le.of_eq (pick_eq (m := m) (l := s.2)).symm
def zMo : Mo := ((0, 0), 0, (some true, []), (some true, []))

def restrM (m : Mo) (l : List Int) : Mo × Int :=
 if okMo m = true then (if isSetB m.2.1 l = true ∧ l ≠ [] then (pickMo m l, 0) else (zMo, 2)) else (zMo, 1)
theorem zMo_eq : eM zMo = .ag [.sc (.int .i64 0), .sc (.int .i64 0), .sc (.int .i64 0), .ls (some true) 1 [], .ls (some true) 1 []] := rfl
theorem isIn_iff {x lo hi : Int} : isIn x lo hi = true ↔ lo ≤ x ∧ x ≤ hi := by simp [isIn]
theorem asc_ge {l : List Int} (h0 : 0 ≤ l.getD 0 0) : ∀ n, ascI l n = true → (n : Int) ≤ l.getD n 0
 | 0, _ => h0
 | n + 1, h => by
  rw [ascI_succ, bA, decide_eq_true_eq] at h
  have := asc_ge h0 n h.1
  omega
theorem set_len {p : Int} {l : List Int} (hp : 1 ≤ p) (h : isSetB p l = true) : (l.length : Int) ≤ p := by
 simp only [isSetB, allIn, bA, List.all_eq_true] at h
 by_cases h0 : l = []
 ·subst h0; simp; omega
 ·have hl : 0 < l.length := List.length_pos_iff.2 h0
  have a0 := isIn_iff.1 (h.2 _ (List.getElem_mem hl))
  have a1 := isIn_iff.1 (h.2 _ (List.getElem_mem (show l.length - 1 < l.length by omega)))
  have := asc_ge (l := l) (by rw [getD_at hl]; omega) _ h.1
  rw [getD_at (by omega)] at this
  omega
theorem pick_ok {m : Mo} {l : List Int} (h : okMo m = true) (hs : isSetB m.2.1 l = true) : PickOk m l := by
 have hp := okMo_pts h
 have hl := set_len hp.1 hs
 simp only [isSetB, allIn, bA, List.all_eq_true] at hs
 simp only [okMo, testsOk, actsOk, okG, tabOk, bA, List.all_eq_true, isIn_iff, lenIs, beq_iff_eq] at h
 obtain ⟨⟨hg, _, ht, htr⟩, ha, har⟩ := h
 have hx : ∀ x ∈ l, 0 ≤ x ∧ x.toNat < m.2.1 := fun x hx => by
  have := isIn_iff.1 (hs.2 x hx)
  omega
 refine ⟨by omega, by omega, by omega, fun x h => (hx x h).1, fun r hr x h => ?_, fun a ha x h => ?_, fun a ha r hr x h => ?_⟩
 ·have := htr r hr; have := hx x h; omega
 ·have := (har a ha).1; have := hx x h; omega
 ·have := (har a ha).2 r hr; have := hx x h; omega

def k_spRestrict (f1 f2 f3 : Nat) : RC := (.seq (.r [.b 2 5 0, .o (.zer 4 5 (.ag [(.sc (.int .i64 0)), (.sc (.int .i64 0)), (.sc (.int .i64 0)), (.ls (some true) 1 []), (.ls (some true) 1 [])])), .v 5 (.ci 0)]) (.seq (.seq (.r [.c 6 f1 [.t 2], .o (.un 7 .not (.t 6))]) (.cond (.t 7) (.seq (.r [.o (.bld 8 (.ag [(.sc (.int .i64 0)), (.sc (.int .i64 0)), (.sc (.int .i64 0)), (.ls (some true) 1 []), (.ls (some true) 1 [])]) []), .s 5 4 8, .v 5 (.ci 1)]) .ret) .skip)) (.seq (.seq (.r [.m 9 1, .o (.len 10 (.t 9)), .q 11 10 0, .m 12 11, .u 12 (.mv 13 (.t 1)), .u 12 (.call (some 14) f2 [.t 2, .t 13]), .u 12 (.un 15 .not (.t 14)), .o (.pick 16 (.t 12) .ct (.t 15))]) (.cond (.t 16) (.seq (.r [.o (.bld 17 (.ag [(.sc (.int .i64 0)), (.sc (.int .i64 0)), (.sc (.int .i64 0)), (.ls (some true) 1 []), (.ls (some true) 1 [])]) []), .s 5 4 17, .v 5 (.ci 2)]) .ret) .skip)) (.seq (.r [.m 18 1, .c 19 f3 [.t 2, .t 18], .s 5 4 19, .v 5 (.ci 0)]) .ret))))
def K_spRestrict (P : Program) (fno : Nat) : Prop := ∀ (m : Mo) (s : SL Int), AF P fno [eM m, eS 1 eI s] (.tup ([.own (eM (restrM m s.2).1), .own (eI (restrM m s.2).2)]))
theorem a_spRestrict {P : Program} (hm : P.follows .mixedOrders = true) {g f1 f2 f3 : Nat} (hr : resF P g = some (20, k_spRestrict f1 f2 f3, [.c 4 5 true, .t 5])) (hc1 : K_l05Ok P f1) (hc2 : K_l05Set P f2) (hc3 : K_l05Pick P f3) : K_spRestrict P g := by
 intro m s
 refine af_of_res hr hm rfl fun hb => ?_
 simp +contextual -implicitDefEqProofs only [k_spRestrict, eM, eS, eI, D.size, D.sizeL, go_sem]
 refine callQ_self (ds := [.pt (eM m) 0]) (by rfl) (hc1 m) ?_
 cases ho : okMo m
 ·rw [show restrM m s.2 = (zMo, 1) by simp [restrM, ho]]
  simp +contextual -implicitDefEqProofs only [zMo, eB, bne, bN, bU, bJ, Bool.or_true, Bool.or_false, D.put, D.cells, D.size, D.sizeL, D.isAg, modeOf, noPtrs, D.at, D.sub, go_sem]
 have hp := okMo_pts ho
 by_cases h0 : s.2.length = 0
 ·have h0' := List.eq_nil_of_length_eq_zero h0
  have hz : ((s.2.length : Int) == 0) = true := by simp [h0]
  rw [show restrM m s.2 = (zMo, 2) by simp [restrM, ho, h0']]
  simp +contextual -implicitDefEqProofs only [hz, zMo, eB, bne, bT, bU, bJ, Bool.or_true, Bool.or_false, D.put, D.cells, D.size, D.sizeL, D.isAg, modeOf, noPtrs, lM, D.at, D.sub, go_sem]
 have h0' : s.2 ≠ [] := fun e => h0 (by rw [e]; rfl)
 have hz : ((s.2.length : Int) == 0) = false := by simp; exact h0'
 simp +contextual -implicitDefEqProofs only [hz, eB, bT, go_sem, lM]
 refine callQ_self (ds := [.pt (eM m) 0, eS 1 eI s]) (by rfl) (hc2 m s ⟨by omega, by omega⟩) ?_
 cases hs : isSetB m.2.1 s.2
 ·rw [show restrM m s.2 = (zMo, 2) by simp [restrM, ho, hs]]
  simp +contextual -implicitDefEqProofs only [zMo, eB, bne, bN, bU, bJ, Bool.or_true, Bool.or_false, D.put, D.cells, D.size, D.sizeL, D.isAg, modeOf, noPtrs, D.at, D.sub, go_sem]
 simp +contextual -implicitDefEqProofs only [eB, bT, go_sem]
 refine callQ_self (ds := [.pt (eM m) 0, eS 1 eI s]) (by rfl) (hc3 m s (pick_ok ho hs)) ?_
 rw [show restrM m s.2 = (pickMo m s.2, 0) by simp [restrM, ho, hs, h0']]
 simp +contextual -implicitDefEqProofs only [eM, eS, eI, bne, bN, bI, bU, bJ, D.put, D.size, D.sizeL, D.isAg, modeOf, noPtrs, D.at, D.sub, go_sem]

def k_imRestrict (f1 f2 f3 : Nat) : RC := (.seq (.r [.b 2 5 0, .o (.zer 4 5 (.ag [(.sc (.int .i64 0)), (.sc (.int .i64 0)), (.sc (.int .i64 0)), (.ls (some true) 1 []), (.ls (some true) 1 [])])), .v 5 (.ci 0)]) (.seq (.seq (.r [.L 6 5 2, .c 7 f1 [.t 6], .o (.un 8 .not (.t 7))]) (.cond (.t 8) (.seq (.r [.o (.bld 9 (.ag [(.sc (.int .i64 0)), (.sc (.int .i64 0)), (.sc (.int .i64 0)), (.ls (some true) 1 []), (.ls (some true) 1 [])]) []), .s 5 4 9, .v 5 (.ci 1)]) .ret) .skip)) (.seq (.seq (.r [.L 10 5 2, .m 11 1, .c 12 f2 [.t 10, .t 11], .o (.un 13 .not (.t 12)), .m 14 13, .u 14 (.mv 15 (.t 1)), .u 14 (.len 16 (.t 15)), .u 14 (.bin 17 .eql (.t 16) (.ci 0)), .o (.pick 18 (.t 14) .ct (.t 17))]) (.cond (.t 18) (.seq (.r [.o (.bld 19 (.ag [(.sc (.int .i64 0)), (.sc (.int .i64 0)), (.sc (.int .i64 0)), (.ls (some true) 1 []), (.ls (some true) 1 [])]) []), .s 5 4 19, .v 5 (.ci 2)]) .ret) .skip)) (.seq (.r [.L 20 5 2, .m 21 1, .c 22 f3 [.t 20, .t 21], .s 5 4 22, .v 5 (.ci 0)]) .ret))))
def K_imRestrict (P : Program) (fno : Nat) : Prop := ∀ (m : Mo) (s : SL Int), AF P fno [eM m, eS 1 eI s] (.tup ([.own (eM (restrM m s.2).1), .own (eI (restrM m s.2).2)]))
theorem a_imRestrict {P : Program} (hm : P.follows .mixedOrders = true) {g f1 f2 f3 : Nat} (hr : resF P g = some (23, k_imRestrict f1 f2 f3, [.c 4 5 true, .t 5])) (hc1 : K_validModel P f1) (hc2 : K_isSet P f2) (hc3 : K_chosen P f3) : K_imRestrict P g := by
 intro m s
 refine af_of_res hr hm rfl fun hb => ?_
 simp +contextual -implicitDefEqProofs only [k_imRestrict, eM, eS, eI, D.size, D.sizeL, D.isAg, D.at, D.sub, go_sem]
 refine callQ_self (ds := [eM m]) (by rfl) (hc1 m) ?_
 cases ho : okMo m
 ·rw [show restrM m s.2 = (zMo, 1) by simp [restrM, ho]]
  simp +contextual -implicitDefEqProofs only [zMo, eB, bne, bN, bU, bJ, Bool.or_true, Bool.or_false, D.put, D.cells, D.size, D.sizeL, D.isAg, modeOf, noPtrs, D.at, D.sub, go_sem]
 have hp := okMo_pts ho
 simp +contextual -implicitDefEqProofs only [eB, bT, go_sem]
 refine callQ_self (ds := [eM m, eS 1 eI s]) (by rfl) (hc2 m s ⟨by omega, by omega⟩) ?_
 cases hs : isSetB m.2.1 s.2
 ·rw [show restrM m s.2 = (zMo, 2) by simp [restrM, ho, hs]]
  simp +contextual -implicitDefEqProofs only [zMo, eB, bne, bN, bU, bJ, Bool.or_true, Bool.or_false, D.put, D.cells, D.size, D.sizeL, D.isAg, modeOf, noPtrs, D.at, D.sub, go_sem]
 by_cases h0 : s.2.length = 0
 ·have h0' := List.eq_nil_of_length_eq_zero h0
  have hz : ((s.2.length : Int) == 0) = true := by simp [h0]
  rw [show restrM m s.2 = (zMo, 2) by simp [restrM, ho, h0']]
  simp +contextual -implicitDefEqProofs only [hz, zMo, eB, bne, bT, bU, bJ, Bool.or_true, Bool.or_false, D.put, D.cells, D.size, D.sizeL, D.isAg, modeOf, noPtrs, lM, D.at, D.sub, go_sem]
 have h0' : s.2 ≠ [] := fun e => h0 (by rw [e]; rfl)
 have hz : ((s.2.length : Int) == 0) = false := by simp; exact h0'
 simp +contextual -implicitDefEqProofs only [hz, eB, bT, go_sem, lM]
 refine callQ_self (ds := [eM m, eS 1 eI s]) (by rfl) (hc3 m s (pick_ok ho hs)) ?_
 rw [show restrM m s.2 = (pickMo m s.2, 0) by simp [restrM, ho, hs, h0']]
 simp +contextual -implicitDefEqProofs only [eM, eS, eI, bne, bN, bI, bU, bJ, D.put, D.size, D.sizeL, D.isAg, modeOf, noPtrs, D.at, D.sub, go_sem]

def testOf (m : Mo) (v : Int) (x : Nat) : Bool := (m.2.2.1.2.getD v.toNat (none, [])).2.getD x false
def actOf (m : Mo) (v : Int) : SL (SL Bool) := m.2.2.2.2.getD v.toNat (none, [])
def diagR (f : Nat → Bool) : Rel := fun x y => x == y && f x
def noneR : Rel := fun _ _ => false
def relOp (m : Mo) (k v : Int) (rs : List Rel) : Rel :=
 if k = 2 then diagR fun _ => true
 else if k = 3 then diagR (testOf m v)
 else if k = 4 then relOf (actOf m v)
 else if k = 5 then diagR fun x => !(rs.getD 0 noneR x x)
 else if k = 6 then fun x y => rs.getD 0 noneR x y || rs.getD 1 noneR x y
 else if k = 7 then dotR m.2.1.toNat (rs.getD 0 noneR) (rs.getD 1 noneR)
 else if k = 8 then starR m.2.1.toNat (rs.getD 0 noneR)
 else noneR
mutual

def relE (m : Mo) : Ex → Rel
 | .mk k v _ ks => relOp m k v (relEs m ks)
def relEs (m : Mo) : List Ex → List Rel
 | [] => []
 | e :: es => relE m e :: relEs m es
end
theorem relEs_map {m : Mo} : ∀ {ks : List Ex}, relEs m ks = ks.map (relE m)
 | [] => rfl
 | e :: es => by simp only [relEs, lC, relEs_map (ks := es)]
theorem relE_mk {m : Mo} {k v : Int} {nn : Option Bool} {ks : List Ex} : relE m (.mk k v nn ks) = relOp m k v (ks.map (relE m)) := by rw [relE, relEs_map]

structure MoOk (m : Mo) (n : Nat) : Prop where
 pts : m.2.1 = (n : Int)
 n1 : 1 ≤ n
 n8 : n ≤ 8
 g : okG m.1 = true
 tl : (m.2.2.1.2.length : Int) = m.1.1
 tr : ∀ r ∈ m.2.2.1.2, r.2.length = n
 al : (m.2.2.2.2.length : Int) = m.1.2
 asq : ∀ a ∈ m.2.2.2.2, Sq n a
theorem isIn_iff' {x lo hi : Int} : isIn x lo hi = true ↔ lo ≤ x ∧ x ≤ hi := by simp [isIn]
theorem okMo_ok {m : Mo} (h : okMo m = true) : ∃ n, MoOk m n := by
 have hp := okMo_pts h
 simp only [okMo, testsOk, actsOk, tabOk, bA, List.all_eq_true, lenIs, beq_iff_eq] at h
 obtain ⟨⟨hg, _, ht, htr⟩, ha, har⟩ := h
 exact ⟨m.2.1.toNat, by omega, by omega, by omega, hg, ht, fun r hr => by have := htr r hr; omega, ha, fun a hx => ⟨by have := (har a hx).1; omega, fun r hr => by have := (har a hx).2 r hr; omega⟩⟩
theorem nat_lt_of' {x : Int} {n : Nat} (h0 : 0 ≤ x) (h : x.toNat < n) : x < (n : Int) := by omega
theorem getD_mem {α : Type} {l : List α} {i : Nat} {d : α} (h : i < l.length) : l.getD i d ∈ l := by simp [h]

inductive KindOk (m : Mo) (k v : Int) (ks : List Ex) : Prop
 | zero (h : k = 1) (hk : ks = [])
 | one (h : k = 2) (hk : ks = [])
 | test (h : k = 3) (hk : ks = []) (h0 : 0 ≤ v) (h1 : v.toNat < m.2.2.1.2.length)
 | act (h : k = 4) (hk : ks = []) (h0 : 0 ≤ v) (h1 : v.toNat < m.2.2.2.2.length)
 | nt (h : k = 5) (a : Ex) (hk : ks = [a])
 | sum (h : k = 6) (a b : Ex) (hk : ks = [a, b])
 | dot (h : k = 7) (a b : Ex) (hk : ks = [a, b])
 | star (h : k = 8) (a : Ex) (hk : ks = [a])
theorem kind_ok {m : Mo} {n : Nat} (hM : MoOk m n) {k v : Int} {ks : List Ex} (h : formOk m.1 k v ks = true) : KindOk m k v ks := by
 have hg := hM.g
 have tl := hM.tl
 have al := hM.al
 simp only [okG, bA, isIn_iff'] at hg
 have hw1 : IntKind.i64.wrap (m.1.1 - 1) = m.1.1 - 1 := wrap_i64 (by omega) (by omega)
 have hw2 : IntKind.i64.wrap (m.1.2 - 1) = m.1.2 - 1 := wrap_i64 (by omega) (by omega)
 simp only [formOk, bA, beq_iff_eq, hw1, hw2] at h
 obtain ⟨hk, hv⟩ := h
 unfold kidsN at hk
 have e0 : ∀ {l : List Ex}, (0 : Int) = l.length → l = [] := fun h => List.eq_nil_of_length_eq_zero (by omega)
 have e1 : ∀ {l : List Ex}, (1 : Int) = l.length → ∃ a, l = [a] := fun {l} h => by
  match l, h with
  | [a], _ => exact ⟨a, rfl⟩
  | [], h => simp at h
  | _ :: _ :: _, h => simp at h; omega
 have e2 : ∀ {l : List Ex}, (2 : Int) = l.length → ∃ a b, l = [a, b] := fun {l} h => by
  match l, h with
  | [a, b], _ => exact ⟨a, b, rfl⟩
  | [], h => simp at h
  | [_], h => simp at h
  | _ :: _ :: _ :: _, h => simp at h; omega
 by_cases h1 : k = 1
 ·subst h1; exact .zero rfl (e0 (by simpa using hk))
 by_cases h2 : k = 2
 ·subst h2; exact .one rfl (e0 (by simpa using hk))
 by_cases h3 : k = 3
 ·subst h3
  rw [if_pos rfl, isIn_iff'] at hv
  exact .test rfl (e0 (by simpa using hk)) hv.1 (by omega)
 by_cases h4 : k = 4
 ·subst h4
  rw [if_neg (by omega), if_pos rfl, isIn_iff'] at hv
  exact .act rfl (e0 (by simpa using hk)) hv.1 (by omega)
 by_cases h5 : k = 5
 ·subst h5; obtain ⟨a, hk⟩ := e1 (by simpa using hk); exact .nt rfl a hk
 by_cases h6 : k = 6
 ·subst h6; obtain ⟨a, b, hk⟩ := e2 (by simpa using hk); exact .sum rfl a b hk
 by_cases h7 : k = 7
 ·subst h7; obtain ⟨a, b, hk⟩ := e2 (by simpa using hk); exact .dot rfl a b hk
 by_cases h8 : k = 8
 ·subst h8; obtain ⟨a, hk⟩ := e1 (by simpa using hk); exact .star rfl a hk
 simp [h1, h2, h3, h4, h5, h6, h7, h8] at hk
theorem dotR_tab {n : Nat} {A B : Rel} : rD n (dotR n (relOf (rTab n A)) (relOf (rTab n B))) = rD n (dotR n A B) := rD_congr fun _ _ hx hy => dotU_congr (fun _ hk => relOf_tab hx hk) (fun _ hk => relOf_tab hk hy)
theorem comp_D {P : Program} {f : Nat} (h : K_composed P f) {n : Nat} {A B : Rel} (hn : n ≤ 1000) : AF P f [.ls (some false) 1 (rD n A), .ls (some false) 1 (rD n B)] (.own (.ls (some false) 1 (rD n (dotR n A B)))) := by
 have := h n (rTab n A) (rTab n B) hn rTab_sq rTab_sq
 rw [rD_eq, rD_eq, rD_eq] at this
 rw [dotR_tab] at this
 exact this

def eT (s : ByteArray) : D := .sc (.string s)
def d1 (n : Nat) : ByteArray := ⟨#[UInt8.ofNat (48 + n)]⟩

def decB (n : Nat) : ByteArray := if n < 10 then d1 n else d1 (n / 10) ++ d1 (n % 10)
theorem bsz {a : Array UInt8} : (ByteArray.mk a).size = a.size := rfl
theorem decB_size {n : Nat} : (decB n).size ≤ 2 := by
 unfold decB d1
 split <;> simp only [ByteArray.size_append, bsz, List.size_toArray, lK, lZ] <;> omega
theorem d1_size {n : Nat} : (d1 n).size = 1 := rfl
theorem decB_lt {n : Nat} (h : n < 10) : decB n = d1 n := by simp [decB, h]
theorem decB_ge {n : Nat} (h : ¬ n < 10) : decB n = d1 (n / 10) ++ d1 (n % 10) := by simp [decB, h]
theorem u8_d {n : Nat} (h : n < 10) : IntKind.u8.wrap (IntKind.i64.wrap (48 + (n : Int))) = ((48 + n : Nat) : Int) := by
 rw [wrap_i64 (by omega) (by omega)]
 unfold IntKind.wrap
 simp [IntKind.signed, IntKind.bits]
 omega

def k_spDecimal (g : Nat) : RC := (.seq (.r [⟨none, .mv 2 (.c (.sc (.string ⟨#[]⟩)))⟩]) (.seq (.seq (.r [.m 3 0, .o (.bin 4 .geq (.t 3) (.ci 10))]) (.cond (.t 4) (.seq (.reg true [.m 5 0, .o (.bin 6 .quo (.t 5) (.ci 10)), .c 7 g [.t 6], .m 8 0, .o (.bin 9 .rem (.t 8) (.ci 10)), .o (.bin 10 .add (.ci 48) (.t 9)), .o (.cvt 11 .u8 (.t 10)), .o (.bs 12 1 (.sc (.int .u8 0)) 1 [(0, (.t 11))]), .o (.cvs 13 (.t 12)), .o (.bin 14 .add (.t 7) (.t 13)), .m 2 14]) .ret) .skip)) (.seq (.r [.m 15 0, .o (.bin 16 .add (.ci 48) (.t 15)), .o (.cvt 17 .u8 (.t 16)), .o (.bs 18 1 (.sc (.int .u8 0)) 1 [(0, (.t 17))]), .o (.cvs 19 (.t 18)), .m 2 19]) .ret)))
def K_spDecimal (P : Program) (fno : Nat) : Prop := ∀ (n : Nat) (hn : n < 100), AF P fno [eI n] (.own (eT (decB n)))
theorem a_spDecimal {P : Program} (hm : P.follows .mixedOrders = true) {g : Nat} (hr : resF P g = some (20, k_spDecimal g, [.t 2])) : K_spDecimal P g := by
 intro n hn
 have h10 : ∀ n : Nat, n < 10 → AF P g [eI n] (.own (eT (decB n))) := by
  intro n hn
  refine af_of_res hr hm rfl fun hb => ?_
  have hd : ¬ ((n : Int) ≥ 10) := by omega
  simp +contextual -implicitDefEqProofs only [k_spDecimal, eI, eT, hd, D.size, go_sem, Nat.reduceMul]
  refine ⟨by decide, D.Le.sc_eq ?_⟩
  rw [u8_d hn, decB_lt hn]
  rfl
 by_cases hd : n < 10
 ·exact h10 n hd
 refine af_of_res hr hm rfl fun hb => ?_
 have hd' : (n : Int) ≥ 10 := by omega
 simp +contextual -implicitDefEqProofs only [k_spDecimal, eI, eT, hd', go_sem]
 have q1 : IntKind.i64.wrap ((n : Int).tdiv 10) = ((n / 10 : Nat) : Int) := by rw [Int.tdiv_eq_ediv_of_nonneg (by omega), wrap_i64 (by omega) (by omega)]; omega
 have q2 : (n : Int).tmod 10 = ((n % 10 : Nat) : Int) := by rw [Int.tmod_eq_emod_of_nonneg (by omega)]; omega
 rw [q1]
 refine ⟨by omega, callQ_self (ds := [eI ((n / 10 : Nat) : Int)]) (by rfl) (h10 (n / 10) (by omega)) ?_⟩
 simp +contextual -implicitDefEqProofs only [eT, q2, decB_lt (show n / 10 < 10 by omega), D.size, go_sem, Nat.reduceMul]
 refine ⟨by omega, by decide, ⟨by rw [d1_size]; exact (by omega : 1 + 1 ≤ 9223372036854775807), D.Le.sc_eq ?_⟩⟩
 rw [u8_d (by omega), decB_ge hd]
 rfl
def b1 (b : Bool) : ByteArray := if b then ⟨#[49]⟩ else ⟨#[48]⟩

def textOp (k v : Int) (ts : List ByteArray) : ByteArray :=
 if k = 1 then ⟨#[48]⟩ else if k = 2 then ⟨#[49]⟩ else if k = 3 then ⟨#[116]⟩ ++ decB v.toNat else if k = 4 then ⟨#[97]⟩ ++ decB v.toNat
 else if k = 5 then ⟨#[126]⟩ ++ ts.getD 0 ⟨#[]⟩ else if k = 6 then ⟨#[40]⟩ ++ ts.getD 0 ⟨#[]⟩ ++ ⟨#[32, 43, 32]⟩ ++ ts.getD 1 ⟨#[]⟩ ++ ⟨#[41]⟩
 else if k = 7 then ⟨#[40]⟩ ++ ts.getD 0 ⟨#[]⟩ ++ ⟨#[32]⟩ ++ ts.getD 1 ⟨#[]⟩ ++ ⟨#[41]⟩ else ts.getD 0 ⟨#[]⟩ ++ ⟨#[42]⟩
mutual
def textE : Ex → ByteArray
 | .mk k v _ ks => textOp k v (textEs ks)
def textEs : List Ex → List ByteArray
 | [] => []
 | e :: es => textE e :: textEs es
end
theorem textEs_map : ∀ {ks : List Ex}, textEs ks = ks.map textE
 | [] => rfl
 | e :: es => by rw [textEs, textEs_map]; rfl
theorem textE_mk {k v : Int} {nn : Option Bool} {ks : List Ex} : textE (.mk k v nn ks) = textOp k v (ks.map textE) := by rw [textE, textEs_map]
inductive TxOk (k v : Int) (ks : List Ex) : Prop
 | zero (h : k = 1) (hk : ks = [])
 | one (h : k = 2) (hk : ks = [])
 | test (h : k = 3) (hk : ks = []) (n : Nat) (hv : v = n) (hn : n < 100)
 | act (h : k = 4) (hk : ks = []) (n : Nat) (hv : v = n) (hn : n < 100)
 | nt (h : k = 5) (a : Ex) (hk : ks = [a])
 | sum (h : k = 6) (a b : Ex) (hk : ks = [a, b])
 | dot (h : k = 7) (a b : Ex) (hk : ks = [a, b])
 | star (h : k = 8) (a : Ex) (hk : ks = [a])
theorem tx_ok {g : Int × Int} (hg : okG g = true) {k v : Int} {ks : List Ex} (h : formOk g k v ks = true) : TxOk k v ks := by
 simp only [okG, bA, isIn_iff'] at hg
 have hw1 : IntKind.i64.wrap (g.1 - 1) = g.1 - 1 := wrap_i64 (by omega) (by omega)
 have hw2 : IntKind.i64.wrap (g.2 - 1) = g.2 - 1 := wrap_i64 (by omega) (by omega)
 simp only [formOk, bA, beq_iff_eq, hw1, hw2] at h
 obtain ⟨hk, hv⟩ := h
 unfold kidsN at hk
 have e0 : ∀ {l : List Ex}, (0 : Int) = l.length → l = [] := fun h => List.eq_nil_of_length_eq_zero (by omega)
 have e1 : ∀ {l : List Ex}, (1 : Int) = l.length → ∃ a, l = [a] := fun {l} h => by
  match l, h with
  | [a], _ => exact ⟨a, rfl⟩
  | [], h => simp at h
  | _ :: _ :: _, h => simp at h; omega
 have e2 : ∀ {l : List Ex}, (2 : Int) = l.length → ∃ a b, l = [a, b] := fun {l} h => by
  match l, h with
  | [a, b], _ => exact ⟨a, b, rfl⟩
  | [], h => simp at h
  | [_], h => simp at h
  | _ :: _ :: _ :: _, h => simp at h; omega
 by_cases h1 : k = 1
 ·subst h1; exact .zero rfl (e0 (by simpa using hk))
 by_cases h2 : k = 2
 ·subst h2; exact .one rfl (e0 (by simpa using hk))
 by_cases h3 : k = 3
 ·subst h3
  rw [if_pos rfl, isIn_iff'] at hv
  exact .test rfl (e0 (by simpa using hk)) v.toNat (by omega) (by omega)
 by_cases h4 : k = 4
 ·subst h4
  rw [if_neg (by omega), if_pos rfl, isIn_iff'] at hv
  exact .act rfl (e0 (by simpa using hk)) v.toNat (by omega) (by omega)
 by_cases h5 : k = 5
 ·subst h5; obtain ⟨a, hk⟩ := e1 (by simpa using hk); exact .nt rfl a hk
 by_cases h6 : k = 6
 ·subst h6; obtain ⟨a, b, hk⟩ := e2 (by simpa using hk); exact .sum rfl a b hk
 by_cases h7 : k = 7
 ·subst h7; obtain ⟨a, b, hk⟩ := e2 (by simpa using hk); exact .dot rfl a b hk
 by_cases h8 : k = 8
 ·subst h8; obtain ⟨a, hk⟩ := e1 (by simpa using hk); exact .star rfl a hk
 exact absurd hk (by simp [h1, h2, h3, h4, h5, h6, h7, h8])

def k_l01Text (g f1 : Nat) : RC := (.seq (.r [⟨none, .mv 2 (.c (.sc (.string ⟨#[]⟩)))⟩]) (.seq (.seq (.r [.m 3 0, .n 4 3, .f 5 0 4, .l 6 1 5]) (.blk 0 (.seq (.r [.q 8 6 1, .m 7 8]) (.cond (.t 7) (.seq (.r [⟨none, .mv 2 (.c (.sc (.string ⟨#[48]⟩)))⟩]) .ret) (.seq (.r [.q 10 6 2, .m 9 10]) (.cond (.t 9) (.seq (.r [⟨none, .mv 2 (.c (.sc (.string ⟨#[49]⟩)))⟩]) .ret) (.seq (.r [.q 12 6 3, .m 11 12]) (.cond (.t 11) (.seq (.r [.m 13 0, .n 14 13, .f 15 1 14, .l 16 1 15, .c 17 f1 [.t 16], ⟨none, .bin 18 .add (.c (.sc (.string ⟨#[116]⟩))) (.t 17)⟩, .m 2 18]) .ret) (.seq (.r [.q 20 6 4, .m 19 20]) (.cond (.t 19) (.seq (.r [.m 21 0, .n 22 21, .f 23 1 22, .l 24 1 23, .c 25 f1 [.t 24], ⟨none, .bin 26 .add (.c (.sc (.string ⟨#[97]⟩))) (.t 25)⟩, .m 2 26]) .ret) (.seq (.r [.q 28 6 5, .m 27 28]) (.cond (.t 27) (.seq (.r [.m 29 0, .n 30 29, .f 31 2 30, .l 32 1 31, .i 33 3 32 0, .c 34 g [.t 33], ⟨none, .bin 35 .add (.c (.sc (.string ⟨#[126]⟩))) (.t 34)⟩, .m 2 35]) .ret) (.seq (.r [.q 37 6 6, .m 36 37]) (.cond (.t 36) (.seq (.reg true [.m 38 0, .n 39 38, .f 40 2 39, .l 41 1 40, .i 42 3 41 0, .c 43 g [.t 42], ⟨none, .bin 44 .add (.c (.sc (.string ⟨#[40]⟩))) (.t 43)⟩, ⟨none, .bin 45 .add (.t 44) (.c (.sc (.string ⟨#[32, 43, 32]⟩)))⟩, .m 46 0, .n 47 46, .f 48 2 47, .l 49 1 48, .i 50 3 49 1, .c 51 g [.t 50], .o (.bin 52 .add (.t 45) (.t 51)), ⟨none, .bin 53 .add (.t 52) (.c (.sc (.string ⟨#[41]⟩)))⟩, .m 2 53]) .ret) (.seq (.r [.q 55 6 7, .m 54 55]) (.cond (.t 54) (.seq (.reg true [.m 56 0, .n 57 56, .f 58 2 57, .l 59 1 58, .i 60 3 59 0, .c 61 g [.t 60], ⟨none, .bin 62 .add (.c (.sc (.string ⟨#[40]⟩))) (.t 61)⟩, ⟨none, .bin 63 .add (.t 62) (.c (.sc (.string ⟨#[32]⟩)))⟩, .m 64 0, .n 65 64, .f 66 2 65, .l 67 1 66, .i 68 3 67 1, .c 69 g [.t 68], .o (.bin 70 .add (.t 63) (.t 69)), ⟨none, .bin 71 .add (.t 70) (.c (.sc (.string ⟨#[41]⟩)))⟩, .m 2 71]) .ret) .skip)))))))))))))))) (.seq (.r [.m 72 0, .n 73 72, .f 74 2 73, .l 75 1 74, .i 76 3 75 0, .c 77 g [.t 76], ⟨none, .bin 78 .add (.t 77) (.c (.sc (.string ⟨#[42]⟩)))⟩, .m 2 78]) .ret)))
def K_l01Text (P : Program) (fno : Nat) : Prop := ∀ (g0 : Int × Int) (hg : okG g0 = true) (e : Ex) (hT : treeE g0 e = true) (hz : (textE e).size ≤ 1000000000), AF P fno [.pt (eE e) 0] (.own (eT (textE e)))
theorem a_l01Text {P : Program} (hm : P.follows .mixedOrders = true) {g f1 : Nat} (hr : resF P g = some (79, k_l01Text g f1, [.t 2])) (hc1 : K_spDecimal P f1) : K_l01Text P g := by
 intro g0 hg e hT hz
 refine Ex.ind (p := fun e => treeE g0 e = true → (textE e).size ≤ 1000000000 → AF P g [.pt (eE e) 0] (.own (eT (textE e)))) (fun k v nn ks ih hT hz => ?_) e hT hz
 rw [treeE_mk, bA, List.all_eq_true] at hT
 have hK := tx_ok hg hT.1
 rw [textE_mk] at hz ⊢
 rw [eE_mk]
 refine af_of_res hr hm rfl fun hb => ?_
 cases hK with
 | zero hk hks =>
  subst hk hks
  rw [show textOp 1 v ([].map textE) = ⟨#[48]⟩ by simp [textOp]] at hz ⊢
  simp +contextual -implicitDefEqProofs only [k_l01Text, eT, D.size, D.sizeL, D.sub, bE, D.isAg, lN, List.getD_cons_zero, go_sem]
 | one hk hks =>
  subst hk hks
  rw [show textOp 2 v ([].map textE) = ⟨#[49]⟩ by simp [textOp]] at hz ⊢
  simp +contextual -implicitDefEqProofs only [k_l01Text, eT, D.size, D.sizeL, D.sub, Int.reduceBEq, bE, D.isAg, lN, List.getD_cons_zero, go_sem]
 | test hk hks n hv hn =>
  subst hk hks hv
  rw [show textOp 3 n ([].map textE) = ⟨#[116]⟩ ++ decB n by simp [textOp]] at hz ⊢
  have hdz := decB_size (n := n)
  simp +contextual -implicitDefEqProofs only [k_l01Text, eT, D.size, D.sizeL, D.sub, Int.reduceBEq, bE, D.isAg, lN, lC, List.getD_cons_zero, List.getD_cons_succ, go_sem]
  refine callQ_self (ds := [eI n]) (by rfl) (hc1 n hn) ?_
  simp +contextual -implicitDefEqProofs only [eT, go_sem]
  simp only [List.size_toArray, lK, lZ]
  omega
 | act hk hks n hv hn =>
  subst hk hks hv
  rw [show textOp 4 n ([].map textE) = ⟨#[97]⟩ ++ decB n by simp [textOp]] at hz ⊢
  have hdz := decB_size (n := n)
  simp +contextual -implicitDefEqProofs only [k_l01Text, eT, D.size, D.sizeL, D.sub, Int.reduceBEq, bE, D.isAg, lN, lC, List.getD_cons_zero, List.getD_cons_succ, go_sem]
  refine callQ_self (ds := [eI n]) (by rfl) (hc1 n hn) ?_
  simp +contextual -implicitDefEqProofs only [eT, go_sem]
  simp only [List.size_toArray, lK, lZ]
  omega
 | nt hk a hks =>
  subst hk hks
  rw [show textOp 5 v ([a].map textE) = ⟨#[126]⟩ ++ textE a by simp [textOp]] at hz ⊢
  have ta := hT.2 a (by simp)
  simp only [ByteArray.size_append, bsz, List.size_toArray, lK, lZ] at hz
  simp +contextual -implicitDefEqProofs only [k_l01Text, eT, D.size, D.sizeL, D.sub, Int.cast_ofNat_Int, Int.reduceLT, Int.le_refl, Int.reduceBEq, bE, D.isAg, lN, lC, lK, lZ, D.at, List.getD_cons_zero, List.getD_cons_succ, go_sem]
  refine callQ_self (ds := [.pt (eE a) 0]) (by rfl) (ih a (by simp) ta (by omega)) ?_
  simp +contextual -implicitDefEqProofs only [eT, go_sem]
  simp only [List.size_toArray, lK, lZ]
  omega
 | sum hk a b hks =>
  subst hk hks
  rw [show textOp 6 v ([a, b].map textE) = ⟨#[40]⟩ ++ textE a ++ ⟨#[32, 43, 32]⟩ ++ textE b ++ ⟨#[41]⟩ by simp [textOp]] at hz ⊢
  have ta := hT.2 a (by simp)
  have tb := hT.2 b (by simp)
  simp only [ByteArray.size_append, bsz, List.size_toArray, lK, lZ] at hz
  simp +contextual -implicitDefEqProofs only [k_l01Text, eT, D.size, D.sizeL, D.sub, Int.cast_ofNat_Int, Int.reduceLT, Int.le_refl, Int.reduceBEq, bE, D.isAg, lN, lC, lK, lZ, D.at, List.getD_cons_zero, List.getD_cons_succ, go_sem]
  refine callQ_self (ds := [.pt (eE a) 0]) (by rfl) (ih a (by simp) ta (by omega)) ?_
  simp +contextual -implicitDefEqProofs only [eT, D.size, D.sizeL, D.sub, Int.cast_ofNat_Int, Int.reduceLT, Int.reduceLE, Int.reduceToNat, D.isAg, lN, lC, lK, lZ, D.at, List.getD_cons_zero, List.getD_cons_succ, go_sem]
  refine ⟨by simp only [List.size_toArray, lK, lZ]; omega, by simp only [List.size_toArray, lK, lZ]; omega, ?_⟩
  refine callQ_self (ds := [.pt (eE b) 0]) (by rfl) (ih b (by simp) tb (by omega)) ?_
  simp +contextual -implicitDefEqProofs only [eT, go_sem]
  exact ⟨by simp only [List.size_toArray, lK, lZ]; omega, by simp only [List.size_toArray, lK, lZ]; omega⟩
 | dot hk a b hks =>
  subst hk hks
  rw [show textOp 7 v ([a, b].map textE) = ⟨#[40]⟩ ++ textE a ++ ⟨#[32]⟩ ++ textE b ++ ⟨#[41]⟩ by simp [textOp]] at hz ⊢
  have ta := hT.2 a (by simp)
  have tb := hT.2 b (by simp)
  simp only [ByteArray.size_append, bsz, List.size_toArray, lK, lZ] at hz
  simp +contextual -implicitDefEqProofs only [k_l01Text, eT, D.size, D.sizeL, D.sub, Int.cast_ofNat_Int, Int.reduceLT, Int.le_refl, Int.reduceBEq, bE, D.isAg, lN, lC, lK, lZ, D.at, List.getD_cons_zero, List.getD_cons_succ, go_sem]
  refine callQ_self (ds := [.pt (eE a) 0]) (by rfl) (ih a (by simp) ta (by omega)) ?_
  simp +contextual -implicitDefEqProofs only [eT, D.size, D.sizeL, D.sub, Int.cast_ofNat_Int, Int.reduceLT, Int.reduceLE, Int.reduceToNat, D.isAg, lN, lC, lK, lZ, D.at, List.getD_cons_zero, List.getD_cons_succ, go_sem]
  refine ⟨by simp only [List.size_toArray, lK, lZ]; omega, by simp only [List.size_toArray, lK, lZ]; omega, ?_⟩
  refine callQ_self (ds := [.pt (eE b) 0]) (by rfl) (ih b (by simp) tb (by omega)) ?_
  simp +contextual -implicitDefEqProofs only [eT, go_sem]
  exact ⟨by simp only [List.size_toArray, lK, lZ]; omega, by simp only [List.size_toArray, lK, lZ]; omega⟩
 | star hk a hks =>
  subst hk hks
  rw [show textOp 8 v ([a].map textE) = textE a ++ ⟨#[42]⟩ by simp [textOp]] at hz ⊢
  have ta := hT.2 a (by simp)
  simp only [ByteArray.size_append, bsz, List.size_toArray, lK, lZ] at hz
  simp +contextual -implicitDefEqProofs only [k_l01Text, eT, D.size, D.sizeL, D.sub, Int.cast_ofNat_Int, Int.reduceLT, Int.le_refl, Int.reduceBEq, D.isAg, lN, lC, lK, lZ, D.at, List.getD_cons_zero, List.getD_cons_succ, go_sem]
  refine callQ_self (ds := [.pt (eE a) 0]) (by rfl) (ih a (by simp) ta (by omega)) ?_
  simp +contextual -implicitDefEqProofs only [eT, go_sem]
  simp only [List.size_toArray, lK, lZ]
  omega


def eU (v : Int) : D := .sc (.int .u8 v)

def srcD (nn : Option Bool) (c : List Int) (a sd : Int) : D := .ag [.ls nn 1 (c.map eU), .sc (.int .i64 a), .sc (.int .u64 sd)]
def uS (nn : Option Bool) (c : List Int) (a sd : Int) : U := .ar false none 3 [srcD nn c a sd]
def srcOk (c : List Int) : Prop := (∀ v ∈ c, 0 ≤ v ∧ v < 256) ∧ c.length ≤ 1000000000
def nb (c : List Int) (a : Int) : Int := if a < c.length then c.getD a.toNat 0 else 0
def nsd (c : List Int) (a sd : Int) : Int := IntKind.u64.wrap (IntKind.u64.wrap (IntKind.u64.wrap (sd * 6364136223846793005) + IntKind.u64.wrap (nb c a)) + 1442695040888963407)
def nlow (sd : Int) : Int := IntKind.i64.wrap (IntKind.u64.wrap ((BitVec.ofInt IntKind.u64.bits (sd.fdiv (2 ^ (min (40 : Int).toNat IntKind.u64.bits))) &&& BitVec.ofInt IntKind.u64.bits 255).toNat : Nat))
def nxS (c : List Int) (a sd : Int) : Int := if a < c.length then nb c a else nlow (nsd c a sd)
theorem nb_bd {c : List Int} {a : Int} (h : srcOk c) : 0 ≤ nb c a ∧ nb c a < 256 := by
 unfold nb
 split
 ·next h1 =>
  by_cases h2 : a.toNat < c.length
  ·rw [List.getD_eq_getElem?_getD, List.getElem?_eq_getElem h2]
   exact h.1 _ (List.getElem_mem h2)
  ·simp [List.getD_eq_getElem?_getD, List.getElem?_eq_none (show c.length ≤ a.toNat by omega)]
 ·omega
theorem nlow_bd (sd : Int) : 0 ≤ nlow sd ∧ nlow sd < 256 := by
 unfold nlow
 rw [BitVec.toNat_and]
 have h : (BitVec.ofInt IntKind.u64.bits (sd.fdiv (2 ^ (min (40 : Int).toNat IntKind.u64.bits)))).toNat &&& (BitVec.ofInt IntKind.u64.bits 255).toNat ≤ 255 := Nat.le_trans Nat.and_le_right (by decide)
 generalize (BitVec.ofInt IntKind.u64.bits (sd.fdiv (2 ^ (min (40 : Int).toNat IntKind.u64.bits)))).toNat &&& (BitVec.ofInt IntKind.u64.bits 255).toNat = m at h
 have e1 : IntKind.u64.wrap (m : Int) = m := by simp only [IntKind.wrap, show IntKind.u64.signed = false from rfl, bG, bFt, if_false, show IntKind.u64.bits = 64 from rfl]; omega
 rw [e1, wrap_i64 (by omega) (by omega)]
 omega
theorem nxS_bd {c : List Int} {a sd : Int} (h : srcOk c) : 0 ≤ nxS c a sd ∧ nxS c a sd < 256 := by
 unfold nxS
 split
 ·exact nb_bd h
 ·exact nlow_bd _

def k_srcNext : RC := (.seq (.r [.v 2 (.ci 0)]) (.seq (.r [.v 3 (.ci 0)]) (.seq (.seq (.reg true [.m 4 0, .n 5 4, .f 6 1 5, .l 7 1 6, .m 8 0, .n 9 8, .f 10 0 9, .l 11 1 10, .o (.len 12 (.t 11)), .o (.bin 13 .lss (.t 7) (.t 12))]) (.cond (.t 13) (.reg true [.m 14 0, .n 15 14, .f 16 0 15, .l 17 1 16, .m 18 0, .n 19 18, .f 20 1 19, .l 21 1 20, .o (.ia 22 1 (.t 17) (.t 21)), .l 23 1 22, .o (.cvt 24 .i64 (.t 23)), .m 3 24]) .skip)) (.seq (.r [.m 25 0, .n 26 25, .f 27 1 26, .l 28 1 27, .o (.bin 29 .add (.t 28) (.ci 1)), .n 30 25, .f 31 1 30, .s 1 31 29]) (.seq (.r [.m 32 0, .m 33 0, .n 34 33, .f 35 2 34, .l 36 1 35, .o (.bin 37 .mul (.t 36) (.c (.sc (.int .u64 6364136223846793005)))), .m 38 3, .o (.cvt 39 .u64 (.t 38)), .o (.bin 40 .add (.t 37) (.t 39)), .o (.bin 41 .add (.t 40) (.c (.sc (.int .u64 1442695040888963407)))), .n 42 32, .f 43 2 42, .s 1 43 41]) (.seq (.seq (.reg true [.m 44 0, .n 45 44, .f 46 1 45, .l 47 1 46, .m 48 0, .n 49 48, .f 50 0 49, .l 51 1 50, .o (.len 52 (.t 51)), .o (.bin 53 .leq (.t 47) (.t 52))]) (.cond (.t 53) (.seq (.r [.m 54 3, .m 2 54]) .ret) .skip)) (.seq (.r [.m 55 0, .n 56 55, .f 57 2 56, .l 58 1 57, .o (.bin 59 .shr (.t 58) (.c (.sc (.int .u64 40)))), .o (.bin 60 .and (.t 59) (.c (.sc (.int .u64 255)))), .o (.cvt 61 .i64 (.t 60)), .m 2 61]) .ret)))))))
def K_srcNext (P : Program) (fno : Nat) : Prop := ∀ (nn : Option Bool) (c : List Int) (a sd : Int), srcOk c → 0 ≤ a → a ≤ 1000000000 → AFW P fno [uS nn c a sd] [.pw 3000000000 0 0] [uS nn c (a + 1) (nsd c a sd)] (.own (.sc (.int .i64 (nxS c a sd))))
theorem a_srcNext {P : Program} (hm : P.follows .mixedOrders = true) {g : Nat} (hr : resF P g = some (62, k_srcNext, [.t 2])) : K_srcNext P g := by
 intro nn c a sd hc h0 hA
 have hn := nb_bd (a := a) hc
 have hlen := hc.2
 have hw := wrap_i64 (x := a + 1) (by omega) (by omega)
 refine afw_of_res (wv := .no) hr hm rfl rfl rfl fun hb ha => ?_
 by_cases h1 : a < c.length
 ·have ea : nb c a = c.getD a.toNat 0 := by simp [nb, h1]
  have hlt : a.toNat < c.length := by omega
  have e2 : D.at (c.map eU) a.toNat = .sc (.int .u8 (nb c a)) := by rw [at_map hlt, ea]; simp [eU, hlt]
  have hcv := wrap_i64 (x := nb c a) (by omega) (by omega)
  have h2 : a + 1 ≤ c.length := by omega
  have ex : nxS c a sd = nb c a := by simp [nxS, h1]
  rw [ex]
  simp +contextual -implicitDefEqProofs only [k_srcNext, uS, srcD, h1, h0, h2, hw, e2, hcv, D.put, D.cells, D.size, D.isAg, D.sub, modeOf, noPtrs, lM, go_sem]
  exact rfl
 ·have ea : nb c a = 0 := by simp [nb, h1]
  have h2 : ¬ a + 1 ≤ c.length := by omega
  have ex : nxS c a sd = nlow (nsd c a sd) := by simp [nxS, h1]
  have en : nsd c a sd = IntKind.u64.wrap (IntKind.u64.wrap (IntKind.u64.wrap (sd * 6364136223846793005) + IntKind.u64.wrap 0) + 1442695040888963407) := by unfold nsd; rw [ea]
  rw [ex, en]
  simp +contextual -implicitDefEqProofs only [k_srcNext, uS, srcD, h1, h2, hw, D.put, D.cells, D.size, D.isAg, D.sub, modeOf, noPtrs, lM, go_sem]
  exact ⟨by decide, D.Le.refl _⟩

def k_srcPick (f1 : Nat) : RC := (.seq (.r [.v 4 (.ci 0)]) (.seq (.seq (.r [.m 6 1, .o (.bin 7 .leq (.t 6) (.ci 1))]) (.cond (.t 7) (.seq (.r [.v 4 (.ci 0)]) .ret) .skip)) (.seq (.r [.m 8 0, .o (.wcl (some 9) f1 [.t 8]), .m 5 9]) (.seq (.seq (.r [.m 10 1, .o (.bin 11 .gtr (.t 10) (.ci 200))]) (.cond (.t 11) (.r [.m 12 5, .o (.bin 13 .mul (.t 12) (.ci 256)), .m 14 0, .o (.wcl (some 15) f1 [.t 14]), .o (.bin 16 .add (.t 13) (.t 15)), .m 5 16]) .skip)) (.seq (.r [.m 17 5, .m 18 1, .o (.bin 19 .rem (.t 17) (.t 18)), .m 4 19]) .ret)))))
def K_srcPick (P : Program) (fno : Nat) : Prop := ∀ (nn : Option Bool) (c : List Int) (a sd n : Int), srcOk c → 0 ≤ a → a ≤ 500000000 → ∃ a' sd' x, a ≤ a' ∧ a' ≤ a + 2 ∧ 0 ≤ x ∧ (n ≤ 1 → x = 0) ∧ (1 < n → x < n) ∧ AFW P fno [uS nn c a sd] [.pw 3000000000 0 0, .im none (eI n)] [uS nn c a' sd'] (.own (eI x))
theorem a_srcPick {P : Program} (hm : P.follows .mixedOrders = true) {g f1 : Nat} (hr : resF P g = some (20, k_srcPick f1, [.t 4])) (hc1 : K_srcNext P f1) : K_srcPick P g := by
 intro nn c a sd n hc h0 hA
 by_cases h1 : n ≤ 1
 ·refine ⟨a, sd, 0, by omega, by omega, by omega, fun _ => rfl, by omega, ?_⟩
  refine afw_of_res (wv := .no) hr hm rfl rfl rfl fun hb ha => ?_
  simp +contextual -implicitDefEqProofs only [k_srcPick, uS, srcD, h1, eI, go_sem]
 have b1 := nxS_bd (a := a) (sd := sd) hc
 by_cases h2 : n > 200
 ·have b2 := nxS_bd (a := a + 1) (sd := nsd c a sd) hc
  have w1 := wrap_i64 (x := nxS c a sd * 256) (by omega) (by omega)
  have w2 := wrap_i64 (x := nxS c a sd * 256 + nxS c (a + 1) (nsd c a sd)) (by omega) (by omega)
  have hn0 : n ≠ 0 := by omega
  refine ⟨a + 1 + 1, nsd c (a + 1) (nsd c a sd), (nxS c a sd * 256 + nxS c (a + 1) (nsd c a sd)).tmod n, by omega, by omega, Int.tmod_nonneg _ (by omega), by omega, fun _ => Int.tmod_lt_of_pos _ (by omega), ?_⟩
  refine afw_of_res (wv := .no) hr hm rfl rfl rfl fun hb ha => ?_
  simp +contextual -implicitDefEqProofs only [k_srcPick, uS, srcD, h1, eI, go_sem]
  refine wcl_self [3000000000] [] (by rfl) (by rfl) (by rfl) (hc1 nn c a sd hc h0 (by omega)) rfl (by simp [wOut, outU, uS, srcD, noPtrs, D.noPtr, shWL, AV.shW, posW, shUs, U.shW, St.unit, lu]) ?_
  simp +contextual -implicitDefEqProofs only [uS, srcD, h2, w1, go_sem]
  refine wcl_self [3000000000] [] (by rfl) (by rfl) (by rfl) (hc1 nn c (a + 1) (nsd c a sd) hc (by omega) (by omega)) rfl (by simp [wOut, outU, uS, srcD, noPtrs, D.noPtr, shWL, AV.shW, posW, shUs, U.shW, St.unit, lu]) ?_
  simp +contextual -implicitDefEqProofs only [uS, srcD, w2, go_sem]
  exact hn0
 ·have hn0 : n ≠ 0 := by omega
  refine ⟨a + 1, nsd c a sd, (nxS c a sd).tmod n, by omega, by omega, Int.tmod_nonneg _ (by omega), by omega, fun _ => Int.tmod_lt_of_pos _ (by omega), ?_⟩
  refine afw_of_res (wv := .no) hr hm rfl rfl rfl fun hb ha => ?_
  simp +contextual -implicitDefEqProofs only [k_srcPick, uS, srcD, h1, eI, go_sem]
  refine wcl_self [3000000000] [] (by rfl) (by rfl) (by rfl) (hc1 nn c a sd hc h0 (by omega)) rfl (by simp [wOut, outU, uS, srcD, noPtrs, D.noPtr, shWL, AV.shW, posW, shUs, U.shW, St.unit, lu]) ?_
  simp +contextual -implicitDefEqProofs only [uS, srcD, h2, go_sem]
  exact hn0

def k_srcOne (f1 : Nat) : RC := (.seq (.r [.v 4 .cf]) (.seq (.r [.m 5 0, .m 6 1, .o (.wcl (some 7) f1 [.t 5, .t 6]), .q 8 7 0, .m 4 8]) .ret))
def K_srcOne (P : Program) (fno : Nat) : Prop := ∀ (nn : Option Bool) (c : List Int) (a sd n : Int), srcOk c → 0 ≤ a → a ≤ 500000000 → ∃ a' sd' b, a ≤ a' ∧ a' ≤ a + 2 ∧ AFW P fno [uS nn c a sd] [.pw 3000000000 0 0, .im none (eI n)] [uS nn c a' sd'] (.own (eB b))
theorem a_srcOne {P : Program} (hm : P.follows .mixedOrders = true) {g f1 : Nat} (hr : resF P g = some (9, k_srcOne f1, [.t 4])) (hc1 : K_srcPick P f1) : K_srcOne P g := by
 intro nn c a sd n hc h0 hA
 obtain ⟨a', sd', x, p1, p2, p3, p4, p5, hP⟩ := hc1 nn c a sd n hc h0 hA
 refine ⟨a', sd', x == 0, p1, p2, ?_⟩
 refine afw_of_res (wv := .no) hr hm rfl rfl rfl fun hb ha => ?_
 simp +contextual -implicitDefEqProofs only [k_srcOne, uS, srcD, eI, go_sem, eB]
 refine wcl_self [3000000000] [] (by rfl) (by rfl) (by rfl) hP rfl (by simp [wOut, outU, uS, srcD, noPtrs, D.noPtr, shWL, AV.shW, posW, shUs, U.shW, St.unit, lu]) ?_
 simp +contextual -implicitDefEqProofs only [uS, srcD, eI, go_sem]

def k_l00From : RC := (.seq (.r [.o (.mv 2 (.c (.sc (.pointer none))))]) (.seq (.r [.m 3 0, .o (.bld 4 (.ag [(.ls (some true) 1 []), (.sc (.int .i64 0)), (.sc (.int .u64 0))]) [(0, 1, (.t 3))]), .b 5 3 4, .m 2 5]) .ret))
def K_l00From (P : Program) (fno : Nat) : Prop := ∀ (nn : Option Bool) (c : List Int), AF P fno [.ls nn 1 (c.map eU)] (.bxs (srcD nn c 0 0))
theorem a_l00From {P : Program} (hm : P.follows .mixedOrders = true) {g : Nat} (hr : resF P g = some (6, k_l00From, [.t 2])) : K_l00From P g := by
 intro nn c
 refine af_of_res hr hm rfl fun hb => ?_
 simp +contextual -implicitDefEqProofs only [k_l00From, srcD, D.cells, D.size, D.sizeL, go_sem, Nat.reduceSub]

def k_l01DrawSig (f1 : Nat) : RC := (.seq (.r [.o (.zer 2 2 (.ag [(.sc (.int .i64 0)), (.sc (.int .i64 0))]))]) (.seq (.r [.m 4 0, .o (.wcl (some 5) f1 [.t 4, .ci 2]), .o (.bin 6 .add (.ci 1) (.t 5)), .m 7 0, .o (.wcl (some 8) f1 [.t 7, .ci 2]), .o (.bin 9 .add (.ci 1) (.t 8)), .o (.bld 10 (.ag [(.sc (.int .i64 0)), (.sc (.int .i64 0))]) [(0, 1, (.t 6)), (1, 1, (.t 9))]), .o (.zer 3 2 (.ag [(.sc (.int .i64 0)), (.sc (.int .i64 0))])), .s 2 3 10]) (.seq (.seq (.r [.m 11 0, .o (.wcl (some 12) f1 [.t 11, .ci 12])]) (.blk 0 (.seq (.r [.q 14 12 0, .m 13 14]) (.cond (.t 13) (.r [.m 15 0, .o (.wcl (some 16) f1 [.t 15, .ci 4]), .f 17 0 3, .s 1 17 16]) (.seq (.r [.q 19 12 1, .m 18 19]) (.cond (.t 18) (.r [.m 20 0, .o (.wcl (some 21) f1 [.t 20, .ci 5]), .f 22 1 3, .s 1 22 21]) .skip)))))) (.seq (.r [.L 23 2 3, .s 2 2 23]) .ret))))
def K_l01DrawSig (P : Program) (fno : Nat) : Prop := ∀ (nn : Option Bool) (c : List Int) (a sd : Int), srcOk c → 0 ≤ a → a ≤ 400000000 → ∃ a' sd' g, a ≤ a' ∧ a' ≤ a + 8 ∧ okG g = true ∧ AFW P fno [uS nn c a sd] [.pw 3000000000 0 0] [uS nn c a' sd'] (.own (eG g))
theorem a_l01DrawSig {P : Program} (hm : P.follows .mixedOrders = true) {g f1 : Nat} (hr : resF P g = some (24, k_l01DrawSig f1, [.c 2 2 true])) (hc1 : K_srcPick P f1) : K_l01DrawSig P g := by
 intro nn c a sd hc h0 hA
 obtain ⟨a1, sd1, x1, p1, p2, p3, p4, p5, hP1⟩ := hc1 nn c a sd 2 hc h0 (by omega)
 obtain ⟨a2, sd2, x2, q1, q2, q3, q4, q5, hP2⟩ := hc1 nn c a1 sd1 2 hc (by omega) (by omega)
 obtain ⟨a3, sd3, x3, r1, r2, r3, r4, r5, hP3⟩ := hc1 nn c a2 sd2 12 hc (by omega) (by omega)
 have p5 := p5 (by omega)
 have q5 := q5 (by omega)
 have w1 := wrap_i64 (x := 1 + x1) (by omega) (by omega)
 have w2 := wrap_i64 (x := 1 + x2) (by omega) (by omega)
 by_cases h3 : x3 = 0
 ·have h3b : (x3 == 0) = true := by simp [h3]
  obtain ⟨a4, sd4, x4, s1, s2, s3, s4, s5, hP4⟩ := hc1 nn c a3 sd3 4 hc (by omega) (by omega)
  have s5 := s5 (by omega)
  refine ⟨a4, sd4, (x4, 1 + x2), by omega, by omega, by simp [okG, isIn]; omega, ?_⟩
  refine afw_of_res (wv := .no) hr hm rfl rfl rfl fun hb ha => ?_
  simp +contextual -implicitDefEqProofs only [k_l01DrawSig, uS, srcD, D.size, D.sizeL, go_sem]
  refine wcl_self [3000000000] [] (by rfl) (by rfl) (by rfl) hP1 rfl (by simp [wOut, outU, uS, srcD, noPtrs, D.noPtr, shWL, AV.shW, posW, shUs, U.shW, St.unit, lu]) ?_
  simp +contextual -implicitDefEqProofs only [uS, srcD, eI, w1, go_sem]
  refine wcl_self [3000000000] [] (by rfl) (by rfl) (by rfl) hP2 rfl (by simp [wOut, outU, uS, srcD, noPtrs, D.noPtr, shWL, AV.shW, posW, shUs, U.shW, St.unit, lu]) ?_
  simp +contextual -implicitDefEqProofs only [uS, srcD, eI, w2, D.put, D.cells, D.size, D.sizeL, D.isAg, modeOf, noPtrs, go_sem, Nat.reduceSub]
  refine wcl_self [3000000000] [] (by rfl) (by rfl) (by rfl) hP3 rfl (by simp [wOut, outU, uS, srcD, noPtrs, D.noPtr, shWL, AV.shW, posW, shUs, U.shW, St.unit, lu]) ?_
  simp +contextual -implicitDefEqProofs only [uS, srcD, eI, eG, h3b, go_sem]
  refine wcl_self [3000000000] [] (by rfl) (by rfl) (by rfl) hP4 rfl (by simp [wOut, outU, uS, srcD, noPtrs, D.noPtr, shWL, AV.shW, posW, shUs, U.shW, St.unit, lu]) ?_
  simp +contextual -implicitDefEqProofs only [uS, srcD, eI, D.put, D.cells, D.size, D.sizeL, D.isAg, D.sub, modeOf, noPtrs, go_sem]
 have h3b : (x3 == 0) = false := by simp [h3]
 by_cases h4 : x3 = 1
 ·have h4b : (x3 == 1) = true := by simp [h4]
  obtain ⟨a4, sd4, x4, s1, s2, s3, s4, s5, hP4⟩ := hc1 nn c a3 sd3 5 hc (by omega) (by omega)
  have s5 := s5 (by omega)
  refine ⟨a4, sd4, (1 + x1, x4), by omega, by omega, by simp [okG, isIn]; omega, ?_⟩
  refine afw_of_res (wv := .no) hr hm rfl rfl rfl fun hb ha => ?_
  simp +contextual -implicitDefEqProofs only [k_l01DrawSig, uS, srcD, D.size, D.sizeL, go_sem]
  refine wcl_self [3000000000] [] (by rfl) (by rfl) (by rfl) hP1 rfl (by simp [wOut, outU, uS, srcD, noPtrs, D.noPtr, shWL, AV.shW, posW, shUs, U.shW, St.unit, lu]) ?_
  simp +contextual -implicitDefEqProofs only [uS, srcD, eI, w1, go_sem]
  refine wcl_self [3000000000] [] (by rfl) (by rfl) (by rfl) hP2 rfl (by simp [wOut, outU, uS, srcD, noPtrs, D.noPtr, shWL, AV.shW, posW, shUs, U.shW, St.unit, lu]) ?_
  simp +contextual -implicitDefEqProofs only [uS, srcD, eI, w2, D.put, D.cells, D.size, D.sizeL, D.isAg, modeOf, noPtrs, go_sem, Nat.reduceSub]
  refine wcl_self [3000000000] [] (by rfl) (by rfl) (by rfl) hP3 rfl (by simp [wOut, outU, uS, srcD, noPtrs, D.noPtr, shWL, AV.shW, posW, shUs, U.shW, St.unit, lu]) ?_
  simp +contextual -implicitDefEqProofs only [uS, srcD, eI, eG, h3b, h4b, go_sem]
  refine wcl_self [3000000000] [] (by rfl) (by rfl) (by rfl) hP4 rfl (by simp [wOut, outU, uS, srcD, noPtrs, D.noPtr, shWL, AV.shW, posW, shUs, U.shW, St.unit, lu]) ?_
  simp +contextual -implicitDefEqProofs only [uS, srcD, eI, D.put, D.cells, D.size, D.sizeL, D.isAg, D.sub, modeOf, noPtrs, go_sem]
 ·have h4b : (x3 == 1) = false := by simp [h4]
  refine ⟨a3, sd3, (1 + x1, 1 + x2), by omega, by omega, by simp [okG, isIn]; omega, ?_⟩
  refine afw_of_res (wv := .no) hr hm rfl rfl rfl fun hb ha => ?_
  simp +contextual -implicitDefEqProofs only [k_l01DrawSig, uS, srcD, D.size, D.sizeL, go_sem]
  refine wcl_self [3000000000] [] (by rfl) (by rfl) (by rfl) hP1 rfl (by simp [wOut, outU, uS, srcD, noPtrs, D.noPtr, shWL, AV.shW, posW, shUs, U.shW, St.unit, lu]) ?_
  simp +contextual -implicitDefEqProofs only [uS, srcD, eI, w1, go_sem]
  refine wcl_self [3000000000] [] (by rfl) (by rfl) (by rfl) hP2 rfl (by simp [wOut, outU, uS, srcD, noPtrs, D.noPtr, shWL, AV.shW, posW, shUs, U.shW, St.unit, lu]) ?_
  simp +contextual -implicitDefEqProofs only [uS, srcD, eI, w2, D.put, D.cells, D.size, D.sizeL, D.isAg, modeOf, noPtrs, go_sem, Nat.reduceSub]
  refine wcl_self [3000000000] [] (by rfl) (by rfl) (by rfl) hP3 rfl (by simp [wOut, outU, uS, srcD, noPtrs, D.noPtr, shWL, AV.shW, posW, shUs, U.shW, St.unit, lu]) ?_
  simp +contextual -implicitDefEqProofs only [uS, srcD, eI, eG, h3b, h4b, D.put, D.size, D.sizeL, D.isAg, D.sub, modeOf, noPtrs, go_sem]

def k_p6Sig (f1 f2 : Nat) : RC := (.seq (.r [.o (.zer 2 2 (.ag [(.sc (.int .i64 0)), (.sc (.int .i64 0))]))]) (.seq (.r [.m 3 0, .c 4 f1 [.t 3], .o (.wcl (some 5) f2 [.t 4]), .s 2 2 5]) .ret))
def K_p6Sig (P : Program) (fno : Nat) : Prop := ∀ (nn : Option Bool) (c : List Int), srcOk c → ∃ g, okG g = true ∧ AF P fno [.ls nn 1 (c.map eU)] (.own (eG g))
theorem a_p6Sig {P : Program} (hm : P.follows .mixedOrders = true) {g f1 f2 : Nat} (hr : resF P g = some (6, k_p6Sig f1 f2, [.c 2 2 true])) (hc1 : K_l00From P f1) (hc2 : K_l01DrawSig P f2) : K_p6Sig P g := by
 intro nn c hc
 obtain ⟨a', sd', g, p1, p2, p3, hP⟩ := hc2 nn c 0 0 hc (by omega) (by omega)
 refine ⟨g, p3, ?_⟩
 refine af_of_res hr hm rfl fun hb => ?_
 simp +contextual -implicitDefEqProofs only [k_p6Sig, eG, D.size, D.sizeL, go_sem, eI]
 refine callQ_self ?_ (hc1 nn c) ?_
 ·exact rfl
 simp +contextual -implicitDefEqProofs only [srcD, D.size, D.sizeL, go_sem]
 refine wcl_self [4] [] (by rfl) (by rfl) (by rfl) hP rfl (by simp [wOut, outU, uS, srcD, noPtrs, D.noPtr, shWL, AV.shW, posW, shUs, U.shW, St.unit, lu]) ?_
 simp +contextual -implicitDefEqProofs only [uS, srcD, eG, D.put, D.size, D.sizeL, D.isAg, D.sub, modeOf, noPtrs, go_sem, eI]
end Go.Ax
