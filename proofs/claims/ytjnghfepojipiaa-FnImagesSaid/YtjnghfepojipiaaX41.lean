/- Contracts of functions of the seat, proved over the engine. No condition. -/
import Derived.Test.YtjnghfepojipiaaX40
import Derived.Test.YtjnghfepojipiaaX8
import Derived.Test.YtjnghfepojipiaaX4
import Derived.Test.YtjnghfepojipiaaX31
set_option linter.unusedSimpArgs false
set_option linter.unusedVariables false
set_option linter.unnecessarySimpa false
namespace Go.Ax
set_option linter.unusedSimpArgs false
set_option maxRecDepth 20000
set_option maxHeartbeats 4000000
def testOf (m : Mo) (v : Int) (x : Nat) : Bool := (m.2.2.1.2.getD v.toNat (none, [])).2.getD x false
def actOf (m : Mo) (v : Int) : SL (SL Bool) := m.2.2.2.2.getD v.toNat (none, [])
def diagR (f : Nat → Bool) : Rel := fun x y => x == y && f x
def noneR : Rel := fun _ _ => false
def relOp (m : Mo) (k v : Int) (rs : List Rel) : Rel :=
 if k = 2 then diagR fun _ => true
 else if k = 3 then diagR (testOf m v)
 else if k = 4 then relOf (actOf m v)
 else if k = 5 then diagR fun x => !(rs.getD 0 noneR x x)
 else if k = 6 then fun x y => rs.getD 0 noneR x y || rs.getD 1 noneR x y
 else if k = 7 then dotR m.2.1.toNat (rs.getD 0 noneR) (rs.getD 1 noneR)
 else if k = 8 then starR m.2.1.toNat (rs.getD 0 noneR)
 else noneR
mutual

def relE (m : Mo) : Ex → Rel
 | .mk k v _ ks => relOp m k v (relEs m ks)
def relEs (m : Mo) : List Ex → List Rel
 | [] => []
 | e :: es => relE m e :: relEs m es
end
theorem relEs_map {m : Mo} : ∀ {ks : List Ex}, relEs m ks = ks.map (relE m)
 | [] => rfl
 | e :: es => by simp only [relEs, List.map_cons, relEs_map (ks := es)]
theorem relE_mk {m : Mo} {k v : Int} {nn : Option Bool} {ks : List Ex} : relE m (.mk k v nn ks) = relOp m k v (ks.map (relE m)) := by rw [relE, relEs_map]

structure MoOk (m : Mo) (n : Nat) : Prop where
 pts : m.2.1 = (n : Int)
 n1 : 1 ≤ n
 n8 : n ≤ 8
 g : okG m.1 = true
 tl : (m.2.2.1.2.length : Int) = m.1.1
 tr : ∀ r ∈ m.2.2.1.2, r.2.length = n
 al : (m.2.2.2.2.length : Int) = m.1.2
 asq : ∀ a ∈ m.2.2.2.2, Sq n a
theorem isIn_iff' {x lo hi : Int} : isIn x lo hi = true ↔ lo ≤ x ∧ x ≤ hi := by simp [isIn]
theorem okMo_ok {m : Mo} (h : okMo m = true) : ∃ n, MoOk m n := by
 have hp := okMo_pts h
 simp only [okMo, testsOk, actsOk, tabOk, Bool.and_eq_true, List.all_eq_true, lenIs, beq_iff_eq] at h
 obtain ⟨⟨hg, _, ht, htr⟩, ha, har⟩ := h
 exact ⟨m.2.1.toNat, by omega, by omega, by omega, hg, ht, fun r hr => by have := htr r hr; omega, ha, fun a hx => ⟨by have := (har a hx).1; omega, fun r hr => by have := (har a hx).2 r hr; omega⟩⟩
theorem nat_lt_of' {x : Int} {n : Nat} (h0 : 0 ≤ x) (h : x.toNat < n) : x < (n : Int) := by omega
theorem getD_mem {α : Type} {l : List α} {i : Nat} {d : α} (h : i < l.length) : l.getD i d ∈ l := by simp [h]

inductive KindOk (m : Mo) (k v : Int) (ks : List Ex) : Prop
 | zero (h : k = 1) (hk : ks = [])
 | one (h : k = 2) (hk : ks = [])
 | test (h : k = 3) (hk : ks = []) (h0 : 0 ≤ v) (h1 : v.toNat < m.2.2.1.2.length)
 | act (h : k = 4) (hk : ks = []) (h0 : 0 ≤ v) (h1 : v.toNat < m.2.2.2.2.length)
 | nt (h : k = 5) (a : Ex) (hk : ks = [a])
 | sum (h : k = 6) (a b : Ex) (hk : ks = [a, b])
 | dot (h : k = 7) (a b : Ex) (hk : ks = [a, b])
 | star (h : k = 8) (a : Ex) (hk : ks = [a])
theorem kind_ok {m : Mo} {n : Nat} (hM : MoOk m n) {k v : Int} {ks : List Ex} (h : formOk m.1 k v ks = true) : KindOk m k v ks := by
 have hg := hM.g
 have tl := hM.tl
 have al := hM.al
 simp only [okG, Bool.and_eq_true, isIn_iff'] at hg
 have hw1 : IntKind.i64.wrap (m.1.1 - 1) = m.1.1 - 1 := wrap_i64 (by omega) (by omega)
 have hw2 : IntKind.i64.wrap (m.1.2 - 1) = m.1.2 - 1 := wrap_i64 (by omega) (by omega)
 simp only [formOk, Bool.and_eq_true, beq_iff_eq, hw1, hw2] at h
 obtain ⟨hk, hv⟩ := h
 unfold kidsN at hk
 have e0 : ∀ {l : List Ex}, (0 : Int) = l.length → l = [] := fun h => List.eq_nil_of_length_eq_zero (by omega)
 have e1 : ∀ {l : List Ex}, (1 : Int) = l.length → ∃ a, l = [a] := fun {l} h => by
  match l, h with
  | [a], _ => exact ⟨a, rfl⟩
  | [], h => simp at h
  | _ :: _ :: _, h => simp at h; omega
 have e2 : ∀ {l : List Ex}, (2 : Int) = l.length → ∃ a b, l = [a, b] := fun {l} h => by
  match l, h with
  | [a, b], _ => exact ⟨a, b, rfl⟩
  | [], h => simp at h
  | [_], h => simp at h
  | _ :: _ :: _ :: _, h => simp at h; omega
 by_cases h1 : k = 1
 ·subst h1; exact .zero rfl (e0 (by simpa using hk))
 by_cases h2 : k = 2
 ·subst h2; exact .one rfl (e0 (by simpa using hk))
 by_cases h3 : k = 3
 ·subst h3
  rw [if_pos rfl, isIn_iff'] at hv
  exact .test rfl (e0 (by simpa using hk)) hv.1 (by omega)
 by_cases h4 : k = 4
 ·subst h4
  rw [if_neg (by omega), if_pos rfl, isIn_iff'] at hv
  exact .act rfl (e0 (by simpa using hk)) hv.1 (by omega)
 by_cases h5 : k = 5
 ·subst h5; obtain ⟨a, hk⟩ := e1 (by simpa using hk); exact .nt rfl a hk
 by_cases h6 : k = 6
 ·subst h6; obtain ⟨a, b, hk⟩ := e2 (by simpa using hk); exact .sum rfl a b hk
 by_cases h7 : k = 7
 ·subst h7; obtain ⟨a, b, hk⟩ := e2 (by simpa using hk); exact .dot rfl a b hk
 by_cases h8 : k = 8
 ·subst h8; obtain ⟨a, hk⟩ := e1 (by simpa using hk); exact .star rfl a hk
 simp [h1, h2, h3, h4, h5, h6, h7, h8] at hk
theorem starR_congr {n : Nat} {A B : Rel} (h : ∀ x y, x < n → y < n → A x y = B x y) : ∀ {k x y : Nat}, k ≤ n → x < n → y < n → warR A k x y = warR B k x y
 | 0, x, y, _, hx, hy => by simp [warR, h x y hx hy]
 | k + 1, x, y, hk, hx, hy => by
  simp only [warR]
  rw [starR_congr h (by omega) hx hy, starR_congr h (by omega) hx (by omega : k < n), starR_congr h (by omega) (by omega : k < n) hy]
def diagF (f : Nat → Bool) (i : Nat) : Rel := fun a b => decide (a < i) && (a == b && f a)
theorem diagF_zero {f : Nat → Bool} : diagF f 0 = noneR := by funext a b; simp [diagF, noneR]
theorem diagF_full {n : Nat} {f : Nat → Bool} : rD n (diagF f n) = rD n (diagR f) := rD_congr fun a b ha _ => by simp [diagF, diagR, ha]
theorem diagF_step {f : Nat → Bool} {i : Nat} : setR (diagF f i) i i (f i) = diagF f (i + 1) := by
 funext a b; unfold setR diagF
 by_cases ha : a = i
 ·subst ha
  by_cases hb : b = a
  ·subst hb; simp
  ·simp [hb, show ¬ a = b from fun e => hb e.symm]
 ·simp [ha, show decide (a < i + 1) = decide (a < i) by rw [decide_eq_decide]; omega]
def rowF (R : Rel) (i : Nat) : Rel := fun a b => decide (a < i) && R a b
theorem rowF_zero {R : Rel} : rowF R 0 = noneR := by funext a b; simp [rowF, noneR]
theorem rowF_full {n : Nat} {R : Rel} : rD n (rowF R n) = rD n R := rD_congr fun a b ha _ => by simp [rowF, ha]
theorem rowF_step {R : Rel} {i : Nat} : setRow (rowF R i) i (R i) = rowF R (i + 1) := by
 funext a b; unfold setRow rowF
 by_cases ha : a = i
 ·subst ha; simp
 ·simp [ha, show decide (a < i + 1) = decide (a < i) by rw [decide_eq_decide]; omega]
def cellF (R : Rel) (i y : Nat) : Rel := fun a b => if a = i ∧ b < y then R a b else rowF R i a b
theorem cellF_zero {R : Rel} {i : Nat} : cellF R i 0 = rowF R i := by funext a b; simp [cellF]
theorem cellF_full {n : Nat} {R : Rel} {i : Nat} : rD n (cellF R i n) = rD n (rowF R (i + 1)) := rD_congr fun a b _ hb => by
 unfold cellF rowF
 by_cases ha : a = i
 ·subst ha; simp [hb]
 ·simp [ha, show decide (a < i + 1) = decide (a < i) by rw [decide_eq_decide]; omega]
theorem cellF_step {R : Rel} {i y : Nat} : setR (cellF R i y) i y (R i y) = cellF R i (y + 1) := by
 funext a b; unfold setR cellF
 by_cases ha : a = i
 ·subst ha
  by_cases hb : b = y
  ·subst hb; simp
  ·by_cases hb2 : b < y
   ·simp [hb, hb2, show b < y + 1 by omega]
   ·simp [hb, hb2, show ¬ b < y + 1 by omega]
 ·simp [ha]
theorem noneR_eq : (fun _ _ => false : Rel) = noneR := rfl
theorem dotR_tab {n : Nat} {A B : Rel} : rD n (dotR n (relOf (rTab n A)) (relOf (rTab n B))) = rD n (dotR n A B) := rD_congr fun _ _ hx hy => dotU_congr (fun _ hk => relOf_tab hx hk) (fun _ hk => relOf_tab hk hy)
theorem starR_tab {n : Nat} {A : Rel} : rD n (starR n (relOf (rTab n A))) = rD n (starR n A) := rD_congr fun _ _ hx hy => starR_congr (A := relOf (rTab n A)) (B := A) (n := n) (fun _ _ hx hy => relOf_tab hx hy) (Nat.le_refl n) hx hy
theorem dot_D {P : Program} {f : Nat} (h : K_l05Dot P f) {n : Nat} {A B : Rel} (hn : n ≤ 1000) : AF P f [.ls (some false) 1 (rD n A), .ls (some false) 1 (rD n B)] (.own (.ls (some false) 1 (rD n (dotR n A B)))) := by
 have := (h n (rTab n A) (rTab n B) hn rTab_sq rTab_sq).arr_own
 rw [rD_eq, rD_eq] at this
 rw [dotR_tab] at this
 exact this
theorem comp_D {P : Program} {f : Nat} (h : K_composed P f) {n : Nat} {A B : Rel} (hn : n ≤ 1000) : AF P f [.ls (some false) 1 (rD n A), .ls (some false) 1 (rD n B)] (.own (.ls (some false) 1 (rD n (dotR n A B)))) := by
 have := h n (rTab n A) (rTab n B) hn rTab_sq rTab_sq
 rw [rD_eq, rD_eq, rD_eq] at this
 rw [dotR_tab] at this
 exact this
theorem star_D {P : Program} {f : Nat} (h : K_l05Star P f) {n : Nat} {A : Rel} (hn : n ≤ 1000) : AF P f [.ls (some false) 1 (rD n A)] (.own (.ls (some false) 1 (rD n (starR n A)))) := by
 have := h n (rTab n A) hn rTab_sq
 rw [rD_eq, rD_eq] at this
 rw [starR_tab] at this
 exact this

def k_l05Rel (g f1 f2 f3 : Nat) : RC := (.seq (.reg false [⟨none, .mv 4 (.c (.ls (some true) 1 []))⟩]) ((.seq (.reg false [⟨none, .mv 14 (.t 0)⟩, ⟨none, .nck 15 (.t 14)⟩, ⟨none, .fa 16 2 (.t 15)⟩, ⟨none, .ld 17 false 1 (.t 16)⟩, ⟨none, .call (some 18) f1 [(.t 17)]⟩, ⟨none, .mv 5 (.t 18)⟩]) ((.seq ((.seq (.reg false [⟨none, .mv 19 (.t 1)⟩, ⟨none, .nck 20 (.t 19)⟩, ⟨none, .fa 21 0 (.t 20)⟩, ⟨none, .ld 22 false 1 (.t 21)⟩]) (.blk 0 ((.seq ((.seq (.reg false [⟨none, .bin 24 .eql (.t 22) (.c (.sc (.int .i64 2)))⟩, ⟨none, .mv 23 (.t 24)⟩]) (.cond (.t 23) (.skip) (.reg false [⟨none, .bin 25 .eql (.t 22) (.c (.sc (.int .i64 3)))⟩, ⟨none, .mv 23 (.t 25)⟩])))) (.cond (.t 23) ((.seq (.reg false [⟨none, .mv 6 (.c (.sc (.int .i64 0)))⟩]) (.blk 1 (.loop ((.seq ((.seq (.reg false [⟨none, .mv 26 (.t 6)⟩, ⟨none, .mv 27 (.t 0)⟩, ⟨none, .nck 28 (.t 27)⟩, ⟨none, .fa 29 2 (.t 28)⟩, ⟨none, .ld 30 false 1 (.t 29)⟩, ⟨none, .bin 31 .lss (.t 26) (.t 30)⟩]) (.cond (.t 31) (.skip) (.exit 1)))) ((.seq (.blk 2 (.reg true [⟨none, .mv 34 (.t 5)⟩, ⟨none, .mv 35 (.t 6)⟩, ⟨none, .ia 36 1 (.t 34) (.t 35)⟩, ⟨none, .ld 37 false 1 (.t 36)⟩, ⟨none, .mv 38 (.t 6)⟩, ⟨none, .mv 39 (.t 1)⟩, ⟨none, .nck 40 (.t 39)⟩, ⟨none, .fa 41 0 (.t 40)⟩, ⟨none, .ld 42 false 1 (.t 41)⟩, ⟨none, .bin 43 .eql (.t 42) (.c (.sc (.int .i64 2)))⟩, ⟨none, .mv 44 (.t 43)⟩, ⟨some (44, false), .mv 45 (.t 0)⟩, ⟨some (44, false), .nck 46 (.t 45)⟩, ⟨some (44, false), .fa 47 3 (.t 46)⟩, ⟨some (44, false), .ld 48 false 1 (.t 47)⟩, ⟨some (44, false), .mv 49 (.t 1)⟩, ⟨some (44, false), .nck 50 (.t 49)⟩, ⟨some (44, false), .fa 51 1 (.t 50)⟩, ⟨some (44, false), .ld 52 false 1 (.t 51)⟩, ⟨some (44, false), .ia 53 1 (.t 48) (.t 52)⟩, ⟨some (44, false), .ld 54 false 1 (.t 53)⟩, ⟨some (44, false), .mv 55 (.t 6)⟩, ⟨some (44, false), .ia 56 1 (.t 54) (.t 55)⟩, ⟨some (44, false), .ld 57 false 1 (.t 56)⟩, ⟨none, .pick 58 (.t 44) (.c (.sc (.bool true))) (.t 57)⟩, ⟨none, .ia 59 1 (.t 37) (.t 38)⟩, ⟨none, .st 1 (.t 59) (.t 58)⟩])) (.reg false [⟨none, .mv 32 (.t 6)⟩, ⟨none, .bin 33 .add (.t 32) (.c (.sc (.int .i64 1)))⟩, ⟨none, .mv 6 (.t 33)⟩]))))))))) ((.seq (.reg false [⟨none, .bin 61 .eql (.t 22) (.c (.sc (.int .i64 4)))⟩, ⟨none, .mv 60 (.t 61)⟩]) (.cond (.t 60) ((.seq (.reg false [⟨none, .mv 7 (.c (.sc (.int .i64 0)))⟩]) (.blk 3 (.loop ((.seq ((.seq (.reg false [⟨none, .mv 62 (.t 7)⟩, ⟨none, .mv 63 (.t 0)⟩, ⟨none, .nck 64 (.t 63)⟩, ⟨none, .fa 65 2 (.t 64)⟩, ⟨none, .ld 66 false 1 (.t 65)⟩, ⟨none, .bin 67 .lss (.t 62) (.t 66)⟩]) (.cond (.t 67) (.skip) (.exit 3)))) ((.seq (.blk 4 (.reg true [⟨none, .mv 70 (.t 5)⟩, ⟨none, .mv 71 (.t 7)⟩, ⟨none, .ia 72 1 (.t 70) (.t 71)⟩, ⟨none, .ld 73 false 1 (.t 72)⟩, ⟨none, .mv 74 (.t 0)⟩, ⟨none, .nck 75 (.t 74)⟩, ⟨none, .fa 76 4 (.t 75)⟩, ⟨none, .ld 77 false 1 (.t 76)⟩, ⟨none, .mv 78 (.t 1)⟩, ⟨none, .nck 79 (.t 78)⟩, ⟨none, .fa 80 1 (.t 79)⟩, ⟨none, .ld 81 false 1 (.t 80)⟩, ⟨none, .ia 82 1 (.t 77) (.t 81)⟩, ⟨none, .ld 83 false 1 (.t 82)⟩, ⟨none, .mv 84 (.t 7)⟩, ⟨none, .ia 85 1 (.t 83) (.t 84)⟩, ⟨none, .ld 86 false 1 (.t 85)⟩, ⟨none, .cpy (some 87) 1 (.t 73) (.t 86)⟩])) (.reg false [⟨none, .mv 68 (.t 7)⟩, ⟨none, .bin 69 .add (.t 68) (.c (.sc (.int .i64 1)))⟩, ⟨none, .mv 7 (.t 69)⟩]))))))))) ((.seq (.reg false [⟨none, .bin 89 .eql (.t 22) (.c (.sc (.int .i64 5)))⟩, ⟨none, .mv 88 (.t 89)⟩]) (.cond (.t 88) ((.seq (.reg false [⟨none, .mv 90 (.t 0)⟩, ⟨none, .mv 91 (.t 1)⟩, ⟨none, .nck 92 (.t 91)⟩, ⟨none, .fa 93 2 (.t 92)⟩, ⟨none, .ld 94 false 1 (.t 93)⟩, ⟨none, .ia 95 3 (.t 94) (.c (.sc (.int .i64 0)))⟩, ⟨none, .call (some 96) g [(.t 90), (.t 95)]⟩, ⟨none, .mv 8 (.t 96)⟩]) ((.seq (.reg false [⟨none, .mv 9 (.c (.sc (.int .i64 0)))⟩]) (.blk 5 (.loop ((.seq ((.seq (.reg false [⟨none, .mv 97 (.t 9)⟩, ⟨none, .mv 98 (.t 0)⟩, ⟨none, .nck 99 (.t 98)⟩, ⟨none, .fa 100 2 (.t 99)⟩, ⟨none, .ld 101 false 1 (.t 100)⟩, ⟨none, .bin 102 .lss (.t 97) (.t 101)⟩]) (.cond (.t 102) (.skip) (.exit 5)))) ((.seq (.blk 6 (.reg true [⟨none, .mv 105 (.t 5)⟩, ⟨none, .mv 106 (.t 9)⟩, ⟨none, .ia 107 1 (.t 105) (.t 106)⟩, ⟨none, .ld 108 false 1 (.t 107)⟩, ⟨none, .mv 109 (.t 9)⟩, ⟨none, .mv 110 (.t 8)⟩, ⟨none, .mv 111 (.t 9)⟩, ⟨none, .ia 112 1 (.t 110) (.t 111)⟩, ⟨none, .ld 113 false 1 (.t 112)⟩, ⟨none, .mv 114 (.t 9)⟩, ⟨none, .ia 115 1 (.t 113) (.t 114)⟩, ⟨none, .ld 116 false 1 (.t 115)⟩, ⟨none, .un 117 .not (.t 116)⟩, ⟨none, .ia 118 1 (.t 108) (.t 109)⟩, ⟨none, .st 1 (.t 118) (.t 117)⟩])) (.reg false [⟨none, .mv 103 (.t 9)⟩, ⟨none, .bin 104 .add (.t 103) (.c (.sc (.int .i64 1)))⟩, ⟨none, .mv 9 (.t 104)⟩]))))))))))) ((.seq (.reg false [⟨none, .bin 120 .eql (.t 22) (.c (.sc (.int .i64 6)))⟩, ⟨none, .mv 119 (.t 120)⟩]) (.cond (.t 119) ((.seq (.reg false [⟨none, .mv 121 (.t 0)⟩, ⟨none, .mv 122 (.t 1)⟩, ⟨none, .nck 123 (.t 122)⟩, ⟨none, .fa 124 2 (.t 123)⟩, ⟨none, .ld 125 false 1 (.t 124)⟩, ⟨none, .ia 126 3 (.t 125) (.c (.sc (.int .i64 0)))⟩, ⟨none, .call (some 127) g [(.t 121), (.t 126)]⟩, ⟨none, .mv 10 (.t 127)⟩]) ((.seq (.reg false [⟨none, .mv 128 (.t 0)⟩, ⟨none, .mv 129 (.t 1)⟩, ⟨none, .nck 130 (.t 129)⟩, ⟨none, .fa 131 2 (.t 130)⟩, ⟨none, .ld 132 false 1 (.t 131)⟩, ⟨none, .ia 133 3 (.t 132) (.c (.sc (.int .i64 1)))⟩, ⟨none, .call (some 134) g [(.t 128), (.t 133)]⟩, ⟨none, .mv 11 (.t 134)⟩]) ((.seq (.reg false [⟨none, .mv 12 (.c (.sc (.int .i64 0)))⟩]) (.blk 7 (.loop ((.seq ((.seq (.reg false [⟨none, .mv 135 (.t 12)⟩, ⟨none, .mv 136 (.t 0)⟩, ⟨none, .nck 137 (.t 136)⟩, ⟨none, .fa 138 2 (.t 137)⟩, ⟨none, .ld 139 false 1 (.t 138)⟩, ⟨none, .bin 140 .lss (.t 135) (.t 139)⟩]) (.cond (.t 140) (.skip) (.exit 7)))) ((.seq (.blk 8 ((.seq (.reg false [⟨none, .mv 13 (.c (.sc (.int .i64 0)))⟩]) (.blk 9 (.loop ((.seq ((.seq (.reg false [⟨none, .mv 143 (.t 13)⟩, ⟨none, .mv 144 (.t 0)⟩, ⟨none, .nck 145 (.t 144)⟩, ⟨none, .fa 146 2 (.t 145)⟩, ⟨none, .ld 147 false 1 (.t 146)⟩, ⟨none, .bin 148 .lss (.t 143) (.t 147)⟩]) (.cond (.t 148) (.skip) (.exit 9)))) ((.seq (.blk 10 (.reg true [⟨none, .mv 151 (.t 5)⟩, ⟨none, .mv 152 (.t 12)⟩, ⟨none, .ia 153 1 (.t 151) (.t 152)⟩, ⟨none, .ld 154 false 1 (.t 153)⟩, ⟨none, .mv 155 (.t 13)⟩, ⟨none, .mv 156 (.t 10)⟩, ⟨none, .mv 157 (.t 12)⟩, ⟨none, .ia 158 1 (.t 156) (.t 157)⟩, ⟨none, .ld 159 false 1 (.t 158)⟩, ⟨none, .mv 160 (.t 13)⟩, ⟨none, .ia 161 1 (.t 159) (.t 160)⟩, ⟨none, .ld 162 false 1 (.t 161)⟩, ⟨none, .mv 163 (.t 162)⟩, ⟨some (163, false), .mv 164 (.t 11)⟩, ⟨some (163, false), .mv 165 (.t 12)⟩, ⟨some (163, false), .ia 166 1 (.t 164) (.t 165)⟩, ⟨some (163, false), .ld 167 false 1 (.t 166)⟩, ⟨some (163, false), .mv 168 (.t 13)⟩, ⟨some (163, false), .ia 169 1 (.t 167) (.t 168)⟩, ⟨some (163, false), .ld 170 false 1 (.t 169)⟩, ⟨none, .pick 171 (.t 163) (.c (.sc (.bool true))) (.t 170)⟩, ⟨none, .ia 172 1 (.t 154) (.t 155)⟩, ⟨none, .st 1 (.t 172) (.t 171)⟩])) (.reg false [⟨none, .mv 149 (.t 13)⟩, ⟨none, .bin 150 .add (.t 149) (.c (.sc (.int .i64 1)))⟩, ⟨none, .mv 13 (.t 150)⟩])))))))))) (.reg false [⟨none, .mv 141 (.t 12)⟩, ⟨none, .bin 142 .add (.t 141) (.c (.sc (.int .i64 1)))⟩, ⟨none, .mv 12 (.t 142)⟩]))))))))))))) ((.seq (.reg false [⟨none, .bin 174 .eql (.t 22) (.c (.sc (.int .i64 7)))⟩, ⟨none, .mv 173 (.t 174)⟩]) (.cond (.t 173) ((.seq (.reg true [⟨none, .mv 175 (.t 0)⟩, ⟨none, .mv 176 (.t 1)⟩, ⟨none, .nck 177 (.t 176)⟩, ⟨none, .fa 178 2 (.t 177)⟩, ⟨none, .ld 179 false 1 (.t 178)⟩, ⟨none, .ia 180 3 (.t 179) (.c (.sc (.int .i64 0)))⟩, ⟨none, .call (some 181) g [(.t 175), (.t 180)]⟩, ⟨none, .mv 182 (.t 0)⟩, ⟨none, .mv 183 (.t 1)⟩, ⟨none, .nck 184 (.t 183)⟩, ⟨none, .fa 185 2 (.t 184)⟩, ⟨none, .ld 186 false 1 (.t 185)⟩, ⟨none, .ia 187 3 (.t 186) (.c (.sc (.int .i64 1)))⟩, ⟨none, .call (some 188) g [(.t 182), (.t 187)]⟩, ⟨none, .call (some 189) f2 [(.t 181), (.t 188)]⟩, ⟨none, .mv 4 (.t 189)⟩]) (.ret))) ((.seq (.reg false [⟨none, .bin 191 .eql (.t 22) (.c (.sc (.int .i64 8)))⟩, ⟨none, .mv 190 (.t 191)⟩]) (.cond (.t 190) ((.seq (.reg false [⟨none, .mv 192 (.t 0)⟩, ⟨none, .mv 193 (.t 1)⟩, ⟨none, .nck 194 (.t 193)⟩, ⟨none, .fa 195 2 (.t 194)⟩, ⟨none, .ld 196 false 1 (.t 195)⟩, ⟨none, .ia 197 3 (.t 196) (.c (.sc (.int .i64 0)))⟩, ⟨none, .call (some 198) g [(.t 192), (.t 197)]⟩, ⟨none, .call (some 199) f3 [(.t 198)]⟩, ⟨none, .mv 4 (.t 199)⟩]) (.ret))) (.skip)))))))))))))))))))))) ((.seq (.reg false [⟨none, .mv 200 (.t 5)⟩, ⟨none, .mv 4 (.t 200)⟩]) (.ret))))))))
def K_l05Rel (P : Program) (fno : Nat) : Prop := ∀ (m : Mo) (n : Nat) (e : Ex) (hM : MoOk m n) (hT : treeE m.1 e = true), AF P fno [.pt (eM m) 0, .pt (eE e) 0] (.own (.ls (some false) 1 (rD n (relE m e))))
theorem a_l05Rel {P : Program} (hm : P.follows .mixedOrders = true) {g f1 f2 f3 : Nat} (hr : resF P g = some (201, k_l05Rel g f1 f2 f3, [.t 4])) (hc1 : K_l05None P f1) (hc2 : K_l05Dot P f2) (hc3 : K_l05Star P f3) : K_l05Rel P g := by
 intro m n e hM hT
 obtain ⟨gs, p, T, A⟩ := m
 obtain rfl : p = n := hM.pts
 refine Ex.ind (p := fun e => treeE gs e = true → AF P g [.pt (eM (gs, (n : Int), T, A)) 0, .pt (eE e) 0] (.own (.ls (some false) 1 (rD n (relE (gs, (n : Int), T, A) e))))) (fun k v nn ks ih hT => ?_) e hT
 rw [treeE_mk, Bool.and_eq_true, List.all_eq_true] at hT
 have n1 := hM.n1
 have n8 := hM.n8
 have hK := kind_ok hM hT.1
 rw [eE_mk, relE_mk]
 refine af_of_res hr hm rfl fun hb => ?_
 simp +contextual -implicitDefEqProofs only [k_l05Rel, eM, eS, eI, D.size, D.sizeL, D.sub, D.isAg, List.map_nil, List.map_cons, go_sem, ↓reduceIte, Nat.reduceEqDiff, Nat.reduceAdd, Nat.reduceLeDiff, Nat.reduceLT]
 refine callQ_self (ds := [eI n]) (by rfl) (hc1 n (by omega)) ?_
 simp +contextual -implicitDefEqProofs only [rD_len, D.at, D.size, D.sizeL, D.sub, Int.le_refl, beq_self_eq_true, D.isAg, List.map_nil, List.map_cons, noneR_eq, go_sem, ↓reduceIte, Nat.reduceEqDiff, Nat.reduceAdd, Nat.reduceLeDiff, Nat.reduceBEq, Nat.reduceLT, List.length_map]
 cases hK with
 | zero hk hks =>
  subst hk hks
  rw [show relOp (gs, (n : Int), T, A) 1 v ([].map (relE (gs, (n : Int), T, A))) = noneR by simp [relOp]]
  simp +contextual -implicitDefEqProofs only [Int.cast_ofNat_Int, Int.reduceLT, Int.reduceBEq, List.map_nil, List.length_nil, go_sem]
 | one hk hks =>
  subst hk hks
  rw [show relOp (gs, (n : Int), T, A) 2 v ([].map (relE (gs, (n : Int), T, A))) = diagR (fun _ => true) by simp [relOp]]
  simp +contextual -implicitDefEqProofs only [Int.cast_ofNat_Int, Int.reduceLT, Int.reduceBEq, beq_self_eq_true, List.map_nil, List.length_nil, go_sem]
  refine vc_onU (α := Nat) [6, 26, 27, 28, 29, 30, 31, 32, 33, 34, 35, 36, 37, 38, 39, 40, 41, 42, 43, 44, 45, 46, 47, 48, 49, 50, 51, 52, 53, 54, 55, 56, 57, 58, 59] (fun i => [(6, .im none (.sc (.int .i64 i)))]) (fun i => [(18, .ar true (some false) 1 (rD n (diagF (fun _ => true) i)))]) (fun i => i ≤ n) (fun i => n - i) 0 (Ent.to [] (by simp only [go_sem]; rfl) rfl (by simp [diagF_zero]) (by rfl) (by simp only [subEnv, go_sem, ↓reduceIte, Nat.reduceEqDiff, keep, memN] <;> simp)) (Nat.zero_le _) ?_
  intro i hi0
  by_cases hi : i < n
  ·have a1 := rD_at (R := diagF (fun _ => true) i) hi
   have a2 := rRow_at (f := diagF (fun _ => true) i i) hi
   have a3 : (fun _ : Nat => true) i = true := rfl
   have hst := diagF_step (f := fun _ => true) (i := i)
   simp +contextual -implicitDefEqProofs only [hi, rD_len, rRow_len, a1, a2, D.size, D.sizeL, D.sub, beq_self_eq_true, D.isAg, D.put, inSet, rD_set, go_sem, ↓reduceIte, Nat.reduceEqDiff, Nat.reduceAdd, Nat.reduceLeDiff, Nat.reduceBEq, Nat.reduceLT, Int.ofNat_lt, Int.natCast_nonneg]
   rw [wrap_i64 (by omega) (by omega), hst]
   exact ⟨i + 1, by omega, by omega, Ent.to [] (by simp only [go_sem]; rfl) rfl (by simp) (by rfl) (by simp only [subEnv, go_sem, ↓reduceIte, Nat.reduceEqDiff] <;> simp)⟩
  ·obtain rfl : i = n := by omega
   simp +contextual -implicitDefEqProofs only [hi, rD_len, D.size, D.sizeL, D.sub, beq_self_eq_true, D.isAg, go_sem, ↓reduceIte, Nat.reduceEqDiff, Nat.reduceAdd, Nat.reduceLeDiff, Nat.reduceBEq, Nat.reduceLT, Int.ofNat_lt]
   rw [diagF_full]
   exact D.Le.refl _
 | test hk hks h0 h1 =>
  subst hk hks
  have h1' := nat_lt_of' h0 h1
  have t1 := at_mapD (f := eS 1 eB) (d := (none, [])) h1
  have t2 := hM.tr _ (getD_mem (d := (none, [])) h1)
  simp only at h1 h1' t1 t2
  rw [show relOp (gs, (n : Int), T, A) 3 v ([].map (relE (gs, (n : Int), T, A))) = diagR (testOf (gs, (n : Int), T, A) v) by simp [relOp]]
  simp +contextual -implicitDefEqProofs only [Int.cast_ofNat_Int, Int.reduceLT, Int.reduceBEq, beq_self_eq_true, List.map_nil, List.length_nil, go_sem]
  refine vc_onU (α := Nat) [6, 26, 27, 28, 29, 30, 31, 32, 33, 34, 35, 36, 37, 38, 39, 40, 41, 42, 43, 44, 45, 46, 47, 48, 49, 50, 51, 52, 53, 54, 55, 56, 57, 58, 59] (fun i => [(6, .im none (.sc (.int .i64 i)))]) (fun i => [(18, .ar true (some false) 1 (rD n (diagF (testOf (gs, (n : Int), T, A) v) i)))]) (fun i => i ≤ n) (fun i => n - i) 0 (Ent.to [] (by simp only [go_sem]; rfl) rfl (by simp [diagF_zero]) (by rfl) (by simp only [subEnv, go_sem, ↓reduceIte, Nat.reduceEqDiff, keep, memN] <;> simp)) (Nat.zero_le _) ?_
  intro i hi0
  by_cases hi : i < n
  ·have a1 := rD_at (R := diagF (testOf (gs, (n : Int), T, A) v) i) hi
   have a2 := rRow_at (f := diagF (testOf (gs, (n : Int), T, A) v) i i) hi
   have hst := diagF_step (f := testOf (gs, (n : Int), T, A) v) (i := i)
   have t3 := at_mapD (f := eB) (d := false) (show i < (T.2.getD v.toNat (none, [])).2.length by omega)
   have t4 : (T.2.getD v.toNat (none, [])).2.getD i false = testOf (gs, (n : Int), T, A) v i := rfl
   have t5 : i < (T.2.getD v.toNat (none, [])).2.length := by omega
   rw [t4] at t3
   simp +contextual -implicitDefEqProofs only [hi, rD_len, rRow_len, a1, a2, eS, D.size, D.sizeL, D.sub, Int.reduceBEq, beq_self_eq_true, D.isAg, t1, t2, t3, h0, h1', D.put, inSet, rD_set, go_sem, eB, ↓reduceIte, Nat.reduceEqDiff, Nat.reduceAdd, Nat.reduceLeDiff, Nat.reduceBEq, Nat.reduceLT, Int.ofNat_lt, List.length_map, Int.natCast_nonneg]
   rw [wrap_i64 (by omega) (by omega), hst]
   exact ⟨i + 1, by omega, by omega, Ent.to [] (by simp only [go_sem]; rfl) rfl (by simp) (by rfl) (by simp only [subEnv, go_sem, ↓reduceIte, Nat.reduceEqDiff] <;> simp)⟩
  ·obtain rfl : i = n := by omega
   simp +contextual -implicitDefEqProofs only [hi, rD_len, D.size, D.sizeL, D.sub, beq_self_eq_true, D.isAg, go_sem, ↓reduceIte, Nat.reduceEqDiff, Nat.reduceAdd, Nat.reduceLeDiff, Nat.reduceBEq, Nat.reduceLT, Int.ofNat_lt]
   rw [diagF_full]
   exact D.Le.refl _
 | act hk hks h0 h1 =>
  subst hk hks
  have h1' := nat_lt_of' h0 h1
  have t1 := at_mapD (f := eS 1 (eS 1 eB)) (d := (none, [])) h1
  have t2 := hM.asq _ (getD_mem (d := (none, [])) h1)
  simp only at h1 h1' t1 t2
  rw [show relOp (gs, (n : Int), T, A) 4 v ([].map (relE (gs, (n : Int), T, A))) = relOf (actOf (gs, (n : Int), T, A) v) by simp [relOp]]
  simp +contextual -implicitDefEqProofs only [Int.cast_ofNat_Int, Int.reduceLT, Int.reduceBEq, beq_self_eq_true, List.map_nil, List.length_nil, go_sem]
  refine vc_onU (α := Nat) [7, 62, 63, 64, 65, 66, 67, 68, 69, 70, 71, 72, 73, 74, 75, 76, 77, 78, 79, 80, 81, 82, 83, 84, 85, 86] (fun i => [(7, .im none (.sc (.int .i64 i)))]) (fun i => [(18, .ar true (some false) 1 (rD n (rowF (relOf (actOf (gs, (n : Int), T, A) v)) i)))]) (fun i => i ≤ n) (fun i => n - i) 0 (Ent.to [] (by simp only [go_sem]; rfl) rfl (by simp [rowF_zero]) (by rfl) (by simp only [subEnv, go_sem, ↓reduceIte, Nat.reduceEqDiff, keep, memN] <;> simp)) (Nat.zero_le _) ?_
  intro i hi0
  by_cases hi : i < n
  ·have a1 := rD_at (R := rowF (relOf (actOf (gs, (n : Int), T, A) v)) i) hi
   have a2 := rRow_at (f := rowF (relOf (actOf (gs, (n : Int), T, A) v)) i i) hi
   have hst := rowF_step (R := relOf (actOf (gs, (n : Int), T, A) v)) (i := i)
   have t3 := t2.at hi
   rw [t2.row_map hi] at t3
   have t4 : relOf (A.2.getD v.toNat (none, [])) i = relOf (actOf (gs, (n : Int), T, A) v) i := rfl
   rw [t4] at t3
   have t5 := t2.len
   simp +contextual -implicitDefEqProofs only [hi, rD_len, rRow_len, a1, eS, D.size, D.sizeL, D.sub, beq_self_eq_true, D.isAg, t1, t3, t5, h0, h1', spl_all rRow_len, D.put, inSet, rD_row, rRow_np, Option.getD_none, Nat.min_self, go_sem, ↓reduceIte, Nat.reduceEqDiff, Nat.reduceAdd, Nat.reduceLeDiff, Nat.reduceBEq, Nat.reduceLT, Int.ofNat_lt, List.length_map, Int.natCast_nonneg]
   rw [wrap_i64 (by omega) (by omega), hst]
   exact ⟨i + 1, by omega, by omega, Ent.to [] (by simp only [go_sem]; rfl) rfl (by simp) (by rfl) (by simp only [subEnv, go_sem, ↓reduceIte, Nat.reduceEqDiff] <;> simp)⟩
  ·obtain rfl : i = n := by omega
   simp +contextual -implicitDefEqProofs only [hi, rD_len, D.size, D.sizeL, D.sub, beq_self_eq_true, D.isAg, go_sem, ↓reduceIte, Nat.reduceEqDiff, Nat.reduceAdd, Nat.reduceLeDiff, Nat.reduceBEq, Nat.reduceLT, Int.ofNat_lt]
   rw [rowF_full]
   exact D.Le.refl _
 | nt hk a hks =>
  subst hk hks
  have ta := hT.2 a (by simp)
  have ia_ := ih a (by simp) ta
  rw [show relOp (gs, (n : Int), T, A) 5 v ([a].map (relE (gs, (n : Int), T, A))) = diagR (fun x => !((relE (gs, (n : Int), T, A) a) x x)) by simp [relOp]]
  simp +contextual -implicitDefEqProofs only [Int.cast_ofNat_Int, Int.reduceLT, Int.reduceBEq, beq_self_eq_true, List.map_nil, List.map_cons, List.length_cons, List.length_nil, go_sem]
  refine callQ_self (ds := [.pt (eM (gs, (n : Int), T, A)) 0, .pt (eE a) 0]) (by rfl) (ia_) ?_
  simp +contextual -implicitDefEqProofs only [go_sem, ↓reduceIte, Nat.reduceBneDiff]
  refine vc_onU (α := Nat) [9, 97, 98, 99, 100, 101, 102, 103, 104, 105, 106, 107, 108, 109, 110, 111, 112, 113, 114, 115, 116, 117, 118] (fun i => [(9, .im none (.sc (.int .i64 i)))]) (fun i => [(18, .ar true (some false) 1 (rD n (diagF (fun x => !((relE (gs, (n : Int), T, A) a) x x)) i))), (96, .own (.ls (some false) 1 (rD n ((relE (gs, (n : Int), T, A) a)))))]) (fun i => i ≤ n) (fun i => n - i) 0 (Ent.to [] (by simp only [go_sem]; rfl) rfl (by simp [diagF_zero]) (by rfl) (by simp only [subEnv, go_sem, ↓reduceIte, Nat.reduceEqDiff, keep, memN] <;> simp)) (Nat.zero_le _) ?_
  intro i hi0
  by_cases hi : i < n
  ·have a1 := rD_at (R := diagF (fun x => !((relE (gs, (n : Int), T, A) a) x x)) i) hi
   have a2 := rRow_at (f := diagF (fun x => !((relE (gs, (n : Int), T, A) a) x x)) i i) hi
   have hst := diagF_step (f := fun x => !((relE (gs, (n : Int), T, A) a) x x)) (i := i)
   have b1 := rD_at (R := (relE (gs, (n : Int), T, A) a)) hi
   have b2 := rRow_at (f := (relE (gs, (n : Int), T, A) a) i) hi
   simp +contextual -implicitDefEqProofs only [hi, rD_len, rRow_len, a1, a2, D.size, D.sizeL, D.sub, beq_self_eq_true, D.isAg, b1, b2, D.put, inSet, rD_set, go_sem, ↓reduceIte, Nat.reduceEqDiff, Nat.reduceAdd, Nat.reduceLeDiff, Nat.reduceBEq, Nat.reduceLT, Int.ofNat_lt, Int.natCast_nonneg]
   rw [wrap_i64 (by omega) (by omega), hst]
   exact ⟨i + 1, by omega, by omega, Ent.to [] (by simp only [go_sem]; rfl) rfl (by simp) (by rfl) (by simp only [subEnv, go_sem, ↓reduceIte, Nat.reduceEqDiff] <;> simp)⟩
  ·obtain rfl : i = n := by omega
   simp +contextual -implicitDefEqProofs only [hi, rD_len, D.size, D.sizeL, D.sub, beq_self_eq_true, D.isAg, go_sem, ↓reduceIte, Nat.reduceEqDiff, Nat.reduceAdd, Nat.reduceLeDiff, Nat.reduceBEq, Nat.reduceLT, Int.ofNat_lt]
   rw [diagF_full]
   exact D.Le.refl _
 | sum hk a b hks =>
  subst hk hks
  have ta := hT.2 a (by simp)
  have ia_ := ih a (by simp) ta
  have tb := hT.2 b (by simp)
  have ib_ := ih b (by simp) tb
  rw [show relOp (gs, (n : Int), T, A) 6 v ([a, b].map (relE (gs, (n : Int), T, A))) = fun x y => (relE (gs, (n : Int), T, A) a) x y || (relE (gs, (n : Int), T, A) b) x y by simp [relOp]]
  simp +contextual -implicitDefEqProofs only [Int.cast_ofNat_Int, Int.reduceLT, Int.reduceBEq, beq_self_eq_true, List.map_nil, List.map_cons, List.length_cons, List.length_nil, go_sem, Nat.reduceAdd]
  refine callQ_self (ds := [.pt (eM (gs, (n : Int), T, A)) 0, .pt (eE a) 0]) (by rfl) (ia_) ?_
  simp +contextual -implicitDefEqProofs only [D.at, D.size, D.sizeL, D.sub, Int.cast_ofNat_Int, Int.reduceLT, Int.reduceLE, Int.reduceToNat, D.isAg, List.map_nil, List.map_cons, List.length_cons, List.length_nil, go_sem, ↓reduceIte, Nat.reduceEqDiff, Nat.reduceAdd, Nat.reduceLeDiff, Nat.reduceBneDiff, Nat.reduceLT]
  refine callQ_self (ds := [.pt (eM (gs, (n : Int), T, A)) 0, .pt (eE b) 0]) (by rfl) (ib_) ?_
  simp +contextual -implicitDefEqProofs only [go_sem, ↓reduceIte, Nat.reduceBneDiff]
  refine vc_onU (α := Nat) [12, 13, 135, 136, 137, 138, 139, 140, 141, 142, 143, 144, 145, 146, 147, 148, 149, 150, 151, 152, 153, 154, 155, 156, 157, 158, 159, 160, 161, 162, 163, 164, 165, 166, 167, 168, 169, 170, 171, 172] (fun i => [(12, .im none (.sc (.int .i64 i)))]) (fun i => [(18, .ar true (some false) 1 (rD n (rowF (fun x y => (relE (gs, (n : Int), T, A) a) x y || (relE (gs, (n : Int), T, A) b) x y) i))), (134, .own (.ls (some false) 1 (rD n ((relE (gs, (n : Int), T, A) b))))), (127, .own (.ls (some false) 1 (rD n ((relE (gs, (n : Int), T, A) a)))))]) (fun i => i ≤ n) (fun i => n - i) 0 (Ent.to [] (by simp only [go_sem]; rfl) rfl (by simp [rowF_zero]) (by rfl) (by simp only [subEnv, go_sem, ↓reduceIte, Nat.reduceEqDiff, keep, memN] <;> simp)) (Nat.zero_le _) ?_
  intro i hi0
  by_cases hi : i < n
  ·simp +contextual -implicitDefEqProofs only [hi, D.size, D.sizeL, D.sub, D.isAg, go_sem, ↓reduceIte, Nat.reduceEqDiff, Nat.reduceAdd, Nat.reduceLeDiff, Nat.reduceLT, Int.ofNat_lt]
   refine vc_onU (α := Nat) [13, 143, 144, 145, 146, 147, 148, 149, 150, 151, 152, 153, 154, 155, 156, 157, 158, 159, 160, 161, 162, 163, 164, 165, 166, 167, 168, 169, 170, 171, 172] (fun y => [(13, .im none (.sc (.int .i64 y)))]) (fun y => [(18, .ar true (some false) 1 (rD n (cellF (fun x y => (relE (gs, (n : Int), T, A) a) x y || (relE (gs, (n : Int), T, A) b) x y) i y))), (134, .own (.ls (some false) 1 (rD n ((relE (gs, (n : Int), T, A) b))))), (127, .own (.ls (some false) 1 (rD n ((relE (gs, (n : Int), T, A) a)))))]) (fun y => y ≤ n) (fun y => n - y) 0 (Ent.to [] (by simp only [go_sem]; rfl) rfl (by simp [cellF_zero]) (by rfl) (by simp only [subEnv, go_sem, ↓reduceIte, Nat.reduceEqDiff, keep, memN] <;> simp)) (Nat.zero_le _) ?_
   intro y hy0
   by_cases hy : y < n
   ·have a1 := rD_at (R := cellF (fun x y => (relE (gs, (n : Int), T, A) a) x y || (relE (gs, (n : Int), T, A) b) x y) i y) hi
    have a2 := rRow_at (f := cellF (fun x y => (relE (gs, (n : Int), T, A) a) x y || (relE (gs, (n : Int), T, A) b) x y) i y i) hy
    have hst := cellF_step (R := fun x y => (relE (gs, (n : Int), T, A) a) x y || (relE (gs, (n : Int), T, A) b) x y) (i := i) (y := y)
    have b1 := rD_at (R := (relE (gs, (n : Int), T, A) a)) hi
    have b2 := rRow_at (f := (relE (gs, (n : Int), T, A) a) i) hy
    have b3 := rD_at (R := (relE (gs, (n : Int), T, A) b)) hi
    have b4 := rRow_at (f := (relE (gs, (n : Int), T, A) b) i) hy
    cases hv : (relE (gs, (n : Int), T, A) a) i y
    all_goals
     rw [hv] at b2
     simp only [hv, Bool.false_or, Bool.true_or] at hst
     simp +contextual -implicitDefEqProofs only [hi, hy, rD_len, rRow_len, a1, a2, D.size, D.sizeL, D.sub, beq_self_eq_true, D.isAg, b1, b2, b3, b4, D.put, inSet, rD_set, go_sem, ↓reduceIte, Nat.reduceEqDiff, Nat.reduceAdd, Nat.reduceLeDiff, Nat.reduceBEq, Nat.reduceLT, Int.ofNat_lt, Int.natCast_nonneg]
     rw [wrap_i64 (by omega) (by omega), hst]
     exact ⟨y + 1, by omega, by omega, Ent.to [] (by simp only [go_sem]; rfl) rfl (by simp) (by rfl) (by simp only [subEnv, go_sem, ↓reduceIte, Nat.reduceEqDiff] <;> simp)⟩
   ·obtain rfl : y = n := by omega
    simp +contextual -implicitDefEqProofs only [hy, D.size, D.sizeL, D.sub, D.isAg, go_sem, ↓reduceIte, Nat.reduceEqDiff, Nat.reduceAdd, Nat.reduceLeDiff, Nat.reduceLT, Int.ofNat_lt]
    rw [wrap_i64 (by omega) (by omega)]
    exact ⟨i + 1, by omega, by omega, Ent.to [] (by simp only [go_sem]; rfl) rfl (by simp [cellF_full]) (by rfl) (by simp only [subEnv, go_sem, ↓reduceIte, Nat.reduceEqDiff] <;> simp)⟩
  ·obtain rfl : i = n := by omega
   simp +contextual -implicitDefEqProofs only [hi, rD_len, D.size, D.sizeL, D.sub, beq_self_eq_true, D.isAg, go_sem, ↓reduceIte, Nat.reduceEqDiff, Nat.reduceAdd, Nat.reduceLeDiff, Nat.reduceBEq, Nat.reduceLT, Int.ofNat_lt]
   rw [rowF_full]
   exact D.Le.refl _
 | dot hk a b hks =>
  subst hk hks
  have ta := hT.2 a (by simp)
  have ia_ := ih a (by simp) ta
  have tb := hT.2 b (by simp)
  have ib_ := ih b (by simp) tb
  rw [show relOp (gs, (n : Int), T, A) 7 v ([a, b].map (relE (gs, (n : Int), T, A))) = dotR n (relE (gs, (n : Int), T, A) a) (relE (gs, (n : Int), T, A) b) by simp [relOp]]
  simp +contextual -implicitDefEqProofs only [Int.cast_ofNat_Int, Int.reduceLT, Int.reduceBEq, beq_self_eq_true, List.map_nil, List.map_cons, List.length_cons, List.length_nil, go_sem, Nat.reduceAdd]
  refine callQ_self (ds := [.pt (eM (gs, (n : Int), T, A)) 0, .pt (eE a) 0]) (by rfl) (ia_) ?_
  simp +contextual -implicitDefEqProofs only [D.at, D.size, D.sizeL, D.sub, Int.cast_ofNat_Int, Int.reduceLT, Int.reduceLE, Int.reduceToNat, D.isAg, List.map_nil, List.map_cons, List.length_cons, List.length_nil, go_sem, ↓reduceIte, Nat.reduceEqDiff, Nat.reduceAdd, Nat.reduceLeDiff, Nat.reduceBneDiff, Nat.reduceLT]
  refine callQ_self (ds := [.pt (eM (gs, (n : Int), T, A)) 0, .pt (eE b) 0]) (by rfl) (ib_) ?_
  simp +contextual -implicitDefEqProofs only [List.map_nil, List.map_cons, go_sem, ↓reduceIte, Nat.reduceEqDiff, Nat.reduceBneDiff]
  refine callQ_self (ds := [.ls (some false) 1 (rD n (relE (gs, (n : Int), T, A) a)), .ls (some false) 1 (rD n (relE (gs, (n : Int), T, A) b))]) (by rfl) (dot_D hc2 (by omega)) ?_
  simp +contextual -implicitDefEqProofs only [beq_self_eq_true, go_sem, ↓reduceIte, Nat.reduceEqDiff, Nat.reduceBEq, Nat.reduceBneDiff]
 | star hk a hks =>
  subst hk hks
  have ta := hT.2 a (by simp)
  have ia_ := ih a (by simp) ta
  rw [show relOp (gs, (n : Int), T, A) 8 v ([a].map (relE (gs, (n : Int), T, A))) = starR n (relE (gs, (n : Int), T, A) a) by simp [relOp]]
  simp +contextual -implicitDefEqProofs only [Int.cast_ofNat_Int, Int.reduceLT, Int.reduceBEq, beq_self_eq_true, List.map_nil, List.map_cons, List.length_cons, List.length_nil, go_sem]
  refine callQ_self (ds := [.pt (eM (gs, (n : Int), T, A)) 0, .pt (eE a) 0]) (by rfl) (ia_) ?_
  simp +contextual -implicitDefEqProofs only [List.map_nil, List.map_cons, go_sem, ↓reduceIte, Nat.reduceBneDiff]
  refine callQ_self (ds := [.ls (some false) 1 (rD n (relE (gs, (n : Int), T, A) a))]) (by rfl) (star_D hc3 (by omega)) ?_
  simp +contextual -implicitDefEqProofs only [beq_self_eq_true, go_sem, ↓reduceIte, Nat.reduceEqDiff, Nat.reduceBEq, Nat.reduceBneDiff]
end Go.Ax
