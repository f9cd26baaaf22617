/- Contracts of functions of the seat, proved over the engine. No condition. -/
import Derived.Test.YthcgldjelbmjgaaX51
import Derived.Test.YthcgldjelbmjgaaX41
import Derived.Test.YthcgldjelbmjgaaX7
set_option linter.unusedSimpArgs false
set_option linter.unusedVariables false
set_option linter.unnecessarySimpa false
namespace Go.Ax
set_option linter.unusedSimpArgs false
set_option maxRecDepth 20000
set_option maxHeartbeats 4000000
def tOfC (c : Co) (v : Int) (x : Nat) : Bool := (c.2.2.1.2.getD v.toNat (none, [])).2.getD x false
def actC (c : Co) (v : Int) : SL (SL Int) := c.2.2.2.2.getD v.toNat (none, [])
def tstC (c : Co) (v : Int) (x : Nat) : Int := if tOfC c v x = true then 0 else -1
def notC (A : Mat) (x : Nat) : Int := if A x x = -1 then 0 else -1
def sumC (A B : Mat) : Mat := fun x y => ch (A x y) (B x y)
def costOp (c : Co) (k v : Int) (rs : List Mat) : Mat :=
  if k = 2 then mdiag fun _ => 0
  else if k = 3 then mdiag (tstC c v)
  else if k = 4 then matOf (actC c v)
  else if k = 5 then mdiag (notC (rs.getD 0 noneM))
  else if k = 6 then sumC (rs.getD 0 noneM) (rs.getD 1 noneM)
  else if k = 7 then dotM c.2.1.toNat (rs.getD 0 noneM) (rs.getD 1 noneM)
  else if k = 8 then starM c.2.1.toNat (rs.getD 0 noneM)
  else noneM
mutual

def costE (c : Co) : Ex → Mat
  | .mk k v _ ks => costOp c k v (costEs c ks)
def costEs (c : Co) : List Ex → List Mat
  | [] => []
  | e :: es => costE c e :: costEs c es
end
theorem costEs_map {c : Co} : ∀ {ks : List Ex}, costEs c ks = ks.map (costE c)
  | [] => rfl
  | e :: es => by simp only [costEs, List.map_cons, costEs_map (ks := es)]
theorem costE_mk {c : Co} {k v : Int} {nn : Option Bool} {ks : List Ex} : costE c (.mk k v nn ks) = costOp c k v (ks.map (costE c)) := by rw [costE, costEs_map]

structure CoK (c : Co) (n : Nat) : Prop where
  pts : c.2.1 = (n : Int)
  n1 : 1 ≤ n
  n8 : n ≤ 8
  g : okG c.1 = true
  tl : (c.2.2.1.2.length : Int) = c.1.1
  tr : ∀ r ∈ c.2.2.1.2, r.2.length = n
  al : (c.2.2.2.2.length : Int) = c.1.2
  asq : ∀ a ∈ c.2.2.2.2, Sm n a
  aok : ∀ a ∈ c.2.2.2.2, okM n (matOf a)
theorem okCo_k {c : Co} (h : okCo c = true) : ∃ n, CoK c n := by
  simp only [okCo, testsOk, cTab, cRow, tabOk, Bool.and_eq_true, List.all_eq_true, lenIs, beq_iff_eq, isIn_iff'] at h
  obtain ⟨⟨hg, hp, ht, htr⟩, ha, har⟩ := h
  have hsq : ∀ a ∈ c.2.2.2.2, Sm c.2.1.toNat a := fun a hx => ⟨by have := (har a hx).1; omega, fun r hr => by have := ((har a hx).2 r hr).1; omega⟩
  refine ⟨c.2.1.toNat, by omega, by omega, by omega, hg, by omega, fun r hr => by have := htr r hr; omega, by omega, hsq, fun a hx x y hx1 hy1 => ?_⟩
  have h1 := (hsq a hx).len
  have h2 := (hsq a hx).rows hx1
  have hr := ((har a hx).2 _ (getD_mem (d := (none, [])) (by rw [h1]; exact hx1))).2
  simp only [allIn, List.all_eq_true, isIn_iff'] at hr
  have := hr _ (getD_mem (d := 0) (by rw [h2]; exact hy1))
  show -1 ≤ (_ : Int) ∧ (_ : Int) ≤ 1000000
  unfold matOf
  omega

def surM (c : Co) (n : Nat) : Mo := (c.1, c.2.1, c.2.2.1, (none, c.2.2.2.2.map fun _ => rTab n noneR))
theorem CoK.sur {c : Co} {n : Nat} (h : CoK c n) : MoOk (surM c n) n := ⟨h.pts, h.n1, h.n8, h.g, h.tl, h.tr, by simpa [surM] using h.al, fun a ha => by
  obtain ⟨_, _, rfl⟩ := List.mem_map.1 ha
  exact rTab_sq⟩
theorem mdiag_ok {n : Nat} {f : Nat → Int} (h : ∀ x, okC (f x)) : okM n (mdiag f) := fun x y _ _ => by
  unfold mdiag; split
  · exact h x
  · exact okC_far
theorem costOp_ok {c : Co} {n : Nat} (hC : CoK c n) {k v : Int} {ks : List Ex} (hK : KindOk (surM c n) k v ks) {rs : List Mat} (hl : rs.length = ks.length) (h : ∀ r ∈ rs, okM n r) : okM n (costOp c k v rs) := by
  have hn : c.2.1.toNat = n := by rw [hC.pts]; rfl
  have h0 : 0 < ks.length → okM n (rs.getD 0 noneM) := fun hk => h _ (getD_mem (by omega))
  have h1 : 1 < ks.length → okM n (rs.getD 1 noneM) := fun hk => h _ (getD_mem (by omega))
  unfold costOp
  rw [hn]
  cases hK with
  | zero hk => subst hk; simp; exact fun _ _ _ _ => okC_far
  | one hk => subst hk; simp; exact mdiag_ok fun _ => okC_zero
  | test hk => subst hk; simp; exact mdiag_ok fun x => by unfold tstC; split; exact okC_zero; exact okC_far
  | act hk hks h0 h1 => subst hk; simp; exact hC.aok _ (getD_mem (by simpa [surM] using h1))
  | nt hk => subst hk; simp; exact mdiag_ok fun x => by unfold notC; split; exact okC_zero; exact okC_far
  | sum hk a b hks => subst hk hks; simp; exact fun x y hx hy => ch_ok (by simpa using h0 (by simp) x y hx hy) (by simpa using h1 (by simp) x y hx hy)
  | dot hk a b hks => subst hk hks; simp; exact dotM_ok (by simpa using h0 (by simp)) (by simpa using h1 (by simp))
  | star hk a hks => subst hk hks; simp; exact warM_ok (by simpa using h0 (by simp)) (Nat.le_refl n)
theorem costE_ok {c : Co} {n : Nat} (hC : CoK c n) (e : Ex) : treeE c.1 e = true → okM n (costE c e) := by
  refine Ex.ind (p := fun e => treeE c.1 e = true → okM n (costE c e)) (fun k v nn ks ih hT => ?_) e
  rw [treeE_mk, Bool.and_eq_true, List.all_eq_true] at hT
  rw [costE_mk]
  refine costOp_ok hC (kind_ok hC.sur hT.1) (by simp) fun r hr => ?_
  obtain ⟨x, hx, rfl⟩ := List.mem_map.1 hr
  exact ih x hx (hT.2 x hx)
theorem cdot_D {P : Program} {f : Nat} (h : K_l05CostDot P f) {n : Nat} {A B : Mat} (hn : n ≤ 1000) (oA : okM n A) (oB : okM n B) : AF P f [.ls (some false) 1 (mD n A), .ls (some false) 1 (mD n B)] (.own (.ls (some false) 1 (mD n (dotM n A B)))) := by
  have := (h n (mTab n A) (mTab n B) hn mTab_sq mTab_sq (okM_tab oA) (okM_tab oB)).arr_own
  rw [mD_eq, mD_eq] at this
  rw [dotM_tab] at this
  exact this
theorem cstar_D {P : Program} {f : Nat} (h : K_l05CostStar P f) {n : Nat} {A : Mat} (hn : n ≤ 1000) (oA : okM n A) : AF P f [.ls (some false) 1 (mD n A)] (.own (.ls (some false) 1 (mD n (starM n A)))) := by
  have := h n (mTab n A) hn mTab_sq (okM_tab oA)
  rw [mD_eq, mD_eq] at this
  rw [starM_tab] at this
  exact this

def k_l05Cost (g f1 f2 f3 f4 : Nat) : RC := (.seq (.reg false [⟨none, .mv 4 (.c (.ls (some true) 1 []))⟩]) ((.seq (.reg false [⟨none, .mv 14 (.t 0)⟩, ⟨none, .nck 15 (.t 14)⟩, ⟨none, .fa 16 2 (.t 15)⟩, ⟨none, .ld 17 false 1 (.t 16)⟩, ⟨none, .call (some 18) f1 [(.t 17)]⟩, ⟨none, .mv 5 (.t 18)⟩]) ((.seq ((.seq (.reg false [⟨none, .mv 19 (.t 1)⟩, ⟨none, .nck 20 (.t 19)⟩, ⟨none, .fa 21 0 (.t 20)⟩, ⟨none, .ld 22 false 1 (.t 21)⟩]) (.blk 0 ((.seq ((.seq (.reg false [⟨none, .bin 24 .eql (.t 22) (.c (.sc (.int .i64 2)))⟩, ⟨none, .mv 23 (.t 24)⟩]) (.cond (.t 23) (.skip) (.reg false [⟨none, .bin 25 .eql (.t 22) (.c (.sc (.int .i64 3)))⟩, ⟨none, .mv 23 (.t 25)⟩])))) (.cond (.t 23) ((.seq (.reg false [⟨none, .mv 6 (.c (.sc (.int .i64 0)))⟩]) (.blk 1 (.loop ((.seq ((.seq (.reg false [⟨none, .mv 26 (.t 6)⟩, ⟨none, .mv 27 (.t 0)⟩, ⟨none, .nck 28 (.t 27)⟩, ⟨none, .fa 29 2 (.t 28)⟩, ⟨none, .ld 30 false 1 (.t 29)⟩, ⟨none, .bin 31 .lss (.t 26) (.t 30)⟩]) (.cond (.t 31) (.skip) (.exit 1)))) ((.seq (.blk 2 ((.seq (.reg true [⟨none, .mv 34 (.t 1)⟩, ⟨none, .nck 35 (.t 34)⟩, ⟨none, .fa 36 0 (.t 35)⟩, ⟨none, .ld 37 false 1 (.t 36)⟩, ⟨none, .bin 38 .eql (.t 37) (.c (.sc (.int .i64 2)))⟩, ⟨none, .mv 39 (.t 38)⟩, ⟨some (39, false), .mv 40 (.t 0)⟩, ⟨some (39, false), .nck 41 (.t 40)⟩, ⟨some (39, false), .fa 42 3 (.t 41)⟩, ⟨some (39, false), .ld 43 false 1 (.t 42)⟩, ⟨some (39, false), .mv 44 (.t 1)⟩, ⟨some (39, false), .nck 45 (.t 44)⟩, ⟨some (39, false), .fa 46 1 (.t 45)⟩, ⟨some (39, false), .ld 47 false 1 (.t 46)⟩, ⟨some (39, false), .ia 48 1 (.t 43) (.t 47)⟩, ⟨some (39, false), .ld 49 false 1 (.t 48)⟩, ⟨some (39, false), .mv 50 (.t 6)⟩, ⟨some (39, false), .ia 51 1 (.t 49) (.t 50)⟩, ⟨some (39, false), .ld 52 false 1 (.t 51)⟩, ⟨none, .pick 53 (.t 39) (.c (.sc (.bool true))) (.t 52)⟩]) (.cond (.t 53) (.reg false [⟨none, .mv 54 (.t 5)⟩, ⟨none, .mv 55 (.t 6)⟩, ⟨none, .ia 56 1 (.t 54) (.t 55)⟩, ⟨none, .ld 57 false 1 (.t 56)⟩, ⟨none, .mv 58 (.t 6)⟩, ⟨none, .ia 59 1 (.t 57) (.t 58)⟩, ⟨none, .st 1 (.t 59) (.c (.sc (.int .i64 0)))⟩]) (.skip))))) (.reg false [⟨none, .mv 32 (.t 6)⟩, ⟨none, .bin 33 .add (.t 32) (.c (.sc (.int .i64 1)))⟩, ⟨none, .mv 6 (.t 33)⟩]))))))))) ((.seq (.reg false [⟨none, .bin 61 .eql (.t 22) (.c (.sc (.int .i64 4)))⟩, ⟨none, .mv 60 (.t 61)⟩]) (.cond (.t 60) ((.seq (.reg false [⟨none, .mv 7 (.c (.sc (.int .i64 0)))⟩]) (.blk 3 (.loop ((.seq ((.seq (.reg false [⟨none, .mv 62 (.t 7)⟩, ⟨none, .mv 63 (.t 0)⟩, ⟨none, .nck 64 (.t 63)⟩, ⟨none, .fa 65 2 (.t 64)⟩, ⟨none, .ld 66 false 1 (.t 65)⟩, ⟨none, .bin 67 .lss (.t 62) (.t 66)⟩]) (.cond (.t 67) (.skip) (.exit 3)))) ((.seq (.blk 4 (.reg true [⟨none, .mv 70 (.t 5)⟩, ⟨none, .mv 71 (.t 7)⟩, ⟨none, .ia 72 1 (.t 70) (.t 71)⟩, ⟨none, .ld 73 false 1 (.t 72)⟩, ⟨none, .mv 74 (.t 0)⟩, ⟨none, .nck 75 (.t 74)⟩, ⟨none, .fa 76 4 (.t 75)⟩, ⟨none, .ld 77 false 1 (.t 76)⟩, ⟨none, .mv 78 (.t 1)⟩, ⟨none, .nck 79 (.t 78)⟩, ⟨none, .fa 80 1 (.t 79)⟩, ⟨none, .ld 81 false 1 (.t 80)⟩, ⟨none, .ia 82 1 (.t 77) (.t 81)⟩, ⟨none, .ld 83 false 1 (.t 82)⟩, ⟨none, .mv 84 (.t 7)⟩, ⟨none, .ia 85 1 (.t 83) (.t 84)⟩, ⟨none, .ld 86 false 1 (.t 85)⟩, ⟨none, .cpy (some 87) 1 (.t 73) (.t 86)⟩])) (.reg false [⟨none, .mv 68 (.t 7)⟩, ⟨none, .bin 69 .add (.t 68) (.c (.sc (.int .i64 1)))⟩, ⟨none, .mv 7 (.t 69)⟩]))))))))) ((.seq (.reg false [⟨none, .bin 89 .eql (.t 22) (.c (.sc (.int .i64 5)))⟩, ⟨none, .mv 88 (.t 89)⟩]) (.cond (.t 88) ((.seq (.reg false [⟨none, .mv 90 (.t 0)⟩, ⟨none, .mv 91 (.t 1)⟩, ⟨none, .nck 92 (.t 91)⟩, ⟨none, .fa 93 2 (.t 92)⟩, ⟨none, .ld 94 false 1 (.t 93)⟩, ⟨none, .ia 95 3 (.t 94) (.c (.sc (.int .i64 0)))⟩, ⟨none, .call (some 96) g [(.t 90), (.t 95)]⟩, ⟨none, .mv 8 (.t 96)⟩]) ((.seq (.reg false [⟨none, .mv 9 (.c (.sc (.int .i64 0)))⟩]) (.blk 5 (.loop ((.seq ((.seq (.reg false [⟨none, .mv 97 (.t 9)⟩, ⟨none, .mv 98 (.t 0)⟩, ⟨none, .nck 99 (.t 98)⟩, ⟨none, .fa 100 2 (.t 99)⟩, ⟨none, .ld 101 false 1 (.t 100)⟩, ⟨none, .bin 102 .lss (.t 97) (.t 101)⟩]) (.cond (.t 102) (.skip) (.exit 5)))) ((.seq (.blk 6 ((.seq (.reg false [⟨none, .mv 105 (.t 8)⟩, ⟨none, .mv 106 (.t 9)⟩, ⟨none, .ia 107 1 (.t 105) (.t 106)⟩, ⟨none, .ld 108 false 1 (.t 107)⟩, ⟨none, .mv 109 (.t 9)⟩, ⟨none, .ia 110 1 (.t 108) (.t 109)⟩, ⟨none, .ld 111 false 1 (.t 110)⟩, ⟨none, .bin 112 .eql (.t 111) (.c (.sc (.int .i64 (-1))))⟩]) (.cond (.t 112) (.reg false [⟨none, .mv 113 (.t 5)⟩, ⟨none, .mv 114 (.t 9)⟩, ⟨none, .ia 115 1 (.t 113) (.t 114)⟩, ⟨none, .ld 116 false 1 (.t 115)⟩, ⟨none, .mv 117 (.t 9)⟩, ⟨none, .ia 118 1 (.t 116) (.t 117)⟩, ⟨none, .st 1 (.t 118) (.c (.sc (.int .i64 0)))⟩]) (.skip))))) (.reg false [⟨none, .mv 103 (.t 9)⟩, ⟨none, .bin 104 .add (.t 103) (.c (.sc (.int .i64 1)))⟩, ⟨none, .mv 9 (.t 104)⟩]))))))))))) ((.seq (.reg false [⟨none, .bin 120 .eql (.t 22) (.c (.sc (.int .i64 6)))⟩, ⟨none, .mv 119 (.t 120)⟩]) (.cond (.t 119) ((.seq (.reg false [⟨none, .mv 121 (.t 0)⟩, ⟨none, .mv 122 (.t 1)⟩, ⟨none, .nck 123 (.t 122)⟩, ⟨none, .fa 124 2 (.t 123)⟩, ⟨none, .ld 125 false 1 (.t 124)⟩, ⟨none, .ia 126 3 (.t 125) (.c (.sc (.int .i64 0)))⟩, ⟨none, .call (some 127) g [(.t 121), (.t 126)]⟩, ⟨none, .mv 10 (.t 127)⟩]) ((.seq (.reg false [⟨none, .mv 128 (.t 0)⟩, ⟨none, .mv 129 (.t 1)⟩, ⟨none, .nck 130 (.t 129)⟩, ⟨none, .fa 131 2 (.t 130)⟩, ⟨none, .ld 132 false 1 (.t 131)⟩, ⟨none, .ia 133 3 (.t 132) (.c (.sc (.int .i64 1)))⟩, ⟨none, .call (some 134) g [(.t 128), (.t 133)]⟩, ⟨none, .mv 11 (.t 134)⟩]) ((.seq (.reg false [⟨none, .mv 12 (.c (.sc (.int .i64 0)))⟩]) (.blk 7 (.loop ((.seq ((.seq (.reg false [⟨none, .mv 135 (.t 12)⟩, ⟨none, .mv 136 (.t 0)⟩, ⟨none, .nck 137 (.t 136)⟩, ⟨none, .fa 138 2 (.t 137)⟩, ⟨none, .ld 139 false 1 (.t 138)⟩, ⟨none, .bin 140 .lss (.t 135) (.t 139)⟩]) (.cond (.t 140) (.skip) (.exit 7)))) ((.seq (.blk 8 ((.seq (.reg false [⟨none, .mv 13 (.c (.sc (.int .i64 0)))⟩]) (.blk 9 (.loop ((.seq ((.seq (.reg false [⟨none, .mv 143 (.t 13)⟩, ⟨none, .mv 144 (.t 0)⟩, ⟨none, .nck 145 (.t 144)⟩, ⟨none, .fa 146 2 (.t 145)⟩, ⟨none, .ld 147 false 1 (.t 146)⟩, ⟨none, .bin 148 .lss (.t 143) (.t 147)⟩]) (.cond (.t 148) (.skip) (.exit 9)))) ((.seq (.blk 10 (.reg true [⟨none, .mv 151 (.t 5)⟩, ⟨none, .mv 152 (.t 12)⟩, ⟨none, .ia 153 1 (.t 151) (.t 152)⟩, ⟨none, .ld 154 false 1 (.t 153)⟩, ⟨none, .mv 155 (.t 13)⟩, ⟨none, .mv 156 (.t 10)⟩, ⟨none, .mv 157 (.t 12)⟩, ⟨none, .ia 158 1 (.t 156) (.t 157)⟩, ⟨none, .ld 159 false 1 (.t 158)⟩, ⟨none, .mv 160 (.t 13)⟩, ⟨none, .ia 161 1 (.t 159) (.t 160)⟩, ⟨none, .ld 162 false 1 (.t 161)⟩, ⟨none, .mv 163 (.t 11)⟩, ⟨none, .mv 164 (.t 12)⟩, ⟨none, .ia 165 1 (.t 163) (.t 164)⟩, ⟨none, .ld 166 false 1 (.t 165)⟩, ⟨none, .mv 167 (.t 13)⟩, ⟨none, .ia 168 1 (.t 166) (.t 167)⟩, ⟨none, .ld 169 false 1 (.t 168)⟩, ⟨none, .call (some 170) f2 [(.t 162), (.t 169)]⟩, ⟨none, .ia 171 1 (.t 154) (.t 155)⟩, ⟨none, .st 1 (.t 171) (.t 170)⟩])) (.reg false [⟨none, .mv 149 (.t 13)⟩, ⟨none, .bin 150 .add (.t 149) (.c (.sc (.int .i64 1)))⟩, ⟨none, .mv 13 (.t 150)⟩])))))))))) (.reg false [⟨none, .mv 141 (.t 12)⟩, ⟨none, .bin 142 .add (.t 141) (.c (.sc (.int .i64 1)))⟩, ⟨none, .mv 12 (.t 142)⟩]))))))))))))) ((.seq (.reg false [⟨none, .bin 173 .eql (.t 22) (.c (.sc (.int .i64 7)))⟩, ⟨none, .mv 172 (.t 173)⟩]) (.cond (.t 172) ((.seq (.reg true [⟨none, .mv 174 (.t 0)⟩, ⟨none, .mv 175 (.t 1)⟩, ⟨none, .nck 176 (.t 175)⟩, ⟨none, .fa 177 2 (.t 176)⟩, ⟨none, .ld 178 false 1 (.t 177)⟩, ⟨none, .ia 179 3 (.t 178) (.c (.sc (.int .i64 0)))⟩, ⟨none, .call (some 180) g [(.t 174), (.t 179)]⟩, ⟨none, .mv 181 (.t 0)⟩, ⟨none, .mv 182 (.t 1)⟩, ⟨none, .nck 183 (.t 182)⟩, ⟨none, .fa 184 2 (.t 183)⟩, ⟨none, .ld 185 false 1 (.t 184)⟩, ⟨none, .ia 186 3 (.t 185) (.c (.sc (.int .i64 1)))⟩, ⟨none, .call (some 187) g [(.t 181), (.t 186)]⟩, ⟨none, .call (some 188) f3 [(.t 180), (.t 187)]⟩, ⟨none, .mv 4 (.t 188)⟩]) (.ret))) ((.seq (.reg false [⟨none, .bin 190 .eql (.t 22) (.c (.sc (.int .i64 8)))⟩, ⟨none, .mv 189 (.t 190)⟩]) (.cond (.t 189) ((.seq (.reg false [⟨none, .mv 191 (.t 0)⟩, ⟨none, .mv 192 (.t 1)⟩, ⟨none, .nck 193 (.t 192)⟩, ⟨none, .fa 194 2 (.t 193)⟩, ⟨none, .ld 195 false 1 (.t 194)⟩, ⟨none, .ia 196 3 (.t 195) (.c (.sc (.int .i64 0)))⟩, ⟨none, .call (some 197) g [(.t 191), (.t 196)]⟩, ⟨none, .call (some 198) f4 [(.t 197)]⟩, ⟨none, .mv 4 (.t 198)⟩]) (.ret))) (.skip)))))))))))))))))))))) ((.seq (.reg false [⟨none, .mv 199 (.t 5)⟩, ⟨none, .mv 4 (.t 199)⟩]) (.ret))))))))
def K_l05Cost (P : Program) (fno : Nat) : Prop := ∀ (m : Co) (n : Nat) (e : Ex) (hC : CoK m n) (hT : treeE m.1 e = true), AF P fno [.pt (eCo m) 0, .pt (eE e) 0] (.own (.ls (some false) 1 (mD n (costE m e))))
theorem a_l05Cost {P : Program} (hm : P.follows .mixedOrders = true) {g f1 f2 f3 f4 : Nat} (hr : resF P g = some (200, k_l05Cost g f1 f2 f3 f4, [.t 4])) (hc1 : K_l05FarAll P f1) (hc2 : K_l05Cheaper P f2) (hc3 : K_l05CostDot P f3) (hc4 : K_l05CostStar P f4) : K_l05Cost P g := by
  intro m n e hC hT
  obtain ⟨gs, p, T, A⟩ := m
  obtain rfl : p = n := hC.pts
  refine Ex.ind (p := fun e => treeE gs e = true → AF P g [.pt (eCo (gs, (n : Int), T, A)) 0, .pt (eE e) 0] (.own (.ls (some false) 1 (mD n (costE (gs, (n : Int), T, A) e))))) (fun k v nn ks ih hT => ?_) e hT
  rw [treeE_mk, Bool.and_eq_true, List.all_eq_true] at hT
  have n1 := hC.n1
  have n8 := hC.n8
  have hK := kind_ok hC.sur hT.1
  rw [eE_mk, costE_mk]
  refine af_of_res hr hm rfl fun hb => ?_
  simp +contextual -implicitDefEqProofs only [k_l05Cost, D.at, eE_mk, eCo, eS, eI, D.size, D.sizeL, D.sub, Int.cast_ofNat_Int, Int.reduceLT, Int.reduceLE, Int.le_refl, Int.reduceBEq, Int.reduceEq, beq_self_eq_true, Int.reduceToNat, D.isAg, List.map_nil, List.map_cons, List.length_cons, List.length_nil, noneM_eq, go_sem, eB, ↓reduceIte, Nat.reduceEqDiff, Nat.reduceAdd, Nat.reduceLeDiff, Nat.reduceMul, Nat.reduceBEq, Nat.reduceBneDiff, Nat.reduceLT, Nat.reduceSub, decide_true, decide_false, and_self, true_and, and_true, false_and, and_false, not_true_eq_false, not_false_eq_true, false_implies, true_implies, implies_true, ge_iff_le, Bool.false_eq_true, List.cons_append, List.nil_append, Int.ofNat_lt, List.length_map, Int.natCast_nonneg]
  refine callQ_self (ds := [eI n]) (by rfl) (hc1 n (by omega)) ?_
  simp +contextual -implicitDefEqProofs only [mD_len, D.at, eE_mk, eCo, eS, eI, D.size, D.sizeL, D.sub, Int.cast_ofNat_Int, Int.reduceLT, Int.reduceLE, Int.le_refl, Int.reduceBEq, Int.reduceEq, beq_self_eq_true, Int.reduceToNat, D.isAg, List.map_nil, List.map_cons, List.length_cons, List.length_nil, noneM_eq, go_sem, eB, ↓reduceIte, Nat.reduceEqDiff, Nat.reduceAdd, Nat.reduceLeDiff, Nat.reduceMul, Nat.reduceBEq, Nat.reduceBneDiff, Nat.reduceLT, Nat.reduceSub, decide_true, decide_false, and_self, true_and, and_true, false_and, and_false, not_true_eq_false, not_false_eq_true, false_implies, true_implies, implies_true, ge_iff_le, Bool.false_eq_true, List.cons_append, List.nil_append, Int.ofNat_lt, List.length_map, Int.natCast_nonneg]
  cases hK with
  | zero hk hks =>
    subst hk hks
    rw [show costOp (gs, (n : Int), T, A) 1 v ([].map (costE (gs, (n : Int), T, A))) = noneM by simp [costOp]]
    simp +contextual -implicitDefEqProofs only [D.at, eE_mk, eCo, eS, eI, D.size, D.sizeL, D.sub, Int.cast_ofNat_Int, Int.reduceLT, Int.reduceLE, Int.le_refl, Int.reduceBEq, Int.reduceEq, beq_self_eq_true, Int.reduceToNat, D.isAg, List.map_nil, List.map_cons, List.length_cons, List.length_nil, noneM_eq, go_sem, eB, ↓reduceIte, Nat.reduceEqDiff, Nat.reduceAdd, Nat.reduceLeDiff, Nat.reduceMul, Nat.reduceBEq, Nat.reduceBneDiff, Nat.reduceLT, Nat.reduceSub, decide_true, decide_false, and_self, true_and, and_true, false_and, and_false, not_true_eq_false, not_false_eq_true, false_implies, true_implies, implies_true, ge_iff_le, Bool.false_eq_true, List.cons_append, List.nil_append, Int.ofNat_lt, List.length_map, Int.natCast_nonneg]
  | one hk hks =>
    subst hk hks
    rw [show costOp (gs, (n : Int), T, A) 2 v ([].map (costE (gs, (n : Int), T, A))) = mdiag (fun _ : Nat => (0 : Int)) by simp [costOp]]
    simp +contextual -implicitDefEqProofs only [D.at, eE_mk, eCo, eS, eI, D.size, D.sizeL, D.sub, Int.cast_ofNat_Int, Int.reduceLT, Int.reduceLE, Int.le_refl, Int.reduceBEq, Int.reduceEq, beq_self_eq_true, Int.reduceToNat, D.isAg, List.map_nil, List.map_cons, List.length_cons, List.length_nil, noneM_eq, go_sem, eB, ↓reduceIte, Nat.reduceEqDiff, Nat.reduceAdd, Nat.reduceLeDiff, Nat.reduceMul, Nat.reduceBEq, Nat.reduceBneDiff, Nat.reduceLT, Nat.reduceSub, decide_true, decide_false, and_self, true_and, and_true, false_and, and_false, not_true_eq_false, not_false_eq_true, false_implies, true_implies, implies_true, ge_iff_le, Bool.false_eq_true, List.cons_append, List.nil_append, Int.ofNat_lt, List.length_map, Int.natCast_nonneg]
    refine vc_onU (α := Nat) [6, 26, 27, 28, 29, 30, 31, 32, 33, 34, 35, 36, 37, 38, 39, 40, 41, 42, 43, 44, 45, 46, 47, 48, 49, 50, 51, 52, 53, 54, 55, 56, 57, 58, 59] (fun i => [(6, .im none (.sc (.int .i64 i)))]) (fun i => [(18, .ar true (some false) 1 (mD n (mdiagF (fun _ : Nat => (0 : Int)) i)))]) (fun i => i ≤ n) (fun i => n - i) 0 (Ent.to [] (by simp only [go_sem, ↓reduceIte, Nat.reduceEqDiff, Nat.reduceBEq, Nat.reduceBneDiff, Bool.false_eq_true]; rfl) rfl (by simp [mdiagF_zero]) (by rfl) (by simp only [subEnv, go_sem, ↓reduceIte, Nat.reduceEqDiff, Nat.reduceBEq, keep, memN, Bool.or_false, Bool.false_or, Bool.or_self, Bool.false_eq_true] <;> simp)) (Nat.zero_le _) ?_
    intro i hi0
    by_cases hi : i < n
    · have a1 := mD_at (R := mdiagF (fun _ : Nat => (0 : Int)) i) hi
      have a2 := mRow_at (f := mdiagF (fun _ : Nat => (0 : Int)) i i) hi
      have hst := mdiagF_step (f := (fun _ : Nat => (0 : Int))) (i := i)
      simp +contextual -implicitDefEqProofs only [hi, mD_len, mRow_len, a1, a2, eE_mk, eCo, eS, eI, D.size, D.sizeL, D.sub, Int.cast_ofNat_Int, Int.reduceLT, Int.reduceLE, Int.le_refl, Int.reduceBEq, Int.reduceEq, beq_self_eq_true, Int.reduceToNat, D.isAg, List.map_nil, List.map_cons, List.length_cons, List.length_nil, noneM_eq, Bool.false_eq_true, D.put, inSet, mD_set, mD_row, mRow_np, Option.getD_none, Nat.min_self, List.length_set, go_sem, eB, ↓reduceIte, Nat.reduceEqDiff, Nat.reduceAdd, Nat.reduceLeDiff, Nat.reduceMul, Nat.reduceBEq, Nat.reduceBneDiff, Nat.reduceLT, Nat.reduceSub, decide_true, decide_false, and_self, true_and, and_true, false_and, and_false, not_true_eq_false, not_false_eq_true, false_implies, true_implies, implies_true, ge_iff_le, List.cons_append, List.nil_append, Int.ofNat_lt, List.length_map, Int.natCast_nonneg]
      rw [wrap_i64 (by omega) (by omega), hst]
      exact ⟨i + 1, by omega, by omega, Ent.to [] (by simp only [go_sem, ↓reduceIte, Nat.reduceEqDiff, Nat.reduceBEq, Nat.reduceBneDiff, Bool.false_eq_true]; rfl) rfl (by simp) (by rfl) (by simp only [subEnv, go_sem, ↓reduceIte, Nat.reduceEqDiff, Nat.reduceBEq, keep, memN, Bool.or_false, Bool.false_or, Bool.or_self, Bool.false_eq_true] <;> simp)⟩
    · obtain rfl : i = n := by omega
      simp +contextual -implicitDefEqProofs only [hi, mD_len, eE_mk, eCo, eS, eI, D.size, D.sizeL, D.sub, Int.cast_ofNat_Int, Int.reduceLT, Int.reduceLE, Int.le_refl, Int.reduceBEq, Int.reduceEq, beq_self_eq_true, Int.reduceToNat, D.isAg, List.map_nil, List.map_cons, List.length_cons, List.length_nil, noneM_eq, go_sem, eB, ↓reduceIte, Nat.reduceEqDiff, Nat.reduceAdd, Nat.reduceLeDiff, Nat.reduceMul, Nat.reduceBEq, Nat.reduceBneDiff, Nat.reduceLT, Nat.reduceSub, decide_true, decide_false, and_self, true_and, and_true, false_and, and_false, not_true_eq_false, not_false_eq_true, false_implies, true_implies, implies_true, ge_iff_le, Bool.false_eq_true, List.cons_append, List.nil_append, Int.ofNat_lt, List.length_map, Int.natCast_nonneg]
      rw [mdiagF_full]
      exact D.Le.refl _
  | test hk hks h0 h1 =>
    subst hk hks
    have h1 : v.toNat < T.2.length := h1
    have h1' := nat_lt_of' h0 h1
    have t1 := at_mapD (f := eS 1 eB) (d := (none, [])) h1
    have t2 := hC.tr _ (getD_mem (d := (none, [])) h1)
    simp only at h1 h1' t1 t2
    rw [show costOp (gs, (n : Int), T, A) 3 v ([].map (costE (gs, (n : Int), T, A))) = mdiag (tstC (gs, (n : Int), T, A) v) by simp [costOp]]
    simp +contextual -implicitDefEqProofs only [D.at, eE_mk, eCo, eS, eI, D.size, D.sizeL, D.sub, Int.cast_ofNat_Int, Int.reduceLT, Int.reduceLE, Int.le_refl, Int.reduceBEq, Int.reduceEq, beq_self_eq_true, Int.reduceToNat, D.isAg, List.map_nil, List.map_cons, List.length_cons, List.length_nil, noneM_eq, go_sem, eB, ↓reduceIte, Nat.reduceEqDiff, Nat.reduceAdd, Nat.reduceLeDiff, Nat.reduceMul, Nat.reduceBEq, Nat.reduceBneDiff, Nat.reduceLT, Nat.reduceSub, decide_true, decide_false, and_self, true_and, and_true, false_and, and_false, not_true_eq_false, not_false_eq_true, false_implies, true_implies, implies_true, ge_iff_le, Bool.false_eq_true, List.cons_append, List.nil_append, Int.ofNat_lt, List.length_map, Int.natCast_nonneg]
    refine vc_onU (α := Nat) [6, 26, 27, 28, 29, 30, 31, 32, 33, 34, 35, 36, 37, 38, 39, 40, 41, 42, 43, 44, 45, 46, 47, 48, 49, 50, 51, 52, 53, 54, 55, 56, 57, 58, 59] (fun i => [(6, .im none (.sc (.int .i64 i)))]) (fun i => [(18, .ar true (some false) 1 (mD n (mdiagF (tstC (gs, (n : Int), T, A) v) i)))]) (fun i => i ≤ n) (fun i => n - i) 0 (Ent.to [] (by simp only [go_sem, ↓reduceIte, Nat.reduceEqDiff, Nat.reduceBEq, Nat.reduceBneDiff, Bool.false_eq_true]; rfl) rfl (by simp [mdiagF_zero]) (by rfl) (by simp only [subEnv, go_sem, ↓reduceIte, Nat.reduceEqDiff, Nat.reduceBEq, keep, memN, Bool.or_false, Bool.false_or, Bool.or_self, Bool.false_eq_true] <;> simp)) (Nat.zero_le _) ?_
    intro i hi0
    by_cases hi : i < n
    · have a1 := mD_at (R := mdiagF (tstC (gs, (n : Int), T, A) v) i) hi
      have a2 := mRow_at (f := mdiagF (tstC (gs, (n : Int), T, A) v) i i) hi
      have t3 := at_mapD (f := eB) (d := false) (show i < (T.2.getD v.toNat (none, [])).2.length by omega)
      have t4 : (T.2.getD v.toNat (none, [])).2.getD i false = tOfC (gs, (n : Int), T, A) v i := rfl
      have t5 : i < (T.2.getD v.toNat (none, [])).2.length := by omega
      rw [t4] at t3
      cases hv : tOfC (gs, (n : Int), T, A) v i
      · rw [hv] at t3
        have hst := mdiagF_skip (f := tstC (gs, (n : Int), T, A) v) (i := i) (by unfold tstC; rw [hv]; rfl)
        simp +contextual -implicitDefEqProofs only [hi, mD_len, mRow_len, a1, a2, eE_mk, eCo, eS, eI, D.size, D.sizeL, D.sub, Int.cast_ofNat_Int, Int.reduceLT, Int.reduceLE, Int.le_refl, Int.reduceBEq, Int.reduceEq, beq_self_eq_true, Int.reduceToNat, D.isAg, List.map_nil, List.map_cons, List.length_cons, List.length_nil, noneM_eq, t1, t2, t3, t5, h0, h1', eB, D.put, inSet, mD_set, mD_row, mRow_np, Option.getD_none, Nat.min_self, List.length_set, go_sem, ↓reduceIte, Nat.reduceEqDiff, Nat.reduceAdd, Nat.reduceLeDiff, Nat.reduceMul, Nat.reduceBEq, Nat.reduceBneDiff, Nat.reduceLT, Nat.reduceSub, decide_true, decide_false, and_self, true_and, and_true, false_and, and_false, not_true_eq_false, not_false_eq_true, false_implies, true_implies, implies_true, ge_iff_le, Bool.false_eq_true, List.cons_append, List.nil_append, Int.ofNat_lt, List.length_map, Int.natCast_nonneg]
        rw [wrap_i64 (by omega) (by omega)]
        exact ⟨i + 1, by omega, by omega, Ent.to [] (by simp only [go_sem, ↓reduceIte, Nat.reduceEqDiff, Nat.reduceBEq, Nat.reduceBneDiff, Bool.false_eq_true]; rfl) rfl (by simp [hst]) (by rfl) (by simp only [subEnv, go_sem, ↓reduceIte, Nat.reduceEqDiff, Nat.reduceBEq, keep, memN, Bool.or_false, Bool.false_or, Bool.or_self, Bool.false_eq_true] <;> simp)⟩
      · rw [hv] at t3
        have hst := mdiagF_step (f := tstC (gs, (n : Int), T, A) v) (i := i)
        rw [show tstC (gs, (n : Int), T, A) v i = 0 by unfold tstC; rw [hv]; rfl] at hst
        simp +contextual -implicitDefEqProofs only [hi, mD_len, mRow_len, a1, a2, eE_mk, eCo, eS, eI, D.size, D.sizeL, D.sub, Int.cast_ofNat_Int, Int.reduceLT, Int.reduceLE, Int.le_refl, Int.reduceBEq, Int.reduceEq, beq_self_eq_true, Int.reduceToNat, D.isAg, List.map_nil, List.map_cons, List.length_cons, List.length_nil, noneM_eq, t1, t2, t3, t5, h0, h1', eB, D.put, inSet, mD_set, mD_row, mRow_np, Option.getD_none, Nat.min_self, List.length_set, go_sem, ↓reduceIte, Nat.reduceEqDiff, Nat.reduceAdd, Nat.reduceLeDiff, Nat.reduceMul, Nat.reduceBEq, Nat.reduceBneDiff, Nat.reduceLT, Nat.reduceSub, decide_true, decide_false, and_self, true_and, and_true, false_and, and_false, not_true_eq_false, not_false_eq_true, false_implies, true_implies, implies_true, ge_iff_le, Bool.false_eq_true, List.cons_append, List.nil_append, Int.ofNat_lt, List.length_map, Int.natCast_nonneg]
        rw [wrap_i64 (by omega) (by omega), hst]
        exact ⟨i + 1, by omega, by omega, Ent.to [] (by simp only [go_sem, ↓reduceIte, Nat.reduceEqDiff, Nat.reduceBEq, Nat.reduceBneDiff, Bool.false_eq_true]; rfl) rfl (by simp) (by rfl) (by simp only [subEnv, go_sem, ↓reduceIte, Nat.reduceEqDiff, Nat.reduceBEq, keep, memN, Bool.or_false, Bool.false_or, Bool.or_self, Bool.false_eq_true] <;> simp)⟩
    · obtain rfl : i = n := by omega
      simp +contextual -implicitDefEqProofs only [hi, mD_len, eE_mk, eCo, eS, eI, D.size, D.sizeL, D.sub, Int.cast_ofNat_Int, Int.reduceLT, Int.reduceLE, Int.le_refl, Int.reduceBEq, Int.reduceEq, beq_self_eq_true, Int.reduceToNat, D.isAg, List.map_nil, List.map_cons, List.length_cons, List.length_nil, noneM_eq, go_sem, eB, ↓reduceIte, Nat.reduceEqDiff, Nat.reduceAdd, Nat.reduceLeDiff, Nat.reduceMul, Nat.reduceBEq, Nat.reduceBneDiff, Nat.reduceLT, Nat.reduceSub, decide_true, decide_false, and_self, true_and, and_true, false_and, and_false, not_true_eq_false, not_false_eq_true, false_implies, true_implies, implies_true, ge_iff_le, Bool.false_eq_true, List.cons_append, List.nil_append, Int.ofNat_lt, List.length_map, Int.natCast_nonneg]
      rw [mdiagF_full]
      exact D.Le.refl _
  | act hk hks h0 h1 =>
    subst hk hks
    have h1 : v.toNat < A.2.length := by simpa [surM] using h1
    have h1' := nat_lt_of' h0 h1
    have t1 := at_mapD (f := eS 1 (eS 1 eI)) (d := (none, [])) h1
    have t2 := hC.asq _ (getD_mem (d := (none, [])) h1)
    simp only at h1 h1' t1 t2
    rw [show costOp (gs, (n : Int), T, A) 4 v ([].map (costE (gs, (n : Int), T, A))) = matOf (actC (gs, (n : Int), T, A) v) by simp [costOp]]
    simp +contextual -implicitDefEqProofs only [D.at, eE_mk, eCo, eS, eI, D.size, D.sizeL, D.sub, Int.cast_ofNat_Int, Int.reduceLT, Int.reduceLE, Int.le_refl, Int.reduceBEq, Int.reduceEq, beq_self_eq_true, Int.reduceToNat, D.isAg, List.map_nil, List.map_cons, List.length_cons, List.length_nil, noneM_eq, go_sem, eB, ↓reduceIte, Nat.reduceEqDiff, Nat.reduceAdd, Nat.reduceLeDiff, Nat.reduceMul, Nat.reduceBEq, Nat.reduceBneDiff, Nat.reduceLT, Nat.reduceSub, decide_true, decide_false, and_self, true_and, and_true, false_and, and_false, not_true_eq_false, not_false_eq_true, false_implies, true_implies, implies_true, ge_iff_le, Bool.false_eq_true, List.cons_append, List.nil_append, Int.ofNat_lt, List.length_map, Int.natCast_nonneg]
    refine vc_onU (α := Nat) [7, 62, 63, 64, 65, 66, 67, 68, 69, 70, 71, 72, 73, 74, 75, 76, 77, 78, 79, 80, 81, 82, 83, 84, 85, 86] (fun i => [(7, .im none (.sc (.int .i64 i)))]) (fun i => [(18, .ar true (some false) 1 (mD n (mrowF (matOf (actC (gs, (n : Int), T, A) v)) i)))]) (fun i => i ≤ n) (fun i => n - i) 0 (Ent.to [] (by simp only [go_sem, ↓reduceIte, Nat.reduceEqDiff, Nat.reduceBEq, Nat.reduceBneDiff, Bool.false_eq_true]; rfl) rfl (by simp [mrowF_zero]) (by rfl) (by simp only [subEnv, go_sem, ↓reduceIte, Nat.reduceEqDiff, Nat.reduceBEq, keep, memN, Bool.or_false, Bool.false_or, Bool.or_self, Bool.false_eq_true] <;> simp)) (Nat.zero_le _) ?_
    intro i hi0
    by_cases hi : i < n
    · have a1 := mD_at (R := mrowF (matOf (actC (gs, (n : Int), T, A) v)) i) hi
      have a2 := mRow_at (f := mrowF (matOf (actC (gs, (n : Int), T, A) v)) i i) hi
      have hst := mrowF_step (R := matOf (actC (gs, (n : Int), T, A) v)) (i := i)
      have t3 := t2.at hi
      rw [t2.row_map hi] at t3
      have t4 : matOf (A.2.getD v.toNat (none, [])) i = matOf (actC (gs, (n : Int), T, A) v) i := rfl
      rw [t4] at t3
      have t5 := t2.len
      simp +contextual -implicitDefEqProofs only [hi, mD_len, mRow_len, a1, a2, eE_mk, eCo, eS, eI, D.size, D.sizeL, D.sub, Int.cast_ofNat_Int, Int.reduceLT, Int.reduceLE, Int.le_refl, Int.reduceBEq, Int.reduceEq, beq_self_eq_true, Int.reduceToNat, D.isAg, List.map_nil, List.map_cons, List.length_cons, List.length_nil, noneM_eq, t1, t3, t5, h0, h1', spl_allM mRow_len, D.put, inSet, mD_set, mD_row, mRow_np, Option.getD_none, Nat.min_self, List.length_set, go_sem, eB, ↓reduceIte, Nat.reduceEqDiff, Nat.reduceAdd, Nat.reduceLeDiff, Nat.reduceMul, Nat.reduceBEq, Nat.reduceBneDiff, Nat.reduceLT, Nat.reduceSub, decide_true, decide_false, and_self, true_and, and_true, false_and, and_false, not_true_eq_false, not_false_eq_true, false_implies, true_implies, implies_true, ge_iff_le, Bool.false_eq_true, List.cons_append, List.nil_append, Int.ofNat_lt, List.length_map, Int.natCast_nonneg]
      rw [wrap_i64 (by omega) (by omega), hst]
      exact ⟨i + 1, by omega, by omega, Ent.to [] (by simp only [go_sem, ↓reduceIte, Nat.reduceEqDiff, Nat.reduceBEq, Nat.reduceBneDiff, Bool.false_eq_true]; rfl) rfl (by simp) (by rfl) (by simp only [subEnv, go_sem, ↓reduceIte, Nat.reduceEqDiff, Nat.reduceBEq, keep, memN, Bool.or_false, Bool.false_or, Bool.or_self, Bool.false_eq_true] <;> simp)⟩
    · obtain rfl : i = n := by omega
      simp +contextual -implicitDefEqProofs only [hi, mD_len, eE_mk, eCo, eS, eI, D.size, D.sizeL, D.sub, Int.cast_ofNat_Int, Int.reduceLT, Int.reduceLE, Int.le_refl, Int.reduceBEq, Int.reduceEq, beq_self_eq_true, Int.reduceToNat, D.isAg, List.map_nil, List.map_cons, List.length_cons, List.length_nil, noneM_eq, go_sem, eB, ↓reduceIte, Nat.reduceEqDiff, Nat.reduceAdd, Nat.reduceLeDiff, Nat.reduceMul, Nat.reduceBEq, Nat.reduceBneDiff, Nat.reduceLT, Nat.reduceSub, decide_true, decide_false, and_self, true_and, and_true, false_and, and_false, not_true_eq_false, not_false_eq_true, false_implies, true_implies, implies_true, ge_iff_le, Bool.false_eq_true, List.cons_append, List.nil_append, Int.ofNat_lt, List.length_map, Int.natCast_nonneg]
      rw [mrowF_full]
      exact D.Le.refl _
  | nt hk a hks =>
    subst hk hks
    have ta := hT.2 a (by simp)
    have ia_ := ih a (by simp) ta
    have oa := costE_ok hC a ta
    rw [show costOp (gs, (n : Int), T, A) 5 v ([a].map (costE (gs, (n : Int), T, A))) = mdiag (notC (costE (gs, (n : Int), T, A) a)) by simp [costOp]]
    simp +contextual -implicitDefEqProofs only [D.at, eE_mk, eCo, eS, eI, D.size, D.sizeL, D.sub, Int.cast_ofNat_Int, Int.reduceLT, Int.reduceLE, Int.le_refl, Int.reduceBEq, Int.reduceEq, beq_self_eq_true, Int.reduceToNat, D.isAg, List.map_nil, List.map_cons, List.length_cons, List.length_nil, noneM_eq, go_sem, eB, ↓reduceIte, Nat.reduceEqDiff, Nat.reduceAdd, Nat.reduceLeDiff, Nat.reduceMul, Nat.reduceBEq, Nat.reduceBneDiff, Nat.reduceLT, Nat.reduceSub, decide_true, decide_false, and_self, true_and, and_true, false_and, and_false, not_true_eq_false, not_false_eq_true, false_implies, true_implies, implies_true, ge_iff_le, Bool.false_eq_true, List.cons_append, List.nil_append, Int.ofNat_lt, List.length_map, Int.natCast_nonneg]
    refine callQ_self (ds := [.pt (eCo (gs, (n : Int), T, A)) 0, .pt (eE a) 0]) (by rfl) (ia_) ?_
    simp +contextual -implicitDefEqProofs only [D.at, eE_mk, eCo, eS, eI, D.size, D.sizeL, D.sub, Int.cast_ofNat_Int, Int.reduceLT, Int.reduceLE, Int.le_refl, Int.reduceBEq, Int.reduceEq, beq_self_eq_true, Int.reduceToNat, D.isAg, List.map_nil, List.map_cons, List.length_cons, List.length_nil, noneM_eq, go_sem, eB, ↓reduceIte, Nat.reduceEqDiff, Nat.reduceAdd, Nat.reduceLeDiff, Nat.reduceMul, Nat.reduceBEq, Nat.reduceBneDiff, Nat.reduceLT, Nat.reduceSub, decide_true, decide_false, and_self, true_and, and_true, false_and, and_false, not_true_eq_false, not_false_eq_true, false_implies, true_implies, implies_true, ge_iff_le, Bool.false_eq_true, List.cons_append, List.nil_append, Int.ofNat_lt, List.length_map, Int.natCast_nonneg]
    refine vc_onU (α := Nat) [9, 97, 98, 99, 100, 101, 102, 103, 104, 105, 106, 107, 108, 109, 110, 111, 112, 113, 114, 115, 116, 117, 118] (fun i => [(9, .im none (.sc (.int .i64 i)))]) (fun i => [(18, .ar true (some false) 1 (mD n (mdiagF (notC (costE (gs, (n : Int), T, A) a)) i))), (96, .own (.ls (some false) 1 (mD n ((costE (gs, (n : Int), T, A) a)))))]) (fun i => i ≤ n) (fun i => n - i) 0 (Ent.to [] (by simp only [go_sem, ↓reduceIte, Nat.reduceEqDiff, Nat.reduceBEq, Nat.reduceBneDiff, Bool.false_eq_true]; rfl) rfl (by simp [mdiagF_zero]) (by rfl) (by simp only [subEnv, go_sem, ↓reduceIte, Nat.reduceEqDiff, Nat.reduceBEq, keep, memN, Bool.or_false, Bool.false_or, Bool.or_self, Bool.false_eq_true] <;> simp)) (Nat.zero_le _) ?_
    intro i hi0
    by_cases hi : i < n
    · have a1 := mD_at (R := mdiagF (notC (costE (gs, (n : Int), T, A) a)) i) hi
      have a2 := mRow_at (f := mdiagF (notC (costE (gs, (n : Int), T, A) a)) i i) hi
      have b1 := mD_at (R := (costE (gs, (n : Int), T, A) a)) hi
      have b2 := mRow_at (f := (costE (gs, (n : Int), T, A) a) i) hi
      by_cases hv : (costE (gs, (n : Int), T, A) a) i i = -1
      · have hst := mdiagF_step (f := notC (costE (gs, (n : Int), T, A) a)) (i := i)
        rw [show notC (costE (gs, (n : Int), T, A) a) i = 0 by unfold notC; rw [if_pos hv]] at hst
        have hv' : ((costE (gs, (n : Int), T, A) a) i i == -1) = true := by simpa using hv
        simp +contextual -implicitDefEqProofs only [hi, mD_len, mRow_len, a1, a2, eE_mk, eCo, eS, eI, D.size, D.sizeL, D.sub, Int.cast_ofNat_Int, Int.reduceLT, Int.reduceLE, Int.le_refl, Int.reduceBEq, Int.reduceEq, beq_self_eq_true, Int.reduceToNat, D.isAg, List.map_nil, List.map_cons, List.length_cons, List.length_nil, noneM_eq, b1, b2, hv', D.put, inSet, mD_set, mD_row, mRow_np, Option.getD_none, Nat.min_self, List.length_set, go_sem, eB, ↓reduceIte, Nat.reduceEqDiff, Nat.reduceAdd, Nat.reduceLeDiff, Nat.reduceMul, Nat.reduceBEq, Nat.reduceBneDiff, Nat.reduceLT, Nat.reduceSub, decide_true, decide_false, and_self, true_and, and_true, false_and, and_false, not_true_eq_false, not_false_eq_true, false_implies, true_implies, implies_true, ge_iff_le, Bool.false_eq_true, List.cons_append, List.nil_append, Int.ofNat_lt, List.length_map, Int.natCast_nonneg]
        rw [wrap_i64 (by omega) (by omega), hst]
        exact ⟨i + 1, by omega, by omega, Ent.to [] (by simp only [go_sem, ↓reduceIte, Nat.reduceEqDiff, Nat.reduceBEq, Nat.reduceBneDiff, Bool.false_eq_true]; rfl) rfl (by simp) (by rfl) (by simp only [subEnv, go_sem, ↓reduceIte, Nat.reduceEqDiff, Nat.reduceBEq, keep, memN, Bool.or_false, Bool.false_or, Bool.or_self, Bool.false_eq_true] <;> simp)⟩
      · have hst := mdiagF_skip (f := notC (costE (gs, (n : Int), T, A) a)) (i := i) (by unfold notC; rw [if_neg hv])
        have hv' : ((costE (gs, (n : Int), T, A) a) i i == -1) = false := by simpa using hv
        simp +contextual -implicitDefEqProofs only [hi, mD_len, mRow_len, a1, a2, eE_mk, eCo, eS, eI, D.size, D.sizeL, D.sub, Int.cast_ofNat_Int, Int.reduceLT, Int.reduceLE, Int.le_refl, Int.reduceBEq, Int.reduceEq, beq_self_eq_true, Int.reduceToNat, D.isAg, List.map_nil, List.map_cons, List.length_cons, List.length_nil, noneM_eq, b1, b2, hv', D.put, inSet, mD_set, mD_row, mRow_np, Option.getD_none, Nat.min_self, List.length_set, go_sem, eB, ↓reduceIte, Nat.reduceEqDiff, Nat.reduceAdd, Nat.reduceLeDiff, Nat.reduceMul, Nat.reduceBEq, Nat.reduceBneDiff, Nat.reduceLT, Nat.reduceSub, decide_true, decide_false, and_self, true_and, and_true, false_and, and_false, not_true_eq_false, not_false_eq_true, false_implies, true_implies, implies_true, ge_iff_le, Bool.false_eq_true, List.cons_append, List.nil_append, Int.ofNat_lt, List.length_map, Int.natCast_nonneg]
        rw [wrap_i64 (by omega) (by omega)]
        exact ⟨i + 1, by omega, by omega, Ent.to [] (by simp only [go_sem, ↓reduceIte, Nat.reduceEqDiff, Nat.reduceBEq, Nat.reduceBneDiff, Bool.false_eq_true]; rfl) rfl (by simp [hst]) (by rfl) (by simp only [subEnv, go_sem, ↓reduceIte, Nat.reduceEqDiff, Nat.reduceBEq, keep, memN, Bool.or_false, Bool.false_or, Bool.or_self, Bool.false_eq_true] <;> simp)⟩
    · obtain rfl : i = n := by omega
      simp +contextual -implicitDefEqProofs only [hi, mD_len, eE_mk, eCo, eS, eI, D.size, D.sizeL, D.sub, Int.cast_ofNat_Int, Int.reduceLT, Int.reduceLE, Int.le_refl, Int.reduceBEq, Int.reduceEq, beq_self_eq_true, Int.reduceToNat, D.isAg, List.map_nil, List.map_cons, List.length_cons, List.length_nil, noneM_eq, go_sem, eB, ↓reduceIte, Nat.reduceEqDiff, Nat.reduceAdd, Nat.reduceLeDiff, Nat.reduceMul, Nat.reduceBEq, Nat.reduceBneDiff, Nat.reduceLT, Nat.reduceSub, decide_true, decide_false, and_self, true_and, and_true, false_and, and_false, not_true_eq_false, not_false_eq_true, false_implies, true_implies, implies_true, ge_iff_le, Bool.false_eq_true, List.cons_append, List.nil_append, Int.ofNat_lt, List.length_map, Int.natCast_nonneg]
      rw [mdiagF_full]
      exact D.Le.refl _
  | sum hk a b hks =>
    subst hk hks
    have ta := hT.2 a (by simp)
    have ia_ := ih a (by simp) ta
    have oa := costE_ok hC a ta
    have tb := hT.2 b (by simp)
    have ib_ := ih b (by simp) tb
    have ob := costE_ok hC b tb
    rw [show costOp (gs, (n : Int), T, A) 6 v ([a, b].map (costE (gs, (n : Int), T, A))) = sumC (costE (gs, (n : Int), T, A) a) (costE (gs, (n : Int), T, A) b) by simp [costOp]]
    simp +contextual -implicitDefEqProofs only [D.at, eE_mk, eCo, eS, eI, D.size, D.sizeL, D.sub, Int.cast_ofNat_Int, Int.reduceLT, Int.reduceLE, Int.le_refl, Int.reduceBEq, Int.reduceEq, beq_self_eq_true, Int.reduceToNat, D.isAg, List.map_nil, List.map_cons, List.length_cons, List.length_nil, noneM_eq, go_sem, eB, ↓reduceIte, Nat.reduceEqDiff, Nat.reduceAdd, Nat.reduceLeDiff, Nat.reduceMul, Nat.reduceBEq, Nat.reduceBneDiff, Nat.reduceLT, Nat.reduceSub, decide_true, decide_false, and_self, true_and, and_true, false_and, and_false, not_true_eq_false, not_false_eq_true, false_implies, true_implies, implies_true, ge_iff_le, Bool.false_eq_true, List.cons_append, List.nil_append, Int.ofNat_lt, List.length_map, Int.natCast_nonneg]
    refine callQ_self (ds := [.pt (eCo (gs, (n : Int), T, A)) 0, .pt (eE a) 0]) (by rfl) (ia_) ?_
    simp +contextual -implicitDefEqProofs only [D.at, eE_mk, eCo, eS, eI, D.size, D.sizeL, D.sub, Int.cast_ofNat_Int, Int.reduceLT, Int.reduceLE, Int.le_refl, Int.reduceBEq, Int.reduceEq, beq_self_eq_true, Int.reduceToNat, D.isAg, List.map_nil, List.map_cons, List.length_cons, List.length_nil, noneM_eq, go_sem, eB, ↓reduceIte, Nat.reduceEqDiff, Nat.reduceAdd, Nat.reduceLeDiff, Nat.reduceMul, Nat.reduceBEq, Nat.reduceBneDiff, Nat.reduceLT, Nat.reduceSub, decide_true, decide_false, and_self, true_and, and_true, false_and, and_false, not_true_eq_false, not_false_eq_true, false_implies, true_implies, implies_true, ge_iff_le, Bool.false_eq_true, List.cons_append, List.nil_append, Int.ofNat_lt, List.length_map, Int.natCast_nonneg]
    refine callQ_self (ds := [.pt (eCo (gs, (n : Int), T, A)) 0, .pt (eE b) 0]) (by rfl) (ib_) ?_
    simp +contextual -implicitDefEqProofs only [D.at, eE_mk, eCo, eS, eI, D.size, D.sizeL, D.sub, Int.cast_ofNat_Int, Int.reduceLT, Int.reduceLE, Int.le_refl, Int.reduceBEq, Int.reduceEq, beq_self_eq_true, Int.reduceToNat, D.isAg, List.map_nil, List.map_cons, List.length_cons, List.length_nil, noneM_eq, go_sem, eB, ↓reduceIte, Nat.reduceEqDiff, Nat.reduceAdd, Nat.reduceLeDiff, Nat.reduceMul, Nat.reduceBEq, Nat.reduceBneDiff, Nat.reduceLT, Nat.reduceSub, decide_true, decide_false, and_self, true_and, and_true, false_and, and_false, not_true_eq_false, not_false_eq_true, false_implies, true_implies, implies_true, ge_iff_le, Bool.false_eq_true, List.cons_append, List.nil_append, Int.ofNat_lt, List.length_map, Int.natCast_nonneg]
    refine vc_onU (α := Nat) [12, 13, 135, 136, 137, 138, 139, 140, 141, 142, 143, 144, 145, 146, 147, 148, 149, 150, 151, 152, 153, 154, 155, 156, 157, 158, 159, 160, 161, 162, 163, 164, 165, 166, 167, 168, 169, 170, 171] (fun i => [(12, .im none (.sc (.int .i64 i)))]) (fun i => [(18, .ar true (some false) 1 (mD n (mrowF (sumC (costE (gs, (n : Int), T, A) a) (costE (gs, (n : Int), T, A) b)) i))), (134, .own (.ls (some false) 1 (mD n ((costE (gs, (n : Int), T, A) b))))), (127, .own (.ls (some false) 1 (mD n ((costE (gs, (n : Int), T, A) a)))))]) (fun i => i ≤ n) (fun i => n - i) 0 (Ent.to [] (by simp only [go_sem, ↓reduceIte, Nat.reduceEqDiff, Nat.reduceBEq, Nat.reduceBneDiff, Bool.false_eq_true]; rfl) rfl (by simp [mrowF_zero]) (by rfl) (by simp only [subEnv, go_sem, ↓reduceIte, Nat.reduceEqDiff, Nat.reduceBEq, keep, memN, Bool.or_false, Bool.false_or, Bool.or_self, Bool.false_eq_true] <;> simp)) (Nat.zero_le _) ?_
    intro i hi0
    by_cases hi : i < n
    · simp +contextual -implicitDefEqProofs only [hi, mD_len, D.at, eE_mk, eCo, eS, eI, D.size, D.sizeL, D.sub, Int.cast_ofNat_Int, Int.reduceLT, Int.reduceLE, Int.le_refl, Int.reduceBEq, Int.reduceEq, beq_self_eq_true, Int.reduceToNat, D.isAg, List.map_nil, List.map_cons, List.length_cons, List.length_nil, noneM_eq, go_sem, eB, ↓reduceIte, Nat.reduceEqDiff, Nat.reduceAdd, Nat.reduceLeDiff, Nat.reduceMul, Nat.reduceBEq, Nat.reduceBneDiff, Nat.reduceLT, Nat.reduceSub, decide_true, decide_false, and_self, true_and, and_true, false_and, and_false, not_true_eq_false, not_false_eq_true, false_implies, true_implies, implies_true, ge_iff_le, Bool.false_eq_true, List.cons_append, List.nil_append, Int.ofNat_lt, List.length_map, Int.natCast_nonneg]
      refine vc_onU (α := Nat) [13, 143, 144, 145, 146, 147, 148, 149, 150, 151, 152, 153, 154, 155, 156, 157, 158, 159, 160, 161, 162, 163, 164, 165, 166, 167, 168, 169, 170, 171] (fun y => [(13, .im none (.sc (.int .i64 y)))]) (fun y => [(18, .ar true (some false) 1 (mD n (mcellF (sumC (costE (gs, (n : Int), T, A) a) (costE (gs, (n : Int), T, A) b)) i y))), (134, .own (.ls (some false) 1 (mD n ((costE (gs, (n : Int), T, A) b))))), (127, .own (.ls (some false) 1 (mD n ((costE (gs, (n : Int), T, A) a)))))]) (fun y => y ≤ n) (fun y => n - y) 0 (Ent.to [] (by simp only [go_sem, ↓reduceIte, Nat.reduceEqDiff, Nat.reduceBEq, Nat.reduceBneDiff, Bool.false_eq_true]; rfl) rfl (by simp [mcellF_zero]) (by rfl) (by simp only [subEnv, go_sem, ↓reduceIte, Nat.reduceEqDiff, Nat.reduceBEq, keep, memN, Bool.or_false, Bool.false_or, Bool.or_self, Bool.false_eq_true] <;> simp)) (Nat.zero_le _) ?_
      intro y hy0
      by_cases hy : y < n
      · have a1 := mD_at (R := mcellF (sumC (costE (gs, (n : Int), T, A) a) (costE (gs, (n : Int), T, A) b)) i y) hi
        have a2 := mRow_at (f := mcellF (sumC (costE (gs, (n : Int), T, A) a) (costE (gs, (n : Int), T, A) b)) i y i) hy
        have hst := mcellF_step (R := sumC (costE (gs, (n : Int), T, A) a) (costE (gs, (n : Int), T, A) b)) (i := i) (y := y)
        have b1 := mD_at (R := (costE (gs, (n : Int), T, A) a)) hi
        have b2 := mRow_at (f := (costE (gs, (n : Int), T, A) a) i) hy
        have b3 := mD_at (R := (costE (gs, (n : Int), T, A) b)) hi
        have b4 := mRow_at (f := (costE (gs, (n : Int), T, A) b) i) hy
        simp +contextual -implicitDefEqProofs only [hi, hy, mD_len, mRow_len, a1, a2, eE_mk, eCo, eS, eI, D.size, D.sizeL, D.sub, Int.cast_ofNat_Int, Int.reduceLT, Int.reduceLE, Int.le_refl, Int.reduceBEq, Int.reduceEq, beq_self_eq_true, Int.reduceToNat, D.isAg, List.map_nil, List.map_cons, List.length_cons, List.length_nil, noneM_eq, b1, b2, b3, b4, go_sem, eB, ↓reduceIte, Nat.reduceEqDiff, Nat.reduceAdd, Nat.reduceLeDiff, Nat.reduceMul, Nat.reduceBEq, Nat.reduceBneDiff, Nat.reduceLT, Nat.reduceSub, decide_true, decide_false, and_self, true_and, and_true, false_and, and_false, not_true_eq_false, not_false_eq_true, false_implies, true_implies, implies_true, ge_iff_le, Bool.false_eq_true, List.cons_append, List.nil_append, Int.ofNat_lt, List.length_map, Int.natCast_nonneg]
        refine callQ_self (ds := [eI ((costE (gs, (n : Int), T, A) a) i y), eI ((costE (gs, (n : Int), T, A) b) i y)]) (by rfl) (hc2 _ _) ?_
        simp +contextual -implicitDefEqProofs only [hi, hy, mD_len, mRow_len, a1, a2, eE_mk, eCo, eS, eI, D.size, D.sizeL, D.sub, Int.cast_ofNat_Int, Int.reduceLT, Int.reduceLE, Int.le_refl, Int.reduceBEq, Int.reduceEq, beq_self_eq_true, Int.reduceToNat, D.isAg, List.map_nil, List.map_cons, List.length_cons, List.length_nil, noneM_eq, b1, b2, b3, b4, D.put, inSet, mD_set, mD_row, mRow_np, Option.getD_none, Nat.min_self, List.length_set, go_sem, eB, ↓reduceIte, Nat.reduceEqDiff, Nat.reduceAdd, Nat.reduceLeDiff, Nat.reduceMul, Nat.reduceBEq, Nat.reduceBneDiff, Nat.reduceLT, Nat.reduceSub, decide_true, decide_false, and_self, true_and, and_true, false_and, and_false, not_true_eq_false, not_false_eq_true, false_implies, true_implies, implies_true, ge_iff_le, Bool.false_eq_true, List.cons_append, List.nil_append, Int.ofNat_lt, List.length_map, Int.natCast_nonneg]
        rw [wrap_i64 (by omega) (by omega), show ch ((costE (gs, (n : Int), T, A) a) i y) ((costE (gs, (n : Int), T, A) b) i y) = sumC (costE (gs, (n : Int), T, A) a) (costE (gs, (n : Int), T, A) b) i y from rfl, hst]
        exact ⟨y + 1, by omega, by omega, Ent.to [] (by simp only [go_sem, ↓reduceIte, Nat.reduceEqDiff, Nat.reduceBEq, Nat.reduceBneDiff, Bool.false_eq_true]; rfl) rfl (by simp) (by rfl) (by simp only [subEnv, go_sem, ↓reduceIte, Nat.reduceEqDiff, Nat.reduceBEq, keep, memN, Bool.or_false, Bool.false_or, Bool.or_self, Bool.false_eq_true] <;> simp)⟩
      · obtain rfl : y = n := by omega
        simp +contextual -implicitDefEqProofs only [hi, hy, mD_len, eE_mk, eCo, eS, eI, D.size, D.sizeL, D.sub, Int.cast_ofNat_Int, Int.reduceLT, Int.reduceLE, Int.le_refl, Int.reduceBEq, Int.reduceEq, beq_self_eq_true, Int.reduceToNat, D.isAg, List.map_nil, List.map_cons, List.length_cons, List.length_nil, noneM_eq, go_sem, eB, ↓reduceIte, Nat.reduceEqDiff, Nat.reduceAdd, Nat.reduceLeDiff, Nat.reduceMul, Nat.reduceBEq, Nat.reduceBneDiff, Nat.reduceLT, Nat.reduceSub, decide_true, decide_false, and_self, true_and, and_true, false_and, and_false, not_true_eq_false, not_false_eq_true, false_implies, true_implies, implies_true, ge_iff_le, Bool.false_eq_true, List.cons_append, List.nil_append, Int.ofNat_lt, List.length_map, Int.natCast_nonneg]
        rw [wrap_i64 (by omega) (by omega)]
        exact ⟨i + 1, by omega, by omega, Ent.to [] (by simp only [go_sem, ↓reduceIte, Nat.reduceEqDiff, Nat.reduceBEq, Nat.reduceBneDiff, Bool.false_eq_true]; rfl) rfl (by simp [mcellF_full]) (by rfl) (by simp only [subEnv, go_sem, ↓reduceIte, Nat.reduceEqDiff, Nat.reduceBEq, keep, memN, Bool.or_false, Bool.false_or, Bool.or_self, Bool.false_eq_true] <;> simp)⟩
    · obtain rfl : i = n := by omega
      simp +contextual -implicitDefEqProofs only [hi, mD_len, eE_mk, eCo, eS, eI, D.size, D.sizeL, D.sub, Int.cast_ofNat_Int, Int.reduceLT, Int.reduceLE, Int.le_refl, Int.reduceBEq, Int.reduceEq, beq_self_eq_true, Int.reduceToNat, D.isAg, List.map_nil, List.map_cons, List.length_cons, List.length_nil, noneM_eq, go_sem, eB, ↓reduceIte, Nat.reduceEqDiff, Nat.reduceAdd, Nat.reduceLeDiff, Nat.reduceMul, Nat.reduceBEq, Nat.reduceBneDiff, Nat.reduceLT, Nat.reduceSub, decide_true, decide_false, and_self, true_and, and_true, false_and, and_false, not_true_eq_false, not_false_eq_true, false_implies, true_implies, implies_true, ge_iff_le, Bool.false_eq_true, List.cons_append, List.nil_append, Int.ofNat_lt, List.length_map, Int.natCast_nonneg]
      rw [mrowF_full]
      exact D.Le.refl _
  | dot hk a b hks =>
    subst hk hks
    have ta := hT.2 a (by simp)
    have ia_ := ih a (by simp) ta
    have oa := costE_ok hC a ta
    have tb := hT.2 b (by simp)
    have ib_ := ih b (by simp) tb
    have ob := costE_ok hC b tb
    rw [show costOp (gs, (n : Int), T, A) 7 v ([a, b].map (costE (gs, (n : Int), T, A))) = dotM n (costE (gs, (n : Int), T, A) a) (costE (gs, (n : Int), T, A) b) by simp [costOp]]
    simp +contextual -implicitDefEqProofs only [D.at, eE_mk, eCo, eS, eI, D.size, D.sizeL, D.sub, Int.cast_ofNat_Int, Int.reduceLT, Int.reduceLE, Int.le_refl, Int.reduceBEq, Int.reduceEq, beq_self_eq_true, Int.reduceToNat, D.isAg, List.map_nil, List.map_cons, List.length_cons, List.length_nil, noneM_eq, go_sem, eB, ↓reduceIte, Nat.reduceEqDiff, Nat.reduceAdd, Nat.reduceLeDiff, Nat.reduceMul, Nat.reduceBEq, Nat.reduceBneDiff, Nat.reduceLT, Nat.reduceSub, decide_true, decide_false, and_self, true_and, and_true, false_and, and_false, not_true_eq_false, not_false_eq_true, false_implies, true_implies, implies_true, ge_iff_le, Bool.false_eq_true, List.cons_append, List.nil_append, Int.ofNat_lt, List.length_map, Int.natCast_nonneg]
    refine callQ_self (ds := [.pt (eCo (gs, (n : Int), T, A)) 0, .pt (eE a) 0]) (by rfl) (ia_) ?_
    simp +contextual -implicitDefEqProofs only [D.at, eE_mk, eCo, eS, eI, D.size, D.sizeL, D.sub, Int.cast_ofNat_Int, Int.reduceLT, Int.reduceLE, Int.le_refl, Int.reduceBEq, Int.reduceEq, beq_self_eq_true, Int.reduceToNat, D.isAg, List.map_nil, List.map_cons, List.length_cons, List.length_nil, noneM_eq, go_sem, eB, ↓reduceIte, Nat.reduceEqDiff, Nat.reduceAdd, Nat.reduceLeDiff, Nat.reduceMul, Nat.reduceBEq, Nat.reduceBneDiff, Nat.reduceLT, Nat.reduceSub, decide_true, decide_false, and_self, true_and, and_true, false_and, and_false, not_true_eq_false, not_false_eq_true, false_implies, true_implies, implies_true, ge_iff_le, Bool.false_eq_true, List.cons_append, List.nil_append, Int.ofNat_lt, List.length_map, Int.natCast_nonneg]
    refine callQ_self (ds := [.pt (eCo (gs, (n : Int), T, A)) 0, .pt (eE b) 0]) (by rfl) (ib_) ?_
    simp +contextual -implicitDefEqProofs only [D.at, eE_mk, eCo, eS, eI, D.size, D.sizeL, D.sub, Int.cast_ofNat_Int, Int.reduceLT, Int.reduceLE, Int.le_refl, Int.reduceBEq, Int.reduceEq, beq_self_eq_true, Int.reduceToNat, D.isAg, List.map_nil, List.map_cons, List.length_cons, List.length_nil, noneM_eq, go_sem, eB, ↓reduceIte, Nat.reduceEqDiff, Nat.reduceAdd, Nat.reduceLeDiff, Nat.reduceMul, Nat.reduceBEq, Nat.reduceBneDiff, Nat.reduceLT, Nat.reduceSub, decide_true, decide_false, and_self, true_and, and_true, false_and, and_false, not_true_eq_false, not_false_eq_true, false_implies, true_implies, implies_true, ge_iff_le, Bool.false_eq_true, List.cons_append, List.nil_append, Int.ofNat_lt, List.length_map, Int.natCast_nonneg]
    refine callQ_self (ds := [.ls (some false) 1 (mD n (costE (gs, (n : Int), T, A) a)), .ls (some false) 1 (mD n (costE (gs, (n : Int), T, A) b))]) (by rfl) (cdot_D hc3 (by omega) oa ob) ?_
    simp +contextual -implicitDefEqProofs only [D.at, eE_mk, eCo, eS, eI, D.size, D.sizeL, D.sub, Int.cast_ofNat_Int, Int.reduceLT, Int.reduceLE, Int.le_refl, Int.reduceBEq, Int.reduceEq, beq_self_eq_true, Int.reduceToNat, D.isAg, List.map_nil, List.map_cons, List.length_cons, List.length_nil, noneM_eq, go_sem, eB, ↓reduceIte, Nat.reduceEqDiff, Nat.reduceAdd, Nat.reduceLeDiff, Nat.reduceMul, Nat.reduceBEq, Nat.reduceBneDiff, Nat.reduceLT, Nat.reduceSub, decide_true, decide_false, and_self, true_and, and_true, false_and, and_false, not_true_eq_false, not_false_eq_true, false_implies, true_implies, implies_true, ge_iff_le, Bool.false_eq_true, List.cons_append, List.nil_append, Int.ofNat_lt, List.length_map, Int.natCast_nonneg]
  | star hk a hks =>
    subst hk hks
    have ta := hT.2 a (by simp)
    have ia_ := ih a (by simp) ta
    have oa := costE_ok hC a ta
    rw [show costOp (gs, (n : Int), T, A) 8 v ([a].map (costE (gs, (n : Int), T, A))) = starM n (costE (gs, (n : Int), T, A) a) by simp [costOp]]
    simp +contextual -implicitDefEqProofs only [D.at, eE_mk, eCo, eS, eI, D.size, D.sizeL, D.sub, Int.cast_ofNat_Int, Int.reduceLT, Int.reduceLE, Int.le_refl, Int.reduceBEq, Int.reduceEq, beq_self_eq_true, Int.reduceToNat, D.isAg, List.map_nil, List.map_cons, List.length_cons, List.length_nil, noneM_eq, go_sem, eB, ↓reduceIte, Nat.reduceEqDiff, Nat.reduceAdd, Nat.reduceLeDiff, Nat.reduceMul, Nat.reduceBEq, Nat.reduceBneDiff, Nat.reduceLT, Nat.reduceSub, decide_true, decide_false, and_self, true_and, and_true, false_and, and_false, not_true_eq_false, not_false_eq_true, false_implies, true_implies, implies_true, ge_iff_le, Bool.false_eq_true, List.cons_append, List.nil_append, Int.ofNat_lt, List.length_map, Int.natCast_nonneg]
    refine callQ_self (ds := [.pt (eCo (gs, (n : Int), T, A)) 0, .pt (eE a) 0]) (by rfl) (ia_) ?_
    simp +contextual -implicitDefEqProofs only [D.at, eE_mk, eCo, eS, eI, D.size, D.sizeL, D.sub, Int.cast_ofNat_Int, Int.reduceLT, Int.reduceLE, Int.le_refl, Int.reduceBEq, Int.reduceEq, beq_self_eq_true, Int.reduceToNat, D.isAg, List.map_nil, List.map_cons, List.length_cons, List.length_nil, noneM_eq, go_sem, eB, ↓reduceIte, Nat.reduceEqDiff, Nat.reduceAdd, Nat.reduceLeDiff, Nat.reduceMul, Nat.reduceBEq, Nat.reduceBneDiff, Nat.reduceLT, Nat.reduceSub, decide_true, decide_false, and_self, true_and, and_true, false_and, and_false, not_true_eq_false, not_false_eq_true, false_implies, true_implies, implies_true, ge_iff_le, Bool.false_eq_true, List.cons_append, List.nil_append, Int.ofNat_lt, List.length_map, Int.natCast_nonneg]
    refine callQ_self (ds := [.ls (some false) 1 (mD n (costE (gs, (n : Int), T, A) a))]) (by rfl) (cstar_D hc4 (by omega) oa) ?_
    simp +contextual -implicitDefEqProofs only [D.at, eE_mk, eCo, eS, eI, D.size, D.sizeL, D.sub, Int.cast_ofNat_Int, Int.reduceLT, Int.reduceLE, Int.le_refl, Int.reduceBEq, Int.reduceEq, beq_self_eq_true, Int.reduceToNat, D.isAg, List.map_nil, List.map_cons, List.length_cons, List.length_nil, noneM_eq, go_sem, eB, ↓reduceIte, Nat.reduceEqDiff, Nat.reduceAdd, Nat.reduceLeDiff, Nat.reduceMul, Nat.reduceBEq, Nat.reduceBneDiff, Nat.reduceLT, Nat.reduceSub, decide_true, decide_false, and_self, true_and, and_true, false_and, and_false, not_true_eq_false, not_false_eq_true, false_implies, true_implies, implies_true, ge_iff_le, Bool.false_eq_true, List.cons_append, List.nil_append, Int.ofNat_lt, List.length_map, Int.natCast_nonneg]
end Go.Ax
