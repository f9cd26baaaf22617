/- Contracts of functions of the seat, proved over the engine. No condition. -/
import Derived.Test.YtjnghfepojipiaaX102
import Derived.Test.YtjnghfepojipiaaX40
set_option linter.unusedSimpArgs false
set_option linter.unusedVariables false
set_option linter.unnecessarySimpa false
namespace Go.Ax
set_option linter.unusedSimpArgs false
set_option maxRecDepth 20000
set_option maxHeartbeats 4000000
def nnI : Nat → Option Bool
 | 0 => some true
 | _ + 1 => some false
def rowM (F : Int → Int → Bool × Int × Int) : Nat → Int × Int → List Bool × Int × Int
 | 0, s => ([], s)
 | n + 1, s => ((rowM F n s).1 ++ [(F (rowM F n s).2.1 (rowM F n s).2.2).1], (F (rowM F n s).2.1 (rowM F n s).2.2).2)
def tSt (F : Int → Int → Bool × Int × Int) (p : Nat) : Nat → Int × Int → Int × Int
 | 0, s => s
 | i + 1, s => (rowM F p (tSt F p i s)).2
def hitM (G : Int → Int → Int → Int × Int × Int) (p x : Nat) : Nat → Rel × Int × Int → Rel × Int × Int
 | 0, r => r
 | j + 1, r => (setR (hitM G p x j r).1 x (G p (hitM G p x j r).2.1 (hitM G p x j r).2.2).1.toNat true, (G p (hitM G p x j r).2.1 (hitM G p x j r).2.2).2)
def kF (G : Int → Int → Int → Int × Int × Int) (r : Rel × Int × Int) : Int × Int × Int := G 3 r.2.1 r.2.2
def tabF (G : Int → Int → Int → Int × Int × Int) (p : Nat) : Nat → Int × Int → Rel × Int × Int
 | 0, s => (fun _ _ => false, s)
 | x + 1, s => hitM G p x (kF G (tabF G p x s)).1.toNat ((tabF G p x s).1, (kF G (tabF G p x s)).2)
def aSt (G : Int → Int → Int → Int × Int × Int) (p : Nat) : Nat → Int × Int → Int × Int
 | 0, s => s
 | i + 1, s => (tabF G p p (aSt G p i s)).2
def OneS (P : Program) (f : Nat) (nn : Option Bool) (c : List Int) (F : Int → Int → Bool × Int × Int) : Prop := ∀ a sd : Int, 0 ≤ a → a ≤ 500000000 → a ≤ (F a sd).2.1 ∧ (F a sd).2.1 ≤ a + 2 ∧
 AFW P f [uS nn c a sd] [.pw 3000000000 0 0, .im none (eI 2)] [uS nn c (F a sd).2.1 (F a sd).2.2] (.own (eB (F a sd).1))
def PickS (P : Program) (f : Nat) (nn : Option Bool) (c : List Int) (G : Int → Int → Int → Int × Int × Int) : Prop := ∀ n a sd : Int, 0 ≤ a → a ≤ 500000000 → a ≤ (G n a sd).2.1 ∧ (G n a sd).2.1 ≤ a + 2 ∧ 0 ≤ (G n a sd).1 ∧ (n ≤ 1 → (G n a sd).1 = 0) ∧ (1 < n → (G n a sd).1 < n) ∧
 AFW P f [uS nn c a sd] [.pw 3000000000 0 0, .im none (eI n)] [uS nn c (G n a sd).2.1 (G n a sd).2.2] (.own (eI (G n a sd).1))
theorem one_fun {P : Program} {f : Nat} (h : K_srcOne P f) (nn : Option Bool) {c : List Int} (hc : srcOk c) : ∃ F, OneS P f nn c F := by
 have h' : ∀ x : Int × Int, ∃ y : Bool × Int × Int, 0 ≤ x.1 → x.1 ≤ 500000000 → x.1 ≤ y.2.1 ∧ y.2.1 ≤ x.1 + 2 ∧ AFW P f [uS nn c x.1 x.2] [.pw 3000000000 0 0, .im none (eI 2)] [uS nn c y.2.1 y.2.2] (.own (eB y.1)) := by
  intro x
  by_cases hx : 0 ≤ x.1 ∧ x.1 ≤ 500000000
  ·obtain ⟨a', sd', b, p1, p2, p3⟩ := h nn c x.1 x.2 2 hc hx.1 hx.2
   exact ⟨(b, a', sd'), fun _ _ => ⟨p1, p2, p3⟩⟩
  ·exact ⟨(false, 0, 0), fun h1 h2 => absurd ⟨h1, h2⟩ hx⟩
 obtain ⟨F, hF⟩ := Classical.skolem.1 h'
 exact ⟨fun a sd => F (a, sd), fun a sd h1 h2 => hF (a, sd) h1 h2⟩
theorem pick_fun {P : Program} {f : Nat} (h : K_srcPick P f) (nn : Option Bool) {c : List Int} (hc : srcOk c) : ∃ G, PickS P f nn c G := by
 have h' : ∀ x : Int × Int × Int, ∃ y : Int × Int × Int, 0 ≤ x.2.1 → x.2.1 ≤ 500000000 → x.2.1 ≤ y.2.1 ∧ y.2.1 ≤ x.2.1 + 2 ∧ 0 ≤ y.1 ∧ (x.1 ≤ 1 → y.1 = 0) ∧ (1 < x.1 → y.1 < x.1) ∧ AFW P f [uS nn c x.2.1 x.2.2] [.pw 3000000000 0 0, .im none (eI x.1)] [uS nn c y.2.1 y.2.2] (.own (eI y.1)) := by
  intro x
  by_cases hx : 0 ≤ x.2.1 ∧ x.2.1 ≤ 500000000
  ·obtain ⟨a', sd', b, p1, p2, p3, p4, p5, p6⟩ := h nn c x.2.1 x.2.2 x.1 hc hx.1 hx.2
   exact ⟨(b, a', sd'), fun _ _ => ⟨p1, p2, p3, p4, p5, p6⟩⟩
  ·exact ⟨(0, 0, 0), fun h1 h2 => absurd ⟨h1, h2⟩ hx⟩
 obtain ⟨G, hG⟩ := Classical.skolem.1 h'
 exact ⟨fun n a sd => G (n, a, sd), fun n a sd h1 h2 => hG (n, a, sd) h1 h2⟩
section
variable {P : Program} {f1 f2 : Nat} {nn : Option Bool} {c : List Int} {F : Int → Int → Bool × Int × Int} {G : Int → Int → Int → Int × Int × Int}
theorem rowM_bd (hF : OneS P f2 nn c F) : ∀ (n : Nat) (s : Int × Int), 0 ≤ s.1 → s.1 + 2 * n ≤ 400000000 → s.1 ≤ (rowM F n s).2.1 ∧ (rowM F n s).2.1 ≤ s.1 + 2 * n ∧ (rowM F n s).1.length = n
 | 0, s, h0, h1 => by simp [rowM]
 | n + 1, s, h0, h1 => by
  obtain ⟨i1, i2, i3⟩ := rowM_bd hF n s h0 (by omega)
  obtain ⟨p1, p2, _⟩ := hF (rowM F n s).2.1 (rowM F n s).2.2 (by omega) (by omega)
  refine ⟨?_, ?_, ?_⟩
  ·simp only [rowM]; omega
  ·simp only [rowM]; push_cast; omega
  ·simp [rowM, i3]
theorem tSt_bd (hF : OneS P f2 nn c F) {p : Nat} (hp : p ≤ 8) : ∀ (i : Nat) (s : Int × Int), 0 ≤ s.1 → s.1 + 16 * i ≤ 300000000 → s.1 ≤ (tSt F p i s).1 ∧ (tSt F p i s).1 ≤ s.1 + 16 * i
 | 0, s, h0, h1 => by simp [tSt]
 | i + 1, s, h0, h1 => by
  obtain ⟨i1, i2⟩ := tSt_bd hF hp i s h0 (by omega)
  obtain ⟨p1, p2, _⟩ := rowM_bd hF p (tSt F p i s) (by omega) (by omega)
  simp only [tSt]; push_cast
  exact ⟨by omega, by omega⟩
theorem hitM_bd (hG : PickS P f1 nn c G) {p x : Nat} : ∀ (j : Nat) (r : Rel × Int × Int), 0 ≤ r.2.1 → r.2.1 + 2 * j ≤ 400000000 → r.2.1 ≤ (hitM G p x j r).2.1 ∧ (hitM G p x j r).2.1 ≤ r.2.1 + 2 * j
 | 0, r, h0, h1 => by simp [hitM]
 | j + 1, r, h0, h1 => by
  obtain ⟨i1, i2⟩ := hitM_bd (p := p) (x := x) hG j r h0 (by omega)
  obtain ⟨p1, p2, _⟩ := hG p (hitM G p x j r).2.1 (hitM G p x j r).2.2 (by omega) (by omega)
  simp only [hitM]; push_cast
  exact ⟨by omega, by omega⟩
theorem kF_bd (hG : PickS P f1 nn c G) {r : Rel × Int × Int} (h0 : 0 ≤ r.2.1) (h1 : r.2.1 ≤ 400000000) : r.2.1 ≤ (kF G r).2.1 ∧ (kF G r).2.1 ≤ r.2.1 + 2 ∧ 0 ≤ (kF G r).1 ∧ (kF G r).1 < 3 := by
 obtain ⟨p1, p2, p3, _, p5, _⟩ := hG 3 r.2.1 r.2.2 h0 (by omega)
 exact ⟨p1, p2, p3, p5 (by omega)⟩
theorem tabF_bd (hG : PickS P f1 nn c G) {p : Nat} : ∀ (x : Nat) (s : Int × Int), 0 ≤ s.1 → s.1 + 6 * x ≤ 300000000 → s.1 ≤ (tabF G p x s).2.1 ∧ (tabF G p x s).2.1 ≤ s.1 + 6 * x
 | 0, s, h0, h1 => by simp [tabF]
 | x + 1, s, h0, h1 => by
  obtain ⟨i1, i2⟩ := tabF_bd (p := p) hG x s h0 (by omega)
  obtain ⟨k1, k2, k3, k4⟩ := kF_bd hG (r := tabF G p x s) (by omega) (by omega)
  obtain ⟨p1, p2⟩ := hitM_bd hG (p := p) (x := x) (kF G (tabF G p x s)).1.toNat ((tabF G p x s).1, (kF G (tabF G p x s)).2) (by simp only; omega) (by simp only; omega)
  simp only at p1 p2
  simp only [tabF]; push_cast
  exact ⟨by omega, by omega⟩
theorem aSt_bd (hG : PickS P f1 nn c G) {p : Nat} (hp : p ≤ 8) : ∀ (i : Nat) (s : Int × Int), 0 ≤ s.1 → s.1 + 48 * i ≤ 200000000 → s.1 ≤ (aSt G p i s).1 ∧ (aSt G p i s).1 ≤ s.1 + 48 * i
 | 0, s, h0, h1 => by simp [aSt]
 | i + 1, s, h0, h1 => by
  obtain ⟨i1, i2⟩ := aSt_bd hG hp i s h0 (by omega)
  obtain ⟨p1, p2⟩ := tabF_bd hG (p := p) p (aSt G p i s) (by omega) (by omega)
  simp only [aSt]; push_cast
  exact ⟨by omega, by omega⟩
end

def moF (F : Int → Int → Bool × Int × Int) (G : Int → Int → Int → Int × Int × Int) (T A p : Nat) (s : Int × Int) : Mo :=
 (((T : Int), (A : Int)), (p : Int), (nnI T, tabL T fun i => (some false, (rowM F p (tSt F p i s)).1)), (nnI A, tabL A fun i => rTab p (tabF G p p (aSt G p i (tSt F p T s))).1))
theorem tabL_at0X {α : Type} {g : Nat → α} : tabL 0 g = [] := rfl
theorem moF_eq {F : Int → Int → Bool × Int × Int} {G : Int → Int → Int → Int × Int × Int} {T A p : Nat} {s : Int × Int} : eM (moF F G T A p s) =
  .ag [.sc (.int .i64 T), .sc (.int .i64 A), .sc (.int .i64 p), .ls (nnI T) 1 (tabL T fun i => .ls (some false) 1 ((rowM F p (tSt F p i s)).1.map eB)), .ls (nnI A) 1 (tabL A fun i => .ls (some false) 1 (rD p (tabF G p p (aSt G p i (tSt F p T s))).1))] := by
 have h : ∀ g : Nat → Rel, (tabL A fun i => rTab p (g i)).map (eS 1 (eS 1 eB)) = tabL A fun i => .ls (some false) 1 (rD p (g i)) := fun g => by rw [tabL_map]; unfold tabL; exact List.map_congr_left fun i _ => rD_eq
 have h2 : ∀ w : Nat → List Bool, (tabL T fun i => ((some false, w i) : SL Bool)).map (eS 1 eB) = tabL T fun i => .ls (some false) 1 ((w i).map eB) := fun w => by rw [tabL_map]; rfl
 rw [← h, ← h2]
 rfl
theorem tabL_mem {α : Type} {n : Nat} {g : Nat → α} {x : α} (h : x ∈ tabL n g) : ∃ i, i < n ∧ g i = x := by
 unfold tabL at h
 rw [List.mem_map] at h
 obtain ⟨i, hi, e⟩ := h
 exact ⟨i, List.mem_range.1 hi, e⟩
theorem moF_ok {P : Program} {f2 : Nat} {nn : Option Bool} {c : List Int} {F : Int → Int → Bool × Int × Int} {G : Int → Int → Int → Int × Int × Int} (hF : OneS P f2 nn c F) {T A p : Nat} {s : Int × Int} (hg : okG ((T : Int), (A : Int)) = true) (hp : p ≤ 8) (h1 : 1 ≤ p) (h0 : 0 ≤ s.1) (hb : s.1 + 16 * T ≤ 200000000) : okMo (moF F G T A p s) = true := by
 have hrow : ∀ i, i < T → (rowM F p (tSt F p i s)).1.length = p := fun i hi => by
  obtain ⟨t1, t2⟩ := tSt_bd hF hp i s h0 (by omega)
  exact (rowM_bd hF p (tSt F p i s) (by omega) (by omega)).2.2
 have hin : isIn (p : Int) 1 8 = true := by simp [isIn]; omega
 simp only [okMo, testsOk, actsOk, tabOk, lenIs, moF, hg, hin, tabL_len, Bool.and_eq_true, beq_self_eq_true, Bool.true_and, List.all_eq_true]
 refine ⟨fun r hr => ?_, fun r hr => ?_⟩
 ·obtain ⟨i, hi, rfl⟩ := tabL_mem hr
  rw [hrow i hi]
  exact beq_self_eq_true _
 ·obtain ⟨i, hi, rfl⟩ := tabL_mem hr
  simp only [rTab, tabL_len, beq_self_eq_true, true_and]
  intro r hr
  obtain ⟨j, hj, rfl⟩ := tabL_mem hr
  simp [tabL_len]

def k_l05Draw (f1 f2 f3 : Nat) : RC := (.seq (.reg false [⟨none, .box 4 2 (.t 1)⟩, ⟨none, .zer 6 5 (.ag [(.sc (.int .i64 0)), (.sc (.int .i64 0)), (.sc (.int .i64 0)), (.ls (some true) 1 []), (.ls (some true) 1 [])])⟩]) ((.seq (.regA [⟨none, .ld 15 true 2 (.t 4)⟩, ⟨none, .mv 16 (.t 0)⟩, ⟨none, .mv 17 (.t 2)⟩, ⟨none, .wcl (some 18) f1 [(.t 16), (.t 17)]⟩, ⟨none, .bin 19 .add (.c (.sc (.int .i64 1))) (.t 18)⟩, ⟨none, .bld 20 (.ag [(.sc (.int .i64 0)), (.sc (.int .i64 0)), (.sc (.int .i64 0)), (.ls (some true) 1 []), (.ls (some true) 1 [])]) [(0, 2, (.t 15)), (2, 1, (.t 19))]⟩, ⟨none, .zer 7 5 (.ag [(.sc (.int .i64 0)), (.sc (.int .i64 0)), (.sc (.int .i64 0)), (.ls (some true) 1 []), (.ls (some true) 1 [])])⟩, ⟨none, .st 5 (.t 7) (.t 20)⟩] (.br [(0, (.br [(1, (.br [(2, (.br [(3, (.br [(4, (.br [(5, (.br [(6, (.br [(7, (.br []))]))])), (6, (.br [(5, (.br [(7, (.br []))]))]))])), (6, (.br [(4, (.br [(5, (.br [(7, (.br []))]))]))]))])), (6, (.br [(3, (.br [(4, (.br [(5, (.br [(7, (.br []))]))]))]))]))])), (6, (.br [(2, (.br [(3, (.br [(4, (.br [(5, (.br [(7, (.br []))]))]))]))]))]))])), (2, (.br [(1, (.br [(3, (.br [(4, (.br [(5, (.br [(6, (.br [(7, (.br []))]))])), (6, (.br [(5, (.br [(7, (.br []))]))]))])), (6, (.br [(4, (.br [(5, (.br [(7, (.br []))]))]))]))])), (6, (.br [(3, (.br [(4, (.br [(5, (.br [(7, (.br []))]))]))]))]))])), (6, (.br [(1, (.br [(3, (.br [(4, (.br [(5, (.br [(7, (.br []))]))]))]))]))]))])), (6, (.br [(1, (.br [(2, (.br [(3, (.br [(4, (.br [(5, (.br [(7, (.br []))]))]))]))]))])), (2, (.br [(1, (.br [(3, (.br [(4, (.br [(5, (.br [(7, (.br []))]))]))]))]))]))]))])), (1, (.br [(0, (.br [(2, (.br [(3, (.br [(4, (.br [(5, (.br [(6, (.br [(7, (.br []))]))])), (6, (.br [(5, (.br [(7, (.br []))]))]))])), (6, (.br [(4, (.br [(5, (.br [(7, (.br []))]))]))]))])), (6, (.br [(3, (.br [(4, (.br [(5, (.br [(7, (.br []))]))]))]))]))])), (6, (.br [(2, (.br [(3, (.br [(4, (.br [(5, (.br [(7, (.br []))]))]))]))]))]))])), (2, (.br [(0, (.br [(3, (.br [(4, (.br [(5, (.br [(6, (.br [(7, (.br []))]))])), (6, (.br [(5, (.br [(7, (.br []))]))]))])), (6, (.br [(4, (.br [(5, (.br [(7, (.br []))]))]))]))])), (6, (.br [(3, (.br [(4, (.br [(5, (.br [(7, (.br []))]))]))]))]))])), (3, (.br [(0, (.br [(4, (.br [(5, (.br [(6, (.br [(7, (.br []))]))])), (6, (.br [(5, (.br [(7, (.br []))]))]))])), (6, (.br [(4, (.br [(5, (.br [(7, (.br []))]))]))]))])), (4, (.br [(0, (.br [(5, (.br [(6, (.br [(7, (.br []))]))])), (6, (.br [(5, (.br [(7, (.br []))]))]))])), (6, (.br [(0, (.br [(5, (.br [(7, (.br []))]))]))]))])), (6, (.br [(0, (.br [(4, (.br [(5, (.br [(7, (.br []))]))]))])), (4, (.br [(0, (.br [(5, (.br [(7, (.br []))]))]))]))]))])), (6, (.br [(0, (.br [(3, (.br [(4, (.br [(5, (.br [(7, (.br []))]))]))]))])), (3, (.br [(0, (.br [(4, (.br [(5, (.br [(7, (.br []))]))]))])), (4, (.br [(0, (.br [(5, (.br [(7, (.br []))]))]))]))]))]))])), (6, (.br [(0, (.br [(2, (.br [(3, (.br [(4, (.br [(5, (.br [(7, (.br []))]))]))]))]))])), (2, (.br [(0, (.br [(3, (.br [(4, (.br [(5, (.br [(7, (.br []))]))]))]))])), (3, (.br [(0, (.br [(4, (.br [(5, (.br [(7, (.br []))]))]))])), (4, (.br [(0, (.br [(5, (.br [(7, (.br []))]))]))]))]))]))]))])), (2, (.br [(0, (.br [(1, (.br [(3, (.br [(4, (.br [(5, (.br [(6, (.br [(7, (.br []))]))])), (6, (.br [(5, (.br [(7, (.br []))]))]))])), (6, (.br [(4, (.br [(5, (.br [(7, (.br []))]))]))]))])), (6, (.br [(3, (.br [(4, (.br [(5, (.br [(7, (.br []))]))]))]))]))])), (6, (.br [(1, (.br [(3, (.br [(4, (.br [(5, (.br [(7, (.br []))]))]))]))]))]))])), (1, (.br [(0, (.br [(3, (.br [(4, (.br [(5, (.br [(6, (.br [(7, (.br []))]))])), (6, (.br [(5, (.br [(7, (.br []))]))]))])), (6, (.br [(4, (.br [(5, (.br [(7, (.br []))]))]))]))])), (6, (.br [(3, (.br [(4, (.br [(5, (.br [(7, (.br []))]))]))]))]))])), (3, (.br [(0, (.br [(4, (.br [(5, (.br [(6, (.br [(7, (.br []))]))])), (6, (.br [(5, (.br [(7, (.br []))]))]))])), (6, (.br [(4, (.br [(5, (.br [(7, (.br []))]))]))]))])), (4, (.br [(0, (.br [(5, (.br [(6, (.br [(7, (.br []))]))])), (6, (.br [(5, (.br [(7, (.br []))]))]))])), (6, (.br [(0, (.br [(5, (.br [(7, (.br []))]))]))]))])), (6, (.br [(0, (.br [(4, (.br [(5, (.br [(7, (.br []))]))]))])), (4, (.br [(0, (.br [(5, (.br [(7, (.br []))]))]))]))]))])), (6, (.br [(0, (.br [(3, (.br [(4, (.br [(5, (.br [(7, (.br []))]))]))]))])), (3, (.br [(0, (.br [(4, (.br [(5, (.br [(7, (.br []))]))]))])), (4, (.br [(0, (.br [(5, (.br [(7, (.br []))]))]))]))]))]))])), (6, (.br [(0, (.br [(1, (.br [(3, (.br [(4, (.br [(5, (.br [(7, (.br []))]))]))]))]))])), (1, (.br [(0, (.br [(3, (.br [(4, (.br [(5, (.br [(7, (.br []))]))]))]))])), (3, (.br [(0, (.br [(4, (.br [(5, (.br [(7, (.br []))]))]))])), (4, (.br [(0, (.br [(5, (.br [(7, (.br []))]))]))]))]))]))]))])), (6, (.br [(0, (.br [(1, (.br [(2, (.br [(3, (.br [(4, (.br [(5, (.br [(7, (.br []))]))]))]))]))])), (2, (.br [(1, (.br [(3, (.br [(4, (.br [(5, (.br [(7, (.br []))]))]))]))]))]))])), (1, (.br [(0, (.br [(2, (.br [(3, (.br [(4, (.br [(5, (.br [(7, (.br []))]))]))]))]))])), (2, (.br [(0, (.br [(3, (.br [(4, (.br [(5, (.br [(7, (.br []))]))]))]))])), (3, (.br [(0, (.br [(4, (.br [(5, (.br [(7, (.br []))]))]))])), (4, (.br [(0, (.br [(5, (.br [(7, (.br []))]))]))]))]))]))])), (2, (.br [(0, (.br [(1, (.br [(3, (.br [(4, (.br [(5, (.br [(7, (.br []))]))]))]))]))])), (1, (.br [(0, (.br [(3, (.br [(4, (.br [(5, (.br [(7, (.br []))]))]))]))])), (3, (.br [(0, (.br [(4, (.br [(5, (.br [(7, (.br []))]))]))])), (4, (.br [(0, (.br [(5, (.br [(7, (.br []))]))]))]))]))]))]))]))])) ((.seq ((.seq (.reg false [⟨none, .mv 8 (.c (.sc (.int .i64 0)))⟩]) (.blk 0 (.loop ((.seq ((.seq (.reg false [⟨none, .mv 21 (.t 8)⟩, ⟨none, .fa 22 0 (.t 4)⟩, ⟨none, .ld 23 false 1 (.t 22)⟩, ⟨none, .bin 24 .lss (.t 21) (.t 23)⟩]) (.cond (.t 24) (.skip) (.exit 0)))) ((.seq (.blk 1 ((.seq (.reg false [⟨none, .bs 27 1 (.sc (.bool false)) 0 []⟩, ⟨none, .mv 9 (.t 27)⟩]) ((.seq ((.seq (.reg false [⟨none, .mv 10 (.c (.sc (.int .i64 0)))⟩]) (.blk 2 (.loop ((.seq ((.seq (.reg false [⟨none, .mv 28 (.t 10)⟩, ⟨none, .fa 29 2 (.t 7)⟩, ⟨none, .ld 30 false 1 (.t 29)⟩, ⟨none, .bin 31 .lss (.t 28) (.t 30)⟩]) (.cond (.t 31) (.skip) (.exit 2)))) ((.seq (.blk 3 (.reg false [⟨none, .mv 34 (.t 9)⟩, ⟨none, .mv 35 (.t 0)⟩, ⟨none, .wcl (some 36) f2 [(.t 35), (.c (.sc (.int .i64 2)))]⟩, ⟨none, .bs 37 1 (.sc (.bool false)) 1 [(0, (.t 36))]⟩, ⟨none, .app 38 1 1 (.t 34) (.t 37)⟩, ⟨none, .mv 9 (.t 38)⟩])) (.reg false [⟨none, .mv 32 (.t 10)⟩, ⟨none, .bin 33 .add (.t 32) (.c (.sc (.int .i64 1)))⟩, ⟨none, .mv 10 (.t 33)⟩]))))))))) (.reg false [⟨none, .fa 39 3 (.t 7)⟩, ⟨none, .ld 40 false 1 (.t 39)⟩, ⟨none, .mv 41 (.t 9)⟩, ⟨none, .bs 42 1 (.ls (some true) 1 []) 1 [(0, (.t 41))]⟩, ⟨none, .app 43 1 24 (.t 40) (.t 42)⟩, ⟨none, .fa 44 3 (.t 7)⟩, ⟨none, .st 1 (.t 44) (.t 43)⟩])))))) (.reg false [⟨none, .mv 25 (.t 8)⟩, ⟨none, .bin 26 .add (.t 25) (.c (.sc (.int .i64 1)))⟩, ⟨none, .mv 8 (.t 26)⟩]))))))))) ((.seq ((.seq (.reg false [⟨none, .mv 11 (.c (.sc (.int .i64 0)))⟩]) (.blk 4 (.loop ((.seq ((.seq (.reg false [⟨none, .mv 45 (.t 11)⟩, ⟨none, .fa 46 1 (.t 4)⟩, ⟨none, .ld 47 false 1 (.t 46)⟩, ⟨none, .bin 48 .lss (.t 45) (.t 47)⟩]) (.cond (.t 48) (.skip) (.exit 4)))) ((.seq (.blk 5 ((.seq (.reg false [⟨none, .fa 51 2 (.t 7)⟩, ⟨none, .ld 52 false 1 (.t 51)⟩, ⟨none, .call (some 53) f3 [(.t 52)]⟩, ⟨none, .mv 12 (.t 53)⟩]) ((.seq ((.seq (.reg false [⟨none, .mv 13 (.c (.sc (.int .i64 0)))⟩]) (.blk 6 (.loop ((.seq ((.seq (.reg false [⟨none, .mv 54 (.t 13)⟩, ⟨none, .fa 55 2 (.t 7)⟩, ⟨none, .ld 56 false 1 (.t 55)⟩, ⟨none, .bin 57 .lss (.t 54) (.t 56)⟩]) (.cond (.t 57) (.skip) (.exit 6)))) ((.seq (.blk 7 ((.seq (.reg false [⟨none, .mv 60 (.t 0)⟩, ⟨none, .wcl (some 61) f1 [(.t 60), (.c (.sc (.int .i64 3)))]⟩, ⟨none, .mv 14 (.t 61)⟩]) (.blk 8 (.loop ((.seq ((.seq (.reg false [⟨none, .mv 62 (.t 14)⟩, ⟨none, .bin 63 .gtr (.t 62) (.c (.sc (.int .i64 0)))⟩]) (.cond (.t 63) (.skip) (.exit 8)))) ((.seq (.blk 9 (.regL [⟨none, .mv 66 (.t 12)⟩, ⟨none, .mv 67 (.t 13)⟩, ⟨none, .ia 68 1 (.t 66) (.t 67)⟩, ⟨none, .ld 69 false 1 (.t 68)⟩, ⟨none, .mv 70 (.t 0)⟩, ⟨none, .fa 71 2 (.t 7)⟩, ⟨none, .ld 72 false 1 (.t 71)⟩] [([(.ia 68 1 (.t 66) (.t 67)), (.ld 69 false 1 (.t 68))], ⟨none, .wcl (some 73) f1 [(.t 70), (.t 72)]⟩), ([(.ia 68 1 (.t 66) (.t 67)), (.ld 69 false 1 (.t 68))], ⟨none, .ia 74 1 (.t 69) (.t 73)⟩), ([], ⟨none, .st 1 (.t 74) (.c (.sc (.bool true)))⟩)])) (.reg false [⟨none, .mv 64 (.t 14)⟩, ⟨none, .bin 65 .sub (.t 64) (.c (.sc (.int .i64 1)))⟩, ⟨none, .mv 14 (.t 65)⟩])))))))))) (.reg false [⟨none, .mv 58 (.t 13)⟩, ⟨none, .bin 59 .add (.t 58) (.c (.sc (.int .i64 1)))⟩, ⟨none, .mv 13 (.t 59)⟩]))))))))) (.reg false [⟨none, .fa 75 4 (.t 7)⟩, ⟨none, .ld 76 false 1 (.t 75)⟩, ⟨none, .mv 77 (.t 12)⟩, ⟨none, .bs 78 1 (.ls (some true) 1 []) 1 [(0, (.t 77))]⟩, ⟨none, .app 79 1 24 (.t 76) (.t 78)⟩, ⟨none, .fa 80 4 (.t 7)⟩, ⟨none, .st 1 (.t 80) (.t 79)⟩])))))) (.reg false [⟨none, .mv 49 (.t 11)⟩, ⟨none, .bin 50 .add (.t 49) (.c (.sc (.int .i64 1)))⟩, ⟨none, .mv 11 (.t 50)⟩]))))))))) ((.seq (.reg false [⟨none, .ld 81 true 5 (.t 7)⟩, ⟨none, .st 5 (.t 6) (.t 81)⟩]) (.ret))))))))))
def K_l05Draw (P : Program) (fno : Nat) : Prop := ∀ (nn : Option Bool) (c : List Int) (a sd : Int) (g : Int × Int) (m : Int), srcOk c → okG g = true → 0 ≤ a → a ≤ 100000000 → 1 ≤ m → m ≤ 8 → ∃ a' sd' mo, a ≤ a' ∧ a' ≤ a + 300 ∧ mo.1 = g ∧ okMo mo = true ∧ mo.2.1 ≤ m ∧ 1 ≤ mo.2.1 ∧ AFW P fno [uS nn c a sd] [.pw 3000000000 0 0, .im none (eG g), .im none (eI m)] [uS nn c a' sd'] (.own (eM mo))
theorem a_l05Draw {P : Program} (hm : P.follows .mixedOrders = true) {g f1 f2 f3 : Nat} (hr : resF P g = some (82, k_l05Draw f1 f2 f3, [.c 6 5 true])) (hc1 : K_srcPick P f1) (hc2 : K_srcOne P f2) (hc3 : K_l05None P f3) : K_l05Draw P g := by
  intro nn c a sd g m hc hg h0 hA hm1 hm8
  obtain ⟨F, hF⟩ := one_fun hc2 nn hc
  obtain ⟨G, hG⟩ := pick_fun hc1 nn hc
  obtain ⟨g1, g2⟩ := g
  have hgb : 0 ≤ g1 ∧ g1 ≤ 3 ∧ 0 ≤ g2 ∧ g2 ≤ 4 := by simp [okG, isIn] at hg; omega
  obtain ⟨T, rfl⟩ : ∃ T : Nat, g1 = T := ⟨g1.toNat, by omega⟩
  obtain ⟨A, rfl⟩ : ∃ A : Nat, g2 = A := ⟨g2.toNat, by omega⟩
  obtain ⟨z1, z2, z3, z4, z5, hP⟩ := hG m a sd h0 (by omega)
  generalize hr0 : G m a sd = r0 at z1 z2 z3 z4 z5 hP
  obtain ⟨x0, a0, sd0⟩ := r0
  simp only at z1 z2 z3 z4 z5 hP
  obtain ⟨p, hp⟩ : ∃ p : Nat, 1 + x0 = p := ⟨(1 + x0).toNat, by omega⟩
  have hx0 : x0 < m := (Int.lt_or_le 1 m).elim (fun h => z5 h) (fun h => by have := z4 h; omega)
  have hp8 : p ≤ 8 := by omega
  have wp : IntKind.i64.wrap (1 + x0) = p := by rw [wrap_i64 (by omega) (by omega), hp]
  obtain ⟨s, hs1, hs2⟩ : ∃ s : Int × Int, a0 = s.1 ∧ sd0 = s.2 := ⟨(a0, sd0), rfl, rfl⟩
  subst hs1 hs2
  obtain ⟨t1, t2⟩ := tSt_bd hF hp8 T s (by omega) (by omega)
  obtain ⟨t3, t4⟩ := aSt_bd hG hp8 A (tSt F p T s) (by omega) (by omega)
  refine ⟨(aSt G p A (tSt F p T s)).1, (aSt G p A (tSt F p T s)).2, moF F G T A p s, by omega, by omega, rfl, moF_ok hF hg hp8 (by omega) (by omega) (by omega), by show (p : Int) ≤ m; omega, by show (1 : Int) ≤ p; omega, ?_⟩
  rw [moF_eq]
  refine afw_of_res (wv := .no) hr hm rfl rfl rfl fun hb ha => ?_
  simp +contextual -implicitDefEqProofs only [k_l05Draw, uS, srcD, eI, eG, D.size, D.sizeL, bne, Bool.not_false, Bool.and_true, go_sem, ↓reduceIte, Nat.reduceEqDiff, Nat.reduceAdd, Nat.reduceBEq, Nat.reduceLT]
  refine vcA_self ⟨82, [(7, .pw 7 0 0), (6, .pw 6 0 0), (4, .pw 4 0 0), (0, .pw 3000000000 0 0), (2, .im none (.sc (.int .i64 m)))], [(7, .ar true (some false) 5 [.ag [.sc (.int .i64 T), .sc (.int .i64 A), .sc (.int .i64 p), .ls (some true) 1 [], .ls (some true) 1 []]]), (6, .ar true (some false) 5 [.ag [.sc (.int .i64 0), .sc (.int .i64 0), .sc (.int .i64 0), .ls (some true) 1 [], .ls (some true) 1 []]]), (4, .ar false (some false) 2 [.ag [.sc (.int .i64 T), .sc (.int .i64 A)]]), (3000000000, .ar false none 3 [.ag [.ls nn 1 (c.map eU), .sc (.int .i64 (s).1), .sc (.int .u64 (s).2)]])]⟩ ?_ ?_
  · simp (maxSteps := 50000000) +contextual -implicitDefEqProofs only [D.size, D.sizeL, D.isAg, D.sub, bne, Bool.not_false, Bool.and_true, go_sem, ↓reduceIte, Nat.reduceEqDiff, Nat.reduceAdd, Nat.reduceLeDiff, Nat.reduceBEq, Nat.reduceLT, Nat.reduceSub, decide_true, and_self, true_and, and_true, implies_true, Bool.false_eq_true, List.cons_append, List.nil_append]
    repeat' apply And.intro
    all_goals first
      | exact Ent.to [] (by simp only [go_sem]; rfl) rfl (by simp []) (by rfl) (by simp only [subEnv, go_sem, ↓reduceIte, Nat.reduceEqDiff, Nat.reduceBEq, keep, memN, Bool.or_false, Bool.false_or, Bool.or_self] <;> simp)
      | (refine wcl_self [3000000000] [] (by rfl) (by rfl) (by rfl) hP rfl (by simp [wOut, outU, uS, srcD, noPtrs, D.noPtr, shWL, AV.shW, posW, shUs, U.shW, St.unit, lu]) ?_
         simp (maxSteps := 50000000) +contextual -implicitDefEqProofs only [uS, srcD, eI, wp, D.put, D.cells, D.size, D.sizeL, D.isAg, D.sub, modeOf, noPtrs, bne, Bool.not_false, Bool.and_true, Bool.or_true, Bool.or_false, go_sem, eI, ↓reduceIte, Nat.reduceEqDiff, Nat.reduceAdd, Nat.reduceLeDiff, Nat.reduceBEq, Nat.reduceLT, and_self, true_and, implies_true, Bool.false_eq_true, List.cons_append, List.nil_append]
         repeat' apply And.intro
         all_goals exact Ent.to [] (by simp only [go_sem]; rfl) rfl (by simp []) (by rfl) (by simp only [subEnv, go_sem, ↓reduceIte, Nat.reduceEqDiff] <;> simp))
  simp +contextual -implicitDefEqProofs only [go_sem, ↓reduceIte]
  refine vc_onU (α := Nat) [8, 9, 10, 21, 22, 23, 24, 25, 26, 27, 28, 29, 30, 31, 32, 33, 34, 35, 36, 37, 38, 39, 40, 41, 42, 43, 44] (fun i => [(8, .im none (.sc (.int .i64 i)))]) (fun i => [(7, .ar true (some false) 5 [.ag [.sc (.int .i64 T), .sc (.int .i64 A), .sc (.int .i64 p), .ls (nnI i) 1 (tabL i fun (q : Nat) => .ls (some false) 1 ((rowM F p (tSt F p q s)).1.map eB)), .ls (some true) 1 []]]), (6, .ar true (some false) 5 [.ag [.sc (.int .i64 0), .sc (.int .i64 0), .sc (.int .i64 0), .ls (some true) 1 [], .ls (some true) 1 []]]), (4, .ar false (some false) 2 [.ag [.sc (.int .i64 T), .sc (.int .i64 A)]]), (3000000000, .ar false none 3 [.ag [.ls nn 1 (c.map eU), .sc (.int .i64 (tSt F p i s).1), .sc (.int .u64 (tSt F p i s).2)]])]) (fun i => i ≤ T) (fun i => T - i) 0 (Ent.to [] (by simp only [go_sem]; rfl) rfl (by simp [nnI, tabL_at0X, tSt]) (by rfl) (by simp only [subEnv, go_sem, ↓reduceIte, Nat.reduceEqDiff, keep, memN] <;> simp)) (Nat.zero_le _) ?_
  intro i hi0
  obtain ⟨ti1, ti2⟩ := tSt_bd hF hp8 i s (by omega) (by omega)
  by_cases hi : i < T
  · simp +contextual -implicitDefEqProofs only [hi, Int.ofNat_lt, D.isAg, D.sub, bne, Bool.not_false, Bool.and_true, go_sem, ↓reduceIte, Nat.reduceEqDiff, Nat.reduceLeDiff, Nat.reduceBEq, Nat.reduceLT]
    refine vc_onU (α := Nat) [9, 10, 27, 28, 29, 30, 31, 32, 33, 34, 35, 36, 37, 38] (fun j => [(10, .im none (.sc (.int .i64 j))), (9, .sm 27 0 j)]) (fun j => [(27, .ar true (some false) 1 ((rowM F j (tSt F p i s)).1.map eB)), (7, .ar true (some false) 5 [.ag [.sc (.int .i64 T), .sc (.int .i64 A), .sc (.int .i64 p), .ls (nnI i) 1 (tabL i fun (q : Nat) => .ls (some false) 1 ((rowM F p (tSt F p q s)).1.map eB)), .ls (some true) 1 []]]), (6, .ar true (some false) 5 [.ag [.sc (.int .i64 0), .sc (.int .i64 0), .sc (.int .i64 0), .ls (some true) 1 [], .ls (some true) 1 []]]), (4, .ar false (some false) 2 [.ag [.sc (.int .i64 T), .sc (.int .i64 A)]]), (3000000000, .ar false none 3 [.ag [.ls nn 1 (c.map eU), .sc (.int .i64 ((rowM F j (tSt F p i s)).2).1), .sc (.int .u64 ((rowM F j (tSt F p i s)).2).2)]])]) (fun j => j ≤ p) (fun j => p - j) 0 (Ent.to [] (by simp only [go_sem]; rfl) rfl (by simp [rowM]) (by rfl) (by simp only [subEnv, go_sem, ↓reduceIte, Nat.reduceEqDiff, keep, memN] <;> simp)) (Nat.zero_le _) ?_
    intro j hj0
    obtain ⟨rj1, rj2, rj3⟩ := rowM_bd hF j (tSt F p i s) (by omega) (by omega)
    by_cases hj : j < p
    · have hO := (hF (rowM F j (tSt F p i s)).2.1 (rowM F j (tSt F p i s)).2.2 (by omega) (by omega)).2.2
      simp +contextual -implicitDefEqProofs only [hj, Int.ofNat_lt, D.isAg, D.sub, go_sem, ↓reduceIte, Nat.reduceEqDiff, Nat.reduceAdd, Nat.reduceLeDiff, Nat.reduceLT]
      refine wcl_self [3000000000] [] (by rfl) (by rfl) (by rfl) hO rfl (by simp [wOut, outU, uS, srcD, noPtrs, D.noPtr, shWL, AV.shW, posW, shUs, U.shW, St.unit, lu]) ?_
      simp +contextual -implicitDefEqProofs only [uS, srcD, eB, rj3, List.length_map, D.size, modeOf, noPtrs, bne, Bool.not_false, Bool.and_true, Bool.or_true, Bool.or_false, go_sem, ↓reduceIte, Nat.reduceEqDiff, Nat.reduceLeDiff, Nat.reduceMul, Nat.reduceBEq, Nat.reduceLT]
      refine ⟨rfl, ⟨by omega, by unfold maxEl; omega, by simp [D.size]⟩, j + 1, by omega, by omega, ?_⟩
      rw [wrap_i64 (by omega) (by omega)]
      exact Ent.to [] (by simp only [go_sem]; rfl) rfl (by simp [rowM, eB]) (by rfl) (by simp only [subEnv, go_sem, ↓reduceIte, Nat.reduceEqDiff] <;> simp)
    · obtain rfl : p = j := by omega
      simp +contextual -implicitDefEqProofs only [hj, Int.ofNat_lt, rj3, D.put, D.cells, D.size, D.isAg, D.sub, modeOf, noPtrs, List.length_map, bne, Bool.not_false, Bool.false_and, Bool.and_true, Bool.or_true, Bool.or_false, go_sem, ↓reduceIte, Nat.reduceEqDiff, Nat.reduceAdd, Nat.reduceLeDiff, Nat.reduceMul, Nat.reduceBEq, Nat.reduceLT]
      refine ⟨rfl, ⟨by rw [tabL_len]; omega, by rw [tabL_len]; unfold maxEl; omega, by simp [D.size]⟩, i + 1, by omega, by omega, ?_⟩
      rw [wrap_i64 (by omega) (by omega)]
      exact Ent.to [] (by simp only [go_sem]; rfl) rfl (by simp [nnI, tabL_succ, tSt]) (by rfl) (by simp only [subEnv, go_sem, ↓reduceIte, Nat.reduceEqDiff] <;> simp)
  · obtain rfl : T = i := by omega
    simp +contextual -implicitDefEqProofs only [hi, Int.ofNat_lt, D.isAg, D.sub, go_sem, ↓reduceIte, Nat.reduceEqDiff, Nat.reduceLeDiff, Nat.reduceLT]
    refine vc_onU (α := Nat) [11, 12, 13, 14, 45, 46, 47, 48, 49, 50, 51, 52, 53, 54, 55, 56, 57, 58, 59, 60, 61, 62, 63, 64, 65, 66, 67, 68, 69, 70, 71, 72, 73, 74, 75, 76, 77, 78, 79, 80] (fun i => [(11, .im none (.sc (.int .i64 i)))]) (fun i => [(7, .ar true (some false) 5 [.ag [.sc (.int .i64 T), .sc (.int .i64 A), .sc (.int .i64 p), .ls (nnI T) 1 (tabL T fun (q : Nat) => .ls (some false) 1 ((rowM F p (tSt F p q s)).1.map eB)), .ls (nnI i) 1 (tabL i fun (q : Nat) => .ls (some false) 1 (rD p (tabF G p p (aSt G p q (tSt F p T s))).1))]]), (6, .ar true (some false) 5 [.ag [.sc (.int .i64 0), .sc (.int .i64 0), .sc (.int .i64 0), .ls (some true) 1 [], .ls (some true) 1 []]]), (4, .ar false (some false) 2 [.ag [.sc (.int .i64 T), .sc (.int .i64 A)]]), (3000000000, .ar false none 3 [.ag [.ls nn 1 (c.map eU), .sc (.int .i64 ((aSt G p i (tSt F p T s))).1), .sc (.int .u64 ((aSt G p i (tSt F p T s))).2)]])]) (fun i => i ≤ A) (fun i => A - i) 0 (Ent.to [] (by simp only [go_sem]; rfl) rfl (by simp [nnI, tabL_at0X, aSt]) (by rfl) (by simp only [subEnv, go_sem, ↓reduceIte, Nat.reduceEqDiff, keep, memN] <;> simp)) (Nat.zero_le _) ?_
    intro i hi0
    obtain ⟨ai1, ai2⟩ := aSt_bd hG hp8 i (tSt F p T s) (by omega) (by omega)
    by_cases hi : i < A
    · simp +contextual -implicitDefEqProofs only [hi, Int.ofNat_lt, D.isAg, D.sub, go_sem, ↓reduceIte, Nat.reduceEqDiff, Nat.reduceAdd, Nat.reduceLeDiff, Nat.reduceLT]
      refine callQ_self (ds := [eI p]) (by rfl) (hc3 p (by omega)) ?_
      simp +contextual -implicitDefEqProofs only [rD_len, bne, Bool.not_false, Bool.and_true, go_sem, ↓reduceIte, Nat.reduceBEq]
      refine vc_onU (α := Nat) [13, 14, 54, 55, 56, 57, 58, 59, 60, 61, 62, 63, 64, 65, 66, 67, 68, 69, 70, 71, 72, 73, 74] (fun x => [(13, .im none (.sc (.int .i64 x)))]) (fun x => [(53, .ar true (some false) 1 (rD p (tabF G p x (aSt G p i (tSt F p T s))).1)), (7, .ar true (some false) 5 [.ag [.sc (.int .i64 T), .sc (.int .i64 A), .sc (.int .i64 p), .ls (nnI T) 1 (tabL T fun (q : Nat) => .ls (some false) 1 ((rowM F p (tSt F p q s)).1.map eB)), .ls (nnI i) 1 (tabL i fun (q : Nat) => .ls (some false) 1 (rD p (tabF G p p (aSt G p q (tSt F p T s))).1))]]), (6, .ar true (some false) 5 [.ag [.sc (.int .i64 0), .sc (.int .i64 0), .sc (.int .i64 0), .ls (some true) 1 [], .ls (some true) 1 []]]), (4, .ar false (some false) 2 [.ag [.sc (.int .i64 T), .sc (.int .i64 A)]]), (3000000000, .ar false none 3 [.ag [.ls nn 1 (c.map eU), .sc (.int .i64 ((tabF G p x (aSt G p i (tSt F p T s))).2).1), .sc (.int .u64 ((tabF G p x (aSt G p i (tSt F p T s))).2).2)]])]) (fun x => x ≤ p) (fun x => p - x) 0 (Ent.to [] (by simp only [go_sem]; rfl) rfl (by simp [tabF]) (by rfl) (by simp only [subEnv, go_sem, ↓reduceIte, Nat.reduceEqDiff, keep, memN] <;> simp)) (Nat.zero_le _) ?_
      intro x hx0
      obtain ⟨xi1, xi2⟩ := tabF_bd (p := p) hG x (aSt G p i (tSt F p T s)) (by omega) (by omega)
      by_cases hx : x < p
      · have hK := (hG 3 (tabF G p x (aSt G p i (tSt F p T s))).2.1 (tabF G p x (aSt G p i (tSt F p T s))).2.2 (by omega) (by omega)).2.2.2.2.2
        obtain ⟨k1, k2, k3, k4⟩ := kF_bd hG (r := tabF G p x (aSt G p i (tSt F p T s))) (by omega) (by omega)
        simp +contextual -implicitDefEqProofs only [hx, Int.ofNat_lt, D.isAg, D.sub, go_sem, ↓reduceIte, Nat.reduceEqDiff, Nat.reduceAdd, Nat.reduceLeDiff, Nat.reduceLT]
        refine wcl_self [3000000000] [] (by rfl) (by rfl) (by rfl) hK rfl (by simp [wOut, outU, uS, srcD, noPtrs, D.noPtr, shWL, AV.shW, posW, shUs, U.shW, St.unit, lu]) ?_
        simp +contextual -implicitDefEqProofs only [uS, srcD, eI, Bool.or_false, go_sem, ↓reduceIte, Nat.reduceEqDiff]
        refine vc_onU (α := Nat) [14, 62, 63, 64, 65, 66, 67, 68, 69, 70, 71, 72, 73, 74] (fun j => [(14, .im none (.sc (.int .i64 ((kF G (tabF G p x (aSt G p i (tSt F p T s)))).1 - (j : Int)))))]) (fun j => [(53, .ar true (some false) 1 (rD p (hitM G p x j ((tabF G p x (aSt G p i (tSt F p T s))).1, (kF G (tabF G p x (aSt G p i (tSt F p T s)))).2)).1)), (7, .ar true (some false) 5 [.ag [.sc (.int .i64 T), .sc (.int .i64 A), .sc (.int .i64 p), .ls (nnI T) 1 (tabL T fun (q : Nat) => .ls (some false) 1 ((rowM F p (tSt F p q s)).1.map eB)), .ls (nnI i) 1 (tabL i fun (q : Nat) => .ls (some false) 1 (rD p (tabF G p p (aSt G p q (tSt F p T s))).1))]]), (6, .ar true (some false) 5 [.ag [.sc (.int .i64 0), .sc (.int .i64 0), .sc (.int .i64 0), .ls (some true) 1 [], .ls (some true) 1 []]]), (4, .ar false (some false) 2 [.ag [.sc (.int .i64 T), .sc (.int .i64 A)]]), (3000000000, .ar false none 3 [.ag [.ls nn 1 (c.map eU), .sc (.int .i64 ((hitM G p x j ((tabF G p x (aSt G p i (tSt F p T s))).1, (kF G (tabF G p x (aSt G p i (tSt F p T s)))).2)).2).1), .sc (.int .u64 ((hitM G p x j ((tabF G p x (aSt G p i (tSt F p T s))).1, (kF G (tabF G p x (aSt G p i (tSt F p T s)))).2)).2).2)]])]) (fun j => j ≤ (kF G (tabF G p x (aSt G p i (tSt F p T s)))).1.toNat) (fun j => (kF G (tabF G p x (aSt G p i (tSt F p T s)))).1.toNat - j) 0 (Ent.to [] (by simp only [go_sem]; rfl) rfl (by simp [hitM, kF]) (by rfl) (by simp only [subEnv, go_sem, ↓reduceIte, Nat.reduceEqDiff, keep, memN] <;> simp [kF])) (Nat.zero_le _) ?_
        intro j hj0
        obtain ⟨hi1, hi2⟩ := hitM_bd (p := p) (x := x) hG j ((tabF G p x (aSt G p i (tSt F p T s))).1, (kF G (tabF G p x (aSt G p i (tSt F p T s)))).2) (by simp only; omega) (by simp only; omega)
        simp only at hi1 hi2
        by_cases hj : (kF G (tabF G p x (aSt G p i (tSt F p T s)))).1 - (j : Int) > 0
        · obtain ⟨y1, y2, y3, y4, y5, hY⟩ := hG p (hitM G p x j ((tabF G p x (aSt G p i (tSt F p T s))).1, (kF G (tabF G p x (aSt G p i (tSt F p T s)))).2)).2.1 (hitM G p x j ((tabF G p x (aSt G p i (tSt F p T s))).1, (kF G (tabF G p x (aSt G p i (tSt F p T s)))).2)).2.2 (by omega) (by omega)
          have y6 : (G p (hitM G p x j ((tabF G p x (aSt G p i (tSt F p T s))).1, (kF G (tabF G p x (aSt G p i (tSt F p T s)))).2)).2.1 (hitM G p x j ((tabF G p x (aSt G p i (tSt F p T s))).1, (kF G (tabF G p x (aSt G p i (tSt F p T s)))).2)).2.2).1 < p := (Int.lt_or_le 1 (p : Int)).elim (fun h => y5 h) (fun h => by have := y4 h; omega)
          have e1 := rD_at (R := (hitM G p x j ((tabF G p x (aSt G p i (tSt F p T s))).1, (kF G (tabF G p x (aSt G p i (tSt F p T s)))).2)).1) hx
          simp +contextual -implicitDefEqProofs only [hj, hx, e1, Int.ofNat_lt, D.isAg, D.sub, go_sem, ↓reduceIte, Nat.reduceEqDiff, Nat.reduceAdd, Nat.reduceLeDiff, Nat.reduceLT, Int.natCast_nonneg]
          refine wcl_self [3000000000] [] (by rfl) (by rfl) (by rfl) hY rfl (by simp [wOut, outU, uS, srcD, noPtrs, D.noPtr, shWL, AV.shW, posW, shUs, U.shW, St.unit, lu]) ?_
          simp +contextual -implicitDefEqProofs only [uS, srcD, eI, hx, e1, y3, y6, rD_len, rRow_len, inSet, rD_set, D.put, D.size, D.isAg, D.sub, Bool.or_false, go_sem, ↓reduceIte, Nat.reduceEqDiff, Nat.reduceLeDiff, Nat.reduceBEq, Nat.reduceLT, Int.ofNat_lt, Int.natCast_nonneg]
          refine ⟨by omega, j + 1, by omega, by omega, ?_⟩
          rw [wrap_i64 (by omega) (by omega), show (kF G (tabF G p x (aSt G p i (tSt F p T s)))).1 - (j : Int) - 1 = (kF G (tabF G p x (aSt G p i (tSt F p T s)))).1 - ((j + 1 : Nat) : Int) by omega]
          exact Ent.to [] (by simp only [go_sem]; rfl) rfl (by simp [hitM]) (by rfl) (by simp only [subEnv, go_sem, ↓reduceIte, Nat.reduceEqDiff] <;> simp)
        · have hjk : j = (kF G (tabF G p x (aSt G p i (tSt F p T s)))).1.toNat := by omega
          simp +contextual -implicitDefEqProofs only [hj, go_sem, ↓reduceIte, Nat.reduceEqDiff]
          refine ⟨x + 1, by omega, by omega, ?_⟩
          rw [wrap_i64 (by omega) (by omega), hjk]
          exact Ent.to [] (by simp only [go_sem]; rfl) rfl (by simp [tabF]) (by rfl) (by simp only [subEnv, go_sem, ↓reduceIte, Nat.reduceEqDiff] <;> simp)
      · obtain rfl : p = x := by omega
        simp +contextual -implicitDefEqProofs only [hx, Int.ofNat_lt, rD_len, D.put, D.cells, D.size, D.isAg, D.sub, modeOf, noPtrs, bne, Bool.not_false, Bool.true_and, Bool.false_and, Bool.and_true, Bool.or_true, Bool.or_false, go_sem, ↓reduceIte, Nat.reduceEqDiff, Nat.reduceAdd, Nat.reduceLeDiff, Nat.reduceMul, Nat.reduceBEq, Nat.reduceLT]
        refine ⟨rfl, ⟨by rw [tabL_len]; omega, by rw [tabL_len]; unfold maxEl; omega, by simp [D.size]⟩, i + 1, by omega, by omega, ?_⟩
        rw [wrap_i64 (by omega) (by omega)]
        exact Ent.to [] (by simp only [go_sem]; rfl) rfl (by simp [nnI, tabL_succ, aSt]) (by rfl) (by simp only [subEnv, go_sem, ↓reduceIte, Nat.reduceEqDiff] <;> simp)
    · obtain rfl : A = i := by omega
      simp +contextual -implicitDefEqProofs only [hi, Int.ofNat_lt, D.put, D.size, D.sizeL, D.isAg, D.sub, modeOf, noPtrs, Bool.true_and, Bool.and_true, Bool.and_false, go_sem, ↓reduceIte, Nat.reduceEqDiff, Nat.reduceAdd, Nat.reduceLeDiff, Nat.reduceLT]
end Go.Ax
