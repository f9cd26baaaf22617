/- THE ENGINE, PART 2: a generator of conditions over the register code, and its soundness. No condition. -/
import Derived.Test.YtjnghfepojipiaaEnA
set_option linter.unusedSimpArgs false
set_option linter.unusedVariables false
set_option linter.unnecessarySimpa false
set_option linter.unusedSectionVars false
namespace Go.Ax

section
variable {P : Program} {st : St} {K : Exit → St → Prop} {n : Nat} {env : List (Nat × AV)} {us : List (Nat × U)}

@[congr] theorem vcR_cg {c : RC} {st st' : St} (h : st = st') : vcR P c st K = vcR P c st' K := by rw [h]
@[congr] theorem vcOps_cg {l : List RO} {st st' : St} (h : st = st') : vcOps P l st K = vcOps P l st' K := by rw [h]
@[congr] theorem kops_cg {l : List RO} {st st' : St} (h : st = st') : kops P l K st = kops P l K st' := by rw [h]
@[congr] theorem kR_cg {c : RC} {st st' : St} (h : st = st') : kR P c K st = kR P c K st' := by rw [h]
@[congr] theorem kseq_cg {f : St → Prop} {e e' : Exit} {st st' : St} (h : e = e') (h' : st = st') : kseq f K e st = kseq f K e' st' := by rw [h, h']
@[congr] theorem kblk_cg {i : Nat} {e e' : Exit} {st st' : St} (h : e = e') (h' : st = st') : kblk i K e st = kblk i K e' st' := by rw [h, h']
@[congr] theorem kq_cg {f : St → Prop} {st st' : St} {d : Option Nat} {v v' : AV} {us us' : List (Nat × U)} (h : st = st') (hv : v = v') (hu : us = us') : kq f st d v us = kq f st' d v' us' := by rw [h, hv, hu]
@[congr] theorem condK_cg {c c' : AV} {p q : Prop} (h : c = c') : condK c p q = condK c' p q := by rw [h]
@[congr] theorem grdK_cg {c c' : AV} {b : Bool} {p q : Prop} (h : c = c') : grdK c b p q = grdK c' b p q := by rw [h]

@[go_sem ↓] theorem vcR_skip : vcR P .skip st K = K .normal st := rfl
@[go_sem ↓] theorem vcR_reg {b : Bool} {ops : List RO} : vcR P (.reg b ops) st K = vcOps P ops st K := rfl
@[congr] theorem vcEs_cg {l : List (List ROp × RO)} {st st' : St} (h : st = st') : vcEs P l st K = vcEs P l st' K := by rw [h]
@[congr] theorem kE_cg {l : List (List ROp × RO)} {e : Exit} {st st' : St} (h : st = st') : kE P l K e st = kE P l K e st' := by rw [h]
@[congr] theorem chkAll_cg {l : List ROp} {st st' : St} (h : st = st') : chkAll P l st = chkAll P l st' := by rw [h]
@[congr] theorem kC_cg {st st' : St} {d : Nat} {v v' : AV} {us : List (Nat × U)} (h : st = st') (hv : v = v') : kC st d v us = kC st' d v' us := by rw [h, hv]
@[go_sem ↓] theorem vcR_regA {R : List RO} {T : Tr} : vcR P (.regA R T) st K = vcA P R T st (K .normal) := rfl
@[go_sem ↓] theorem vcT_br0 {R : List RO} {k : St → Prop} : vcT P R (.br []) st k = k st := by simp [vcT, vcTs]
@[go_sem ↓] theorem vcT_br {R : List RO} {k : St → Prop} {x : Nat × Tr} {l : List (Nat × Tr)} : vcT P R (.br (x :: l)) st k = vcTs P R (x :: l) st k True := by
 simp only [vcT, reduceCtorEq, false_implies]
@[go_sem ↓] theorem vcTs_nil {R : List RO} {k : St → Prop} {q : Prop} : vcTs P R [] st k q = q := by simp only [vcTs]
@[go_sem ↓] theorem vcTs_cons {R : List RO} {k : St → Prop} {q : Prop} {i : Nat} {t : Tr} {l : List (Nat × Tr)} : vcTs P R ((i, t) :: l) st k q = (vcOps P [R.getD i default] st (fun _ s => vcT P R t s k) ∧ vcTs P R l st k q) := by simp only [vcTs]
@[congr] theorem vcEt_cg {T : TrE} {st st' : St} (h : st = st') : vcEt P T st K = vcEt P T st' K := by rw [h]
@[congr] theorem kT_cg {T : TrE} {e : Exit} {st st' : St} (h : st = st') : kT P T K e st = kT P T K e st' := by rw [h]
@[go_sem ↓] theorem vcR_regT {N : List RO} {T : TrE} : vcR P (.regT N T) st K = vcOps P N st (kT P T K) := rfl
@[go_sem ↓] theorem kT_ap {T : TrE} {e : Exit} : kT P T K e st = vcEt P T st K := rfl
@[go_sem ↓] theorem vcEt_br0 {cs : List ROp} : vcEt P (.br cs []) st K = (chkAll P cs st ∧ K .normal st) := by simp [vcEt, vcEts]
@[go_sem ↓] theorem vcEt_br {cs : List ROp} {x : RO × TrE} {l : List (RO × TrE)} : vcEt P (.br cs (x :: l)) st K = (chkAll P cs st ∧ vcEts P (x :: l) st K True) := by
 simp only [vcEt, reduceCtorEq, false_implies]
@[go_sem ↓] theorem vcEts_nil {q : Prop} : vcEts P [] st K q = q := by simp only [vcEts]
@[go_sem ↓] theorem vcEts_cons {q : Prop} {r : RO} {t : TrE} {l : List (RO × TrE)} : vcEts P ((r, t) :: l) st K q = (vcOps P [r] st (kT P t K) ∧ vcEts P l st K q) := by simp only [vcEts]; rfl
@[go_sem ↓] theorem vcR_regL {N : List RO} {E : List (List ROp × RO)} : vcR P (.regL N E) st K = vcOps P N st (kE P E K) := rfl
@[go_sem ↓] theorem kE_ap {l : List (List ROp × RO)} {e : Exit} : kE P l K e st = vcEs P l st K := rfl
@[go_sem ↓] theorem vcEs_nil : vcEs P [] st K = K .normal st := rfl
@[go_sem ↓] theorem vcEs_cons {cs : List ROp} {r : RO} {l : List (List ROp × RO)} : vcEs P ((cs, r) :: l) st K = (chkAll P cs st ∧ vcOps P [r] st (kE P l K)) := rfl
@[go_sem ↓] theorem chkAll_nil : chkAll P [] st = True := rfl
@[go_sem ↓] theorem chkAll_cons {c : ROp} {cs : List ROp} : chkAll P (c :: cs) st = (chkOp P c st ∧ chkAll P cs st) := rfl
@[go_sem] theorem kC_nil {d : Nat} {v : AV} : kC st d v [] = (v = st.get d) := by simp [kC]
@[go_sem ↓] theorem chk_mv {d : Nat} {x : X} : chkOp P (.mv d x) st = kC st d (st.ev x) [] := rfl
@[go_sem ↓] theorem chk_ld {d sz : Nat} {agg : Bool} {a : X} : chkOp P (.ld d agg sz a) st = ldK (st.ev a) st.unit agg sz (kC st d) := rfl
@[go_sem ↓] theorem chk_fa {d off : Nat} {x : X} : chkOp P (.fa d off x) st = faK (st.ev x) st.unit off (kC st d) := rfl
@[go_sem ↓] theorem chk_ia {d sz : Nat} {x i : X} : chkOp P (.ia d sz x i) st = iaK (st.ev x) (st.ev i) st.unit sz (kC st d) := rfl
@[go_sem ↓] theorem chk_len {d : Nat} {x : X} : chkOp P (.len d x) st = lenK (st.ev x) st.unit (kC st d) := rfl
@[go_sem ↓] theorem chk_nck {d : Nat} {x : X} : chkOp P (.nck d x) st = nckK (st.ev x) (kC st d) := rfl
@[go_sem ↓] theorem chk_ext {d i : Nat} {x : X} : chkOp P (.ext d x i) st = extK (st.ev x) i (kC st d) := rfl
@[go_sem ↓] theorem vcR_seq {a b : RC} : vcR P (.seq a b) st K = vcR P a st (kseq (kR P b K) K) := rfl
@[go_sem ↓] theorem vcR_cond {x : X} {a b : RC} : vcR P (.cond x a b) st K = condK (st.ev x) (vcR P a st K) (vcR P b st K) := rfl
@[go_sem ↓] theorem vcR_blk {i : Nat} {c : RC} : vcR P (.blk i c) st K = vcR P c st (kblk i K) := rfl
@[go_sem ↓] theorem vcR_exit {i : Nat} : vcR P (.exit i) st K = K (.exit i) st := rfl
@[go_sem ↓] theorem vcR_ret : vcR P .ret st K = K .ret st := rfl
@[go_sem ↓] theorem kR_ap {c : RC} : kR P c K st = vcR P c st K := rfl
@[go_sem ↓] theorem kops_ap {l : List RO} : kops P l K st = vcOps P l st K := rfl
@[go_sem ↓] theorem kseq_normal {f : St → Prop} : kseq f K .normal st = f st := rfl
@[go_sem ↓] theorem kseq_ret {f : St → Prop} : kseq f K .ret st = K .ret st := rfl
@[go_sem ↓] theorem kseq_exit {f : St → Prop} {i : Nat} : kseq f K (.exit i) st = K (.exit i) st := rfl
@[go_sem ↓] theorem kblk_normal {i : Nat} : kblk i K .normal st = K .normal st := rfl
@[go_sem ↓] theorem kblk_ret {i : Nat} : kblk i K .ret st = K .ret st := rfl
@[go_sem] theorem kblk_exit {i j : Nat} : kblk i K (.exit j) st = if j = i then K .normal st else K (.exit j) st := rfl
@[go_sem] theorem condK_b {t : Option Nat} {b : Bool} {p q : Prop} : condK (.im t (.sc (.bool b))) p q = ((b = true → p) ∧ (b = false → q)) := rfl
@[go_sem] theorem grdK_u {b : Bool} {p q : Prop} : grdK (.tup []) b p q = q := rfl
@[go_sem] theorem grdK_b {t : Option Nat} {c b : Bool} {p q : Prop} : grdK (.im t (.sc (.bool c))) b p q = ((c = b → p) ∧ (c = !b → q)) := rfl
@[go_sem ↓] theorem vcOps_nil : vcOps P [] st K = K .normal st := rfl
@[go_sem] theorem vcOps_grd {t : Nat} {b : Bool} {r : ROp} {l : List RO} : vcOps P (⟨some (t, b), r⟩ :: l) st K = grdK (st.get t) b (vcOps P (⟨none, r⟩ :: l) st K) (vcOps P l (st.setO r.dst (.tup [])) K) := rfl

@[go_sem] theorem kq_nil {f : St → Prop} {d : Option Nat} {v : AV} : kq f st d v [] = f (st.setO d v) := rfl
@[go_sem] theorem kq_cons {f : St → Prop} {d : Option Nat} {v : AV} {x : Nat × U} {us : List (Nat × U)} : kq f st d v (x :: us) = (st.fresh (x :: us) = true ∧ f ((st.addUs (x :: us)).setO d v)) := rfl
@[go_sem] theorem setO_some {d : Nat} {v : AV} : St.setO ⟨n, env, us⟩ (some d) v = ⟨n, (d, v) :: env, us⟩ := rfl
@[go_sem] theorem setO_none {v : AV} : St.setO ⟨n, env, us⟩ none v = ⟨n, env, us⟩ := rfl
@[go_sem] theorem set_lit {d : Nat} {v : AV} : St.set ⟨n, env, us⟩ d v = ⟨n, (d, v) :: env, us⟩ := rfl
@[go_sem] theorem addUs_lit {vs : List (Nat × U)} : St.addUs ⟨n, env, us⟩ vs = ⟨n, env, vs ++ us⟩ := rfl
@[go_sem] theorem ev_t {i : Nat} : St.ev ⟨n, env, us⟩ (.t i) = lk env i := rfl
@[go_sem] theorem ev_c {d : D} : st.ev (.c d) = litAV d := rfl
@[go_sem] theorem get_lit {i : Nat} : St.get ⟨n, env, us⟩ i = lk env i := rfl
@[go_sem] theorem unit_lit {i : Nat} : St.unit ⟨n, env, us⟩ i = lu us i := rfl
@[go_sem] theorem lk_cons {k t : Nat} {v : AV} {r : List (Nat × AV)} : lk ((k, v) :: r) t = if k = t then v else lk r t := rfl
@[go_sem] theorem lk_nil {t : Nat} : lk [] t = .any := rfl
@[go_sem] theorem lu_cons {k t : Nat} {v : U} {r : List (Nat × U)} : lu ((k, v) :: r) t = if k = t then some v else lu r t := rfl
@[go_sem] theorem lu_nil {t : Nat} : lu [] t = none := rfl
attribute [go_sem] killE killU killL U.kill AV.refs AV.refsL AV.soft AV.softL AV.softC noU
@[go_sem] theorem del_lit {k : Nat} : St.del ⟨n, env, us⟩ k = ⟨n, killE (AV.refs k) env, killU k (AV.refs k) us⟩ := rfl
@[go_sem] theorem updC_lit {k el : Nat} {u : U} : St.updC ⟨n, env, us⟩ k el u = ⟨n, killE (AV.softC k el) env, (k, u) :: killU k (AV.softC k el) us⟩ := rfl
@[go_sem] theorem upd_lit {k : Nat} {u : U} : St.upd ⟨n, env, us⟩ k u = ⟨n, killE (AV.soft k) env, (k, u) :: killU k (AV.soft k) us⟩ := rfl
@[go_sem] theorem upr_lit {k : Nat} {u : U} : St.upr ⟨n, env, us⟩ k u = ⟨n, killE (AV.refs k) env, (k, u) :: killU k (AV.refs k) us⟩ := rfl
@[go_sem] theorem fresh_nil : st.fresh [] = true := rfl
@[go_sem] theorem fresh_cons {x : Nat × U} {r : List (Nat × U)} : St.fresh ⟨n, env, us⟩ (x :: r) = (noU x.1 us && noU x.1 r && St.fresh ⟨n, env, us⟩ r) := rfl
@[go_sem ↓] theorem vcOps_mv {d : Nat} {x : X} {l : List RO} : vcOps P (⟨none, .mv d x⟩ :: l) st K = kq (kops P l K) st (some d) (st.ev x) [] := rfl
@[go_sem ↓] theorem vcOps_pick {d : Nat} {c a b : X} {l : List RO} : vcOps P (⟨none, .pick d c a b⟩ :: l) st K = pickK (st.ev c) (st.ev a) (st.ev b) (kq (kops P l K) st (some d)) := rfl
@[go_sem ↓] theorem vcOps_box {d sz : Nat} {x : X} {l : List RO} : vcOps P (⟨none, .box d sz x⟩ :: l) st K = boxK (st.ev x) st.unit d sz (kq (kops P l K) st (some d)) := rfl
@[go_sem ↓] theorem vcOps_zer {d sz : Nat} {z : D} {l : List RO} : vcOps P (⟨none, .zer d sz z⟩ :: l) st K = ((0 < sz ∧ z.size = sz ∧ z.noPtr = true) ∧ kq (kops P l K) st (some d) (.pw d 0 0) [(d, .ar true (some false) sz [z])]) := rfl
@[go_sem ↓] theorem vcOps_ld {d sz : Nat} {g : Bool} {a : X} {l : List RO} : vcOps P (⟨none, .ld d g sz a⟩ :: l) st K = ldK (st.ev a) st.unit g sz (kq (kops P l K) st (some d)) := rfl
@[go_sem ↓] theorem vcOps_nck {d : Nat} {x : X} {l : List RO} : vcOps P (⟨none, .nck d x⟩ :: l) st K = nckK (st.ev x) (kq (kops P l K) st (some d)) := rfl
@[go_sem ↓] theorem vcOps_bin {d : Nat} {op : BinOp} {x y : X} {l : List RO} : vcOps P (⟨none, .bin d op x y⟩ :: l) st K = binK op (st.ev x) (st.ev y) (kq (kops P l K) st (some d)) := rfl
@[go_sem ↓] theorem vcOps_beq {d : Nat} {neg : Bool} {x y : X} {l : List RO} : vcOps P (⟨none, .beq d neg x y⟩ :: l) st K = beqK neg (st.ev x) (st.ev y) (kq (kops P l K) st (some d)) := rfl
@[go_sem ↓] theorem vcOps_snil {d : Nat} {neg : Bool} {x y : X} {l : List RO} : vcOps P (⟨none, .snil d neg x y⟩ :: l) st K = snilK neg (st.ev x) (st.ev y) (kq (kops P l K) st (some d)) := rfl
@[go_sem ↓] theorem vcOps_ceq {d n : Nat} {neg : Bool} {x y : X} {l : List RO} : vcOps P (⟨none, .ceq d neg n x y⟩ :: l) st K = ceqK neg (st.ev x) (st.ev y) n (kq (kops P l K) st (some d)) := rfl
@[go_sem ↓] theorem vcOps_un {d : Nat} {op : UnOp} {x : X} {l : List RO} : vcOps P (⟨none, .un d op x⟩ :: l) st K = unK op (st.ev x) (kq (kops P l K) st (some d)) := rfl
@[go_sem ↓] theorem vcOps_cvt {d : Nat} {kd : IntKind} {x : X} {l : List RO} : vcOps P (⟨none, .cvt d kd x⟩ :: l) st K = cvtK kd (st.ev x) (kq (kops P l K) st (some d)) := rfl
@[go_sem ↓] theorem vcOps_mk {d sz bytes : Nat} {z : D} {q c : X} {l : List RO} : vcOps P (⟨none, .mk d sz bytes z q c⟩ :: l) st K = mkK (st.ev q) (st.ev c) d sz bytes z (kq (kops P l K) st (some d)) := rfl
@[go_sem ↓] theorem vcOps_slc {d sz : Nat} {x : X} {lo hi : Option X} {l : List RO} : vcOps P (⟨none, .slc d sz x lo hi⟩ :: l) st K = slcK (st.ev x) st.ev st.unit sz lo hi (kq (kops P l K) st (some d)) := rfl
@[go_sem ↓] theorem vcOps_fa {d off : Nat} {x : X} {l : List RO} : vcOps P (⟨none, .fa d off x⟩ :: l) st K = faK (st.ev x) st.unit off (kq (kops P l K) st (some d)) := rfl
@[go_sem ↓] theorem vcOps_mkf {d f : Nat} {xs : List X} {l : List RO} : vcOps P (⟨none, .mkf d f xs⟩ :: l) st K = kq (kops P l K) st (some d) (.cl f (xs.map st.ev)) [] := rfl
@[go_sem ↓] theorem vcOps_bse {d sz : Nat} {l : List RO} : vcOps P (⟨none, .bse d sz⟩ :: l) st K = (0 < sz ∧ kq (kops P l K) st (some d) (.z0 (some false) sz) []) := rfl
@[go_sem ↓] theorem vcOps_cvs {d : Nat} {x : X} {l : List RO} : vcOps P (⟨none, .cvs d x⟩ :: l) st K = cvsK (st.ev x) st.unit (kq (kops P l K) st (some d)) := rfl
@[congr] theorem cvsK_cg {x x' : AV} {un : Nat → Option U} {k : KQ} (h0 : x = x') : cvsK x un k = cvsK x' un k := by rw [h0]
@[go_sem] theorem cvsK_vb {id len : Nat} {un : Nat → Option U} {k : KQ} : cvsK (.vb id len) un k = cvsU (un id) len k := rfl
@[congr] theorem cvsU_cg {u u' : Option U} {len : Nat} {k : KQ} (h0 : u = u') : cvsU u len k = cvsU u' len k := by rw [h0]
@[go_sem] theorem cvsU_bx {sz len : Nat} {items : List AV} {k : KQ} : cvsU (some (.bx sz items)) len k = ((sz = 1 ∧ len = items.length) ∧ cvsB (bytesA items) k) := rfl
@[congr] theorem cvsB_cg {q q' : Option (List UInt8)} {k : KQ} (h0 : q = q') : cvsB q k = cvsB q' k := by rw [h0]
@[go_sem] theorem cvsB_some {bs : List UInt8} {k : KQ} : cvsB (some bs) k = k (.im none (.sc (.string ⟨bs.toArray⟩))) [] := rfl
@[go_sem] theorem bytesA_nil : bytesA [] = some [] := rfl
@[go_sem] theorem bytesA_cons {t : Option Nat} {n : Int} {r : List AV} : bytesA (.im t (.sc (.int .u8 n)) :: r) = (match bytesA r with | some bs => some (UInt8.ofNat n.toNat :: bs) | none => none) := by
 simp only [bytesA, byteA]
 cases bytesA r <;> rfl
@[go_sem ↓] theorem vcOps_zsb {d T E : Nat} {l : List RO} : vcOps P (⟨none, .zsb d T E⟩ :: l) st K = (d < 3000000000 ∧ kq (kops P l K) st (some d) (.ps d) [(d, .sb T E ⟨#[]⟩)]) := rfl
@[go_sem ↓] theorem vcOps_wcl {d : Option Nat} {g : Nat} {xs : List X} {l : List RO} : vcOps P (⟨none, .wcl d g xs⟩ :: l) st K = wclK P d g (xs.map st.ev) st (kops P l K) := rfl
@[congr] theorem wclK_cg {args args' : List AV} {d : Option Nat} {g : Nat} {st st' : St} {k : St → Prop} (h2 : args = args') (h3 : st = st') : wclK P d g args st k = wclK P d g args' st' k := by rw [h2, h3]
@[go_sem] theorem posW_nil {n k : Nat} : posW [] n k = none := rfl
@[go_sem] theorem posW_cons {i n k : Nat} {r : List Nat} : posW (i :: r) n k = if i = k then some n else posW r (n + 1) k := rfl
@[go_sem] theorem killW_eq {k1 k2 : List Nat} : killW k1 k2 = fun v => softW k1 v || refsW k2 v := rfl
@[go_sem] theorem softW_nil {v : AV} : softW [] v = false := rfl
@[go_sem] theorem softW_cons {i : Nat} {r : List Nat} {v : AV} : softW (i :: r) v = (v.soft i || softW r v) := rfl
@[go_sem] theorem refsW_nil {v : AV} : refsW [] v = false := rfl
@[go_sem] theorem refsW_cons {i : Nat} {r : List Nat} {v : AV} : refsW (i :: r) v = (v.refs i || refsW r v) := rfl
@[go_sem] theorem mapU_nil {ids k1 k2 : List Nat} {us' : List U} : mapU ids k1 k2 us' [] = [] := rfl
@[go_sem] theorem mapU_cons {ids k1 k2 : List Nat} {us' : List U} {i : Nat} {u : U} {r : List (Nat × U)} : mapU ids k1 k2 us' ((i, u) :: r) = if (posW k2 0 i).isSome = true then mapU ids k1 k2 us' r else (i, mapU1 (posW k1 0 i) ids k1 k2 us' u) :: mapU ids k1 k2 us' r := rfl
@[go_sem] theorem mapU1_none {ids k1 k2 : List Nat} {us' : List U} {u : U} : mapU1 none ids k1 k2 us' u = u.kill (killW k1 k2) := rfl
@[go_sem] theorem mapU1_some {q : Nat} {ids k1 k2 : List Nat} {us' : List U} {u : U} : mapU1 (some q) ids k1 k2 us' u = newU ids u (us'.getD q default) := rfl
@[congr] theorem mapU1_cg {q q' : Option Nat} {ids k1 k2 : List Nat} {us' : List U} {u : U} (h : q = q') : mapU1 q ids k1 k2 us' u = mapU1 q' ids k1 k2 us' u := by rw [h]
@[go_sem] theorem newU_ar {ids : List Nat} {ow : Bool} {nn : Option Bool} {sz : Nat} {es : List D} {ow' : Bool} {nn' : Option Bool} {sz' : Nat} {es' : List D} : newU ids (.ar ow nn sz es) (.ar ow' nn' sz' es') = .ar ow' nn sz' es' := rfl
@[go_sem] theorem newU_bx {ids : List Nat} {sz : Nat} {items : List AV} {sz' : Nat} {items' : List AV} : newU ids (.bx sz items) (.bx sz' items') = .bx sz' (unWL ids items') := rfl
@[go_sem] theorem unWL_nil {ids : List Nat} : unWL ids [] = [] := by simp [unWL]
@[go_sem] theorem unWL_cons {ids : List Nat} {v : AV} {vs : List AV} : unWL ids (v :: vs) = v.unW ids :: unWL ids vs := by simp [unWL]
@[go_sem] theorem unW_pw {ids : List Nat} {k el j : Nat} : AV.unW ids (.pw k el j) = .pw (ids.getD (k - 3000000000) 0) el j := by simp [AV.unW]
@[go_sem] theorem unW_pb {ids : List Nat} {k j : Nat} : AV.unW ids (.pb k j) = .pb (ids.getD (k - 3000000000) 0) j := by simp [AV.unW]
@[go_sem] theorem unW_cl {ids : List Nat} {f : Nat} {vs : List AV} : AV.unW ids (.cl f vs) = .cl f (unWL ids vs) := by simp [AV.unW]
@[go_sem] theorem unW_sg {ids : List Nat} {vs : List AV} : AV.unW ids (.sg vs) = .sg (unWL ids vs) := by simp [AV.unW]
@[go_sem] theorem unW_im {ids : List Nat} {t : Option Nat} {d : D} : AV.unW ids (.im t d) = .im t d := by simp [AV.unW]
@[go_sem] theorem idsD_zero {x d : Nat} {r : List Nat} : (x :: r).getD 0 d = x := rfl
@[go_sem] theorem idsD_one {x y d : Nat} {r : List Nat} : (x :: y :: r).getD 1 d = y := rfl
@[go_sem] theorem wusD_zero {x : U} {r : List U} : (x :: r).getD 0 default = x := rfl
@[go_sem] theorem wusD_one {x y : U} {r : List U} : (x :: y :: r).getD 1 default = y := rfl
@[go_sem] theorem wusD_two {x y z : U} {r : List U} : (x :: y :: z :: r).getD 2 default = z := rfl
@[go_sem] theorem updW_lit {k1 k2 : List Nat} {us' : List U} : St.updW ⟨n, env, us⟩ k1 k2 us' = ⟨n, killE (killW k1 k2) env, mapU (k1 ++ k2) k1 k2 us' us⟩ := rfl
@[go_sem] theorem wOut_nil {m : Nat} {b : Bool} {r : List U} : wOut m b r [] = True := by cases r <;> rfl
@[go_sem] theorem wOut_cons {m : Nat} {b : Bool} {u u' : U} {r r' : List U} : wOut m b (u :: r) (u' :: r') = (outU m b u u' ∧ wOut m b r r') := rfl
@[go_sem] theorem outU_ar {m : Nat} {b : Bool} {ow : Bool} {nn : Option Bool} {sz : Nat} {es : List D} {ow' : Bool} {nn' : Option Bool} {sz' : Nat} {es' : List D} : outU m b (.ar ow nn sz es) (.ar ow' nn' sz' es') = (nn' = none ∧ sz' = sz ∧ es'.length = es.length ∧ (b = true ∨ ow' = true ∨ noPtrs es' = true)) := rfl
@[go_sem] theorem outU_bx {m : Nat} {b : Bool} {sz : Nat} {items : List AV} {sz' : Nat} {items' : List AV} : outU m b (.bx sz items) (.bx sz' items') = (sz' = sz ∧ items'.length = items.length ∧ okWL m items' = true) := rfl
@[go_sem] theorem okWL_nil {m : Nat} : okWL m [] = true := by simp [okWL]
@[go_sem] theorem okWL_cons {m : Nat} {v : AV} {vs : List AV} : okWL m (v :: vs) = (v.okW m && okWL m vs) := by simp [okWL]
@[go_sem] theorem okW_im {m : Nat} {d : D} : AV.okW m (.im none d) = d.flat := by simp [AV.okW]
@[go_sem] theorem okW_pw {m k el j : Nat} : AV.okW m (.pw k el j) = (decide (3000000000 ≤ k) && decide (k < 3000000000 + m)) := by simp [AV.okW]
@[go_sem] theorem okW_pb {m k j : Nat} : AV.okW m (.pb k j) = (decide (3000000000 ≤ k) && decide (k < 3000000000 + m)) := by simp [AV.okW]
@[go_sem] theorem okW_cl {m f : Nat} {vs : List AV} : AV.okW m (.cl f vs) = okWL m vs := by simp [AV.okW]
@[go_sem] theorem okW_sg {m : Nat} {vs : List AV} : AV.okW m (.sg vs) = okWL m vs := by simp [AV.okW]
@[go_sem] theorem shWL_nil {ids : List Nat} : shWL ids [] = true := by simp [shWL]
@[go_sem] theorem shWL_cons {ids : List Nat} {v : AV} {r : List AV} : shWL ids (v :: r) = (v.shW ids && shWL ids r) := by simp [shWL]
@[go_sem] theorem shUs_nil {ids : List Nat} {un : Nat → Option U} : shUs ids un [] = true := rfl
@[go_sem] theorem shUs_cons {ids : List Nat} {un : Nat → Option U} {i : Nat} {r : List Nat} : shUs ids un (i :: r) = (U.shW ids (un i) && shUs ids un r) := rfl
@[go_sem] theorem ushW_ar {ids : List Nat} {ow : Bool} {nn : Option Bool} {sz : Nat} {es : List D} : U.shW ids (some (.ar ow nn sz es)) = true := rfl
@[go_sem] theorem ushW_own {ids : List Nat} {d : D} : U.shW ids (some (.own d)) = true := rfl
@[go_sem] theorem ushW_bx {ids : List Nat} {sz : Nat} {items : List AV} : U.shW ids (some (.bx sz items)) = shWL ids items := rfl
@[go_sem] theorem shW_im {ids : List Nat} {d : D} : (AV.im none d).shW ids = true := by simp [AV.shW]
@[go_sem] theorem shW_imt {ids : List Nat} {d : D} {t : Nat} : (AV.im (some t) d).shW ids = d.noPtr := by simp [AV.shW]
@[go_sem] theorem shW_pw {ids : List Nat} {id el j : Nat} : (AV.pw id el j).shW ids = (posW ids 0 id).isSome := by simp [AV.shW]
@[go_sem] theorem shW_sm {ids : List Nat} {id off len : Nat} : (AV.sm id off len).shW ids = (posW ids 0 id).isSome := by simp [AV.shW]
@[go_sem] theorem shW_cl {ids : List Nat} {f : Nat} {vs : List AV} : (AV.cl f vs).shW ids = shWL ids vs := by simp [AV.shW]
@[go_sem] theorem shW_sg {ids : List Nat} {vs : List AV} : (AV.sg vs).shW ids = shWL ids vs := by simp [AV.shW]
@[go_sem] theorem shW_tr {ids : List Nat} {i : Nat} : (AV.tr i).shW ids = (posW ids 0 i).isSome := by simp [AV.shW]
@[go_sem] theorem shW_pb {ids : List Nat} {i j : Nat} : (AV.pb i j).shW ids = true := by simp [AV.shW]
@[go_sem] theorem shW_cw {ids : List Nat} {id el j sz : Nat} {agg : Bool} : (AV.cw id el j sz agg).shW ids = false := by simp [AV.shW]
@[go_sem] theorem shW_vb {ids : List Nat} {id len : Nat} : (AV.vb id len).shW ids = false := by simp [AV.shW]
@[go_sem ↓] theorem vcOps_ia {d sz : Nat} {x i : X} {l : List RO} : vcOps P (⟨none, .ia d sz x i⟩ :: l) st K = iaK (st.ev x) (st.ev i) st.unit sz (kq (kops P l K) st (some d)) := rfl
@[go_sem ↓] theorem vcOps_len {d : Nat} {x : X} {l : List RO} : vcOps P (⟨none, .len d x⟩ :: l) st K = lenK (st.ev x) st.unit (kq (kops P l K) st (some d)) := rfl
@[go_sem ↓] theorem vcOps_call {d : Option Nat} {f : Nat} {args : List X} {l : List RO} : vcOps P (⟨none, .call d f args⟩ :: l) st K = callQ P d f (args.map st.ev) st.unit (kq (kops P l K) st d) := rfl
@[go_sem ↓] theorem vcOps_calv {d : Option Nat} {x : X} {args : List X} {l : List RO} : vcOps P (⟨none, .calv d x args⟩ :: l) st K = calvK (st.ev x) P d (args.map st.ev) st.unit (kq (kops P l K) st d) := rfl
@[go_sem ↓] theorem vcOps_ext {d i : Nat} {x : X} {l : List RO} : vcOps P (⟨none, .ext d x i⟩ :: l) st K = extK (st.ev x) i (kq (kops P l K) st (some d)) := rfl
@[go_sem ↓] theorem vcOps_bs {d sz len : Nat} {z : D} {ps : List (Nat × X)} {l : List RO} : vcOps P (⟨none, .bs d sz z len ps⟩ :: l) st K = bsK (ps.map fun p => (p.1, st.ev p.2)) st.unit d sz len (kq (kops P l K) st (some d)) := rfl
@[go_sem ↓] theorem vcOps_bld {d : Nat} {z : D} {ps : List (Nat × Nat × X)} {l : List RO} : vcOps P (⟨none, .bld d z ps⟩ :: l) st K = bldK (ps.map fun p => (p.1, p.2.1, st.ev p.2.2)) st.unit z (kq (kops P l K) st (some d)) := rfl
@[go_sem ↓] theorem vcOps_app {d sz bytes : Nat} {x y : X} {l : List RO} : vcOps P (⟨none, .app d sz bytes x y⟩ :: l) st K = takeY st sz (st.ev y) (appC x d sz bytes (kops P l K)) := rfl
@[go_sem ↓] theorem vcOps_aps {d sz bytes : Nat} {x y : X} {l : List RO} : vcOps P (⟨none, .aps d sz bytes x y⟩ :: l) st K = shY st sz (st.ev y) (apsC x d sz bytes (kops P l K)) := rfl
@[go_sem ↓] theorem vcOps_stp {sz : Nat} {a x : X} {l : List RO} : vcOps P (⟨none, .stp sz a x⟩ :: l) st K = stpK (st.ev a) (st.ev x) st sz (kops P l K) := rfl
@[go_sem ↓] theorem vcOps_lcl {d : Option Nat} {g : Nat} {xs : List X} {l : List RO} : vcOps P (⟨none, .lcl d g xs⟩ :: l) st K = lclK P d g xs st (kops P l K) := rfl
@[congr] theorem shY_cg {st st' : St} {sz : Nat} {v v' : AV} {k : List D → St → Prop} (h : st = st') (h' : v = v') : shY st sz v k = shY st' sz v' k := by rw [h, h']
@[congr] theorem shV_cg {u u' : Option U} {i len sz : Nat} {st : St} {k : List D → St → Prop} (h : u = u') : shV u i len sz st k = shV u' i len sz st k := by rw [h]
@[congr] theorem shA2_cg {u u' : Option U} {off len sz : Nat} {st : St} {k : List D → St → Prop} (h : u = u') : shA2 u off len sz st k = shA2 u' off len sz st k := by rw [h]
@[congr] theorem apsC_cg {x : X} {d sz bytes : Nat} {f : St → Prop} {ds ds' : List D} {st st' : St} (h2 : ds = ds') (h3 : st = st') : apsC x d sz bytes f ds st = apsC x d sz bytes f ds' st' := by rw [h2, h3]
@[congr] theorem apsX_cg {x x' : AV} {d sz bytes : Nat} {f : St → Prop} {ds ds' : List D} {st st' : St} (h1 : x = x') (h2 : ds = ds') (h3 : st = st') : apsX x d sz bytes f ds st = apsX x' d sz bytes f ds' st' := by rw [h1, h2, h3]
@[congr] theorem apsU_cg {u u' : Option U} {id off len : Nat} {ds ds' : List D} {st st' : St} {d sz bytes : Nat} {f : St → Prop} (h1 : u = u') (h2 : ds = ds') (h3 : st = st') : apsU u id off len ds st d sz bytes f = apsU u' id off len ds' st' d sz bytes f := by rw [h1, h2, h3]
@[congr] theorem stpK_cg {a a' x x' : AV} {st : St} {sz : Nat} {f : St → Prop} (h0 : a = a') (h1 : x = x') : stpK a x st sz f = stpK a' x' st sz f := by rw [h0, h1]
@[congr] theorem lclK_cg {d : Option Nat} {g : Nat} {xs : List X} {st st' : St} {k : St → Prop} (h : st = st') : lclK P d g xs st k = lclK P d g xs st' k := by rw [h]
@[go_sem] theorem shY_vb {st : St} {sz i len : Nat} {k : List D → St → Prop} : shY st sz (.vb i len) k = shV (st.unit i) i len sz st k := rfl
@[go_sem] theorem shY_im {st : St} {sz sz' : Nat} {nn : Option Bool} {ds : List D} {k : List D → St → Prop} : shY st sz (.im none (.ls nn sz' ds)) k = (sz' = sz ∧ k ds st) := rfl
@[go_sem] theorem shY_sm {st : St} {sz i off len : Nat} {k : List D → St → Prop} : shY st sz (.sm i off len) k = shA2 (st.unit i) off len sz st k := rfl
@[go_sem] theorem shY_ss {st : St} {sz i off len : Nat} {k : List D → St → Prop} : shY st sz (.ss i off len) k = shA2 (st.unit i) off len sz st k := rfl
@[go_sem] theorem shV_bx {bsz : Nat} {items : List AV} {i len sz : Nat} {st : St} {k : List D → St → Prop} : shV (some (.bx bsz items)) i len sz st k = ((bsz = sz ∧ len = items.length) ∧ tkSL (st.del i) items k) := rfl
@[go_sem] theorem shA2_ar {nn : Option Bool} {usz : Nat} {es : List D} {off len sz : Nat} {st : St} {k : List D → St → Prop} : shA2 (some (.ar false nn usz es)) off len sz st k = (usz = sz ∧ k ((es.drop off).take len) st) := rfl
@[go_sem] theorem apsC_ap {x : X} {d sz bytes : Nat} {f : St → Prop} {ds : List D} {st' : St} : apsC x d sz bytes f ds st' = apsX (st'.ev x) d sz bytes f ds st' := rfl
@[go_sem] theorem apsX_sm {id off len : Nat} {d sz bytes : Nat} {f : St → Prop} {ds : List D} {st' : St} : apsX (.sm id off len) d sz bytes f ds st' = apsU (st'.unit id) id off len ds st' d sz bytes f := rfl
@[go_sem] theorem apsU_ar {ow : Bool} {nn : Option Bool} {usz : Nat} {es : List D} {id off len : Nat} {ds : List D} {st' : St} {d sz bytes : Nat} {f : St → Prop} : apsU (some (.ar ow nn usz es)) id off len ds st' d sz bytes f =
  ((usz = sz ∧ 0 < sz ∧ off = 0 ∧ cutOk len es ∧ (ow = false ∨ cutL len es = []) ∧ (len + ds.length) * bytes ≤ 140737488355328 ∧ len + ds.length ≤ maxEl ∧ (∀ e ∈ ds, e.size = sz)) ∧
    f ((st'.upr id (.ar false (nnGrow nn ds) sz (cutL len es ++ ds))).set d (.sm id 0 (len + ds.length)))) := rfl
@[go_sem] theorem stpK_sp {i off len id el j : Nat} {st : St} {sz : Nat} {f : St → Prop} : stpK (.pw id el j) (.sm i off len) st sz f = stN (st.unit id) id el j sz (.sm i off len) st f := rfl
@[go_sem] theorem stpK_sb {i off len id j : Nat} {st : St} {sz : Nat} {f : St → Prop} : stpK (.pb id j) (.sm i off len) st sz f = stB (st.unit id) id j sz (.sm i off len) st f := rfl
@[go_sem] theorem stpK_im {a : AV} {t : Option Nat} {e : D} {st : St} {sz : Nat} {f : St → Prop} : stpK a (.im t e) st sz f = stK a (.im t e) st sz f := rfl
@[go_sem] theorem stpK_tr {a : AV} {i : Nat} {st : St} {sz : Nat} {f : St → Prop} : stpK a (.tr i) st sz f = stK a (.tr i) st sz f := rfl
@[go_sem] theorem stpK_sg {a : AV} {vs : List AV} {st : St} {sz : Nat} {f : St → Prop} : stpK a (.sg vs) st sz f = stK a (.sg vs) st sz f := rfl
@[go_sem] theorem stpK_cw {a : AV} {i el j cz : Nat} {cg : Bool} {st : St} {sz : Nat} {f : St → Prop} : stpK a (.cw i el j cz cg) st sz f = stK a (.cw i el j cz cg) st sz f := rfl
@[go_sem] theorem stpK_pw {a : AV} {i el j : Nat} {st : St} {sz : Nat} {f : St → Prop} : stpK a (.pw i el j) st sz f = stK a (.pw i el j) st sz f := rfl
@[go_sem] theorem ldV_sm {i off len : Nat} {usz j sz : Nat} {k : KQ} : ldV (.sm i off len) usz j sz false k = if j = 0 ∧ sz = usz then k (.sm i off len) [] else False := by simp [ldV, wholeOk, AV.one0, ldP]
@[go_sem] theorem setV_sm {i off len : Nat} {x : AV} {usz j sz : Nat} {k : AV → Prop} : setV (.sm i off len) x usz j sz k = if j = 0 ∧ sz = usz then k x else False := rfl
@[go_sem] theorem setV_any {x : AV} {usz j sz : Nat} {k : AV → Prop} : setV .any x usz j sz k = if j = 0 ∧ sz = usz then k x else False := rfl
@[go_sem] theorem nnGrow_sf {ds : List D} : nnGrow (some false) ds = some false := by cases ds <;> rfl
attribute [go_sem] killKI
@[congr] theorem tkS_cg {st st' : St} {v v' : AV} {k : D → St → Prop} (h : st = st') (h' : v = v') : tkS st v k = tkS st' v' k := by rw [h, h']
@[congr] theorem tkSL_cg {st st' : St} {v v' : List AV} {k : List D → St → Prop} (h : st = st') (h' : v = v') : tkSL st v k = tkSL st' v' k := by rw [h, h']
@[congr] theorem tkSm_cg {u u' : Option U} {i off len : Nat} {st : St} {k : D → St → Prop} (h : u = u') : tkSm u i off len st k = tkSm u' i off len st k := by rw [h]
@[congr] theorem tkA_cg {k : D → St → Prop} {o o' : Bool} {d d' : D} {st st' : St} (h1 : o = o') (h2 : d = d') (h3 : st = st') : tkA k o d st = tkA k o' d' st' := by rw [h1, h2, h3]
@[congr] theorem tkG_cg {k : D → St → Prop} {d d' : List D} {st st' : St} (h2 : d = d') (h3 : st = st') : tkG k d st = tkG k d' st' := by rw [h2, h3]
@[congr] theorem tkD_cg {d d' : D} {k : List D → St → Prop} {ds ds' : List D} {st st' : St} (h1 : d = d') (h2 : ds = ds') (h3 : st = st') : tkD d k ds st = tkD d' k ds' st' := by rw [h1, h2, h3]
@[congr] theorem tkC_cg {vs vs' : List AV} {k : List D → St → Prop} {d d' : D} {st st' : St} (h1 : vs = vs') (h2 : d = d') (h3 : st = st') : tkC vs k d st = tkC vs' k d' st' := by rw [h1, h2, h3]
@[go_sem] theorem tkS_sm {st : St} {i off len : Nat} {k : D → St → Prop} : tkS st (.sm i off len) k = tkSm (st.unit i) i off len st k := by simp only [tkS]
@[go_sem] theorem tkS_sg {st : St} {vs : List AV} {k : D → St → Prop} : tkS st (.sg vs) k = tkSL st vs (tkG k) := by simp only [tkS]
@[go_sem] theorem tkS_im {st : St} {t : Option Nat} {d : D} {k : D → St → Prop} : tkS st (.im t d) k = takeA st (.im t d) (tkA k) := by simp only [tkS]
@[go_sem] theorem tkS_tr {st : St} {i : Nat} {k : D → St → Prop} : tkS st (.tr i) k = takeA st (.tr i) (tkA k) := by simp only [tkS]
@[go_sem] theorem tkS_cw {st : St} {i el j sz : Nat} {agg : Bool} {k : D → St → Prop} : tkS st (.cw i el j sz agg) k = takeA st (.cw i el j sz agg) (tkA k) := by simp only [tkS]
@[go_sem] theorem tkSL_nil {st : St} {k : List D → St → Prop} : tkSL st [] k = k [] st := by simp only [tkSL]
@[go_sem] theorem tkSL_cons {st : St} {v : AV} {vs : List AV} {k : List D → St → Prop} : tkSL st (v :: vs) k = tkS st v (tkC vs k) := by simp only [tkSL]; rfl
@[go_sem] theorem tkSm_ar {ow : Bool} {nn : Option Bool} {sz : Nat} {es : List D} {i off len : Nat} {st : St} {k : D → St → Prop} : tkSm (some (.ar ow nn sz es)) i off len st k = ((off = 0 ∧ len = es.length) ∧ k (.ls nn sz es) (st.del i)) := rfl
@[go_sem] theorem tkA_ap {k : D → St → Prop} {o : Bool} {d : D} {st : St} : tkA k o d st = k d st := rfl
@[go_sem] theorem tkG_ap {k : D → St → Prop} {ds : List D} {st : St} : tkG k ds st = k (.ag (ds.map D.cells).flatten) st := rfl
@[go_sem] theorem tkD_ap {d : D} {k : List D → St → Prop} {ds : List D} {st : St} : tkD d k ds st = k (d :: ds) st := rfl
@[go_sem] theorem tkC_ap {vs : List AV} {k : List D → St → Prop} {d : D} {st : St} : tkC vs k d st = tkSL st vs (tkD d k) := rfl
@[go_sem ↓] theorem vcOps_st {sz : Nat} {a x : X} {l : List RO} : vcOps P (⟨none, .st sz a x⟩ :: l) st K = stK (st.ev a) (st.ev x) st sz (kops P l K) := rfl
@[congr] theorem pickK_cg  {c c' : AV} {a a' : AV} {b b' : AV} {k : KQ} (h0 : c = c') (h1 : a = a') (h2 : b = b') : pickK c a b k = pickK c' a' b' k := by rw [h0, h1, h2]
@[congr] theorem boxK_cg  {x x' : AV} {un : Nat → Option U} {d : Nat} {sz : Nat} {k : KQ} (h0 : x = x') : boxK x un d sz k = boxK x' un d sz k := by rw [h0]
@[congr] theorem ldW_cg  {u u' : Option U} {id : Nat} {el : Nat} {j : Nat} {agg : Bool} {sz : Nat} {k : KQ} (h0 : u = u') : ldW u id el j agg sz k = ldW u' id el j agg sz k := by rw [h0]
@[congr] theorem ldK_cg  {a a' : AV} {un : Nat → Option U} {agg : Bool} {sz : Nat} {k : KQ} (h0 : a = a') : ldK a un agg sz k = ldK a' un agg sz k := by rw [h0]
@[congr] theorem nckK_cg  {x x' : AV} {k : KQ} (h0 : x = x') : nckK x k = nckK x' k := by rw [h0]
@[congr] theorem binK_cg {op : BinOp} {x x' : AV} {y y' : AV} {k : KQ} (h0 : x = x') (h1 : y = y') : binK op x y k = binK op x' y' k := by rw [h0, h1]
@[congr] theorem beqK_cg {neg : Bool} {x x' y y' : AV} {k : KQ} (h0 : x = x') (h1 : y = y') : beqK neg x y k = beqK neg x' y' k := by rw [h0, h1]
@[congr] theorem snilK_cg {neg : Bool} {x x' y y' : AV} {k : KQ} (h0 : x = x') (h1 : y = y') : snilK neg x y k = snilK neg x' y' k := by rw [h0, h1]
@[congr] theorem ceqK_cg {neg : Bool} {x x' y y' : AV} {n : Nat} {k : KQ} (h0 : x = x') (h1 : y = y') : ceqK neg x y n k = ceqK neg x' y' n k := by rw [h0, h1]
@[go_sem] theorem beqK_b {neg : Bool} {t u : Option Nat} {p q : Bool} {k : KQ} : beqK neg (.im t (.sc (.bool p))) (.im u (.sc (.bool q))) k = k (.im none (.sc (.bool (if neg then !(p == q) else p == q)))) [] := rfl
@[go_sem] theorem snilK_l {neg : Bool} {t u : Option Nat} {p : Bool} {z1 z2 : Nat} {ds : List D} {k : KQ} : snilK neg (.im t (.ls (some p) z1 ds)) (.im u (.ls (some true) z2 [])) k = k (.im none (.sc (.bool (if neg then !p else p)))) [] := rfl
@[go_sem] theorem ceqK_l {neg : Bool} {t u : Option Nat} {ds es : List D} {n : Nat} {k : KQ} : ceqK neg (.im t (.ag ds)) (.im u (.ag es)) n k = (ds.length = n ∧ ceqL ds es fun r => k (.im none (.sc (.bool (if neg then !r else r)))) []) := rfl
@[go_sem] theorem ceqL_nil {f : Bool → Prop} : ceqL [] [] f = f true := rfl
@[go_sem] theorem ceqL_cons {a b : IntKind} {m n : Int} {ds es : List D} {f : Bool → Prop} : ceqL (.sc (.int a m) :: ds) (.sc (.int b n) :: es) f = (a = b ∧ ceqL ds es fun r => f ((m == n) && r)) := rfl
@[congr] theorem unK_cg {op : UnOp} {x x' : AV} {k : KQ} (h0 : x = x') : unK op x k = unK op x' k := by rw [h0]
@[congr] theorem cvtK_cg {kd : IntKind} {x x' : AV} {k : KQ} (h0 : x = x') : cvtK kd x k = cvtK kd x' k := by rw [h0]
@[congr] theorem mkK_cg  {l l' : AV} {c c' : AV} {d : Nat} {sz : Nat} {bytes : Nat} {z : D} {k : KQ} (h0 : l = l') (h1 : c = c') : mkK l c d sz bytes z k = mkK l' c' d sz bytes z k := by rw [h0, h1]
@[congr] theorem slcL_cg {t : Option Nat} {nn : Option Bool} {sz : Nat} {ds : List D} {l l' : AV} {h h' : AV} {k : KQ} (h0 : l = l') (h1 : h = h') : slcL t nn sz ds l h k = slcL t nn sz ds l' h' k := by rw [h0, h1]
@[congr] theorem slcK_cg  {x x' : AV} {ev : X → AV} {un : Nat → Option U} {sz : Nat} {lo : Option X} {hi : Option X} {k : KQ} (h0 : x = x') : slcK x ev un sz lo hi k = slcK x' ev un sz lo hi k := by rw [h0]
@[congr] theorem faW_cg  {u u' : Option U} {id : Nat} {el : Nat} {j : Nat} {off : Nat} {k : KQ} (h0 : u = u') : faW u id el j off k = faW u' id el j off k := by rw [h0]
@[congr] theorem faK_cg  {x x' : AV} {un : Nat → Option U} {off : Nat} {k : KQ} (h0 : x = x') : faK x un off k = faK x' un off k := by rw [h0]
@[congr] theorem iaD_cg  {q q' : Option (Option Nat × D)} {sz : Nat} {n : Int} {k : KQ} (h0 : q = q') : iaD q sz n k = iaD q' sz n k := by rw [h0]
@[congr] theorem iaW_cg  {u u' : Option U} {id : Nat} {sz : Nat} {p : Nat} {k : KQ} (h0 : u = u') : iaW u id sz p k = iaW u' id sz p k := by rw [h0]
@[congr] theorem iaK_cg  {x x' : AV} {i i' : AV} {un : Nat → Option U} {sz : Nat} {k : KQ} (h0 : x = x') (h1 : i = i') : iaK x i un sz k = iaK x' i' un sz k := by rw [h0, h1]
@[congr] theorem lenD_cg  {q q' : Option (Option Nat × D)} {k : KQ} (h0 : q = q') : lenD q k = lenD q' k := by rw [h0]
@[congr] theorem lenK_cg  {x x' : AV} {un : Nat → Option U} {k : KQ} (h0 : x = x') : lenK x un k = lenK x' un k := by rw [h0]
@[congr] theorem calvK_cg  {x x' : AV} {Q : Program} {d : Option Nat} {args : List AV} {un : Nat → Option U} {k : KQ} (h0 : x = x') : calvK x Q d args un k = calvK x' Q d args un k := by rw [h0]
@[congr] theorem extK_cg  {x x' : AV} {i : Nat} {k : KQ} (h0 : x = x') : extK x i k = extK x' i k := by rw [h0]
@[congr] theorem bsK_cg  {ps ps' : List (Nat × AV)} {un : Nat → Option U} {d : Nat} {sz : Nat} {len : Nat} {k : KQ} (h0 : ps = ps') : bsK ps un d sz len k = bsK ps' un d sz len k := by rw [h0]
@[congr] theorem bldK_cg  {ps ps' : List (Nat × Nat × AV)} {un : Nat → Option U} {z : D} {k : KQ} (h0 : ps = ps') : bldK ps un z k = bldK ps' un z k := by rw [h0]
@[congr] theorem takeTr_cg  {u u' : Option U} {i : Nat} {st : St} {k : KT} (h0 : u = u') : takeTr u i st k = takeTr u' i st k := by rw [h0]
@[congr] theorem takeSm_cg  {u u' : Option U} {i : Nat} {off : Nat} {len : Nat} {st : St} {k : KT} (h0 : u = u') : takeSm u i off len st k = takeSm u' i off len st k := by rw [h0]
@[congr] theorem takeV_cg  {u u' : Option U} {i : Nat} {len : Nat} {sz : Nat} {st : St} {k : KL} (h0 : u = u') : takeV u i len sz st k = takeV u' i len sz st k := by rw [h0]
@[congr] theorem takeD_cg  {q q' : Option D} {sz : Nat} {st : St} {k : KL} (h0 : q = q') : takeD q sz st k = takeD q' sz st k := by rw [h0]
@[congr] theorem stU_cg  {u u' : Option U} {id : Nat} {el : Nat} {j : Nat} {sz : Nat} {own : Bool} {d : D} {st' : St} {f : St → Prop} (h0 : u = u') : stU u id el j sz own d st' f = stU u' id el j sz own d st' f := by rw [h0]
@[congr] theorem stK_cg  {a a' : AV} {x x' : AV} {st : St} {sz : Nat} {f : St → Prop} (h0 : a = a') (h1 : x = x') : stK a x st sz f = stK a' x' st sz f := by rw [h0, h1]
@[congr] theorem appU_cg  {u u' : Option U} {id : Nat} {off : Nat} {len : Nat} {own : Bool} {ds : List D} {st' : St} {d : Nat} {sz : Nat} {bytes : Nat} {f : St → Prop} (h0 : u = u') : appU u id off len own ds st' d sz bytes f = appU u' id off len own ds st' d sz bytes f := by rw [h0]
@[congr] theorem appX_cg  {x x' : AV} {own : Bool} {ds : List D} {st' : St} {d : Nat} {sz : Nat} {bytes : Nat} {f : St → Prop} (h0 : x = x') : appX x own ds st' d sz bytes f = appX x' own ds st' d sz bytes f := by rw [h0]

@[go_sem] theorem pickK_b {t : Option Nat} {b : Bool} {x y : AV} {k : KQ} : pickK (.im t (.sc (.bool b))) x y k = ((b = true → k x []) ∧ (b = false → k y [])) := rfl
@[go_sem] theorem boxK_im {e : D} {un : Nat → Option U} {d sz : Nat} {k : KQ} : boxK (.im none e) un d sz k = ((0 < sz ∧ e.size = sz) ∧ k (.pw d 0 0) [(d, .ar false (some false) sz [e])]) := rfl
@[go_sem] theorem ldW_ar {ow : Bool} {nn : Option Bool} {usz : Nat} {es : List D} {id el j : Nat} {agg : Bool} {sz : Nat} {k : KQ} : ldW (some (.ar ow nn usz es)) id el j agg sz k = ((j + sz ≤ usz ∧ (agg = true → (D.at es el).isAg = true)) ∧ k (ldAV ow id el j sz agg (D.sub (D.at es el) j sz agg)) []) := rfl
@[go_sem] theorem boxK_sg {vs : List AV} {un : Nat → Option U} {d sz : Nat} {k : KQ} : boxK (.sg vs) un d sz k = ((d < 3000000000 ∧ 0 < sz ∧ itemOk un sz (.sg (explode vs)) = true) ∧ k (.pb d 0) [(d, .bx sz [.sg (explode vs)])]) := rfl
@[go_sem] theorem boxK_cl {f : Nat} {vs : List AV} {un : Nat → Option U} {d sz : Nat} {k : KQ} : boxK (.cl f vs) un d sz k = ((d < 3000000000 ∧ 0 < sz ∧ itemOk un sz (.cl f vs) = true) ∧ k (.pb d 0) [(d, .bx sz [.cl f vs])]) := rfl
@[go_sem] theorem boxK_pw {i el j : Nat} {un : Nat → Option U} {d sz : Nat} {k : KQ} : boxK (.pw i el j) un d sz k = ((d < 3000000000 ∧ 0 < sz ∧ itemOk un sz (.pw i el j) = true) ∧ k (.pb d 0) [(d, .bx sz [.pw i el j])]) := rfl
@[go_sem] theorem boxK_tr {i : Nat} {un : Nat → Option U} {d sz : Nat} {k : KQ} : boxK (.tr i) un d sz k = ((d < 3000000000 ∧ 0 < sz ∧ itemOk un sz (.tr i) = true) ∧ k (.pb d 0) [(d, .bx sz [.tr i])]) := rfl
@[go_sem] theorem ldK_pb {id j : Nat} {un : Nat → Option U} {agg : Bool} {sz : Nat} {k : KQ} : ldK (.pb id j) un agg sz k = ldB (un id) j sz agg k := rfl
@[congr] theorem ldB_cg {u u' : Option U} {j sz : Nat} {agg : Bool} {k : KQ} (h : u = u') : ldB u j sz agg k = ldB u' j sz agg k := by rw [h]
@[go_sem] theorem ldB_bx {usz : Nat} {x : AV} {j sz : Nat} {agg : Bool} {k : KQ} : ldB (some (.bx usz [x])) j sz agg k = ((0 < usz ∧ (agg = false → sz = 1)) ∧ ldV x usz j sz agg k) := rfl
@[go_sem] theorem ldV_sg {vs : List AV} {usz j sz : Nat} {k : KQ} : ldV (.sg vs) usz j sz true k = if j = 0 ∧ sz = usz then k (.sg vs) [] else ldP (.sg vs) j sz true k := by simp [ldV, wholeOk]
@[go_sem] theorem ldV_sgf {vs : List AV} {usz j sz : Nat} {k : KQ} : ldV (.sg vs) usz j sz false k = ldP (.sg vs) j sz false k := by simp [ldV, wholeOk, AV.one0]
@[go_sem] theorem ldV_cl {f : Nat} {vs : List AV} {usz j sz : Nat} {k : KQ} : ldV (.cl f vs) usz j sz false k = if j = 0 ∧ sz = usz then k (.cl f vs) [] else False := by simp [ldV, wholeOk, AV.one0, ldP]
@[go_sem] theorem ldV_pw {i el j0 : Nat} {usz j sz : Nat} {k : KQ} : ldV (.pw i el j0) usz j sz false k = if j = 0 ∧ sz = usz then k (.pw i el j0) [] else False := by simp [ldV, wholeOk, AV.one0, ldP]
@[go_sem] theorem ldP_sgt {vs : List AV} {j sz : Nat} {k : KQ} : ldP (.sg vs) j sz true k = ((vs.all AV.one0 = true ∧ j + sz ≤ vs.length) ∧ k (sgAV ((vs.drop j).take sz)) []) := by simp [ldP]
@[go_sem] theorem ldP_sgf {vs : List AV} {j sz : Nat} {k : KQ} : ldP (.sg vs) j sz false k = ((vs.all AV.one0 = true ∧ j + sz ≤ vs.length) ∧ k (vs.getD j .any) []) := by simp [ldP]
@[go_sem] theorem nckK_pb {id j : Nat} {k : KQ} : nckK (.pb id j) k = k (.pb id j) [] := rfl
@[go_sem] theorem faK_pb {id j off : Nat} {un : Nat → Option U} {k : KQ} : faK (.pb id j) un off k = k (.pb id (j + off)) [] := rfl
@[go_sem] theorem zeroSb_sg {t t' : Option Nat} {q : Nat} : zeroSb (.sg [.im t (.sc (.pointer none)), .im t' (.ls (some true) q [])]) = true := rfl
@[go_sem] theorem stK_pb {id j sz : Nat} {x : AV} {st : St} {f : St → Prop} : stK (.pb id j) x st sz f = stB (st.unit id) id j sz x st f := rfl
@[congr] theorem stB_cg {u u' : Option U} {id j sz : Nat} {x : AV} {st : St} {f : St → Prop} (h : u = u') : stB u id j sz x st f = stB u' id j sz x st f := by rw [h]
@[go_sem] theorem stB_bx {usz : Nat} {y : AV} {id j sz : Nat} {x : AV} {st : St} {f : St → Prop} : stB (some (.bx usz [y])) id j sz x st f = ((0 < usz ∧ 0 < sz ∧ itemOk st.unit sz x = true ∧ pieceOk x = true ∧ x.refs id = false ∧ y.refs id = false) ∧ setV y x usz j sz fun z => f (st.upd id (.bx usz [z]))) := rfl
@[go_sem] theorem setV_sg {vs : List AV} {x : AV} {usz j sz : Nat} {k : AV → Prop} : setV (.sg vs) x usz j sz k = if j = 0 ∧ sz = usz then k x else ((vs.all AV.one0 = true ∧ j < vs.length ∧ sz = 1 ∧ x.one0 = true) ∧ k (.sg (vs.set j x))) := rfl
@[congr] theorem stN_cg {u u' : Option U} {id el j sz : Nat} {x : AV} {st : St} {f : St → Prop} (h : u = u') : stN u id el j sz x st f = stN u' id el j sz x st f := by rw [h]
@[go_sem] theorem stN_ar {ow : Bool} {nn : Option Bool} {usz : Nat} {d : D} {id el j sz : Nat} {x : AV} {st : St} {f : St → Prop} : stN (some (.ar ow nn usz [d])) id el j sz x st f = (((nn = none ∨ id < 3000000000) ∧ 0 < sz ∧ el = 0 ∧ j = 0 ∧ sz = usz ∧ d.noPtr = true ∧ itemOk st.unit sz (pieces x) = true ∧ pieceOk (pieces x) = true ∧ (pieces x).refs id = false) ∧ f (st.cvt id (.bx sz [pieces x]))) := rfl
@[go_sem] theorem cvt_lit {id : Nat} {u : U} : St.cvt ⟨n, env, us⟩ id u = ⟨n, cvtE id env, (id, u) :: killU id (AV.refs id) us⟩ := rfl
attribute [go_sem] cvtE
@[go_sem] theorem cvtV_pw {id i el j : Nat} : cvtV id (.pw i el j) = if i = id then (if el = 0 then .pb id j else .any) else .pw i el j := rfl
@[go_sem] theorem cvtV_im {id : Nat} {t : Option Nat} {d : D} : cvtV id (.im t d) = if (t == some id) = true then .any else .im t d := rfl
@[go_sem] theorem cvtV_tr {id i : Nat} : cvtV id (.tr i) = if (i == id) = true then .any else .tr i := rfl
@[go_sem] theorem cvtV_cw {id i el j sz : Nat} {agg : Bool} : cvtV id (.cw i el j sz agg) = if (i == id) = true then .any else .cw i el j sz agg := rfl
@[go_sem] theorem cvtV_sm {id i off len : Nat} : cvtV id (.sm i off len) = if (i == id) = true then .any else .sm i off len := rfl
@[go_sem] theorem cvtV_vb {id i len : Nat} : cvtV id (.vb i len) = if (i == id) = true then .any else .vb i len := rfl
@[go_sem] theorem cvtV_pb {id i j : Nat} : cvtV id (.pb i j) = if (i == id) = true then .any else .pb i j := rfl
@[go_sem] theorem cvtV_any {id : Nat} : cvtV id .any = .any := rfl
@[go_sem] theorem cvtV_cl {id f : Nat} {vs : List AV} : cvtV id (.cl f vs) = if AV.refsL id vs = true then .any else .cl f vs := rfl
@[go_sem] theorem cvtV_sg {id : Nat} {vs : List AV} : cvtV id (.sg vs) = if AV.refsL id vs = true then .any else .sg vs := rfl
@[go_sem] theorem cvtV_tup {id : Nat} {vs : List AV} : cvtV id (.tup vs) = if AV.refsL id vs = true then .any else .tup vs := rfl
attribute [go_sem] AV.isRef AV.isRef.hasRefL AV.one0 explode pieces pieceOk
@[go_sem] theorem ldK_im {t : Option Nat} {d : D} {j : Nat} {un : Nat → Option U} {agg : Bool} {sz : Nat} {k : KQ} : ldK (.im t (.pt d j)) un agg sz k = ((j + sz ≤ d.size ∧ (agg = true → d.isAg = true)) ∧ k (.im t (D.sub d j sz agg)) []) := rfl
@[go_sem] theorem ldK_lc {t : Option Nat} {b o : Nat} {d : D} {j : Nat} {un : Nat → Option U} {agg : Bool} {sz : Nat} {k : KQ} : ldK (.im t (.lc b o (.pt d j))) un agg sz k = ((j + sz ≤ d.size ∧ (agg = true → d.isAg = true)) ∧ k (.im t (D.sub d j sz agg)) []) := rfl
@[go_sem] theorem ldK_pw {id el j : Nat} {un : Nat → Option U} {agg : Bool} {sz : Nat} {k : KQ} : ldK (.pw id el j) un agg sz k = ldW (un id) id el j agg sz k := rfl
@[go_sem] theorem nckK_im {t : Option Nat} {d : D} {j : Nat} {k : KQ} : nckK (.im t (.pt d j)) k = k (.im t (.pt d j)) [] := rfl
@[go_sem] theorem nckK_lc {t : Option Nat} {b o : Nat} {d : D} {j : Nat} {k : KQ} : nckK (.im t (.lc b o (.pt d j))) k = k (.im t (.lc b o (.pt d j))) [] := rfl
@[go_sem] theorem nckK_sc {t : Option Nat} {p : Addr} {k : KQ} : nckK (.im t (.sc (.pointer (some p)))) k = k (.im t (.sc (.pointer (some p)))) [] := rfl
@[go_sem] theorem nckK_pw {id el j : Nat} {k : KQ} : nckK (.pw id el j) k = k (.pw id el j) [] := rfl
@[go_sem] theorem unK_not {t : Option Nat} {b : Bool} {k : KQ} : unK .not (.im t (.sc (.bool b))) k = k (.im none (.sc (.bool (!b)))) [] := rfl
@[go_sem] theorem unK_neg {t : Option Nat} {a : IntKind} {m : Int} {k : KQ} : unK .neg (.im t (.sc (.int a m))) k = k (.im none (.sc (.int a (a.wrap (-m))))) [] := rfl
@[go_sem] theorem cvtK_i {t : Option Nat} {a b : IntKind} {m : Int} {k : KQ} : cvtK b (.im t (.sc (.int a m))) k = k (.im none (.sc (.int b (b.wrap m)))) [] := rfl
@[go_sem] theorem mkK_i {t u : Option Nat} {a b : IntKind} {m q : Int} {d sz bytes : Nat} {z : D} {k : KQ} : mkK (.im t (.sc (.int a m))) (.im u (.sc (.int b q))) d sz bytes z k =
  ((0 ≤ m ∧ m ≤ q ∧ bytes * q ≤ 140737488355328 ∧ q ≤ 140737488355328 ∧ 0 < sz ∧ z.size = sz ∧ z.noPtr = true) ∧ k (.sm d 0 m.toNat) [(d, .ar true (some false) sz (List.replicate m.toNat z))]) := rfl
@[go_sem] theorem slcL_i {t0 : Option Nat} {nn : Option Bool} {sz : Nat} {ds : List D} {t u : Option Nat} {a b : IntKind} {l h : Int} {k : KQ} : slcL t0 nn sz ds (.im t (.sc (.int a l))) (.im u (.sc (.int b h))) k = ((0 ≤ l ∧ l ≤ h ∧ h ≤ ds.length) ∧ k (.im t0 (.ls nn sz ((ds.take h.toNat).drop l.toNat))) []) := rfl
@[go_sem] theorem slcK_ls {t : Option Nat} {nn : Option Bool} {sz sz' : Nat} {ds : List D} {ev : X → AV} {un : Nat → Option U} {lo hi : Option X} {k : KQ} : slcK (.im t (.ls nn sz' ds)) ev un sz lo hi k =
  (sz = sz' ∧ slcL t nn sz ds ((lo.map ev).getD (.im none (.sc (.int .i64 0)))) ((hi.map ev).getD (.im none (.sc (.int .i64 ds.length)))) k) := rfl
@[go_sem] theorem faW_ar {ow : Bool} {nn : Option Bool} {usz : Nat} {es : List D} {id el j off : Nat} {k : KQ} : faW (some (.ar ow nn usz es)) id el j off k = (j + off < usz ∧ k (.pw id el (j + off)) []) := rfl
@[go_sem] theorem faK_im {t : Option Nat} {d : D} {j off : Nat} {un : Nat → Option U} {k : KQ} : faK (.im t (.pt d j)) un off k = (j + off < d.size ∧ k (.im t (.pt d (j + off))) []) := rfl
@[go_sem] theorem faK_lc {t : Option Nat} {b o : Nat} {d : D} {j off : Nat} {un : Nat → Option U} {k : KQ} : faK (.im t (.lc b o (.pt d j))) un off k = (j + off < d.size ∧ k (.im t (.lc b (o + off) (.pt d (j + off)))) []) := rfl
@[go_sem] theorem faK_pw {id el j off : Nat} {un : Nat → Option U} {k : KQ} : faK (.pw id el j) un off k = faW (un id) id el j off k := rfl
@[go_sem] theorem iaD_ls {t : Option Nat} {nn : Option Bool} {sz sz' : Nat} {ds : List D} {m : Int} {k : KQ} : iaD (some (t, .ls nn sz' ds)) sz m k = ((sz = sz' ∧ 0 < sz ∧ 0 ≤ m ∧ m < ds.length) ∧ k (.im t (.pt (D.at ds m.toNat) 0)) []) := rfl
@[go_sem] theorem iaW_ar {ow : Bool} {nn : Option Bool} {usz : Nat} {es : List D} {id sz p : Nat} {k : KQ} : iaW (some (.ar ow nn usz es)) id sz p k = ((sz = usz ∧ 0 < sz) ∧ k (.pw id p 0) []) := rfl
@[go_sem] theorem iaK_sm {id off len : Nat} {t : Option Nat} {a : IntKind} {m : Int} {un : Nat → Option U} {sz : Nat} {k : KQ} : iaK (.sm id off len) (.im t (.sc (.int a m))) un sz k = ((0 ≤ m ∧ m < len) ∧ iaW (un id) id sz (off + m.toNat) k) := rfl
@[go_sem] theorem iaD_lc {t : Option Nat} {b o : Nat} {nn : Option Bool} {sz sz' : Nat} {ds : List D} {m : Int} {k : KQ} : iaD (some (t, .lc b o (.ls nn sz' ds))) sz m k = ((sz = sz' ∧ 0 < sz ∧ 0 ≤ m ∧ m < ds.length) ∧ k (.im t (.lc b (o + m.toNat * sz) (.pt (D.at ds m.toNat) 0))) []) := rfl
@[go_sem] theorem iaK_im {t u : Option Nat} {d : D} {a : IntKind} {m : Int} {un : Nat → Option U} {sz : Nat} {k : KQ} : iaK (.im u d) (.im t (.sc (.int a m))) un sz k = iaD (some (u, d)) sz m k := rfl
@[go_sem] theorem iaK_tr {i : Nat} {t : Option Nat} {a : IntKind} {m : Int} {un : Nat → Option U} {sz : Nat} {k : KQ} : iaK (.tr i) (.im t (.sc (.int a m))) un sz k = iaD (AV.den un (.tr i)) sz m k := rfl
@[go_sem] theorem iaK_cw {i el j : Nat} {t : Option Nat} {a : IntKind} {m : Int} {un : Nat → Option U} {sz : Nat} {k : KQ} : iaK (.cw i el j 1 false) (.im t (.sc (.int a m))) un sz k = iaC (un i) i el j sz m k := rfl
@[go_sem] theorem iaK_ss {id off len : Nat} {t : Option Nat} {a : IntKind} {m : Int} {un : Nat → Option U} {sz : Nat} {k : KQ} : iaK (.ss id off len) (.im t (.sc (.int a m))) un sz k = ((0 ≤ m ∧ m < len) ∧ iaW (un id) id sz (off + m.toNat) k) := rfl
@[go_sem] theorem iaK_qs {i el j isz off len : Nat} {t : Option Nat} {a : IntKind} {m : Int} {un : Nat → Option U} {sz : Nat} {k : KQ} : iaK (.qs i el j isz off len) (.im t (.sc (.int a m))) un sz k = iaD (AV.den un (.qs i el j isz off len)) sz m k := rfl
@[congr] theorem iaC_cg {u u' : Option U} {id el j sz : Nat} {n : Int} {k : KQ} (h0 : u = u') : iaC u id el j sz n k = iaC u' id el j sz n k := by rw [h0]
@[go_sem] theorem iaC_ar {nn : Option Bool} {usz : Nat} {es : List D} {id el j sz : Nat} {n : Int} {k : KQ} : iaC (some (.ar true nn usz es)) id el j sz n k = iaI id el j sz n (D.sub (D.at es el) j 1 false) k := rfl
@[congr] theorem iaI_cg {id el j sz : Nat} {n : Int} {d d' : D} {k : KQ} (h0 : d = d') : iaI id el j sz n d k = iaI id el j sz n d' k := by rw [h0]
@[go_sem] theorem iaI_ls {id el j sz : Nat} {n : Int} {nn : Option Bool} {sz' : Nat} {ds : List D} {k : KQ} : iaI id el j sz n (.ls nn sz' ds) k = ((sz = sz' ∧ 0 < sz ∧ 0 ≤ n ∧ n < ds.length) ∧ k (.pq id el j sz n.toNat 0) []) := rfl
@[go_sem] theorem faK_pq {id el j isz el' j' off : Nat} {un : Nat → Option U} {k : KQ} : faK (.pq id el j isz el' j') un off k = (j' + off < isz ∧ k (.pq id el j isz el' (j' + off)) []) := rfl
@[go_sem] theorem nckK_pq {id el j isz el' j' : Nat} {k : KQ} : nckK (.pq id el j isz el' j') k = k (.pq id el j isz el' j') [] := rfl
@[go_sem] theorem ldK_pq {id el j isz el' j' : Nat} {un : Nat → Option U} {agg : Bool} {sz : Nat} {k : KQ} : ldK (.pq id el j isz el' j') un agg sz k = ldQ (un id) id el j isz el' j' agg sz k := rfl
@[congr] theorem ldQ_cg {u u' : Option U} {id el j isz el' j' : Nat} {agg : Bool} {sz : Nat} {k : KQ} (h0 : u = u') : ldQ u id el j isz el' j' agg sz k = ldQ u' id el j isz el' j' agg sz k := by rw [h0]
@[go_sem] theorem ldQ_ar {nn : Option Bool} {usz : Nat} {es : List D} {id el j isz el' j' : Nat} {agg : Bool} {sz : Nat} {k : KQ} : ldQ (some (.ar true nn usz es)) id el j isz el' j' agg sz k = inLd isz el' j' sz agg id (D.sub (D.at es el) j 1 false) k := rfl
@[congr] theorem inLd_cg {isz el' j' sz : Nat} {agg : Bool} {id : Nat} {d d' : D} {k : KQ} (h0 : d = d') : inLd isz el' j' sz agg id d k = inLd isz el' j' sz agg id d' k := by rw [h0]
@[go_sem] theorem inLd_ls {isz el' j' sz : Nat} {agg : Bool} {id : Nat} {nn : Option Bool} {sz' : Nat} {ds : List D} {k : KQ} : inLd isz el' j' sz agg id (.ls nn sz' ds) k =
  ((sz' = isz ∧ el' < ds.length ∧ j' < isz ∧ j' + sz ≤ isz ∧ (agg = true → (D.at ds el').isAg = true)) ∧ k (.im (inTok agg id (D.sub (D.at ds el') j' sz agg)) (D.sub (D.at ds el') j' sz agg)) []) := rfl
@[go_sem] theorem inTok_t {id : Nat} {d : D} : inTok true id d = some id := by simp [inTok]
@[go_sem] theorem inTok_sc {id : Nat} {v : Value} : inTok false id (.sc v) = none := by simp [inTok, D.isSc]
@[go_sem] theorem inTok_ls {id : Nat} {nn : Option Bool} {sz : Nat} {ds : List D} : inTok false id (.ls nn sz ds) = some id := by simp [inTok, D.isSc]
@[go_sem] theorem inTok_ag {id : Nat} {ds : List D} : inTok false id (.ag ds) = some id := by simp [inTok, D.isSc]
@[congr] theorem slcR_cg {l l' h h' : AV} {n : Nat} {k : Nat → Nat → Prop} (h0 : l = l') (h1 : h = h') : slcR l h n k = slcR l' h' n k := by rw [h0, h1]
@[go_sem] theorem slcR_i {t u : Option Nat} {a b : IntKind} {l h : Int} {n : Nat} {k : Nat → Nat → Prop} : slcR (.im t (.sc (.int a l))) (.im u (.sc (.int b h))) n k = ((0 ≤ l ∧ l ≤ h ∧ h ≤ n) ∧ k l.toNat h.toNat) := rfl
@[go_sem] theorem slcK_sm {id off len : Nat} {ev : X → AV} {un : Nat → Option U} {sz : Nat} {lo hi : Option X} {k : KQ} : slcK (.sm id off len) ev un sz lo hi k =
  slcM (un id) id off len sz lo.isSome ((lo.map ev).getD (.im none (.sc (.int .i64 0)))) ((hi.map ev).getD (.im none (.sc (.int .i64 len)))) k := rfl
@[congr] theorem slcM_cg {u u' : Option U} {id off len sz : Nat} {lo : Bool} {l l' h h' : AV} {k : KQ} (h0 : u = u') (h1 : l = l') (h2 : h = h') : slcM u id off len sz lo l h k = slcM u' id off len sz lo l' h' k := by rw [h0, h1, h2]
@[go_sem] theorem slcM_t {ow : Bool} {nn : Option Bool} {usz : Nat} {es : List D} {id off len sz : Nat} {l h : AV} {k : KQ} : slcM (some (.ar ow nn usz es)) id off len sz true l h k = (usz = sz ∧ slcR l h len fun l h => k (.ss id (off + l) (h - l)) []) := rfl
@[go_sem] theorem slcM_f {ow : Bool} {nn : Option Bool} {usz : Nat} {es : List D} {id off len sz : Nat} {l h : AV} {k : KQ} : slcM (some (.ar ow nn usz es)) id off len sz false l h k = (usz = sz ∧ slcR l h len fun _ h => k (.sm id off h) []) := rfl
@[go_sem] theorem slcK_cw {id el j : Nat} {ev : X → AV} {un : Nat → Option U} {sz : Nat} {lo hi : Option X} {k : KQ} : slcK (.cw id el j 1 false) ev un sz lo hi k = slcC (un id) id el j sz ((lo.map ev).getD (.im none (.sc (.int .i64 0)))) (hi.map ev) k := rfl
@[congr] theorem slcC_cg {u u' : Option U} {id el j sz : Nat} {l l' : AV} {h h' : Option AV} {k : KQ} (h0 : u = u') (h1 : l = l') (h2 : h = h') : slcC u id el j sz l h k = slcC u' id el j sz l' h' k := by rw [h0, h1, h2]
@[go_sem] theorem slcC_ar {nn : Option Bool} {usz : Nat} {es : List D} {id el j sz : Nat} {l : AV} {h : Option AV} {k : KQ} : slcC (some (.ar true nn usz es)) id el j sz l h k = slcD (D.sub (D.at es el) j 1 false) id el j sz l h k := rfl
@[congr] theorem slcD_cg {d d' : D} {id el j sz : Nat} {l : AV} {h : Option AV} {k : KQ} (h0 : d = d') : slcD d id el j sz l h k = slcD d' id el j sz l h k := by rw [h0]
@[go_sem] theorem slcD_ls {nn : Option Bool} {isz : Nat} {ds : List D} {id el j sz : Nat} {l : AV} {h : Option AV} {k : KQ} : slcD (.ls nn isz ds) id el j sz l h k =
  (isz = sz ∧ slcR l (h.getD (.im none (.sc (.int .i64 ds.length)))) ds.length fun l h => k (.qs id el j sz l (h - l)) []) := rfl
@[go_sem] theorem calvK_fn {t : Option Nat} {f : Nat} {ds : List D} {Q : Program} {d : Option Nat} {args : List AV} {un : Nat → Option U} {k : KQ} : calvK (.im t (.fn f ds)) Q d args un k = callQ Q d f (args ++ ds.map (.im t)) un k := rfl
@[go_sem] theorem calvK_cl {f : Nat} {vs : List AV} {Q : Program} {d : Option Nat} {args : List AV} {un : Nat → Option U} {k : KQ} : calvK (.cl f vs) Q d args un k = callQ Q d f (args ++ vs) un k := rfl
@[go_sem] theorem lenK_ss {i off len : Nat} {un : Nat → Option U} {k : KQ} : lenK (.ss i off len) un k = k (.im none (.sc (.int .i64 len))) [] := rfl
@[go_sem] theorem lenK_z0 {nn : Option Bool} {sz : Nat} {un : Nat → Option U} {k : KQ} : lenK (.z0 nn sz) un k = k (.im none (.sc (.int .i64 0))) [] := rfl
@[go_sem] theorem lenK_qs {i el j isz off len : Nat} {un : Nat → Option U} {k : KQ} : lenK (.qs i el j isz off len) un k = lenD (AV.den un (.qs i el j isz off len)) k := rfl
def denQ (u : Option U) (id el j isz off len : Nat) : Option (Option Nat × D) := match u with | some (.ar true _ _ es) => (inSub off len isz (D.sub (D.at es el) j 1 false)).map (some id, ·) | _ => none
@[go_sem] theorem den_qs {id el j isz off len : Nat} {un : Nat → Option U} : AV.den un (.qs id el j isz off len) = denQ (un id) id el j isz off len := rfl
@[go_sem] theorem denQ_ar {nn : Option Bool} {sz : Nat} {es : List D} {id el j isz off len : Nat} : denQ (some (.ar true nn sz es)) id el j isz off len = (inSub off len isz (D.sub (D.at es el) j 1 false)).map (some id, ·) := rfl
@[go_sem] theorem inSub_ls {off len isz : Nat} {nn : Option Bool} {sz : Nat} {ds : List D} : inSub off len isz (.ls nn sz ds) = if sz = isz then some (.ls (if off = 0 ∧ len = ds.length then nn else none) sz ((ds.drop off).take len)) else none := rfl
@[go_sem] theorem stK_pq {id el j isz el' j' sz : Nat} {x : AV} {st : St} {f : St → Prop} : stK (.pq id el j isz el' j') x st sz f = takeN 12 st x (stD id el j isz el' j' sz f) := rfl
@[congr] theorem stD_cg {id el j isz el' j' sz : Nat} {f : St → Prop} {own own' : Bool} {d d' : D} {st st' : St} (h1 : own = own') (h2 : d = d') (h3 : st = st') : stD id el j isz el' j' sz f own d st = stD id el j isz el' j' sz f own' d' st' := by rw [h1, h2, h3]
@[go_sem] theorem stD_ap {id el j isz el' j' sz : Nat} {f : St → Prop} {own : Bool} {d : D} {st : St} : stD id el j isz el' j' sz f own d st = stQ (st.unit id) id el j isz el' j' sz own d st f := rfl
@[congr] theorem stQ_cg {u u' : Option U} {id el j isz el' j' sz : Nat} {own : Bool} {d : D} {st' : St} {f : St → Prop} (h0 : u = u') : stQ u id el j isz el' j' sz own d st' f = stQ u' id el j isz el' j' sz own d st' f := by rw [h0]
@[go_sem] theorem stQ_ar {nn : Option Bool} {usz : Nat} {es : List D} {id el j isz el' j' sz : Nat} {own : Bool} {d : D} {st' : St} {f : St → Prop} : stQ (some (.ar true nn usz es)) id el j isz el' j' sz own d st' f = stI nn usz es id el j isz el' j' sz own d st' f (D.sub (D.at es el) j 1 false) := rfl
@[congr] theorem stI_cg {nn : Option Bool} {usz : Nat} {es : List D} {id el j isz el' j' sz : Nat} {own : Bool} {d : D} {st' : St} {f : St → Prop} {q q' : D} (h0 : q = q') : stI nn usz es id el j isz el' j' sz own d st' f q = stI nn usz es id el j isz el' j' sz own d st' f q' := by rw [h0]
@[go_sem] theorem stI_ls {nn : Option Bool} {usz : Nat} {es : List D} {id el j isz el' j' sz : Nat} {own : Bool} {d : D} {st' : St} {f : St → Prop} {nn' : Option Bool} {sz' : Nat} {ds : List D} : stI nn usz es id el j isz el' j' sz own d st' f (.ls nn' sz' ds) =
  ((sz' = isz ∧ d.size = sz ∧ j' < isz ∧ j' + sz ≤ isz ∧ el < es.length ∧ el' < ds.length ∧ (j = 0 ∧ usz = 1 ∧ (D.at es el).isAg = false ∨ (D.at es el).isAg = true ∧ usz ≠ 1) ∧ (j' = 0 ∧ sz = isz ∨ (D.at ds el').isAg = true) ∧ d.noPtr = true) ∧
   f (st'.upd id (.ar true nn usz (inSet es usz el j (.ls nn' sz' (ds.set el' (D.put sz' (D.at ds el') j' sz d))))))) := rfl
@[go_sem] theorem appX_z0 {nn : Option Bool} {q : Nat} {own : Bool} {ds : List D} {st' : St} {d sz bytes : Nat} {f : St → Prop} : appX (.z0 nn q) own ds st' d sz bytes f =
  ((ds.length * bytes ≤ 140737488355328 ∧ ds.length ≤ maxEl ∧ 0 < sz ∧ own = true ∧ (∀ e ∈ ds, e.size = sz) ∧ st'.fresh [(d, .own .jk)] = true) ∧ f ((st'.addUs [(d, .own (.ls (nnGrow nn ds) sz ds))]).set d (.tr d))) := rfl
@[go_sem] theorem lenD_ls {t : Option Nat} {nn : Option Bool} {sz : Nat} {ds : List D} {k : KQ} : lenD (some (t, .ls nn sz ds)) k = k (.im none (.sc (.int .i64 ds.length))) [] := rfl
@[go_sem] theorem lenK_ls {t : Option Nat} {nn : Option Bool} {sz : Nat} {ds : List D} {un : Nat → Option U} {k : KQ} : lenK (.im t (.ls nn sz ds)) un k = k (.im none (.sc (.int .i64 ds.length))) [] := rfl
@[go_sem] theorem lenK_lc {t : Option Nat} {b o : Nat} {nn : Option Bool} {sz : Nat} {ds : List D} {un : Nat → Option U} {k : KQ} : lenK (.im t (.lc b o (.ls nn sz ds))) un k = k (.im none (.sc (.int .i64 ds.length))) [] := rfl
@[go_sem] theorem lenK_sm {i off len : Nat} {un : Nat → Option U} {k : KQ} : lenK (.sm i off len) un k = k (.im none (.sc (.int .i64 len))) [] := rfl
@[go_sem] theorem lenD_lc {t : Option Nat} {b o : Nat} {nn : Option Bool} {sz : Nat} {ds : List D} {k : KQ} : lenD (some (t, .lc b o (.ls nn sz ds))) k = k (.im none (.sc (.int .i64 ds.length))) [] := rfl
@[go_sem] theorem lenK_tr {i : Nat} {un : Nat → Option U} {k : KQ} : lenK (.tr i) un k = lenD (AV.den un (.tr i)) k := rfl
@[go_sem] theorem lenK_cw {i el j cz : Nat} {cg : Bool} {un : Nat → Option U} {k : KQ} : lenK (.cw i el j cz cg) un k = lenD (AV.den un (.cw i el j cz cg)) k := rfl
def denW (u : Option U) (id el j cz : Nat) (cg : Bool) : Option (Option Nat × D) := match u with | some (.ar true _ _ es) => some (some id, D.sub (D.at es el) j cz cg) | _ => none
def denT (u : Option U) (k : Nat) : Option (Option Nat × D) := match u with | some (.own d) => some (some k, d) | _ => none
@[go_sem] theorem den_im {t : Option Nat} {d : D} {un : Nat → Option U} : AV.den un (.im t d) = some (t, d) := rfl
@[go_sem] theorem den_tr {k : Nat} {un : Nat → Option U} : AV.den un (.tr k) = denT (un k) k := rfl
@[go_sem] theorem den_cw {id el j cz : Nat} {cg : Bool} {un : Nat → Option U} : AV.den un (.cw id el j cz cg) = denW (un id) id el j cz cg := rfl
@[go_sem] theorem denW_ar {nn : Option Bool} {sz : Nat} {es : List D} {id el j cz : Nat} {cg : Bool} : denW (some (.ar true nn sz es)) id el j cz cg = some (some id, D.sub (D.at es el) j cz cg) := rfl
@[go_sem] theorem denT_own {d : D} {k : Nat} : denT (some (.own d)) k = some (some k, d) := rfl
@[go_sem] theorem calvK_f {t : Option Nat} {f : Nat} {Q : Program} {d : Option Nat} {args : List AV} {un : Nat → Option U} {k : KQ} : calvK (.im t (.sc (.func (.func f) ⟨[]⟩ ⟨[]⟩))) Q d args un k = callQ Q d f args un k := rfl
@[go_sem] theorem extK_t {vs : List AV} {i : Nat} {k : KQ} : extK (.tup vs) i k = (i < vs.length ∧ k (vs.getD i .any) []) := rfl
@[go_sem] theorem takeTr_o {d : D} {i : Nat} {st : St} {k : KT} : takeTr (some (.own d)) i st k = k true d (st.del i) := rfl
@[go_sem] theorem takeSm_a {nn : Option Bool} {sz : Nat} {es : List D} {i off len : Nat} {st : St} {k : KT} : takeSm (some (.ar true nn sz es)) i off len st k = ((off = 0 ∧ len = es.length) ∧ k true (.ls nn sz es) (st.del i)) := rfl
@[congr] theorem takeCw_cg {u u' : Option U} {i el j sz : Nat} {agg : Bool} {st : St} {k : KT} (h0 : u = u') : takeCw u i el j sz agg st k = takeCw u' i el j sz agg st k := by rw [h0]
@[go_sem] theorem takeCw_a {nn : Option Bool} {usz : Nat} {es : List D} {i el j sz : Nat} {agg : Bool} {st : St} {k : KT} : takeCw (some (.ar true nn usz es)) i el j sz agg st k = ((agg = true → (D.at es el).isAg = true) ∧ k true (D.sub (D.at es el) j sz agg) (st.updC i el (.ar true nn usz (es.set el (D.put usz (D.at es el) j sz (jks sz agg)))))) := rfl
@[go_sem] theorem takeA_some {i : Nat} {d : D} {st : St} {k : KT} : takeA st (.im (some i) d) k = (d.noPtr = true ∧ k true d st) := by simp only [takeA]
@[go_sem] theorem takeA_cw {i el j sz : Nat} {agg : Bool} {st : St} {k : KT} : takeA st (.cw i el j sz agg) k = takeCw (st.unit i) i el j sz agg st k := by simp only [takeA]
@[go_sem] theorem takeY_cw {i el j cz sz : Nat} {cg : Bool} {st : St} {k : KL} : takeY st sz (.cw i el j cz cg) k = takeD (AV.arg st.unit (.cw i el j cz cg)) sz st k := rfl
@[go_sem] theorem appX_cw {i el j cz : Nat} {cg : Bool} {own : Bool} {ds : List D} {st' : St} {d sz bytes : Nat} {f : St → Prop} : appX (.cw i el j cz cg) own ds st' d sz bytes f = takeA st' (.cw i el j cz cg) (appE own ds d sz bytes f) := rfl
@[go_sem] theorem takeA_none {d : D} {st : St} {k : KT} : takeA st (.im none d) k = k d.noPtr d st := by simp only [takeA]
@[go_sem] theorem takeA_tr {i : Nat} {st : St} {k : KT} : takeA st (.tr i) k = takeTr (st.unit i) i st k := by simp only [takeA]
@[go_sem] theorem takeA_sm {i off len : Nat} {st : St} {k : KT} : takeA st (.sm i off len) k = takeSm (st.unit i) i off len st k := by simp only [takeA]
@[go_sem] theorem takeA_sg {vs : List AV} {st : St} {k : KT} : takeA st (.sg vs) k = takeL st vs (sgC k) := by simp only [takeA]
@[go_sem] theorem takeL_nil {st : St} {k : KL} : takeL st [] k = k true [] st := by simp only [takeL]
@[go_sem] theorem takeL_cons {v : AV} {vs : List AV} {st : St} {k : KL} : takeL st (v :: vs) k = takeA st v (lstC vs k) := by simp only [takeL]; rfl
@[congr] theorem takeA_cg {st st' : St} {v v' : AV} {k : KT} (h : st = st') (h' : v = v') : takeA st v k = takeA st' v' k := by rw [h, h']
@[go_sem] theorem takeN_im {n : Nat} {d : D} {st : St} {k : KT} : takeN n st (.im none d) k = k d.flat d st := by cases n <;> simp only [takeN]
@[go_sem] theorem takeN_imS {n : Nat} {t : Nat} {d : D} {st : St} {k : KT} : takeN n st (.im (some t) d) k = takeA st (.im (some t) d) k := by cases n <;> simp only [takeN]
@[go_sem] theorem takeN_tr {n : Nat} {i : Nat} {st : St} {k : KT} : takeN n st (.tr i) k = takeA st (.tr i) k := by cases n <;> simp only [takeN]
@[go_sem] theorem takeN_sm {n : Nat} {i off len : Nat} {st : St} {k : KT} : takeN n st (.sm i off len) k = takeA st (.sm i off len) k := by cases n <;> simp only [takeN]
@[go_sem] theorem takeN_cw {n : Nat} {i el j sz : Nat} {agg : Bool} {st : St} {k : KT} : takeN n st (.cw i el j sz agg) k = takeA st (.cw i el j sz agg) k := by cases n <;> simp only [takeN]
@[go_sem] theorem takeN_sg {n : Nat} {vs : List AV} {st : St} {k : KT} : takeN (n + 1) st (.sg vs) k = takeNL (takeN n) st vs (sgC k) := by simp only [takeN]
@[go_sem] theorem takeN_vb {n : Nat} {i len : Nat} {st : St} {k : KT} : takeN (n + 1) st (.vb i len) k = takeBx (takeN n) (st.unit i) i len st k := by simp only [takeN]
@[congr] theorem takeN_cg {n : Nat} {st st' : St} {v v' : AV} {k : KT} (h : st = st') (h' : v = v') : takeN n st v k = takeN n st' v' k := by rw [h, h']
@[congr] theorem takeBx_cg {f : St → AV → KT → Prop} {u u' : Option U} {i len : Nat} {st : St} {k : KT} (h : u = u') : takeBx f u i len st k = takeBx f u' i len st k := by rw [h]
@[go_sem] theorem takeBx_a {f : St → AV → KT → Prop} {sz : Nat} {items : List AV} {i len : Nat} {st : St} {k : KT} : takeBx f (some (.bx sz items)) i len st k = (len = items.length ∧ takeNL f (st.del i) items (lsC sz k)) := rfl
@[go_sem] theorem takeNL_nil {f : St → AV → KT → Prop} {st : St} {k : KL} : takeNL f st [] k = k true [] st := rfl
@[go_sem] theorem takeNL_cons {f : St → AV → KT → Prop} {v : AV} {vs : List AV} {st : St} {k : KL} : takeNL f st (v :: vs) k = f st v (lstE f vs k) := rfl
@[congr] theorem takeNL_cg {f : St → AV → KT → Prop} {st st' : St} {v v' : List AV} {k : KL} (h : st = st') (h' : v = v') : takeNL f st v k = takeNL f st' v' k := by rw [h, h']
@[congr] theorem lstE_cg {f : St → AV → KT → Prop} {vs vs' : List AV} {k : KL} {b b' : Bool} {d d' : D} {st st' : St} (h1 : vs = vs') (h2 : b = b') (h3 : d = d') (h4 : st = st') : lstE f vs k b d st = lstE f vs' k b' d' st' := by rw [h1, h2, h3, h4]
@[go_sem] theorem lstE_ap {f : St → AV → KT → Prop} {vs : List AV} {k : KL} {b : Bool} {d : D} {st : St} : lstE f vs k b d st = takeNL f st vs (lstD b d k) := rfl
@[congr] theorem lsC_cg {sz : Nat} {k : KT} {b b' : Bool} {ds ds' : List D} {st st' : St} (h2 : b = b') (h3 : ds = ds') (h4 : st = st') : lsC sz k b ds st = lsC sz k b' ds' st' := by rw [h2, h3, h4]
@[go_sem] theorem lsC_ap {sz : Nat} {k : KT} {b : Bool} {ds : List D} {st : St} : lsC sz k b ds st = ((0 < sz ∧ b = true ∧ ∀ d ∈ ds, d.size = sz) ∧ k true (.ls (some false) sz ds) st) := rfl
@[congr] theorem takeL_cg {st st' : St} {v v' : List AV} {k : KL} (h : st = st') (h' : v = v') : takeL st v k = takeL st' v' k := by rw [h, h']
@[congr] theorem takeY_cg {st st' : St} {sz : Nat} {v v' : AV} {k : KL} (h : st = st') (h' : v = v') : takeY st sz v k = takeY st' sz v' k := by rw [h, h']
@[congr] theorem lstC_cg {vs vs' : List AV} {k : KL} {b b' : Bool} {d d' : D} {st st' : St} (h1 : vs = vs') (h2 : b = b') (h3 : d = d') (h4 : st = st') : lstC vs k b d st = lstC vs' k b' d' st' := by rw [h1, h2, h3, h4]
@[go_sem] theorem lstC_ap {vs : List AV} {k : KL} {b : Bool} {d : D} {st : St} : lstC vs k b d st = takeL st vs (lstD b d k) := rfl
@[congr] theorem lstD_cg {k : KL} {b b' c c' : Bool} {d d' : D} {ds ds' : List D} {st st' : St} (h2 : b = b') (h3 : d = d') (h5 : c = c') (h6 : ds = ds') (h4 : st = st') : lstD b d k c ds st = lstD b' d' k c' ds' st' := by rw [h2, h3, h4, h5, h6]
@[go_sem] theorem lstD_ap {k : KL} {b c : Bool} {d : D} {ds : List D} {st : St} : lstD b d k c ds st = ((b = true ∨ c = false ∨ noPtrs ds = true) ∧ (c = true ∨ b = false ∨ d.noPtr = true) ∧ k (mixB b d.noPtr c (noPtrs ds)) (d :: ds) st) := rfl
@[congr] theorem sgC_cg {k : KT} {b b' : Bool} {ds ds' : List D} {st st' : St} (h1 : b = b') (h2 : ds = ds') (h3 : st = st') : sgC k b ds st = sgC k b' ds' st' := by rw [h1, h2, h3]
@[go_sem] theorem sgC_ap {k : KT} {b : Bool} {ds : List D} {st : St} : sgC k b ds st = k b (.ag (ds.map D.cells).flatten) st := rfl
@[go_sem] theorem takeV_a {bsz : Nat} {items : List AV} {i len sz : Nat} {st : St} {k : KL} : takeV (some (.bx bsz items)) i len sz st k = ((bsz = sz ∧ len = items.length) ∧ takeNL (takeN 12) (st.del i) items k) := rfl
@[go_sem] theorem takeD_a {nn : Option Bool} {sz sz' : Nat} {ds : List D} {st : St} {k : KL} : takeD (some (.ls nn sz' ds)) sz st k = ((sz = sz' ∧ noPtrs ds = true) ∧ k true ds st) := rfl
@[go_sem] theorem takeY_vb {i len sz : Nat} {st : St} {k : KL} : takeY st sz (.vb i len) k = takeV (st.unit i) i len sz st k := rfl
@[go_sem] theorem takeY_im {nn : Option Bool} {sz sz' : Nat} {ds : List D} {st : St} {k : KL} : takeY st sz (.im none (.ls nn sz' ds)) k = (sz = sz' ∧ k (noPtrs ds) ds st) := rfl
@[go_sem] theorem takeY_so {i : Nat} {d : D} {sz : Nat} {st : St} {k : KL} : takeY st sz (.im (some i) d) k = takeD (some d) sz st k := rfl
@[go_sem] theorem takeY_tr {i sz : Nat} {st : St} {k : KL} : takeY st sz (.tr i) k = takeD (AV.arg st.unit (.tr i)) sz st k := rfl
@[go_sem] theorem takeY_sm {i off len sz : Nat} {st : St} {k : KL} : takeY st sz (.sm i off len) k = takeD (AV.arg st.unit (.sm i off len)) sz st k := rfl
@[go_sem] theorem stK_pw {id el j sz : Nat} {x : AV} {st : St} {f : St → Prop} : stK (.pw id el j) x st sz f = if x.isRef = true then stN (st.unit id) id el j sz x st f else takeN 12 st x (stC id el j sz f) := rfl
@[congr] theorem stC_cg {id el j sz : Nat} {f : St → Prop} {own own' : Bool} {d d' : D} {st st' : St} (h1 : own = own') (h2 : d = d') (h3 : st = st') : stC id el j sz f own d st = stC id el j sz f own' d' st' := by rw [h1, h2, h3]
@[go_sem] theorem stC_ap {id el j sz : Nat} {f : St → Prop} {own : Bool} {d : D} {st : St} : stC id el j sz f own d st = stU (st.unit id) id el j sz own d st f := rfl
@[go_sem] theorem stU_ar {ow : Bool} {nn : Option Bool} {usz : Nat} {es : List D} {id el j sz : Nat} {own : Bool} {d : D} {st' : St} {f : St → Prop} : stU (some (.ar ow nn usz es)) id el j sz own d st' f =
  ((d.size = sz ∧ j + sz ≤ usz ∧ el < es.length ∧ (j = 0 ∧ sz = usz ∨ (D.at es el).isAg = true) ∧ (own = ow ∨ d.noPtr = true ∨ noPtrs es = true)) ∧
    f (st'.upd id (.ar (modeOf own ow d.flat (noPtrs es)) nn usz (es.set el (D.put usz (D.at es el) j sz d))))) := rfl
@[congr] theorem appC_cg {x : X} {d sz bytes : Nat} {f : St → Prop} {own own' : Bool} {ds ds' : List D} {st st' : St} (h1 : own = own') (h2 : ds = ds') (h3 : st = st') : appC x d sz bytes f own ds st = appC x d sz bytes f own' ds' st' := by rw [h1, h2, h3]
@[go_sem] theorem appC_ap {x : X} {d sz bytes : Nat} {f : St → Prop} {own : Bool} {ds : List D} {st' : St} : appC x d sz bytes f own ds st' = appX (st'.ev x) own ds st' d sz bytes f := rfl
@[go_sem] theorem appX_nil {t : Option Nat} {q : Nat} {own : Bool} {ds : List D} {st' : St} {d sz bytes : Nat} {f : St → Prop} : appX (.im t (.ls (some true) q [])) own ds st' d sz bytes f =
  ((ds.length * bytes ≤ 140737488355328 ∧ ds.length ≤ maxEl ∧ 0 < sz ∧ (∀ e ∈ ds, e.size = sz) ∧ st'.fresh [(d, .own .jk)] = true) ∧ f ((st'.addUs [(d, .ar own (nnGrow (some true) ds) sz ds)]).set d (.sm d 0 ds.length))) := rfl
@[go_sem] theorem appX_sm {id off len : Nat} {own : Bool} {ds : List D} {st' : St} {d sz bytes : Nat} {f : St → Prop} : appX (.sm id off len) own ds st' d sz bytes f = appU (st'.unit id) id off len own ds st' d sz bytes f := rfl
@[go_sem] theorem appX_tr {i : Nat} {own : Bool} {ds : List D} {st' : St} {d sz bytes : Nat} {f : St → Prop} : appX (.tr i) own ds st' d sz bytes f = takeA st' (.tr i) (appE own ds d sz bytes f) := rfl
@[congr] theorem appE_cg {own : Bool} {ds : List D} {d sz bytes : Nat} {f : St → Prop} {o o' : Bool} {e e' : D} {st st' : St} (h1 : o = o') (h2 : e = e') (h3 : st = st') : appE own ds d sz bytes f o e st = appE own ds d sz bytes f o' e' st' := by rw [h1, h2, h3]
@[go_sem] theorem appE_ls {own : Bool} {ds : List D} {d sz bytes : Nat} {f : St → Prop} {own' : Bool} {nn : Option Bool} {sz' : Nat} {es : List D} {st'' : St} : appE own ds d sz bytes f own' (.ls nn sz' es) st'' =
  ((sz' = sz ∧ own = true ∧ own' = true ∧ (es.length + ds.length) * bytes ≤ 140737488355328 ∧ es.length + ds.length ≤ maxEl ∧ (∀ e ∈ ds, e.size = sz) ∧ 0 < sz ∧ st''.fresh [(d, .own .jk)] = true) ∧
    f ((st''.addUs [(d, .own (.ls (nnGrow nn ds) sz (es ++ ds)))]).set d (.tr d))) := rfl
@[go_sem] theorem appU_ar {ow : Bool} {nn : Option Bool} {usz : Nat} {es : List D} {id off len : Nat} {own : Bool} {ds : List D} {st' : St} {d sz bytes : Nat} {f : St → Prop} : appU (some (.ar ow nn usz es)) id off len own ds st' d sz bytes f =
  ((usz = sz ∧ 0 < sz ∧ off = 0 ∧ cutOk len es ∧ (len + ds.length) * bytes ≤ 140737488355328 ∧ len + ds.length ≤ maxEl ∧ (∀ e ∈ ds, e.size = sz) ∧ (own = ow ∨ noPtrs ds = true ∨ noPtrs (cutL len es) = true)) ∧
    f ((st'.upr id (.ar (modeOf own ow (D.flatL ds) (noPtrs (cutL len es))) (nnGrow nn ds) sz (cutL len es ++ ds))).set d (.sm id 0 (len + ds.length)))) := rfl
attribute [go_sem] cutOk cutL
end

attribute [go_sem] D.flat D.flatL litAV litTok jks List.replicate_succ List.replicate_zero binK binA binV ldAV nnGrow modeOf bsK bsS shPart shA AV.sh1 bldK itemOk sortedB fillSg sgAV imAll AV.size mixB imDs AV.arg AV.shared argsOf bindR bindR.bindL D.noPtr D.noPtrL D.size D.sizeL D.put noPtrs ROp.dst
attribute [go_sem] if_true if_false ite_true ite_false reduceCtorEq true_and and_true true_implies List.map_nil List.map_cons List.length_nil List.length_cons List.length_map List.nil_append List.cons_append
 Option.map_some Option.map_none Option.getD_some Option.getD_none List.append_nil or_true true_or or_false false_or Bool.not_true Bool.not_false false_implies List.flatten_cons List.flatten_nil List.all_cons List.all_nil
 bne_self_eq_false beq_self_eq_true Bool.true_and Bool.and_true Bool.false_and Bool.and_false Bool.or_true Bool.or_false Bool.true_or Bool.false_or List.getD_cons_zero List.getD_cons_succ List.set_cons_zero List.set_cons_succ
 Int.toNat_natCast Int.toNat_zero Nat.zero_add Nat.add_zero List.isEmpty_nil List.isEmpty_cons List.drop_zero List.take_zero List.drop_succ_cons List.take_succ_cons List.drop_nil List.take_nil
 Bool.not_eq_true Bool.not_eq_false decide_eq_true_eq decide_eq_false_iff_not
@[go_sem] theorem at_cons0 (d : D) (ds : List D) : D.at (d :: ds) 0 = d := rfl

@[go_sem] theorem sub_ag {ds : List D} {j sz : Nat} {agg : Bool} : D.sub (.ag ds) j sz agg = if agg then .ag ((ds.drop j).take sz) else ds.getD j default := rfl
@[go_sem] theorem sub_sc {v : Value} {j sz : Nat} {agg : Bool} : D.sub (.sc v) j sz agg = .sc v := rfl
@[go_sem] theorem sub_ls {nn : Option Bool} {z : Nat} {ds : List D} {j sz : Nat} {agg : Bool} : D.sub (.ls nn z ds) j sz agg = .ls nn z ds := rfl
@[go_sem] theorem sub_lc {b o : Nat} {d : D} {j sz : Nat} {agg : Bool} : D.sub (.lc b o d) j sz agg = .lc b o d := rfl
@[go_sem] theorem isAg_lc {b o : Nat} {d : D} : D.isAg (.lc b o d) = false := rfl
@[go_sem] theorem cells_lc {b o : Nat} {d : D} : D.cells (.lc b o d) = [.lc b o d] := rfl
@[go_sem] theorem sub_pt {d : D} {i j sz : Nat} {agg : Bool} : D.sub (.pt d i) j sz agg = .pt d i := rfl
@[go_sem] theorem sub_jk {j sz : Nat} {agg : Bool} : D.sub .jk j sz agg = .jk := rfl
@[go_sem] theorem isAg_ag {ds : List D} : D.isAg (.ag ds) = true := rfl
@[go_sem] theorem isAg_sc {v : Value} : D.isAg (.sc v) = false := rfl
@[go_sem] theorem isAg_ls {nn : Option Bool} {z : Nat} {ds : List D} : D.isAg (.ls nn z ds) = false := rfl
@[go_sem] theorem isAg_pt {d : D} {i : Nat} : D.isAg (.pt d i) = false := rfl
@[go_sem] theorem isAg_jk : D.isAg .jk = false := rfl
@[go_sem] theorem cells_ag {ds : List D} : D.cells (.ag ds) = ds := rfl
@[go_sem] theorem cells_sc {v : Value} : D.cells (.sc v) = [.sc v] := rfl
@[go_sem] theorem cells_ls {nn : Option Bool} {z : Nat} {ds : List D} : D.cells (.ls nn z ds) = [.ls nn z ds] := rfl
@[go_sem] theorem cells_pt {d : D} {i : Nat} : D.cells (.pt d i) = [.pt d i] := rfl
@[go_sem] theorem cells_jk : D.cells .jk = [.jk] := rfl

@[go_sem high] theorem grdK_tt {t : Option Nat} {p q : Prop} : grdK (.im t (.sc (.bool true))) true p q = p := by simp [grdK]
@[go_sem high] theorem grdK_tf {t : Option Nat} {p q : Prop} : grdK (.im t (.sc (.bool true))) false p q = q := by simp [grdK]
@[go_sem high] theorem grdK_ft {t : Option Nat} {p q : Prop} : grdK (.im t (.sc (.bool false))) true p q = q := by simp [grdK]
@[go_sem high] theorem grdK_ff {t : Option Nat} {p q : Prop} : grdK (.im t (.sc (.bool false))) false p q = p := by simp [grdK]
@[go_sem high] theorem condK_t {t : Option Nat} {p q : Prop} : condK (.im t (.sc (.bool true))) p q = p := by simp [condK]
@[go_sem high] theorem condK_f {t : Option Nat} {p q : Prop} : condK (.im t (.sc (.bool false))) p q = q := by simp [condK]
@[go_sem high] theorem pickK_t {t : Option Nat} {a b : AV} {k : KQ} : pickK (.im t (.sc (.bool true))) a b k = k a [] := by simp [pickK]
@[go_sem high] theorem pickK_f {t : Option Nat} {a b : AV} {k : KQ} : pickK (.im t (.sc (.bool false))) a b k = k b [] := by simp [pickK]
attribute [go_sem] Bool.not_true Bool.not_false

end Go.Ax
namespace Go.Ax

def ROp.xs : ROp → List X
 | .mv _ x | .box _ _ x | .ld _ _ _ x | .nck _ x | .un _ _ x | .cvt _ _ x | .fa _ _ x | .fl _ _ _ _ x | .len _ x | .slen _ x | .ext _ x _ => [x]
 | .pick _ c a b => [c, a, b]
 | .zer .. => []
 | .st _ a x => [a, x]
 | .bin _ _ x y | .beq _ _ x y | .snil _ _ x y | .ceq _ _ _ x y | .ia _ _ x y | .ix _ x y | .app _ _ _ x y => [x, y]
 | .mk _ _ _ _ l c => [l, c]
 | .slc _ _ x lo hi | .sls _ x lo hi => x :: (lo.toList ++ hi.toList)
 | .call _ _ args => args
 | .calv _ x args => x :: args
 | .bs _ _ _ _ ps => ps.map (·.2)
 | .bld _ _ ps => ps.map (·.2.2)
 | .mcl _ _ x y => [x, y]
 | .cls _ _ x args => x :: args
 | .mkf _ _ args => args
 | .s30 _ _ x => [x]
 | .mxm _ _ x y => [x, y]
 | .bse _ _ => []
 | .zsb _ _ _ => []
 | .bwr _ _ x args => x :: args
 | .bst _ _ x => [x]
 | .ape _ _ _ x y => [x, y]
 | .cvs _ x => [x]
 | .cpy _ _ x y => [x, y]
 | .wcl _ _ args => args
 | .aps _ _ _ x y => [x, y]
 | .stp _ a x => [a, x]
 | .lcl _ _ args => args
 | .bss _ _ _ ps => ps.map (·.2)
 | .calw _ x args => x :: args
 | .other _ => []

def X.slot : X → Option Nat
 | .t n => some n
 | .c _ => none
def RO.slots (r : RO) : List Nat := r.op.xs.filterMap X.slot ++ (match r.g with | some (t, _) => [t] | none => [])

def direct (o : Oper) : List Nat := (o.after.toList.filter (fun e => Region.binds .any e)).map (·.on)
def waits (ops : Array Oper) (i : Nat) : List Nat := match ops[i]? with | some o => direct o | none => []

def noDup : List Nat → Bool
 | [] => true
 | x :: l => !l.contains x && noDup l

def slotOk (ops : Array Oper) (R : List RO) (i : Nat) (t : Nat) : Bool :=
 (List.range R.length).all fun j =>
  match R[j]? with
  | some r => r.op.dst != some t || (j < i && (waits ops i).contains j) || (i < j && (waits ops j).contains i)
  | none => true
def drawOk (ops : Array Oper) (R : List RO) : Bool :=
 noDup (R.filterMap (·.op.dst)) && (R.length == ops.size) &&
 (List.range R.length).all fun i =>
  (waits ops i).all (· < i) &&
  match R[i]? with
  | some r => r.op.isQ && r.slots.all (slotOk ops R i)
  | none => true

end Go.Ax
namespace Go.Ax

theorem mem_of_lu {us : List (Nat × U)} {k : Nat} {u : U} (h : lu us k = some u) : (k, u) ∈ us := by
 induction us with
 | nil => simp [lu] at h
 | cons x us ih =>
  obtain ⟨i, v⟩ := x
  simp only [lu] at h
  split at h
  ·next e => obtain rfl := Option.some.inj h; subst e; simp
  ·exact List.mem_cons_of_mem _ (ih h)

theorem D.sizeL_one {ds : List D} (h : ∀ d ∈ ds, d.size = 1 ∧ d.isAg = false) : D.sizeL ds = ds.length := by
 rw [D.sizeL_const (sz := 1) fun d hd => (h d hd).1]; omega

theorem fits_of_one {d : D} {v : Value} (hd : d.isAg = false) (hv : v.oneCell' = true) : d.fits v := by
 cases d <;> simp_all [D.fits, D.isAg]

theorem cells_one {v : Value} (hv : v.oneCell' = true) : v.cells = #[v] := by
 cases v <;> simp_all [Value.cells, Value.oneCell']

theorem Rep.sub {h : Heap} {d : D} {F : List Nat} {cs : List Value} (hr : Rep h d F cs) {j sz : Nat} {agg : Bool} (hj : j + sz ≤ d.size) (ha : agg = true → d.isAg = true) (h1 : agg = false → sz = 1) :
  ∃ F1 F2 F3 c1 c2 c3, F = F1 ++ (F2 ++ F3) ∧ cs = c1 ++ (c2 ++ c3) ∧ c1.length = j ∧ c2.length = sz ∧ Rep h (D.sub d j sz agg) F2 c2 ∧ (D.sub d j sz agg).isAg = agg := by
 by_cases hd : d.isAg = true
 ·cases d with
  | ag ds =>
   simp only [Rep] at hr
   obtain ⟨hs, hr⟩ := hr
   simp only [D.size, D.sizeL_one hs] at hj
   have e : ds = ds.take j ++ ((ds.drop j).take sz ++ (ds.drop j).drop sz) := by rw [List.take_append_drop, List.take_append_drop]
   rw [e] at hr
   obtain ⟨F1, F23, c1, c23, rfl, rfl, r1, r23⟩ := hr.split
   obtain ⟨F2, F3, c2, c3, rfl, rfl, r2, r3⟩ := r23.split
   have l1 : c1.length = j := by
    rw [r1.length, D.sizeL_one fun d hd => hs d (List.mem_of_mem_take hd)]; simp; omega
   have hs2 : ∀ d ∈ (ds.drop j).take sz, d.size = 1 ∧ d.isAg = false := fun d hd => hs d (List.mem_of_mem_drop (List.mem_of_mem_take hd))
   have l2 : c2.length = sz := by
    rw [r2.length, D.sizeL_one hs2]; simp; omega
   refine ⟨F1, F2, F3, c1, c2, c3, rfl, rfl, l1, l2, ?_, ?_⟩
   ·cases agg with
    | true => simp only [D.sub, if_true, Rep]; exact ⟨hs2, r2⟩
    | false =>
     obtain rfl := h1 rfl
     simp only [D.sub, bFt, if_false]
     have hlt : j < ds.length := by omega
     have e2 : (ds.drop j).take 1 = [ds[j]] := by
      rw [List.drop_eq_getElem_cons hlt]; simp only [List.take_succ_cons, List.take_zero]
     rw [e2] at r2
     rw [RepL_cons] at r2
     obtain ⟨G1, G2, e1, e3, rfl, rfl, q1, q2⟩ := r2
     obtain ⟨rfl, rfl⟩ := RepL_nil.1 q2
     have : ds.getD j default = ds[j] := by simp [List.getD, List.getElem?_eq_getElem hlt]
     rw [this]
     simpa using q1
   ·cases agg with
    | true => simp [D.sub, D.isAg]
    | false =>
     have hlt : j < ds.length := by have := h1 rfl; omega
     have : ds.getD j default = ds[j] := by simp [List.getD, List.getElem?_eq_getElem hlt]
     simp only [D.sub, bFt, if_false, this]
     exact (hs _ (List.getElem_mem hlt)).2
  | _ => simp [D.isAg] at hd
 ·have hagg : agg = false := by cases agg <;> simp_all
  subst hagg
  obtain rfl := h1 rfl
  have hsz : d.size = 1 := by cases d <;> simp_all [D.size, D.isAg]
  have hsub : D.sub d j 1 false = d := by cases d <;> simp_all [D.sub, D.isAg]
  have hl := hr.length
  refine ⟨[], F, [], [], cs, [], by simp, by simp, by simp; omega, by omega, by rw [hsub]; exact hr, by rw [hsub]; simpa using hd⟩

theorem D.at_eq {ds : List D} {i : Nat} (h : i < ds.length) : D.at ds i = ds[i] := by simp [D.at, List.getD, List.getElem?_eq_getElem h]

theorem getElem?_mid {α : Type} {a b c : List α} {i : Nat} {v : α} (h : b[i]? = some v) : (a ++ (b ++ c))[a.length + i]? = some v := by
 have hi : i < b.length := (List.getElem?_eq_some_iff.1 h).1
 rw [List.getElem?_append_right (by omega), List.getElem?_append_left (by omega)]
 simpa using h

theorem seg_eq {c : Array Value} {o sz : Nat} {c2 : List Value} (hl : c2.length = sz) (hp : ∀ i v, c2[i]? = some v → c[o + i]? = some v) : (c.toList.drop o).take sz = c2 := by
 apply List.ext_getElem?
 intro i
 rw [List.getElem?_take]
 split
 ·next hi =>
  have hi2 : i < c2.length := by omega
  have h1 : c2[i]? = some c2[i] := List.getElem?_eq_getElem hi2
  have h2 := hp i _ h1
  rw [← Array.getElem?_toList] at h2
  rw [List.getElem?_drop, h2, h1]
 ·rw [List.getElem?_eq_none (by omega)]

theorem place {h : Heap} {us : List (Nat × U)} {g : Gh} {n0 : Nat} {S0 M0 : Nat → Prop} (hu : USat h n0 S0 M0 us g) {id : Nat} {ow : Bool} {nn : Option Bool} {usz : Nat} {es : List D}
  (hm : (id, U.ar ow nn usz es) ∈ us) {el j sz b : Nat} {agg : Bool} (hel : el < es.length) (hb : g.β id = some b) (hj : j + sz ≤ usz) (ha : agg = true → (D.at es el).isAg = true) (h1 : agg = false → sz = 1) :
  ∃ c e F2 c2, h[b]? = some (.cells c e (0, 0)) ∧ (∀ i v, c2[i]? = some v → c[el * usz + j + i]? = some v) ∧ c2.length = sz ∧ Rep h (D.sub (D.at es el) j sz agg) F2 c2 ∧
   (D.sub (D.at es el) j sz agg).isAg = agg ∧ el * usz + usz ≤ c.size ∧ (if ow then ∀ x ∈ F2, x ∈ g.φ id ∧ g.β id ≠ some x else ∀ x ∈ F2, g.Sh x) := by
 have ho := hu.each _ hm
 simp only [UOk] at ho
 obtain ⟨_, hs, ho⟩ := ho
 rcases ho with ⟨h0, _⟩ | ⟨b', c, e, G, cs, rest, k1, k2, k3, k4, k5, k6, k7, k8⟩
 ·rw [hb] at h0; cases h0
 rw [hb] at k1
 obtain rfl := Option.some.inj k1
 obtain ⟨F1, F2, F3, c1, c2, c3, rfl, rfl, r1, r2, r3⟩ := k6.pick hel
 have hsz : (es[el]).size = usz := hs _ (List.getElem_mem hel)
 rw [D.at_eq hel] at ha ⊢
 obtain ⟨A1, A2, A3, d1, d2, d3, rfl, rfl, q1, q2, q3, q4⟩ := r2.sub (agg := agg) (by rw [hsz]; exact hj) ha h1
 have l1 : c1.length = el * usz := by
  rw [r1.length, D.sizeL_const (sz := usz) fun d hd => hs d (List.mem_of_mem_take hd)]; rw [List.length_take, Nat.min_eq_left (Nat.le_of_lt hel)]
 have l2 := r2.length
 refine ⟨c, e, A2, d2, k2, ?_, q2, q3, q4, ?_, ?_⟩
 ·intro i v hv
  have := getElem?_mid (a := c1 ++ d1) (c := d3 ++ c3 ++ rest) hv
  rw [← Array.getElem?_toList, k3]
  simp only [lP, l1, q1, List.append_assoc] at this ⊢
  exact this
 ·have : c.toList.length = c.size := by simp
  rw [k3] at this
  simp only [lP, l1] at this
  simp only [lP] at l2
  rw [hsz] at l2
  omega
 ·cases ow with
  | true =>
   simp only [if_true] at k8 ⊢
   intro x hx
   have hmem : x ∈ F1 ++ (A1 ++ (A2 ++ A3) ++ F3) := by simp [hx]
   refine ⟨by rw [k8]; exact List.mem_cons_of_mem _ hmem, ?_⟩
   rw [hb]
   intro e0
   obtain rfl := Option.some.inj e0
   have hn : (g.φ id).Nodup := by
    have := hu.nodup
    clear k8
    generalize hus : us = us' at this hm
    clear hus hu
    induction us' with
    | nil => cases hm
    | cons y ys ih =>
     simp only [fp, List.flatMap_cons, List.nodup_append] at this
     rcases List.mem_cons.1 hm with rfl | hm
     ·exact this.1
     ·exact ih this.2.1 hm
   rw [k8] at hn
   exact (List.nodup_cons.1 hn).1 hmem
  | false =>
   simp only [bFt, if_false] at k8 ⊢
   exact fun x hx => k8.2 x (by simp [hx])

end Go.Ax
namespace Go.Ax

variable {P : Program} {n0 : Nat} {S0 M0 : Nat → Prop} {w0 : World}

theorem addUs_nil (st : St) : st.addUs [] = st := by cases st; simp [St.addUs]

def QPost (n0 : Nat) (S0 M0 : Nat → Prop) (w0 : World) (st : St) (dst : Option Nat) (k : KQ) (a' : Act) (w' : World) : Prop :=
 ∃ av us, k av us ∧ ((us = [] ∨ st.fresh us = true) → Sat n0 S0 M0 w0 ((st.addUs us).setO dst av) a' w')

theorem put_get {a : Act} {d t : Nat} {v : Value} (hd : d < a.tmps.size) : (a.put (some d) v).tmps.getD t undef = if d = t then v else a.tmps.getD t undef := by
 simp only [Act.put, Array.getD_eq_getD_getElem?, Array.getElem?_setIfInBounds]
 split
 ·next h => subst h; simp
 ·rfl

theorem sat_set {st : St} {a : Act} {w : World} (hs : Sat n0 S0 M0 w0 st a w) {g : Gh} (hu : USat w.heap n0 S0 M0 st.us g)
  (hv : ∀ t, VRep w.heap st.us g (lk st.env t) (a.tmps.getD t undef)) {d : Option Nat} (hd : ∀ i, d = some i → i < st.n) {av : AV} {v : Value} (hr : VRep w.heap st.us g av v) :
  Sat n0 S0 M0 w0 (st.setO d av) (a.put d v) w := by
 cases d with
 | none => exact hs
 | some d =>
  have hd' := hd d rfl
  refine ⟨hs.ms, hs.dfr, by simp [Act.put, St.setO, St.set, hs.tm], hs.base, hs.os, hs.tape, hs.output, hs.size, hs.old, g, hu, fun t => ?_⟩
  rw [put_get (by rw [hs.tm]; exact hd')]
  simp only [St.setO, St.set, lk]
  split
  ·exact hr
  ·exact hv t

theorem pure_post {st : St} {o : Oper} {a : Act} {w : World} {k : KQ} {Q' : Exit → Act → World → Prop} (hs : Sat n0 S0 M0 w0 st a w) {g : Gh} (hu : USat w.heap n0 S0 M0 st.us g)
  (hv : ∀ t, VRep w.heap st.us g (lk st.env t) (a.tmps.getD t undef)) (hd : ∀ i, o.dst = some i → i < st.n) {av : AV} {v : Value}
  (hrun : (execOp a.eval o).run P w = .ok (.value v) w) (hr : VRep w.heap st.us g av v) (hk : k av []) :
  o.wp P a w (QPost n0 S0 M0 w0 st o.dst k) Q' := by
 unfold Oper.wp
 rw [hrun]
 exact ⟨av, [], hk, fun _ => by rw [addUs_nil]; exact sat_set hs hu hv hd hr⟩

mutual
theorem noPtr_F {h : Heap} : ∀ {d : D} {F cs}, d.noPtr = true → Rep h d F cs → F = []
 | .sc _, _, _, _, hr => by simp only [Rep] at hr; exact hr.1
 | .ag ds, _, _, hn, hr => by simp only [Rep] at hr; simp only [D.noPtr] at hn; exact noPtrL_F hn hr.2
 | .ls nn sz ds, _, _, hn, hr => by
  simp only [Rep] at hr
  simp only [D.noPtr, bA, beq_iff_eq] at hn
  rcases hr with ⟨_, _, _, h3, _⟩ | ⟨b, off, cap, c, e, fr, F', _, _, h3, _⟩
  ·exact h3
  ·exact absurd hn.1 h3
 | .pt _ _, _, _, hn, _ => by simp [D.noPtr] at hn
 | .lc _ _ _, _, _, hn, _ => by simp [D.noPtr] at hn
 | .jk, _, _, _, hr => by simp only [Rep] at hr; exact hr.1
theorem noPtrL_F {h : Heap} : ∀ {ds : List D} {F cs}, D.noPtrL ds = true → RepL h ds F cs → F = []
 | [], _, _, _, hr => by simp only [RepL] at hr; exact hr.1
 | d :: ds, _, _, hn, hr => by
  simp only [RepL] at hr
  simp only [D.noPtrL, bA] at hn
  obtain ⟨F1, F2, c1, c2, rfl, rfl, h1, h2⟩ := hr
  rw [noPtr_F hn.1 h1, noPtrL_F hn.2 h2]
  rfl
end

theorem cellD_rep (h : Heap) (v : Value) (sz : Nat) (hv : v.oneCell' = true) : Rep h (cellD v sz) [] [v] ∧ (cellD v sz).size = 1 ∧ (cellD v sz).isAg = false ∧ (cellD v sz).noPtr = true := by
 unfold cellD
 split
 ·simp [Rep, D.size, D.isAg, D.noPtr]
 ·simp [Rep, D.size, D.isAg, D.noPtr, hv]

theorem cellsD_rep (h : Heap) : ∀ (cs : List Value) (s : List Nat), s.length = cs.length → (∀ v ∈ cs, v.oneCell' = true) →
  RepL h (List.zipWith cellD cs s) [] cs ∧ (∀ d ∈ List.zipWith cellD cs s, d.size = 1 ∧ d.isAg = false) ∧ D.noPtrL (List.zipWith cellD cs s) = true
 | [], s, _, _ => by cases s <;> simp [RepL, D.noPtrL]
 | v :: cs, [], h1, _ => by simp at h1
 | v :: cs, z :: s, h1, h2 => by
  have ih := cellsD_rep h cs s (by simpa using h1) fun x hx => h2 x (by simp [hx])
  have c := cellD_rep h v z (h2 v (by simp))
  refine ⟨?_, ?_, ?_⟩
  ·simp only [List.zipWith_cons_cons, RepL]
   exact ⟨[], [], [v], cs, rfl, rfl, c.1, ih.1⟩
  ·simp only [List.zipWith_cons_cons, List.mem_cons]
   rintro d (rfl | hd)
   ·exact ⟨c.2.1, c.2.2.1⟩
   ·exact ih.2.1 d hd
  ·simp only [List.zipWith_cons_cons, D.noPtrL, c.2.2.2, ih.2.2, Bool.and_self]

theorem constD_rep {t : TypeId} {v : Value} {d : D} (hc : constD P t v = some d) (h : Heap) : Rep h d [] v.cells.toList ∧ d.fits v ∧ d.noPtr = true := by
 unfold constD at hc
 dsimp only at hc
 split at hc
 ·next cs =>
  split at hc
  ·next hq =>
   simp only [bA, decide_eq_true_eq] at hq
   obtain rfl := Option.some.inj hc
   have := cellsD_rep h cs.toList (cellSzs P 20 t) (by simpa using hq.1) (by simpa using Array.all_eq_true_iff_forall_mem.1 hq.2)
   exact ⟨by simp only [Rep, Value.cells]; exact ⟨this.2.1, this.1⟩, by simp [D.fits], by simpa [D.noPtr] using this.2.2⟩
  ·cases hc
 ·split at hc
  ·next hq =>
   obtain rfl := Option.some.inj hc
   have := cellD_rep h v ((cellSzs P 20 t).headD 0) hq
   rw [cells_one hq]
   exact ⟨this.1, fits_of_one this.2.2.1 hq, this.2.2.2⟩
  ·cases hc

theorem evRep {st : St} {a : Act} {h : Heap} {us : List (Nat × U)} {g : Gh} (hv : ∀ t, VRep h us g (lk st.env t) (a.tmps.getD t undef)) {t : TypeId} {x : Operand} {X : X}
  (hx : resX P t x = some X) : VRep h us g (st.ev X) (a.eval x) := by
 cases x with
 | tmp n =>
  simp only [resX, oS] at hx
  subst hx
  exact hv n
 | const v =>
  simp only [resX, Option.map_eq_some_iff] at hx
  obtain ⟨d, hd, rfl⟩ := hx
  have := constD_rep hd h
  simp only [St.ev, litAV]
  split <;> simp only [VRep] <;> exact ⟨[], this.1, this.2.1, by simp⟩
 | global i =>
  simp only [resX, oS] at hx
  subst hx
  simp only [St.ev, litAV, D.flat, if_true, VRep]
  exact ⟨[], by simp [Rep, Act.eval, Value.cells, Value.oneCell'], by simp [D.fits, Act.eval, Value.oneCell'], by simp⟩
 | func f =>
  simp only [resX, oS] at hx
  subst hx
  simp only [St.ev, litAV, D.flat, if_true, VRep]
  exact ⟨[], by simp [Rep, Act.eval, Value.cells, Value.oneCell'], by simp [D.fits, Act.eval, Value.oneCell'], by simp⟩

theorem sc_val {h : Heap} {us : List (Nat × U)} {g : Gh} {t : Option Nat} {x v : Value} (hr : VRep h us g (.im t (.sc x)) v) : v = x := by
 simp only [VRep, Rep, D.fits] at hr
 obtain ⟨F, ⟨_, h1, _⟩, h2, _⟩ := hr
 rw [cells_one h2] at h1
 simpa using h1

theorem sc_rep {h : Heap} {us : List (Nat × U)} {g : Gh} {t : Option Nat} {v : Value} (hv : v.oneCell' = true) : VRep h us g (.im t (.sc v)) v := by
 simp only [VRep]
 exact ⟨[], by simp [Rep, cells_one hv, hv], by simp [D.fits, hv], by simp⟩

theorem lc_un {h : Heap} {us : List (Nat × U)} {g : Gh} {t : Option Nat} {b o : Nat} {d : D} {v : Value} (hr : VRep h us g (.im t (.lc b o d)) v) (hd : d.isAg = false) :
  VRep h us g (.im t d) v ∧ ((∃ l c, v = .slice (some ⟨b, o, none⟩) l c) ∨ v = .pointer (some ⟨b, o, none⟩)) := by
 simp only [VRep, Rep] at hr ⊢
 obtain ⟨F, ⟨h1, h2⟩, h3, h4⟩ := hr
 have h3' : v.oneCell' = true := by simpa [D.fits] using h3
 have h5 : d.fits v := by cases d <;> simp_all [D.fits, D.isAg]
 refine ⟨⟨F, h2, h5, h4⟩, ?_⟩
 rw [cells_one h3'] at h1
 simpa using h1
theorem lc_mk {h : Heap} {us : List (Nat × U)} {g : Gh} {t : Option Nat} {b o : Nat} {d : D} {v : Value} (hr : VRep h us g (.im t d) v) (hv : v = .pointer (some ⟨b, o, none⟩)) :
  VRep h us g (.im t (.lc b o d)) v := by
 subst hv
 simp only [VRep, Rep] at hr ⊢
 obtain ⟨F, h1, h2, h3⟩ := hr
 exact ⟨F, ⟨.inr (by simp [Value.cells]), h1⟩, by simp [D.fits, Value.oneCell'], h3⟩

end Go.Ax
namespace Go.Ax

variable {P : Program} {n0 : Nat} {S0 M0 : Nat → Prop} {w0 : World}
variable {st : St} {o : Oper} {a : Act} {w : World} {k : KQ} {Q' : Exit → Act → World → Prop} {g : Gh}

structure At (n0 : Nat) (S0 M0 : Nat → Prop) (w0 : World) (st : St) (o : Oper) (a : Act) (w : World) (g : Gh) : Prop where
 sat : Sat n0 S0 M0 w0 st a w
 us : USat w.heap n0 S0 M0 st.us g
 rep : ∀ t, VRep w.heap st.us g (lk st.env t) (a.tmps.getD t undef)
 dst : ∀ i, o.dst = some i → i < st.n

theorem At.pure_ (h : At n0 S0 M0 w0 st o a w g) {av : AV} {v : Value} (hrun : (execOp a.eval o).run P w = .ok (.value v) w) (hr : VRep w.heap st.us g av v) (hk : k av []) :
  o.wp P a w (QPost n0 S0 M0 w0 st o.dst k) Q' := pure_post h.sat h.us h.rep h.dst hrun hr hk

theorem At.ev_ (h : At n0 S0 M0 w0 st o a w g) {t : TypeId} {x : Operand} {X : Ax.X} (hx : resX P t x = some X) : VRep w.heap st.us g (st.ev X) (a.eval x) := evRep h.rep hx

theorem s_mv (h : At n0 S0 M0 w0 st o a w g) {t : TypeId} {x : Operand} {X : Ax.X} (ho : o.op = .move x ∨ o.op = .assign x) (hx : resX P t x = some X) (hq : k (st.ev X) []) :
  o.wp P a w (QPost n0 S0 M0 w0 st o.dst k) Q' := by
 refine h.pure_ (v := a.eval x) ?_ (h.ev_ hx) hq
 rcases ho with ho | ho <;> simp [execOp, ho]

theorem s_pick (h : At n0 S0 M0 w0 st o a w g) {t u : TypeId} {c x y : Operand} {C X Y : Ax.X} (ho : o.op = .pick c x y) (hc : resX P u c = some C) (hx : resX P t x = some X) (hy : resX P t y = some Y)
  (hq : pickK (st.ev C) (st.ev X) (st.ev Y) k) : o.wp P a w (QPost n0 S0 M0 w0 st o.dst k) Q' := by
 have e := h.ev_ hc
 unfold pickK at hq
 split at hq
 ·next t' b hcv =>
  rw [hcv] at e
  have ec := sc_val e
  cases b with
  | true => exact h.pure_ (v := a.eval x) (by simp [execOp, ho, ec, asBool]) (h.ev_ hx) (hq.1 rfl)
  | false => exact h.pure_ (v := a.eval y) (by simp [execOp, ho, ec, asBool]) (h.ev_ hy) (hq.2 rfl)
 ·exact hq.elim

theorem s_nck (h : At n0 S0 M0 w0 st o a w g) {t : TypeId} {x : Operand} {X : Ax.X} (ho : o.op = .nilCheck x) (hx : resX P t x = some X) (hq : nckK (st.ev X) k) :
  o.wp P a w (QPost n0 S0 M0 w0 st o.dst k) Q' := by
 have e := h.ev_ hx
 unfold nckK at hq
 split at hq
 ·next t' d j hv =>
  rw [hv] at e
  have e' := e
  simp only [VRep, Rep, D.fits] at e'
  obtain ⟨F, ⟨b, off, c, el, fr, F', h1, _⟩, h2, _⟩ := e'
  rw [cells_one h2] at h1
  have h3 : a.eval x = .pointer (some ⟨b, off + j, none⟩) := by simpa using h1
  exact h.pure_ (v := a.eval x) (by simp [execOp, ho, h3]) e hq
 ·next t' b0 o0 d j hv =>
  rw [hv] at e
  have e' := e
  simp only [VRep, Rep, D.fits] at e'
  obtain ⟨F, ⟨_, b, off, c, el, fr, F', h1, _⟩, h2, _⟩ := e'
  rw [cells_one h2] at h1
  have h3 : a.eval x = .pointer (some ⟨b, off + j, none⟩) := by simpa using h1
  exact h.pure_ (v := a.eval x) (by simp [execOp, ho, h3]) e hq
 ·next t' p0 hv =>
  rw [hv] at e
  have h3 := sc_val e
  exact h.pure_ (v := a.eval x) (by simp [execOp, ho, h3]) e hq
 ·next id el j hv =>
  rw [hv] at e
  have e' := e
  simp only [VRep] at e'
  obtain ⟨ow, nn, sz, es, b, _, _, _, _, h3⟩ := e'
  exact h.pure_ (v := a.eval x) (by simp [execOp, ho, h3]) e hq
 ·next id el j isz el' j' hv =>
  rw [hv] at e
  have e' := e
  simp only [VRep] at e'
  obtain ⟨ow, nn, usz, es, b, c, ty, b', off', len', cap', _, _, _, _, _, _, h3⟩ := e'
  exact h.pure_ (v := a.eval x) (by simp [execOp, ho, h3]) e hq
 ·next id j hv =>
  rw [hv] at e
  have e' := e
  simp only [VRep] at e'
  obtain ⟨_, _, b, _, _, h3⟩ := e'
  exact h.pure_ (v := a.eval x) (by simp [execOp, ho, h3]) e hq
 ·exact hq.elim

theorem binV_run {op : BinOp} {t : TypeId} {x y : Value} {kk : Value → Prop} (h : binV op x y kk) (w : World) :
    ∃ v, (binOp op t x y).run P w = .ok v w ∧ kk v ∧ v.oneCell' = true := by
  unfold binV at h
  split at h
  · next k1 m k2 n =>
    cases op <;> simp only at h <;>
      (try simp only [binOp]) <;>
      first
      | (obtain ⟨rfl, h1, h⟩ := h; refine ⟨_, ?_, h, rfl⟩; simp [Op.intDiv, h1])
      | (obtain ⟨h1, h⟩ := h; refine ⟨_, ?_, h, rfl⟩; have h2 : ¬ n < 0 := by omega
         simp [Op.shift, h2])
      | (obtain ⟨rfl, h⟩ := h; refine ⟨_, ?_, h, rfl⟩; simp [Op.intArith, Op.intBits, Op.intCmp])
  · next s1 s2 =>
    cases op <;> simp only at h <;> first
      | exact h.elim
      | (obtain ⟨h1, h⟩ := h
         have h2 : ¬ (((s1.size + s2.size : Nat) : Int) > IntKind.i64.max) := by simp [IntKind.max, IntKind.signed, IntKind.bits]; omega
         exact ⟨_, by simp only [binOp, Op.stringOp]; rw [if_neg h2]; rfl, h, rfl⟩)
      | exact ⟨_, rfl, h, rfl⟩
  · exact h.elim

theorem eqGuard_run {op : BinOp} {t : TypeId} {x y : Operand} {u v : Value} (hu : u.oneCell' = true) (hn : u ≠ .nilIface) (w : World) : (eqGuard op t x y u v).run P w = .ok () w := by
 unfold eqGuard
 cases op <;> first | rfl | (cases u <;> first | rfl | exact absurd rfl hn | cases hu)

theorem eqlBool (t : TypeId) (ht : P.underlying t = some .bool) (p q : Bool) (w : World) : (Op.equal t (.bool p) (.bool q)).run P w = .ok (p == q) w := by
 show (Op.equalIn (9999 + 1) t (.bool p) (.bool q)).run P w = _
 rw [Op.equalIn, Sem.run_bind, run_underlying ht]
 rfl

theorem eqlNil (t e : TypeId) (ht : P.underlying t = some (.slice e)) (p : Option Addr) (l c l' c' : Nat) (w : World) : (Op.equal t (.slice p l c) (.slice none l' c')).run P w = .ok p.isNone w := by
 show (Op.equalIn (9999 + 1) t (.slice p l c) (.slice none l' c')).run P w = _
 rw [Op.equalIn, Sem.run_bind, run_underlying ht]
 cases p <;> rfl

theorem s_bin (h : At n0 S0 M0 w0 st o a w g) {op : BinOp} {t u : TypeId} {x y : Operand} {X Y : Ax.X} (ho : o.op = .binOp op t x y u) (hx : resX P t x = some X) (hy : resX P u y = some Y)
  (hq : binK op (st.ev X) (st.ev Y) k) : o.wp P a w (QPost n0 S0 M0 w0 st o.dst k) Q' := by
 have ex := h.ev_ hx
 have ey := h.ev_ hy
 unfold binK binA at hq
 split at hq
 ·next t1 p t2 q e1 e2 =>
  rw [e1] at ex
  rw [e2] at ey
  have vx := sc_val ex
  have vy := sc_val ey
  obtain ⟨v, hr, hk, h1⟩ := binV_run (P := P) (t := t) hq w
  have hp : p.oneCell' = true ∧ p ≠ .nilIface := by
   unfold binV at hq
   split at hq <;> simp_all [Value.oneCell']
  refine h.pure_ (v := v) ?_ (sc_rep h1) hk
  simp [execOp, ho, vx, vy, eqGuard_run hp.1 hp.2, hr]
 ·exact hq.elim

theorem s_beq (h : At n0 S0 M0 w0 st o a w g) {op : BinOp} {neg : Bool} {t u : TypeId} {x y : Operand} {X Y : Ax.X} (ho : o.op = .binOp op t x y u) (hx : resX P t x = some X) (hy : resX P u y = some Y)
  (ht : P.underlying t = some .bool) (hn : op = .eql ∧ neg = false ∨ op = .neq ∧ neg = true)
  (hq : beqK neg (st.ev X) (st.ev Y) k) : o.wp P a w (QPost n0 S0 M0 w0 st o.dst k) Q' := by
 have ex := h.ev_ hx
 have ey := h.ev_ hy
 unfold beqK at hq
 split at hq
 ·next t1 p t2 q e1 e2 =>
  rw [e1] at ex
  rw [e2] at ey
  have vx := sc_val ex
  have vy := sc_val ey
  have eg : ∀ op, (eqGuard op t x y (.bool p) (.bool q)).run P w = .ok () w := fun op => eqGuard_run rfl (by simp) w
  refine h.pure_ (v := .bool (if neg then !(p == q) else p == q)) ?_ (sc_rep rfl) hq
  rcases hn with ⟨rfl, rfl⟩ | ⟨rfl, rfl⟩ <;>
  simp [execOp, ho, vx, vy, eg, binOp, eqlBool t ht]
 ·exact hq.elim

theorem ls_val {h : Heap} {us : List (Nat × U)} {g : Gh} {t : Option Nat} {nn : Option Bool} {sz : Nat} {ds : List D} {v : Value} (hr : VRep h us g (.im t (.ls nn sz ds)) v) :
  ∃ p len cap, v = .slice p len cap ∧ len = ds.length ∧ (p = none → ds = [] ∧ cap = 0 ∧ nn ≠ some false) ∧ (p.isSome → nn ≠ some true) := by
 simp only [VRep, Rep, D.fits] at hr
 obtain ⟨F, h1, h2, _⟩ := hr
 rw [cells_one h2] at h1
 rcases h1 with ⟨p, h1, rfl, _, h3, h4⟩ | ⟨b, off, cap, c, e, fr, F', h1, _, h3, _⟩
 ·have : v = .slice p 0 0 := by simpa using h1
  exact ⟨p, 0, 0, this, rfl, fun hp => ⟨rfl, rfl, h3 hp⟩, h4⟩
 ·have : v = .slice (some ⟨b, off, none⟩) ds.length cap := by simpa using h1
  exact ⟨_, _, _, this, rfl, by simp, fun _ => h3⟩

theorem s_snil (h : At n0 S0 M0 w0 st o a w g) {op : BinOp} {neg : Bool} {t u e : TypeId} {x y : Operand} {X Y : Ax.X} (ho : o.op = .binOp op t x y u) (hx : resX P t x = some X) (hy : resX P u y = some Y)
  (ht : P.underlying t = some (.slice e)) (hn : op = .eql ∧ neg = false ∨ op = .neq ∧ neg = true)
  (hq : snilK neg (st.ev X) (st.ev Y) k) : o.wp P a w (QPost n0 S0 M0 w0 st o.dst k) Q' := by
 have ex := h.ev_ hx
 have ey := h.ev_ hy
 unfold snilK at hq
 split at hq
 ·next t1 p z1 d1 t2 z2 e1 e2 =>
  rw [e1] at ex
  rw [e2] at ey
  obtain ⟨p1, l1, c1, v1, _, h2, h3⟩ := ls_val ex
  obtain ⟨p2, l2, c2, v2, _, h4, h5⟩ := ls_val ey
  have q2 : p2 = none := by
   cases p2 with
   | none => rfl
   | some z => exact absurd rfl (h5 rfl)
  have q1 : p1.isNone = p := by
   cases p1 with
   | none => cases p with
    | true => rfl
    | false => exact absurd rfl (h2 rfl).2.2
   | some z => cases p with
    | true => exact absurd rfl (h3 rfl)
    | false => rfl
  subst q2
  subst q1
  have eg : ∀ op, (eqGuard op t x y (.slice p1 l1 c1) (.slice none l2 c2)).run P w = .ok () w := fun op => eqGuard_run rfl (by simp) w
  refine h.pure_ (v := .bool (if neg then !p1.isNone else p1.isNone)) ?_ (sc_rep rfl) hq
  rcases hn with ⟨rfl, rfl⟩ | ⟨rfl, rfl⟩ <;>
  simp [execOp, ho, v1, v2, eg, binOp, eqlNil t e ht]
 ·exact hq.elim

theorem s_un (h : At n0 S0 M0 w0 st o a w g) {op : UnOp} {t u : TypeId} {x : Operand} {X : Ax.X} (ho : o.op = .unOp op t x) (hx : resX P u x = some X)
  (hq : unK op (st.ev X) k) : o.wp P a w (QPost n0 S0 M0 w0 st o.dst k) Q' := by
 have ex := h.ev_ hx
 unfold unK at hq
 split at hq
 ·next t1 b e1 =>
  rw [e1] at ex
  exact h.pure_ (v := .bool (!b)) (by simp [execOp, ho, sc_val ex, Op.unary]) (sc_rep rfl) hq
 ·next t1 ki n e1 =>
  rw [e1] at ex
  exact h.pure_ (v := .int ki (ki.wrap (-n))) (by simp [execOp, ho, sc_val ex, Op.unary, Op.intArith]) (sc_rep rfl) hq
 ·exact hq.elim

theorem s_cvt (h : At n0 S0 M0 w0 st o a w g) {s t : TypeId} {kd ks : IntKind} {x : Operand} {X : Ax.X} (ho : o.op = .convert s t x) (hx : resX P s x = some X) (hs : P.underlying s = some (.int ks)) (ht : P.underlying t = some (.int kd))
  (hq : cvtK kd (st.ev X) k) : o.wp P a w (QPost n0 S0 M0 w0 st o.dst k) Q' := by
 have ex := h.ev_ hx
 unfold cvtK at hq
 split at hq
 ·next t1 ki n e1 =>
  rw [e1] at ex
  exact h.pure_ (v := .int kd (kd.wrap n)) (by simp [execOp, ho, sc_val ex, convert, run_underlying hs, run_underlying ht, Conv.intToInt]) (sc_rep rfl) hq
 ·exact hq.elim

theorem s_ext (h : At n0 S0 M0 w0 st o a w g) {t : TypeId} {x : Operand} {X : Ax.X} {i : Nat} (ho : o.op = .extract x i) (hx : resX P t x = some X)
  (hq : extK (st.ev X) i k) : o.wp P a w (QPost n0 S0 M0 w0 st o.dst k) Q' := by
 have ex := h.ev_ hx
 unfold extK at hq
 split at hq
 ·next vs e1 =>
  rw [e1] at ex
  simp only [VRep] at ex
  obtain ⟨xs, hv, hl⟩ := ex
  obtain ⟨hi, hk⟩ := hq
  have : ∀ (vs : List AV) (xs : List Value) (i : Nat), VRepL w.heap st.us g vs xs → i < vs.length → ∃ v, xs[i]? = some v ∧ VRep w.heap st.us g (vs.getD i .any) v := by
   intro vs
   induction vs with
   | nil => intro xs i _ hi; simp at hi
   | cons y vs ih =>
    intro xs i hl hi
    simp only [VRepL] at hl
    obtain ⟨v, r, rfl, h1, h2⟩ := hl
    cases i with
    | zero => exact ⟨v, rfl, h1⟩
    | succ i => obtain ⟨v', h3, h4⟩ := ih r i h2 (by simpa using hi); exact ⟨v', by simpa using h3, by simpa using h4⟩
  obtain ⟨v, h1, h2⟩ := this vs xs.toList i hl hi
  refine h.pure_ (v := v) ?_ h2 hk
  have h1' : xs[i]? = some v := by simpa using h1
  simp [execOp, ho, hv, Instr.extract, h1']
 ·exact hq.elim

end Go.Ax
namespace Go.Ax

variable {P : Program} {n0 : Nat} {S0 M0 : Nat → Prop} {w0 : World}
variable {st : St} {o : Oper} {a : Act} {w : World} {k : KQ} {Q' : Exit → Act → World → Prop} {g : Gh}

theorem cells_rep {h : Heap} {d : D} {F : List Nat} {vc : List Value} (hr : Rep h d F vc) : RepL h d.cells F vc ∧ ∀ x ∈ d.cells, x.size = 1 ∧ x.isAg = false := by
 by_cases hd : d.isAg = true
 ·cases d with
  | ag ds => simp only [Rep] at hr; exact ⟨hr.2, hr.1⟩
  | _ => simp [D.isAg] at hd
 ·have e : d.cells = [d] := by cases d <;> simp_all [D.cells, D.isAg]
  rw [e, RepL_cons]
  refine ⟨⟨F, [], vc, [], by simp, by simp, hr, RepL_nil.2 ⟨rfl, rfl⟩⟩, ?_⟩
  intro x hx
  simp only [List.mem_singleton] at hx
  subst hx
  exact ⟨by cases x <;> simp_all [D.size, D.isAg], by simpa using hd⟩

theorem imAll_rep {h : Heap} {us : List (Nat × U)} : ∀ {vs : List AV} {xs : List Value} {ds : List D}, VRepL h us g vs xs → imAll vs = some ds →
  ∃ F, RepL h ds F (xs.map (·.cells.toList)).flatten ∧ (∀ d ∈ ds, d.size = 1 ∧ d.isAg = false) ∧ ∀ b ∈ F, g.ok none b
 | [], xs, ds, hr, hi => by
  simp only [VRepL] at hr
  simp only [imAll, oS] at hi
  subst hr hi
  exact ⟨[], by simp [RepL], by simp, by simp⟩
 | av :: vs, xs, ds, hr, hi => by
  simp only [VRepL] at hr
  obtain ⟨v, r, rfl, h1, h2⟩ := hr
  unfold imAll at hi
  split at hi
  ·next heq => cases heq
  ·next d r' heq =>
   injection heq with e1 e2
   subst e1 e2
   split at hi
   ·next ds' hds =>
    injection hi with hi
    subst hi
    obtain ⟨F, i1, i2, i3⟩ := imAll_rep h2 hds
    simp only [VRep] at h1
    obtain ⟨F1, q1, q2, q3⟩ := h1
    obtain ⟨c1, c2⟩ := cells_rep q1
    refine ⟨F1 ++ F, ?_, ?_, ?_⟩
    ·simpa using RepL.append c1 i1
    ·intro x hx
     rcases List.mem_append.1 hx with hx | hx
     ·exact c2 x hx
     ·exact i2 x hx
    ·intro b hb
     rcases List.mem_append.1 hb with hb | hb
     ·exact q3 b hb
     ·exact i3 b hb
   ·cases hi
  ·cases hi

theorem sgAV_rep {h : Heap} {us : List (Nat × U)} {vs : List AV} {xs : List Value} (hr : VRepL h us g vs xs) {cs : Array Value} (hc : cs.toList = (xs.map (·.cells.toList)).flatten) : VRep h us g (sgAV vs) (.agg cs) := by
 unfold sgAV
 split
 ·next ds hi =>
  obtain ⟨F, i1, i2, i3⟩ := imAll_rep hr hi
  simp only [VRep, Rep]
  exact ⟨F, ⟨i2, by simpa [Value.cells, hc] using i1⟩, ⟨cs, rfl⟩, i3⟩
 ·simp only [VRep]
  exact ⟨xs, hr, by rw [← hc]⟩

theorem VRepL_part {h : Heap} {us : List (Nat × U)} : ∀ {vs : List AV} {xs : List Value} (j n : Nat), VRepL h us g vs xs → VRepL h us g ((vs.drop j).take n) ((xs.drop j).take n)
 | [], xs, j, n, hr => by simp only [VRepL] at hr; subst hr; simp [VRepL]
 | v :: vs, xs, 0, 0, hr => by simp [VRepL]
 | v :: vs, xs, 0, n + 1, hr => by
  simp only [VRepL] at hr
  obtain ⟨x, r, rfl, h1, h2⟩ := hr
  have := VRepL_part 0 n h2
  simp only [List.drop_zero] at this
  simp only [List.drop_zero, List.take_succ_cons, VRepL]
  exact ⟨x, _, rfl, h1, this⟩
 | v :: vs, xs, j + 1, n, hr => by
  simp only [VRepL] at hr
  obtain ⟨x, r, rfl, h1, h2⟩ := hr
  simpa using VRepL_part j n h2
theorem VRepL_len0 {h : Heap} {us : List (Nat × U)} : ∀ {vs : List AV} {xs : List Value}, VRepL h us g vs xs → xs.length = vs.length
 | [], xs, hr => by simp only [VRepL] at hr; simp [hr]
 | v :: vs, xs, hr => by
  simp only [VRepL] at hr
  obtain ⟨x, r, rfl, _, h2⟩ := hr
  simp [VRepL_len0 h2]
theorem VRepL_nth {h : Heap} {us : List (Nat × U)} : ∀ {vs : List AV} {xs : List Value} {i : Nat}, VRepL h us g vs xs → i < vs.length → VRep h us g (vs.getD i .any) (xs.getD i undef)
 | [], _, _, _, hi => by simp at hi
 | a :: as, vs, i, hr, hi => by
  simp only [VRepL] at hr
  obtain ⟨v, r, rfl, h1, h2⟩ := hr
  cases i with
  | zero => simpa using h1
  | succ i => simpa using VRepL_nth h2 (i := i) (by simpa using hi)
theorem one0_val {us : List (Nat × U)} {h : Heap} {av : AV} {v : Value} (hr : VRep h us g av v) (ho : av.one0 = true) : v.oneCell' = true := by
 cases av with
 | im t d =>
  simp only [AV.one0, bA, beq_iff_eq, Bool.not_eq_true'] at ho
  simp only [VRep] at hr
  obtain ⟨F, r1, r2, r3⟩ := hr
  cases d <;> simp_all [D.fits, D.isAg, Value.oneCell']
 | pw i el j =>
  simp only [VRep] at hr
  obtain ⟨_, _, _, _, _, _, _, _, _, rfl⟩ := hr
  simp [Value.oneCell']
 | pb i j =>
  simp only [VRep] at hr
  obtain ⟨_, _, _, _, _, rfl⟩ := hr
  simp [Value.oneCell']
 | cl f vs =>
  simp only [VRep] at hr
  obtain ⟨_, _, rfl⟩ := hr
  simp [Value.oneCell']
 | sm i off len =>
  simp only [VRep] at hr
  obtain ⟨_, _, _, _, _, _, ⟨_, _, rfl⟩ | ⟨_, _, _, rfl⟩⟩ := hr <;> simp [Value.oneCell']
 | _ => simp [AV.one0] at ho
theorem one0s_cells {us : List (Nat × U)} {h : Heap} : ∀ {vs : List AV} {xs : List Value}, VRepL h us g vs xs → vs.all AV.one0 = true → (xs.map (·.cells.toList)).flatten = xs
 | [], xs, hr, _ => by simp only [VRepL] at hr; simp [hr]
 | v :: vs, xs, hr, ho => by
  simp only [VRepL] at hr
  obtain ⟨x, r, rfl, h1, h2⟩ := hr
  simp only [List.all_cons, bA] at ho
  simp [cells_one (one0_val h1 ho.1), one0s_cells h2 ho.2]

theorem cell_at {w : World} {b off : Nat} {c : Array Value} {e : TypeId} {fr : Nat × Nat} (h : w.heap[b]? = some (.cells c e fr)) : w.cell? ⟨b, off, none⟩ = c[off]? := by
 simp [World.cell?, h]

theorem add_mid (b o j : Nat) : (⟨b, o, none⟩ : Addr).add j = ⟨b, o + j, none⟩ := by unfold Addr.add; split <;> simp_all

theorem run_agg {t : TypeId} {agg : Bool} (hg : aggOf P t = some agg) (w : World) : (isAgg t).run P w = .ok agg w := by
 unfold aggOf at hg
 unfold isAgg
 rw [Sem.run_bind]
 split at hg
 ·next h => rw [run_underlying h]; injection hg with hg; subst hg; rfl
 ·next h => rw [run_underlying h]; injection hg with hg; subst hg; rfl
 ·next d h1 h2 h =>
  rw [run_underlying h]; injection hg with hg; subst hg
  cases d <;> first | rfl | (exact absurd h (by intro h'; simp_all)) | simp_all
 ·cases hg

theorem run_sz {t : TypeId} {sz : Nat} (hz : szOf P t = some sz) (w : World) : (sizeOf t).run P w = .ok sz w := by
 simp only [szOf, Option.map_eq_some_iff] at hz
 obtain ⟨i, hi, rfl⟩ := hz
 simp [sizeOf, typeInfo, hi]

theorem run_ld {t : TypeId} {agg : Bool} {sz : Nat} (hz : szOf P t = some sz) (hg : aggOf P t = some agg) {b off : Nat} {cs : List Value} (hl : cs.length = sz)
  (hc : ∀ i v, cs[i]? = some v → w.cell? ⟨b, off + i, none⟩ = some v) (h1 : agg = false → sz = 1) :
  ∃ v, (Instr.loadAt t (.pointer (some ⟨b, off, none⟩))).run P w = .ok v w ∧ v.cells.toList = (if agg then cs else v.cells.toList) ∧ (agg = true → v = .agg cs.toArray) ∧ (agg = false → cs = [v]) := by
 cases agg with
 | true =>
  refine ⟨.agg cs.toArray, ?_, by simp [Value.cells], fun _ => rfl, by simp⟩
  have hl' := run_loadCells_list (P := P) w ⟨b, off, none⟩ cs (fun j v hv => by rw [add_mid]; exact hc j v hv)
  rw [hl] at hl'
  simp [Instr.loadAt, Instr.sureAddr, loadVar, run_agg hg, run_sz hz, hl']
 | false =>
  obtain rfl := h1 rfl
  match cs, hl with
  | [v], _ =>
   have := hc 0 v rfl
   simp only [Nat.add_zero] at this
   exact ⟨v, by simp [Instr.loadAt, Instr.sureAddr, loadVar, run_agg hg, this], by simp, by simp, fun _ => rfl⟩

theorem fits_agg {d : D} {cs : List Value} (hd : d.isAg = true) : d.fits (.agg cs.toArray) := by
 cases d <;> simp_all [D.fits, D.isAg]

theorem pq_im {h : Heap} {us : List (Nat × U)} (hu : USat h n0 S0 M0 us g) {id el j isz el' j' : Nat} {v : Value} {nn nn' : Option Bool} {usz : Nat} {es ds : List D} (hr : VRep h us g (.pq id el j isz el' j') v)
  (hun : lu us id = some (.ar true nn usz es)) (hd : D.sub (D.at es el) j 1 false = .ls nn' isz ds) (hel : el' < ds.length) (hj : j' < isz) : VRep h us g (.im (some id) (.pt (D.at ds el') j')) v ∧ (D.at ds el').size = isz := by
 simp only [VRep] at hr
 obtain ⟨ow, nn1, usz1, es1, b, c, e, b', off', len', cap', r1, r2, r3, r4, r5, r6, rfl⟩ := hr
 have := hu.uniq r1 (mem_of_lu hun)
 injection this with e1 e2 e3 e4
 subst e1 e2 e3 e4
 obtain ⟨c1, e1, F2, c2, p1, p2, p3, p4, p5, p6, p7⟩ := place (agg := false) (sz := 1) hu r1 r2 r4 r3 (by simp) (by simp)
 rw [r5] at p1
 injection p1 with p1
 injection p1 with p1 p1'
 subst p1
 match c2, p3 with
 | [cv], _ =>
  have h0 := p2 0 cv rfl
  rw [Nat.add_zero, r6] at h0
  obtain rfl := Option.some.inj h0
  rw [hd] at p4
  simp only [Rep] at p4
  rcases p4 with ⟨p, q1, rfl, _⟩ | ⟨b1, off, cap, c3, el3, fr, F', q1, q2, q3, q4, q5, q6, q7, q8, q9⟩
  ·simp at hel
  ·simp only [List.cons.injEq, Value.slice.injEq, oS, Addr.mk.injEq, and_true] at q1
   obtain ⟨⟨rfl, rfl⟩, rfl, rfl⟩ := q1
   obtain ⟨F1, F3, F4, d1, d2, d3, g1, g2, g3, g4, g5⟩ := q9.pick hel
   have hsz := q8 _ (List.getElem_mem hel)
   have l1 : d1.length = el' * isz := by
    rw [g3.length, D.sizeL_const (sz := isz) fun d hd => q8 d (List.mem_of_mem_take hd), List.length_take, Nat.min_eq_left (Nat.le_of_lt hel)]
   have hmul : el' * isz + isz ≤ ds.length * isz := by
    have := Nat.mul_le_mul_right isz (show el' + 1 ≤ ds.length by omega)
    rw [Nat.add_mul] at this; omega
   have hmul2 : ds.length * isz ≤ cap' * isz := Nat.mul_le_mul_right isz q4
   rw [D.at_eq hel]
   simp only [VRep]
   refine ⟨⟨b' :: F3, ?_, by simp [D.fits, Value.oneCell'], ?_⟩, hsz⟩
   ·unfold Rep
    refine ⟨b', off' + el' * isz, c3, el3, fr, F3, by simp [Value.cells], rfl, by omega, q6, by omega, ?_⟩
    have : (c3.toList.drop (off' + el' * isz)).take ((ds[el']).size) = d2 := by
     have e1 := congrArg (fun l => (l.drop d1.length).take d2.length) g2
     simp only [List.drop_left', List.take_left', List.drop_take, List.drop_drop, List.take_take] at e1
     rw [l1] at e1
     have l2 := g4.length
     rw [hsz] at l2
     rw [l2, Nat.min_eq_left (by omega)] at e1
     rw [hsz]
     exact e1
    rw [this]
    exact g4
   ·intro y hy
    refine .inr ⟨id, rfl, ?_⟩
    have hin : y ∈ F2 := by
     rw [q2, g1]
     rcases List.mem_cons.1 hy with rfl | hy
     ·simp
     ·simp [hy]
    simpa using p7 y hin

theorem ld_im {t1 : Option Nat} {d : D} {j : Nat} {v0 : Value} {t : TypeId} {agg : Bool} {sz : Nat}
  (hz : szOf P t = some sz) (hg : aggOf P t = some agg) (h1 : agg = false → sz = 1) (ex : VRep w.heap st.us g (.im t1 (.pt d j)) v0)
  (q1 : j + sz ≤ d.size) (q2 : agg = true → d.isAg = true) : ∃ v, (Instr.loadAt t v0).run P w = .ok v w ∧ VRep w.heap st.us g (.im t1 (D.sub d j sz agg)) v := by
 simp only [VRep, Rep] at ex
 obtain ⟨F, ⟨b, off, c, e, fr, F', r1, r2, r3, r4, r5, r6⟩, f1, f2⟩ := ex
 rw [cells_one (by simpa [D.fits] using f1)] at r1
 have hv : v0 = .pointer (some ⟨b, off + j, none⟩) := by simpa using r1
 obtain ⟨F1, F2, F3, c1, c2, c3, g1, g2, g3, g4, g5, g6⟩ := r6.sub q1 q2 h1
 have hcell : ∀ i v, c2[i]? = some v → w.cell? ⟨b, off + j + i, none⟩ = some v := by
  intro i v hv
  rw [cell_at r4]
  have := getElem?_mid (a := c1) (c := c3) hv
  rw [← g2, g3] at this
  have hlt := (List.getElem?_eq_some_iff.1 this).1
  rw [List.getElem?_take_of_lt (by simp at hlt; omega), List.getElem?_drop] at this
  rw [← Array.getElem?_toList, show off + j + i = off + (j + i) by omega]
  exact this
 obtain ⟨v, v1, v2, v3, v4⟩ := run_ld (P := P) (w := w) hz hg g4 hcell h1
 refine ⟨v, by rw [hv]; exact v1, ?_⟩
 simp only [VRep]
 refine ⟨F2, ?_, ?_, fun x hx => f2 x (by rw [r2, g1]; simp [hx])⟩
 ·cases agg with
  | true => rw [v3 rfl]; simpa [Value.cells] using g5
  | false =>
   have := v4 rfl
   have ho1 := g5.one v (by rw [this]; simp)
   rw [cells_one ho1]; rw [this] at g5; simpa using g5
 ·cases agg with
  | true => rw [v3 rfl]; exact fits_agg g6
  | false => exact fits_of_one g6 (g5.one v (by rw [v4 rfl]; simp))

theorem ld_core (hus : USat w.heap n0 S0 M0 st.us g) {av0 : AV} {v0 : Value} {t : TypeId} {agg : Bool} {sz : Nat}
  (hz : szOf P t = some sz) (hg : aggOf P t = some agg) (h1 : agg = false → sz = 1) (ex : VRep w.heap st.us g av0 v0)
  (hq : ldK av0 st.unit agg sz k) : ∃ av v, (Instr.loadAt t v0).run P w = .ok v w ∧ VRep w.heap st.us g av v ∧ k av [] := by
 unfold ldK at hq
 split at hq
 ·next t1 d j =>
  obtain ⟨⟨q1, q2⟩, hk⟩ := hq
  obtain ⟨v, r1, r2⟩ := ld_im (st := st) hz hg h1 ex q1 q2
  exact ⟨_, v, r1, r2, hk⟩
 ·next t1 b0 o0 d j =>
  obtain ⟨⟨q1, q2⟩, hk⟩ := hq
  obtain ⟨v, r1, r2⟩ := ld_im (st := st) hz hg h1 (lc_un ex rfl).1 q1 q2
  exact ⟨_, v, r1, r2, hk⟩
 ·next id el j =>
  simp only [VRep] at ex
  obtain ⟨ow, nn, usz, es, b, r1, r2, r3, r4, hv⟩ := ex
  unfold ldW at hq
  split at hq
  ·next ow' nn' usz' es' hun =>
   have hm := mem_of_lu hun
   have := hus.uniq r1 hm
   injection this with e1 e2 e3 e4
   subst e1; subst e2; subst e3; subst e4
   obtain ⟨⟨q1, q2⟩, hk⟩ := hq
   obtain ⟨c, e, F2, c2, p1, p2, p3, p4, p5, p6, p7⟩ := place hus r1 r2 r4 q1 q2 h1
   have hcell : ∀ i v, c2[i]? = some v → w.cell? ⟨b, el * usz + j + i, none⟩ = some v := by
    intro i v hv
    rw [cell_at p1]
    exact p2 i v hv
   obtain ⟨v, v1, v2, v3, v4⟩ := run_ld (P := P) (w := w) hz hg p3 hcell h1
   refine ⟨_, v, by rw [hv]; exact v1, ?_, hk⟩
   have hrep : Rep w.heap (D.sub (D.at es el) j sz agg) F2 v.cells.toList ∧ (D.sub (D.at es el) j sz agg).fits v := by
    cases agg with
    | true => rw [v3 rfl]; exact ⟨by simpa [Value.cells] using p4, fits_agg p5⟩
    | false =>
     have := v4 rfl
     have ho1 := p4.one v (by rw [this]; simp)
     rw [cells_one ho1]; rw [this] at p4; exact ⟨by simpa using p4, fits_of_one p5 ho1⟩
   generalize hd : D.sub (D.at es el) j sz agg = d at *
   cases ow with
   | false =>
    simp only [ldAV, bFt, if_false, VRep] at p7 ⊢
    exact ⟨F2, hrep.1, hrep.2, fun x hx => .inl (p7 x hx)⟩
   | true =>
    have hsome : VRep w.heap st.us g (.im (some id) d) v := by
     simp only [VRep]
     refine ⟨F2, hrep.1, hrep.2, fun x hx => .inr ⟨id, rfl, ?_⟩⟩
     simpa using p7 x hx
    simp only [ldAV, if_true]
    split
    ·next hnp =>
     have := noPtr_F (D.flat_noPtr hnp) hrep.1
     subst this
     simp only [VRep]
     exact ⟨[], hrep.1, hrep.2, by simp⟩
    ·simp only [VRep]
     refine ⟨nn, usz, es, b, c, e, r1, r2, q1, r4, p1, q2, h1, ?_, ?_⟩
     ·have hlen : v.cells.toList = c2 := by
       cases agg with
       | true => rw [v3 rfl]; simp [Value.cells]
       | false => rw [v4 rfl, cells_one (hrep.1.one v (by
         have := v4 rfl
         have h2 := hrep.2
         have : d.isAg = false := p5
         cases d <;> simp_all [D.fits, D.isAg, Value.cells, Value.oneCell'] <;> (try (cases v <;> simp_all [Value.cells, Value.oneCell']))))]
      rw [hlen]
      exact (seg_eq p3 p2).symm
     ·cases agg with
      | true => rw [v3 rfl]; simp [Value.cells]
      | false =>
       simp only [bFt, if_false]
       have h2 := hrep.2
       have : d.isAg = false := p5
       cases d <;> simp_all [D.fits, D.isAg]
  ·exact hq.elim
 ·next id el j isz el' j' =>
  unfold ldQ at hq
  split at hq
  ·next nn usz es hun =>
   unfold inLd at hq
   split at hq
   ·next nn' sz' ds hd =>
    obtain ⟨⟨rfl, q1, q2, q3, q4⟩, hk⟩ := hq
    obtain ⟨hp, hs⟩ := pq_im hus ex hun hd q1 q2
    obtain ⟨v, r1, r2⟩ := ld_im (st := st) hz hg h1 hp (by omega) q4
    refine ⟨_, v, r1, ?_, hk⟩
    unfold inTok
    split
    ·next hc =>
     cases hdd : D.sub (D.at ds el') j' sz agg with
     | sc x =>
      rw [hdd] at r2
      simp only [VRep, Rep] at r2 ⊢
      obtain ⟨F, ⟨rfl, a1, a2⟩, a3, _⟩ := r2
      exact ⟨[], ⟨rfl, a1, a2⟩, a3, by simp⟩
     | _ => rw [hdd] at hc; simp [D.isSc] at hc
    ·exact r2
   ·exact hq.elim
  ·exact hq.elim
 ·next id j =>
  unfold ldB at hq
  split at hq
  ·next usz x hun =>
   have hm := mem_of_lu hun
   simp only [VRep] at ex
   obtain ⟨sz1, items1, b, r1, r2, hv⟩ := ex
   have := hus.uniq r1 hm
   injection this with e1 e2
   subst e1 e2
   have ho := hus.each _ hm
   simp only [UOk] at ho
   obtain ⟨_, b', c, e, vs, rest, k1, k2, k3, k4, k5, k6⟩ := ho
   rw [r2] at k1
   obtain rfl := Option.some.inj k1
   simp only [VRepL] at k4
   obtain ⟨v, r, rfl, hx, rfl⟩ := k4
   obtain ⟨⟨hpos, _⟩, hq⟩ := hq
   have hvs := k5 hpos v (by simp)
   have hc : c.toList = v.cells.toList ++ rest := by simpa using k6
   have hcell : ∀ (n : Nat) i y, ((v.cells.toList.drop j).take n)[i]? = some y → w.cell? ⟨b, j + i, none⟩ = some y := by
    intro n i y hy
    rw [cell_at k2, ← Array.getElem?_toList, hc]
    rw [List.getElem?_take] at hy
    split at hy
    ·have hy : v.cells.toList[j + i]? = some y := by simpa using hy
     rw [List.getElem?_append_left (List.getElem?_eq_some_iff.1 hy).1]
     exact hy
    ·cases hy
   unfold ldV at hq
   split at hq
   ·next hcd =>
    obtain ⟨rfl, rfl, hcd⟩ := hcd
    have hall : (v.cells.toList.drop 0).take sz = v.cells.toList := by
     rw [List.drop_zero, List.take_of_length_le (by simp [hvs])]
    obtain ⟨v', v1, v2, v3, v4⟩ := run_ld (P := P) (w := w) hz hg (b := b) (off := 0) (cs := (v.cells.toList.drop 0).take sz) (by rw [hall]; simpa using hvs) (fun i y hy => hcell _ i y hy) h1
    rw [hall] at v3 v4
    have : v' = v := by
     cases agg with
     | true =>
      have h3 := v3 rfl
      cases x with
      | sg ys =>
       simp only [VRep] at hx
       obtain ⟨xs, _, rfl⟩ := hx
       rw [h3]
       simp [Value.cells]
      | _ => simp [wholeOk] at hcd
     | false =>
      simp only [wholeOk] at hcd
      have h4 := v4 rfl
      rw [cells_one (one0_val hx hcd)] at h4
      simpa using h4.symm
    subst this
    exact ⟨x, v', by rw [hv]; exact v1, hx, hq⟩
   ·unfold ldP at hq
    split at hq
    ·rename_i ys _ _
     obtain ⟨⟨p1, p2⟩, hq⟩ := hq
     simp only [VRep] at hx
     obtain ⟨xs, hxs, rfl⟩ := hx
     have hfl := one0s_cells hxs p1
     have hcs : (Value.agg (xs.map (·.cells.toList)).flatten.toArray).cells.toList = xs := by rw [hfl]; simp [Value.cells]
     have hl := VRepL_len0 hxs
     rw [hcs] at hcell
     obtain ⟨v', v1, v2, v3, v4⟩ := run_ld (P := P) (w := w) hz hg (b := b) (off := j) (cs := (xs.drop j).take sz) (by simp; omega) (fun i y hy => hcell _ i y hy) h1
     have hpart := VRepL_part j sz hxs
     split at hq
     ·next ha =>
      have h3 := v3 ha
      refine ⟨_, v', by rw [hv]; exact v1, ?_, hq⟩
      rw [h3]
      refine sgAV_rep hpart ?_
      have : ((ys.drop j).take sz).all AV.one0 = true := by
       rw [List.all_eq_true] at p1 ⊢
       exact fun x hx => p1 x (List.mem_of_mem_drop (List.mem_of_mem_take hx))
      rw [one0s_cells hpart this]
     ·next ha =>
      have ha : agg = false := by simpa using ha
      have h4 := v4 ha
      have hs1 := h1 ha
      subst hs1
      refine ⟨_, v', by rw [hv]; exact v1, ?_, hq⟩
      have := VRepL_nth (i := j) hxs (by omega)
      have e5 : xs.getD j undef = v' := by
       have hj : j < xs.length := by omega
       rw [List.getD_eq_getElem?_getD, List.getElem?_eq_getElem hj]
       rw [List.drop_eq_getElem_cons hj, List.take_succ_cons, List.take_zero] at h4
       simpa using h4
      rw [e5] at this
      exact this
    ·exact hq.elim
  ·exact hq.elim
 ·exact hq.elim

theorem s_ld (h : At n0 S0 M0 w0 st o a w g) {t u : TypeId} {agg : Bool} {sz : Nat} {x : Operand} {X : Ax.X} (ho : o.op = .load t x) (hx : resX P u x = some X)
  (hz : szOf P t = some sz) (hg : aggOf P t = some agg) (h1 : agg = false → sz = 1)
  (hq : ldK (st.ev X) st.unit agg sz k) : o.wp P a w (QPost n0 S0 M0 w0 st o.dst k) Q' := by
 obtain ⟨av, v, h2, h3, h4⟩ := ld_core (P := P) h.us hz hg h1 (h.ev_ hx) hq
 exact h.pure_ (v := v) (by simp [execOp, ho, h2]) h3 h4

end Go.Ax
