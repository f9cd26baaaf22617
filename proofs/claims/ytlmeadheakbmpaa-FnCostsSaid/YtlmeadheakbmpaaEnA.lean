/- THE ENGINE, PART 1: a generator of conditions over the register code, and its soundness. No condition. -/
import Derived.WalkKit
set_option linter.all false
namespace Go.Ax
abbrev aa:=@Nat.zero_add
abbrev ab:=@List.mem_cons
abbrev ae:=@if_neg
abbrev af:=@if_pos
abbrev ah:=@Nat.add_zero
abbrev aj:=@List.getD_cons_zero
abbrev ak:=@List.getD_cons_succ
abbrev an:=@List.mem_append
abbrev aq:=@Nat.zero_le
abbrev au:=@List.mem_singleton
abbrev aw:=@Nat.le_refl
abbrev ay:=@if_true
abbrev aA:=@if_false
abbrev aB:=@List.mem_map
abbrev aD:=@Option.some.inj
abbrev aE:=@List.getD_eq_getElem?_getD
abbrev aF:=@List.getElem_mem
abbrev aG:=@Int.cast_ofNat_Int
abbrev aH:=@List.nodup_cons
abbrev aI:=@List.append_nil
abbrev aJ:=@List.drop_zero
abbrev aK:=@Bool.or_self
abbrev aL:=@Bool.or_false
abbrev aM:=@List.all_eq_true
abbrev aO:=@List.take_zero
abbrev aP:=@List.take_succ_cons
abbrev aQ:=@List.mem_filter
abbrev aR:=@Array.ext'
abbrev aS:=@Int.toNat_natCast
abbrev aT:=@Nat.add_mul
abbrev aU:=@beq_iff_eq
abbrev aV:=@Int.le_refl
abbrev aW:=@beq_false_of_ne
abbrev aX:=@List.nodup_append
abbrev aY:=@List.mem_of_mem_take
abbrev aZ:=@Nat.mul_le_mul_right
abbrev a7:=@decide_eq_true_eq
abbrev a8:=@List.length_take
abbrev ba:=@Bool.or_eq_true
abbrev bb:=@List.getElem?_eq_getElem
abbrev bc:=@Array.getElem?_eq_some_iff
abbrev be:=@List.nil_append
abbrev bf:=@List.cons_append
abbrev bg:=@List.mem_cons_of_mem
abbrev bh:=@Nat.min_eq_left
abbrev bi:=@Bool.and_self
abbrev bj:=@List.getElem?_eq_some_iff
abbrev bo:=@run_underlying
abbrev bp:=@List.nodup_nil
abbrev bt:=@List.mem_of_mem_drop
abbrev bu:=@List.take_append_drop
abbrev bw:=@Iff.rfl
abbrev bB:=@List.size_toArray
abbrev bC:=@List.append_assoc
abbrev bD:=@List.mem_cons_self
abbrev bF:=@Function.comp_def
abbrev bH:=@List.contains_eq_mem
abbrev bK:=@List.mem_range
abbrev bL:=@List.getElem?_append_left
abbrev bM:=@Array.getD_eq_getD_getElem?
abbrev bO:=@List.drop_eq_nil_of_le
abbrev bP:=@Bool.or_true
abbrev bQ:=@List.map_append
abbrev bR:=@Int.lt_irrefl
abbrev bS:=@Sem.run_bind
abbrev bV:=@List.flatten_cons
abbrev bW:=@setRow_size
abbrev bX:=@List.flatMap_cons
abbrev bY:=@and_true
abbrev bZ:=@List.take_left'
abbrev b9:=@List.take_of_length_le
abbrev ca:=@List.length_drop
abbrev cb:=@beq_eq_false_iff_ne
abbrev cd:=@List.any_cons
abbrev ce:=@List.any_nil
abbrev cj:=@not_or
abbrev ck:=@Bool.or_eq_false_iff
abbrev cm:=@setRow_other
abbrev cp:=@Bool.not_eq_true'
abbrev cu:=@List.cons.injEq
abbrev cx:=@List.drop_drop
abbrev cy:=@bne_iff_ne
abbrev cA:=@List.map_congr_left
abbrev cB:=@Nat.le_trans
abbrev cD:=@Nat.zero_lt_one
abbrev cE:=@Array.getElem?_toList
abbrev cF:=@List.not_mem_nil
abbrev cG:=@List.range_zero
abbrev cH:=@List.length_map
abbrev cI:=@or_false
abbrev cJ:=@List.all_cons
abbrev cK:=@decide_eq_false_iff_not
abbrev cL:=@List.drop_eq_getElem_cons
abbrev cM:=@Option.map_eq_some_iff
abbrev cN:=@Nat.add_assoc
abbrev cO:=@List.take_length
abbrev cP:=@Array.getElem?_eq_getElem
abbrev cQ:=@wp_mono
abbrev cR:=@List.map_map
abbrev cT:=@true_and
abbrev cU:=@Ne.symm
abbrev cV:=@Array.length_toList
abbrev cW:=@Prod.mk.injEq
abbrev cX:=@ByteArray.size_append
abbrev cY:=@Bool.false_or
abbrev cZ:=@List.getElem?_drop
abbrev c9:=@List.take_take
abbrev da:=@List.mapM_cons
abbrev db:=@setRow_heap
abbrev de:=@List.foldl_cons
abbrev df:=@List.mem_reverse
abbrev dg:=@Classical.byContradiction
abbrev dh:=@Option.getD_none
abbrev di:=@Nat.le_of_lt
abbrev dj:=@List.drop_take
abbrev dm:=@Result.andThen_ok
abbrev dp:=@List.eq_nil_of_length_eq_zero
abbrev dq:=@List.Sublist.refl
abbrev dr:=@List.take_succ_eq_append_getElem
abbrev dt:=@Nat.lt_irrefl
abbrev du:=@List.mem_append_left
abbrev dv:=@Oper.wp_mono
abbrev dw:=@List.any_eq_true
abbrev dx:=@Bool.eq_iff_iff
abbrev dy:=@Option.getD_some
abbrev dz:=@List.drop_succ_cons
abbrev dA:=@List.getElem?_append_right
abbrev dB:=@List.drop_append_of_le_length
abbrev dC:=@List.take_append_of_le_length
abbrev dD:=@List.ext_getElem
abbrev dE:=@List.getElem_of_mem
abbrev dF:=@List.mem_append_right
abbrev dG:=@mem_ready
abbrev dH:=@List.reverse_perm
abbrev dI:=@false_implies
abbrev dJ:=@Option.map_some
abbrev dK:=@Value.slice.injEq
abbrev dL:=@List.getElem?_take_of_lt
abbrev dM:=@Addr.add_lit
abbrev dN:=@List.perm_ext_iff_of_nodup
abbrev dO:=@wpOp_mono
abbrev dP:=@List.mem_iff_getElem
abbrev dQ:=@Option.map_none
abbrev dR:=@false_or
abbrev dS:=@List.getElem?_take
abbrev dT:=@List.drop_left'
abbrev dU:=@cell_of_row
abbrev dV:=@List.eq_nil_iff_forall_not_mem
abbrev dW:=@List.pairwise_cons
abbrev dX:=@Region.noSelect_spec
abbrev dY:=@List.length_pos_iff
abbrev dZ:=@Int.lt_or_le
abbrev d9:=@List.mem_map_of_mem
abbrev eb:=@List.length_range
abbrev ed:=@List.getElem?_eq_none
abbrev ef:=@List.zipWith_cons_cons
abbrev eh:=@Array.getElem?_push
abbrev ej:=@Nat.one_mul
abbrev eo:=@Nat.add_comm
abbrev er:=@Array.toList_map
abbrev et:=@Nat.zero_mul
abbrev eu:=@List.sublist_append_right
abbrev ew:=@List.Sublist.append
abbrev eC:=@Oper.upon_skip
abbrev eD:=@List.append_eq_nil_iff
abbrev eF:=@List.mem_of_getElem?
abbrev eH:=@Option.isNone_iff_eq_none
abbrev eJ:=@Nat.sub_zero
abbrev eK:=@List.mem_filterMap
abbrev eL:=@wp_region_any
abbrev eN:=@true_implies
abbrev eO:=@Bool.true_or
abbrev eQ:=@List.ext_getElem?
abbrev eR:=@Sem.run_pure
abbrev eV:=@Oper.upon_enter
abbrev eW:=@List.drop_append
abbrev eX:=@List.Sublist.nodup
abbrev eY:=@Bool.and_eq_false_iff
abbrev eZ:=@List.zipIdx_cons
abbrev e8:=@Nat.sub_self
abbrev fb:=@List.length_eq_zero_iff
abbrev fc:=@not_true_eq_false
abbrev fe:=@not_false_eq_true
abbrev ff:=@implies_true
abbrev fg:=@Array.size_push
abbrev fh:=@Option.isSome_none
abbrev fi:=@Option.isSome_some
abbrev fj:=@List.range_succ
abbrev fk:=@List.foldl_append
abbrev fm:=@List.length_cons
abbrev fo:=@beq_self_eq_true
abbrev fq:=@List.set_cons_zero
abbrev ft:=@List.set_cons_succ
abbrev fu:=@List.replicate_succ
abbrev fv:=@List.eq_of_mem_replicate
abbrev fw:=@List.take_append
abbrev fx:=@Nat.eq_of_mul_eq_mul_right
abbrev fy:=@run_storeCells_at
abbrev fA:=@List.range_eq_range'
abbrev fB:=@Nat.le_mul_of_pos_right
abbrev fC:=@Option.bind_some
abbrev fD:=@List.filter_sublist
abbrev fE:=@List.getElem_cons_zero
abbrev fF:=@List.Nodup.idxOf_getElem
abbrev fG:=@Nat.le_of_not_lt
abbrev fH:=@List.getElem?_map
abbrev fI:=@Nat.pow_le_pow_right
abbrev fJ:=@List.set_eq_take_append_cons_drop
abbrev fK:=@List.findIdx?_eq_some_iff_getElem
abbrev Mx(P:Program):Prop:=P.follows .mixedOrders=true
def oB{α β:Type _}{b:β}{o:Option α}{f:α→Option β}:o.bind f=some b↔∃a,o=some a∧f a=some b:=Option.bind_eq_some_iff
def oS{α:Type _}(a b:α):(some a=some b)=(a=b):=Option.some.injEq a b
def oD.{u} {α β:Type u}:bind=@Option.bind α β:=Option.bind_eq_bind
def oP.{u} {α:Type u}:pure=@some α:=Option.pure_def
def bA(a b:Bool):((a&&b)=true)=(a=true∧b=true):=Bool.and_eq_true a b
def lM{α β:Type _}{l:List α}(f:α→β):(l.map f).length=l.length:=cH f
def mI:(false=true)=False:=Bool.false_eq_true
def bN:(!false)=true:=Bool.not_false
def bT:(!true)=false:=Bool.not_true
def bU(b:Bool):(b&&true)=b:=Bool.and_true b
def lC{α β:Type _}{f:α→β}{a:α}{l:List α}:(a::l).map f=f a::l.map f:=List.map_cons
def lN{α β:Type _}{f:α→β}:[].map f=[]:=List.map_nil
def iL{n m:Nat}:(↑n:Int)< ↑m↔n<m:=Int.ofNat_lt
def iN(n:Nat):0≤(n:Int):=Int.natCast_nonneg n
def bG(b:Bool):(false&&b)=false:=Bool.false_and b
def bI(b:Bool):(true&&b)=b:=Bool.true_and b
def bJ(b:Bool):(b&&false)=false:=Bool.and_false b
def lK{α:Type _}{a:α}{l:List α}:(a::l).length=l.length+1:=fm
def lZ{α:Type _}:([]:List α).length=0:=List.length_nil
def lP{α:Type _}{a b:List α}:(a++b).length=a.length+b.length:=List.length_append
def bE{α:Type _}[BEq α][ReflBEq α](a:α):(a==a)=true:=fo a
inductive D where
 |sc (v:Value)
 |ag (ds:List D)
 |ls (nn:Option Bool) (sz:Nat) (ds:List D)
 |pt (d:D) (j:Nat)
 |jk
 |fn (f:Nat) (ds:List D)
 |lc (b o:Nat) (d:D)
 deriving Inhabited
mutual
def D.size:D→Nat
 |.sc _=>1
 |.ag ds=>D.fS ds
 |.ls _ _ _=>1
 |.pt _ _=>1
 |.jk=>1
 |.fn _ _=>1
 |.lc _ _ _=>1
def D.fS:List D→Nat
 | []=>0
 |d::ds=>D.size d+D.fS ds
end
def D.fX:D→Bool
 |.ag _=>true
 |_=>false
abbrev jv:=Array Obj
def D.fits:D→Value→Prop
 |.ag _,v=>∃c,v=.agg c
 |_,v=>v.oneCell'=true
def gz:Nat:=9223372036854775807
mutual
def gJ(h:jv):D→List Nat→List Value→Prop
 |.sc v,F,cs=>F=[]∧cs=[v]∧v.oneCell'=true
 |.ag ds,F,cs=>(∀d∈ds,d.size=1∧d.fX=false)∧gt h ds F cs
 |.jk,F,cs=>F=[]∧∃v:Value,cs=[v]∧v.oneCell'=true
 | .ls nn sz ds, F, cs =>
   (∃p,cs=[.slice p 0 0]∧ds=[]∧F=[]∧(p=none→nn≠some false)∧(p.isSome=true→nn≠some true))∨
   ∃b off cap c e fr F',cs=[.slice (some ⟨b,off,none⟩) ds.length cap]∧F=b::F'∧nn≠some true∧
    ds.length≤cap∧ds.length≤gz∧h[b]?=some (.cells c e fr)∧off+cap*sz≤c.size∧(∀d∈ds,d.size=sz)∧
    gt h ds F' ((c.toList.drop off).take (ds.length*sz))
 |.pt d j,F,cs=>∃b off c e fr F',cs=[.pointer (some ⟨b,off+j,none⟩)]∧F=b::F'∧j<d.size∧
    h[b]?=some (.cells c e fr)∧off+d.size≤c.size∧gJ h d F' ((c.toList.drop off).take d.size)
 |.fn f ds,F,cs=>∃vs,cs=[.func (.func f) #[] ⟨vs⟩]∧nQ h ds F vs
 |.lc b o d,F,cs=>((∃l c,cs=[.slice (some ⟨b,o,none⟩) l c])∨cs=[.pointer (some ⟨b,o,none⟩)])∧gJ h d F cs
def gt(h:jv):List D→List Nat→List Value→Prop
 | [],F,cs=>F=[]∧cs=[]
 |d::ds,F,cs=>∃F1 F2 c1 c2,F=F1++F2∧cs=c1++c2∧gJ h d F1 c1∧gt h ds F2 c2
def nQ(h:jv):List D→List Nat→List Value→Prop
 | [],F,vs=>F=[]∧vs=[]
 |d::ds,F,vs=>∃F1 F2 v r,F=F1++F2∧vs=v::r∧gJ h d F1 v.cells.toList∧d.fits v∧nQ h ds F2 r
end
variable {h:jv}
def JI{F vs}:nQ h [] F vs↔F=[]∧vs=[]:=by simp[nQ]
def vB{d ds F vs}:nQ h (d::ds) F vs↔∃F1 F2 v r,F=F1++F2∧vs=v::r∧gJ h d F1 v.cells.toList∧d.fits v∧nQ h ds F2 r:=by simp[nQ]
def sf{F cs}:gt h [] F cs↔F=[]∧cs=[]:=by simp[gt]
def jX{d ds F cs}:gt h (d::ds) F cs↔∃F1 F2 c1 c2,F=F1++F2∧cs=c1++c2∧gJ h d F1 c1∧gt h ds F2 c2:=by
 simp[gt]
mutual
def gJ.length:∀{d F cs},gJ h d F cs→cs.length=d.size
 |.sc _,_,_,hr=>by simp[gJ]at hr;simp[hr.2.1,D.size]
 |.ag ds,_,_,hr=>by simp only[gJ]at hr;simpa[D.size]using gt.length hr.2
 |.jk,_,_,hr=>by simp only[gJ]at hr;obtain⟨_,v,rfl,_⟩:=hr;simp[D.size]
 |.ls _ _ _,_,_,hr=>by
  simp only[gJ]at hr;rcases hr with⟨p,rfl,_⟩|⟨b,off,cap,c,e,fr,F',rfl,_⟩<;>simp[D.size]
 |.pt _ _,_,_,hr=>by
  simp only[gJ]at hr;obtain⟨b,off,c,e,fr,F',rfl,_⟩:=hr;simp[D.size]
 |.fn _ _,_,_,hr=>by
  simp only[gJ]at hr;obtain⟨vs,rfl,_⟩:=hr;simp[D.size]
 |.lc _ _ _,_,_,hr=>by
  simp only[gJ]at hr;rcases hr.1 with⟨_,_,rfl⟩|rfl<;>simp[D.size]
def gt.length:∀{ds F cs},gt h ds F cs→cs.length=D.fS ds
 | [],_,_,hr=>by simp[gt]at hr;simp[hr.2,D.fS]
 |d::ds,_,_,hr=>by
  simp only[gt]at hr;obtain⟨F1,F2,c1,c2,rfl,rfl,h1,h2⟩:=hr;simp[D.fS,gJ.length h1,gt.length h2]
end
variable {h':jv}
mutual
def gJ.frame:∀{d F cs},gJ h d F cs→(∀b∈F,h'[b]?=h[b]?)→gJ h' d F cs
 |.sc _,_,_,hr,_=>by simpa[gJ]using hr
 |.ag ds,_,_,hr,hf=>by simp only[gJ]at hr⊢;exact⟨hr.1,gt.frame hr.2 hf⟩
 |.jk,_,_,hr,_=>by simpa[gJ]using hr
 |.ls _ _ _,_,_,hr,hf=>by
  simp only[gJ]at hr⊢;rcases hr with hr|⟨b,off,cap,c,e,fr,F',h1,h2,h3,h4,h5,h6,h7,h8,h9⟩
  exact .inl hr;subst h2;exact .inr ⟨b,off,cap,c,e,fr,F',h1,rfl,h3,h4,h5,by rw[hf b (by simp)];exact h6,h7,h8,
   gt.frame h9 fun x hx=>hf x (by simp[hx])⟩
 |.pt _ _,_,_,hr,hf=>by
  simp only[gJ]at hr⊢;obtain⟨b,off,c,e,fr,F',h1,h2,h3,h4,h5,h6⟩:=hr;subst h2;exact⟨b,off,c,e,fr,F',h1,rfl,h3,by rw[hf b (by simp)];exact h4,h5,gJ.frame h6 fun x hx=>hf x (by simp[hx])⟩
 |.fn _ ds,_,_,hr,hf=>by
  simp only[gJ]at hr⊢;obtain⟨vs,h1,h2⟩:=hr;exact⟨vs,h1,nQ.frame h2 hf⟩
 |.lc _ _ _,_,_,hr,hf=>by
  simp only[gJ]at hr⊢;exact⟨hr.1,gJ.frame hr.2 hf⟩
def gt.frame:∀{ds F cs},gt h ds F cs→(∀b∈F,h'[b]?=h[b]?)→gt h' ds F cs
 | [],_,_,hr,_=>by simpa[gt]using hr
 |d::ds,_,_,hr,hf=>by
  simp only[gt]at hr⊢;obtain⟨F1,F2,c1,c2,rfl,rfl,h1,h2⟩:=hr;exact⟨F1,F2,c1,c2,rfl,rfl,gJ.frame h1 fun x hx=>hf x (by simp[hx]),gt.frame h2 fun x hx=>hf x (by simp[hx])⟩
def nQ.frame:∀{ds F vs},nQ h ds F vs→(∀b∈F,h'[b]?=h[b]?)→nQ h' ds F vs
 | [],_,_,hr,_=>by simpa[nQ]using hr
 |d::ds,_,_,hr,hf=>by
  simp only[nQ]at hr⊢;obtain⟨F1,F2,v,r,rfl,rfl,h1,h2,h3⟩:=hr;exact⟨F1,F2,v,r,rfl,rfl,gJ.frame h1 fun x hx=>hf x (by simp[hx]),h2,nQ.frame h3 fun x hx=>hf x (by simp[hx])⟩
end
mutual
def gJ.lt:∀{d F cs},gJ h d F cs→∀b∈F,b<h.size
 |.sc _,_,_,hr=>by simp[gJ]at hr;simp[hr.1]
 |.ag ds,_,_,hr=>by simp only[gJ]at hr;exact gt.lt hr.2
 |.jk,_,_,hr=>by simp only[gJ]at hr;simp[hr.1]
 |.ls _ _ _,_,_,hr=>by
  simp only[gJ]at hr;rcases hr with⟨_,_,_,rfl,_⟩|⟨b,off,cap,c,e,fr,F',h1,rfl,h3,h4,h5,h6,h7,h8,h9⟩
  simp;intro x hx;rcases ab.1 hx with rfl|hx
  exact(bc.1 h6).1;exact gt.lt h9 x hx
 |.pt _ _,_,_,hr=>by
  simp only[gJ]at hr;obtain⟨b,off,c,e,fr,F',h1,rfl,h3,h4,h5,h6⟩:=hr;intro x hx;rcases ab.1 hx with rfl|hx
  exact(bc.1 h4).1;exact gJ.lt h6 x hx
 |.fn _ ds,_,_,hr=>by
  simp only[gJ]at hr;obtain⟨vs,h1,h2⟩:=hr;exact nQ.lt h2
 |.lc _ _ _,_,_,hr=>by
  simp only[gJ]at hr;exact gJ.lt hr.2
def gt.lt:∀{ds F cs},gt h ds F cs→∀b∈F,b<h.size
 | [],_,_,hr=>by simp[gt]at hr;simp[hr.1]
 |d::ds,_,_,hr=>by
  simp only[gt]at hr;obtain⟨F1,F2,c1,c2,rfl,rfl,h1,h2⟩:=hr;intro x hx;rcases an.1 hx with hx|hx
  exact gJ.lt h1 x hx;exact gt.lt h2 x hx
def nQ.lt:∀{ds F vs},nQ h ds F vs→∀b∈F,b<h.size
 | [],_,_,hr=>by simp[nQ]at hr;simp[hr.1]
 |d::ds,_,_,hr=>by
  simp only[nQ]at hr;obtain⟨F1,F2,v,r,rfl,rfl,h1,_,h2⟩:=hr;intro x hx;rcases an.1 hx with hx|hx
  exact gJ.lt h1 x hx;exact nQ.lt h2 x hx
end
def gt.append{lQ F' cs'}:∀{ds F cs},gt h ds F cs→gt h lQ F' cs'→gt h (ds++lQ) (F++F') (cs++cs')
 | [],_,_,hr,h'=>by simp[gt]at hr;simpa[hr]using h'
 |d::ds,_,_,hr,h'=>by
  simp only[gt]at hr;obtain⟨F1,F2,c1,c2,rfl,rfl,h1,h2⟩:=hr;simp only[bf,gt];exact⟨F1,F2++F',c1,c2++cs',by simp,by simp,h1,gt.append h2 h'⟩
def gt.split{lQ}:∀{ds F cs},gt h (ds++lQ) F cs→∃F1 F2 c1 c2,F=F1++F2∧cs=c1++c2∧gt h ds F1 c1∧gt h lQ F2 c2
 | [],F,cs,hr=>⟨[],F,[],cs,by simp,by simp,by simp[gt],by simpa using hr⟩
 |d::ds,_,_,hr=>by
  simp only[bf,gt]at hr;obtain⟨F1,F2,c1,c2,rfl,rfl,h1,h2⟩:=hr;obtain⟨G1,G2,e1,e2,rfl,rfl,g1,g2⟩:=gt.split h2;exact⟨F1++G1,G2,c1++e1,e2,by simp,by simp,by simp only[gt];exact⟨F1,G1,c1,e1,rfl,rfl,h1,g1⟩,g2⟩
def gt.pick{ds F cs}(hr:gt h ds F cs){i:Nat}(hi:i<ds.length):
  ∃F1 F2 F3 c1 c2 c3,F=F1++(F2++F3)∧cs=c1++(c2++c3)∧gt h (ds.take i) F1 c1∧gJ h ds[i] F2 c2∧gt h (ds.drop (i+1)) F3 c3:=by
 have e:ds=ds.take i++(ds[i]::ds.drop (i+1)):=by
  rw[List.getElem_cons_drop,bu]
 have Ig:=hr;rw[e]at Ig;obtain⟨F1,F2,c1,c2,rfl,rfl,h1,h2⟩:=Ig.split;simp only[gt]at h2;obtain⟨F3,F4,c3,c4,rfl,rfl,h3,h4⟩:=h2;exact⟨F1,F3,F4,c1,c3,c4,rfl,rfl,h1,h3,h4⟩
def D.yW(a b:List D):D.fS (a++b)=D.fS a+D.fS b:=by
 induction a with
 |nil=>simp[D.fS]
 |cons x a ih=>simp[D.fS,ih];omega
def D.gk{sz:Nat}{ds:List D}(hs:∀d∈ds,d.size=sz):D.fS ds=ds.length*sz:=by
 induction ds with
 |nil=>simp[D.fS]
 |cons x a ih=>
  have h1:=hs x (by simp);have h2:=ih fun d hd=>hs d (by simp[hd]);simp[D.fS,h1,h2,Nat.succ_mul];omega
mutual
def gJ.one:∀{d F cs},gJ h d F cs→∀v∈cs,v.oneCell'=true
 |.sc _,_,_,hr=>by simp only[gJ]at hr;obtain⟨_,rfl,h1⟩:=hr;simpa using h1
 |.ag ds,_,_,hr=>by simp only[gJ]at hr;exact gt.one hr.2
 |.jk,_,_,hr=>by simp only[gJ]at hr;obtain⟨_,v,rfl,h1⟩:=hr;simpa using h1
 |.ls _ _ _,_,_,hr=>by
  simp only[gJ]at hr;rcases hr with⟨p,rfl,_⟩|⟨b,off,cap,c,e,fr,F',rfl,_⟩<;>simp[Value.oneCell']
 |.pt _ _,_,_,hr=>by
  simp only[gJ]at hr;obtain⟨b,off,c,e,fr,F',rfl,_⟩:=hr;simp[Value.oneCell']
 |.fn _ _,_,_,hr=>by
  simp only[gJ]at hr;obtain⟨vs,rfl,_⟩:=hr;simp[Value.oneCell']
 |.lc _ _ _,_,_,hr=>by
  simp only[gJ]at hr;rcases hr.1 with⟨_,_,rfl⟩|rfl<;>simp[Value.oneCell']
def gt.one:∀{ds F cs},gt h ds F cs→∀v∈cs,v.oneCell'=true
 | [],_,_,hr=>by simp[gt]at hr;simp[hr.2]
 |d::ds,_,_,hr=>by
  simp only[gt]at hr;obtain⟨F1,F2,c1,c2,rfl,rfl,h1,h2⟩:=hr;intro v hv;rcases an.1 hv with hv|hv
  exact gJ.one h1 v hv;exact gt.one h2 v hv
end
end Go.Ax
namespace Go.Ax
open Go.RowKit (Below)
inductive AV where
 |im (tok:Option Nat) (d:D)
 |tr (k:Nat)
 |pw (id el j:Nat)
 |cw (id el j sz:Nat) (agg:Bool)
 |sm (id off len:Nat)
 |vb (id len:Nat)
 |sg (vs:List AV)
 |lf (vs:List AV)
 |any
 |cl (f:Nat) (vs:List AV)
 |pq (id el j iE jj j':Nat)
 |qs (id el j iE off len:Nat)
 |ss (id off len:Nat)
 |z0 (nn:Option Bool) (sz:Nat)
 |pb (id j:Nat)
 |ps (id:Nat)
 deriving Inhabited
inductive U where
 |own (d:D)
 |ar (ow:Bool) (nn:Option Bool) (sz:Nat) (es:List D)
 |bx (sz:Nat) (items:List AV)
 |sb (T E:Nat) (s:ByteArray)
 deriving Inhabited
structure St where
 n:Nat
 env:List (Nat×AV)
 us:List (Nat×U)
def D.at(ds:List D)(i:Nat):D:=ds.getD i default
def D.sub(d:D)(j sz:Nat)(agg:Bool):D:=
 match d with
 |.ag ds=>if agg then .ag ((ds.drop j).take sz)else ds.getD j default
 |d=>d
def D.cells:D→List D
 |.ag ds=>ds
 |d=>[d]
def D.put(usz:Nat)(d:D)(j sz:Nat)(v:D):D:=
 if j=0∧sz=usz then v else
 match d with
 |.ag ds=>.ag (ds.take j++v.cells++ds.drop (j+sz))
 |d=>d
def lk:List (Nat×AV)→Nat→AV
 | [],_=>.any
 |(k,v)::r,t=>if k=t then v else lk r t
structure Gh where
 β:Nat→Option Nat
 φ:Nat→List Nat
 root:Nat→Value
 cap:Nat→Nat
 Sh:Nat→Prop
def Gh.ok(g:Gh)(tok:Option Nat)(b:Nat):Prop:=g.Sh b∨∃k,tok=some k∧b∈g.φ k∧g.β k≠some b
def Zt(s:ByteArray):List Value:=s.data.toList.map fun c=>Value.int .u8 c.toNat
def Gj(h:jv)(E:Nat)(s:ByteArray)(F:List Nat)(bv:Value):Prop:=
 (bv=.slice none 0 0∧s.size=0∧F=[])∨∃g cap cur,bv=.slice (some ⟨g,0,none⟩) s.size cap∧F=[g]∧h[g]?=some (.cells cur E (0,0))∧s.size≤cap∧cap≤gz∧cur.size=cap∧cur.toList.take s.size=Zt s
def G8(h:jv)(T E:Nat)(s:ByteArray)(b:Nat)(F:List Nat):Prop:=
 ∃ad bv,h[b]?=some (.cells #[ad,bv] T (0,0))∧(ad=.pointer none∨ad=.pointer (some ⟨b,0,none⟩))∧Gj h E s F bv
variable {s:ByteArray}{h h':jv}{F:List Nat}{E:Nat}
def Gj.frame{bv:Value}(hr:Gj h E s F bv)(hf:∀x∈F,h'[x]?=h[x]?):Gj h' E s F bv:=by
 rcases hr with hr|⟨g,cap,cur,h1,rfl,h3,h4⟩
 exact .inl hr;exact .inr ⟨g,cap,cur,h1,rfl,by rw[hf g (by simp)];exact h3,h4⟩
variable {T b:Nat}
def G8.frame(hr:G8 h T E s b F)(hf:∀x∈b::F,h'[x]?=h[x]?):G8 h' T E s b F:=by
 obtain⟨ad,bv,h1,h2,h3⟩:=hr;exact⟨ad,bv,by rw[hf b (by simp)];exact h1,h2,h3.frame fun x hx=>hf x (by simp[hx])⟩
def G8.lt(hr:G8 h T E s b F):∀x∈b::F,x<h.size:=by
 obtain⟨ad,bv,h1,h2,h3⟩:=hr;intro x hx;rcases ab.1 hx with rfl|hx
 exact(bc.1 h1).1;rcases h3 with⟨_,_,rfl⟩|⟨g,cap,cur,_,rfl,h3,_⟩
 cases hx;simp only[au]at hx;subst hx;exact(bc.1 h3).1
def Gj.nd{bv:Value}(hr:Gj h E s F bv):F.Nodup:=by
 rcases hr with⟨_,_,rfl⟩|⟨g,cap,cur,_,rfl,_⟩<;>simp
def G8.nd(hr:G8 h T E s b F):F.Nodup:=by
 obtain⟨_,_,_,_,h3⟩:=hr;exact h3.nd
mutual
def fN(h:jv)(us:List (Nat×U))(g:Gh):AV→Value→Prop
 |.im tok d,v=>∃F,gJ h d F v.cells.toList∧d.fits v∧∀b∈F,g.ok tok b
 |.tr k,v=>(∃d,(k,.own d)∈us)∧v=g.root k
 |.pw id el j,v=>∃ow nn sz es b,(id,.ar ow nn sz es)∈us∧el<es.length∧j<sz∧g.β id=some b∧v=.pointer (some ⟨b,el*sz+j,none⟩)
 | .cw id el j sz agg, v => ∃ nn usz es b c e, (id, .ar true nn usz es) ∈ us ∧ el < es.length ∧ j + sz ≤ usz ∧ g.β id = some b ∧ h[b]? = some (.cells c e (0, 0)) ∧ (agg = true → (D.at es el).fX = true) ∧
   (agg=false→sz=1)∧v.cells.toList=(c.toList.drop (el*usz+j)).take sz∧(if agg then v=.agg v.cells else v.oneCell'=true)
 | .sm id off len, v => ∃ ow nn sz es, (id, .ar ow nn sz es) ∈ us ∧ off + len ≤ es.length ∧
   ((∃b,g.β id=some b∧v=.slice (some ⟨b,off*sz,none⟩) len (g.cap id-off))∨(g.β id=none∧off=0∧len=0∧v=.slice none 0 0))
 |.vb id len,v=>∃sz items b,(id,.bx sz items)∈us∧items.length=len∧g.β id=some b∧v=.slice (some ⟨b,0,none⟩) len len
 |.sg vs,v=>∃xs,fT h us g vs xs∧v=.agg (xs.map (·.cells.toList)).flatten.toArray
 |.lf vs,v=>∃xs,v=.tuple xs∧fT h us g vs xs.toList
 |.any,_=>True
 |.cl f vs,v=>∃xs,fT h us g vs xs∧v=.func (.func f) #[] ⟨xs⟩
 | .pq id el j iE jj j', v => ∃ ow nn usz es b c e b' off' len' cap', (id, .ar ow nn usz es) ∈ us ∧ el < es.length ∧ j + 1 ≤ usz ∧ g.β id = some b ∧ h[b]? = some (.cells c e (0, 0)) ∧
   c[el*usz+j]?=some (.slice (some ⟨b',off',none⟩) len' cap')∧v=.pointer (some ⟨b',off'+jj*iE+j',none⟩)
 | .qs id el j iE off len, v => ∃ ow nn usz es b c e p len' cap', (id, .ar ow nn usz es) ∈ us ∧ el < es.length ∧ j + 1 ≤ usz ∧ g.β id = some b ∧ h[b]? = some (.cells c e (0, 0)) ∧
   c[el*usz+j]?=some (.slice p len' cap')∧off+len≤len'∧off≤cap'∧v=.slice (p.map fun a=>a.add (if off=cap' then 0 else off*iE)) len (cap'-off)
 | .ss id off len, v => ∃ ow nn sz es, (id, .ar ow nn sz es) ∈ us ∧ off + len ≤ es.length ∧
   ((∃b o,g.β id=some b∧(off<g.cap id→o=off*sz)∧v=.slice (some ⟨b,o,none⟩) len (g.cap id-off))∨(g.β id=none∧len=0∧v=.slice none 0 0))
 |.pb id j,v=>∃sz items b,(id,.bx sz items)∈us∧g.β id=some b∧v=.pointer (some ⟨b,j,none⟩)
 |.ps id,v=>∃T E s b,(id,.sb T E s)∈us∧g.β id=some b∧v=.pointer (some ⟨b,0,none⟩)
 |.z0 nn _,v=>∃p,v=.slice p 0 0∧(p=none→nn≠some false)∧(p.isSome=true→nn≠some true)
def fT(h:jv)(us:List (Nat×U))(g:Gh):List AV→List Value→Prop
 | [],vs=>vs=[]
 |a::as,vs=>∃v r,vs=v::r∧fN h us g a v∧fT h us g as r
end
def jn(h:jv)(us:List (Nat×U))(g:Gh)(id:Nat):U→Prop
  |.own d=>g.β id=none∧gJ h d (g.φ id) (g.root id).cells.toList∧d.fits (g.root id)
  |.ar ow nn sz es=>es.length≤gz∧(∀d∈es,d.size=sz)∧
     ((g.β id = none ∧ es = [] ∧ g.φ id = [] ∧ nn ≠ some false) ∨
      ∃b c e G cs rest,g.β id=some b∧h[b]?=some (.cells c e (0,0))∧c.toList=cs++rest∧c.size=g.cap id*sz∧es.length≤g.cap id∧
        gt h es G cs∧nn≠some true∧(if ow then g.φ id=b::G else g.φ id=[b]∧∀x∈G,g.Sh x))
  |.bx sz items=>items.length≤gz∧∃b c e vs rest,g.β id=some b∧h[b]?=some (.cells c e (0,0))∧g.φ id=[b]∧fT h us g items vs∧
      (0<sz→∀v∈vs,v.cells.size=sz)∧c.toList=(vs.map (·.cells.toList)).flatten++rest
  |.sb T E s=>∃b F,g.β id=some b∧g.φ id=b::F∧G8 h T E s b F
def fp(g:Gh)(us:List (Nat×U)):List Nat:=us.flatMap fun x=>g.φ x.1
def t7(h:jv)(b:Nat):Prop:=∃c e,h[b]?=some (.cells c e (0,0))
def U.kb:U→Bool
 |.ar _ none _ _=>true
 |.bx _ _=>true
 |.sb _ _ _=>true
 |_=>false
def U.na{ow:Bool}{nn:Option Bool}{sz:Nat}{es:List D}:(U.ar ow nn sz es).kb=true↔nn=none:=by cases nn<;>simp[U.kb]
def mV(n0:Nat)(M0:Nat→Prop)(us:List (Nat×U))(g:Gh):Prop:=
 ∀k v,k<8→(∃u:U,(3000000000+k,u)∈us∧u.kb=true)→
  (M0 (n0+(16*v+k))→g.β (3000000000+k)=some v)∧(M0 (n0+(16*v+(8+k)))→g.β (3000000000+k)≠none→g.cap (3000000000+k)=v)
variable {g:Gh}{us:List (Nat×U)}{n0:Nat}{M0:Nat→Prop}
def mV.mono{us':List (Nat×U)}{g':Gh}(h:mV n0 M0 us g)
  (H:∀i (u:U),(i,u)∈us'→u.kb=true→(∃u:U,(i,u)∈us∧u.kb=true)∧g'.β i=g.β i∧g'.cap i=g.cap i):mV n0 M0 us' g':=by
 intro k v hk ⟨u,hm,hp⟩;obtain⟨h1,h2,h3⟩:=H _ _ hm hp;rw[h2,h3];exact h k v hk h1
def tM(n0:Nat)(M0:Nat→Prop)(n:Nat)(β:Option Nat)(cap:Nat):Prop:=
 ∀k v,k<8→n=3000000000+k→(M0 (n0+(16*v+k))→β=some v)∧(M0 (n0+(16*v+(8+k)))→β≠none→cap=v)
variable {n:Nat}
def tM.low{β:Option Nat}{cap:Nat}(h:n<3000000000):tM n0 M0 n β cap:=fun k v _ e=>by omega
variable {u:U}
def mV.at(h:mV n0 M0 us g)(hm:(n,u)∈us)(hp:u.kb=true):tM n0 M0 n (g.β n) (g.cap n):=by
 rintro k v hk rfl;exact h k v hk ⟨u,hm,hp⟩
variable {g':Gh}
def mV.app{nus:List (Nat×U)}(h:mV n0 M0 us g)(hn:∀x∈nus,x.2.kb=true→x.1<3000000000)(hg:∀x∈us,g'.β x.1=g.β x.1∧g'.cap x.1=g.cap x.1):mV n0 M0 (nus++us) g':=by
 rintro k v hk ⟨u,hm,hp⟩;rcases an.1 hm with hm|hm
 have:=hn _ hm hp;simp only at this;omega;have:=hg _ hm;simp only at this;rw[this.1,this.2];exact h k v hk ⟨u,hm,hp⟩
def mV.cons{g':Gh}{u:U}(h:mV n0 M0 us g)(hn:n∉us.map (·.1))
  (hg:∀i,i≠n→g'.β i=g.β i∧g'.cap i=g.cap i) (hp:u.kb=true→tM n0 M0 n (g'.β n) (g'.cap n)):mV n0 M0 ((n,u)::us) g':=by
 intro k v hk ⟨u',hm,hpu⟩;rcases ab.1 hm with e|hm
 ·injection e with e1 e2;rw[e1];exact hp (e2▸hpu) k v hk e1.symm
 have g9:3000000000+k≠n:=fun e=>hn (e▸aB.2 ⟨_,hm,rfl⟩);rw[(hg _ g9).1,(hg _ g9).2];exact h k v hk ⟨u',hm,hpu⟩
structure gQ (h:jv) (n0:Nat) (S0 M0:Nat→Prop) (us:List (Nat×U)) (g:Gh):Prop where
 keys:(us.map (·.1)).Nodup
 nodup:(fp g us).Nodup
 lt:∀b∈fp g us,b<h.size
 low:∀b∈fp g us,b<n0→M0 b
 dead:∀k,k∉us.map (·.1)→g.φ k=[]
 sh:∀b,g.Sh b→b<h.size∧(b<n0→S0 b)∧b∉fp g us
 each:∀x∈us,jn h us g x.1 x.2
 fz:∀b∈fp g us,t7 h b
 AB:mV n0 M0 us g
structure k9 (n0:Nat) (S0 M0:Nat→Prop) (w0:World) (st:St) (a:Act) (w:World):Prop where
 ms:∀b,b<n0→M0 b→S0 b
 v8:a.defers=[]
 tm:a.tmps.size=st.n
 base:n0=w0.heap.size
 os:w.os=w0.os
 tape:w.tape=w0.tape
 output:w.output=w0.output
 size:w0.heap.size≤w.heap.size
 jL:∀b,b<n0→¬M0 b→w.heap[b]?=w0.heap[b]?
 gh:∃g,gQ w.heap n0 S0 M0 st.us g∧∀t,fN w.heap st.us g (lk st.env t) (a.tmps.getD t undef)
def gn:b∈fp g us↔∃x∈us,b∈g.φ x.1:=by simp[fp]
def iA(hk:(us.map (·.1)).Nodup)(hn:(fp g us).Nodup){x y:Nat×U}(hx:x∈us)(hy:y∈us){b:Nat}
  (bx:b∈g.φ x.1) (by_:b∈g.φ y.1):x.1=y.1:=by
 induction us with
 |nil=>cases hx
 |cons z us ih=>
  simp only[lC,aH]at hk;simp only[fp,bX,aX]at hn;obtain⟨_,hn2,hn3⟩:=hn;rcases ab.1 hx with e1|hx<;>rcases ab.1 hy with e2|hy
  ·rw[e1,e2]
  exact absurd rfl (hn3 b (e1▸bx) b (gn.2 ⟨_,hy,by_⟩));exact absurd rfl (hn3 b (e2▸by_) b (gn.2 ⟨_,hx,bx⟩));exact ih hk.2 hn2 hx hy
def jn.kr{id:Nat}(hu:jn h us g id u)(hb:g.β id=some b):b∈g.φ id:=by
 cases u with
 |own d=>simp[jn,hb]at hu
 |ar ow nn sz es=>
  simp only[jn]at hu;rcases hu.2.2 with⟨h0,_⟩|⟨b',c,e,G,cs,rest,h1,_,_,_,_,_,_,h7⟩
  simp[hb]at h0;rw[hb]at h1;obtain rfl:=aD h1
  split at h7;simp[h7];simp[h7.1]
 |bx sz items=>
  simp only[jn]at hu;obtain⟨_,b',c,e,vs,rest,h1,_,h3,_⟩:=hu;rw[hb]at h1;obtain rfl:=aD h1;simp[h3]
 |sb T E s=>
  simp only[jn]at hu;obtain⟨b',F,h1,h3,_⟩:=hu;rw[hb]at h1;obtain rfl:=aD h1;simp[h3]
def gQ.uniq{n0 S0 M0 us g}(hu:gQ h n0 S0 M0 us g){id:Nat}{v:U}(h1:(id,u)∈us)(h2:(id,v)∈us):u=v:=by
 have hk:=hu.keys;clear hu
 induction us with
 |nil=>cases h1
 |cons z us ih=>
  simp only[lC,aH]at hk;rcases ab.1 h1 with e1|h1<;>rcases ab.1 h2 with e2|h2
  rw[←e1]at e2;injection e2 with _ e2;exact e2.symm;exact absurd (aB.2 ⟨_,h2,rfl⟩) (by rw[←e1]at hk;exact hk.1);exact absurd (aB.2 ⟨_,h1,rfl⟩) (by rw[←e2]at hk;exact hk.1);exact ih h1 h2 hk.2
def gQ.live{n0 S0 M0 us g}(hu:gQ h n0 S0 M0 us g){k:Nat}(hb:b∈g.φ k):∃u,(k,u)∈us:=by
 rcases Classical.em (k∈us.map (·.1))with h1|h1
 obtain⟨x,hx,rfl⟩:=aB.1 h1;exact⟨x.2,hx⟩;rw[hu.dead k h1]at hb;cases hb
def gQ.acu{n0 S0 M0 us g}(hu:gQ h n0 S0 M0 us g){tok:Option Nat}(hb:g.ok tok b)
  {id:Nat} {u:U} (me:(id,u)∈us) {b0:Nat} (h0:g.β id=some b0):b≠b0:=by
 rintro rfl;have hm:=(hu.each _ me).kr h0;rcases hb with hb|⟨k,rfl,hk,g9⟩
 exact(hu.sh b hb).2.2 (gn.2 ⟨_,me,hm⟩);obtain⟨u',wN⟩:=hu.live hk;have:=iA hu.keys hu.nodup wN me hk hm;simp only at this;subst this;exact g9 h0
variable {us':List (Nat×U)}
mutual
def fN.mono{g g':Gh}(hu:∀x∈us,x∈us')(hh:∀b,b<h.size→h'[b]?=h[b]?)
  (hβ:∀x∈us,g'.β x.1=g.β x.1∧g'.root x.1=g.root x.1∧g'.cap x.1=g.cap x.1) (kA:∀t b,b<h.size→g.ok t b→g'.ok t b):
  ∀{a:AV} {v:Value},fN h us g a v→fN h' us' g' a v
 |.im t d,v,hr=>by
  simp only[fN]at hr⊢;obtain⟨F,h1,h2,h3⟩:=hr;exact⟨F,h1.frame fun b hb=>hh b (h1.lt b hb),h2,fun b hb=>kA t b (h1.lt b hb) (h3 b hb)⟩
 |.tr k,v,hr=>by
  simp only[fN]at hr⊢;obtain⟨⟨d,hd⟩,hv⟩:=hr;exact⟨⟨d,hu _ hd⟩,by rw[(hβ _ hd).2.1];exact hv⟩
 |.pw id el j,v,hr=>by
  simp only[fN]at hr⊢;obtain⟨ow,nn,sz,es,b,h1,h2,h3,h4,h5⟩:=hr;exact⟨ow,nn,sz,es,b,hu _ h1,h2,h3,by rw[(hβ _ h1).1];exact h4,h5⟩
 |.cw id el j sz agg,v,hr=>by
  simp only[fN]at hr⊢;obtain⟨nn,usz,es,b,c,e,h1,h2,h3,h4,h5,h6⟩:=hr;exact⟨nn,usz,es,b,c,e,hu _ h1,h2,h3,by rw[(hβ _ h1).1];exact h4,by rw[hh b (bc.1 h5).1];exact h5,h6⟩
 |.sm id off len,v,hr=>by
  simp only[fN]at hr⊢;obtain⟨ow,nn,sz,es,h1,h2,h3⟩:=hr;refine⟨ow,nn,sz,es,hu _ h1,h2,?_⟩;rw[(hβ _ h1).1,(hβ _ h1).2.2];exact h3
 |.vb id len,v,hr=>by
  simp only[fN]at hr⊢;obtain⟨sz,items,b,h1,h2,h3,h4⟩:=hr;exact⟨sz,items,b,hu _ h1,h2,by rw[(hβ _ h1).1];exact h3,h4⟩
 |.sg vs,v,hr=>by
  simp only[fN]at hr⊢;obtain⟨xs,h1,h2⟩:=hr;exact⟨xs,fT.mono hu hh hβ kA h1,h2⟩
 |.lf vs,v,hr=>by
  simp only[fN]at hr⊢;obtain⟨xs,h1,h2⟩:=hr;exact⟨xs,h1,fT.mono hu hh hβ kA h2⟩
 |.any,_,_=>by simp[fN]
 |.cl f vs,v,hr=>by
  simp only[fN]at hr⊢;obtain⟨xs,h1,h2⟩:=hr;exact⟨xs,fT.mono hu hh hβ kA h1,h2⟩
 |.pq id el j iE jj j',v,hr=>by
  simp only[fN]at hr⊢;obtain⟨ow,nn,usz,es,b,c,e,b',off',len',cap',h1,h2,h3,h4,h5,h6⟩:=hr;exact⟨ow,nn,usz,es,b,c,e,b',off',len',cap',hu _ h1,h2,h3,by rw[(hβ _ h1).1];exact h4,by rw[hh b (bc.1 h5).1];exact h5,h6⟩
 |.qs id el j iE off len,v,hr=>by
  simp only[fN]at hr⊢;obtain⟨ow,nn,usz,es,b,c,e,p,len',cap',h1,h2,h3,h4,h5,h6⟩:=hr;exact⟨ow,nn,usz,es,b,c,e,p,len',cap',hu _ h1,h2,h3,by rw[(hβ _ h1).1];exact h4,by rw[hh b (bc.1 h5).1];exact h5,h6⟩
 |.ss id off len,v,hr=>by
  simp only[fN]at hr⊢;obtain⟨ow,nn,sz,es,h1,h2,h3⟩:=hr;refine⟨ow,nn,sz,es,hu _ h1,h2,?_⟩;rw[(hβ _ h1).1,(hβ _ h1).2.2];exact h3
 |.z0 nn _,v,hr=>by simpa[fN]using hr
 |.pb id j,v,hr=>by
  simp only[fN]at hr⊢;obtain⟨sz,items,b,h1,h3,h4⟩:=hr;exact⟨sz,items,b,hu _ h1,by rw[(hβ _ h1).1];exact h3,h4⟩
 |.ps id,v,hr=>by
  simp only[fN]at hr⊢;obtain⟨T,E,s,b,h1,h3,h4⟩:=hr;exact⟨T,E,s,b,hu _ h1,by rw[(hβ _ h1).1];exact h3,h4⟩
def fT.mono{g g':Gh}(hu:∀x∈us,x∈us')(hh:∀b,b<h.size→h'[b]?=h[b]?)
  (hβ:∀x∈us,g'.β x.1=g.β x.1∧g'.root x.1=g.root x.1∧g'.cap x.1=g.cap x.1) (kA:∀t b,b<h.size→g.ok t b→g'.ok t b):
  ∀{as:List AV} {vs:List Value},fT h us g as vs→fT h' us' g' as vs
 | [],_,hr=>by simpa[fT]using hr
 |a::as,vs,hr=>by
  simp only[fT]at hr⊢;obtain⟨v,r,h1,h2,h3⟩:=hr;exact⟨v,r,h1,fN.mono hu hh hβ kA h2,fT.mono hu hh hβ kA h3⟩
end
def jn.mono{g g':Gh}{id:Nat}(hm:(id,u)∈us)(hu:∀x∈us,x∈us')(hh:∀b,b<h.size→h'[b]?=h[b]?)
  (hβ:∀x∈us,g'.β x.1=g.β x.1∧g'.root x.1=g.root x.1∧g'.cap x.1=g.cap x.1) (hφ:g'.φ id=g.φ id) (hS:∀b,b<h.size→g.Sh b→g'.Sh b)
  (kA:∀t b,b<h.size→g.ok t b→g'.ok t b) (ho:jn h us g id u):jn h' us' g' id u:=by
 obtain⟨e1,e2,e3⟩:=hβ _ hm;simp only at e1 e2 e3;cases u with
 |own d=>
  simp only[jn]at ho⊢;obtain⟨h1,h2,h3⟩:=ho;rw[e1,e2,hφ];exact⟨h1,h2.frame fun b hb=>hh b (h2.lt b hb),h3⟩
 |ar ow nn sz es=>
  simp only[jn]at ho⊢;rw[e1,e3,hφ];obtain⟨h1,h2,h3⟩:=ho;refine⟨h1,h2,?_⟩;rcases h3 with h3|⟨b,c,e,G,cs,rest,k1,k2,k3,k4,k5,k6,k7,k8⟩
  exact .inl h3;refine .inr ⟨b,c,e,G,cs,rest,k1,by rw[hh b (bc.1 k2).1];exact k2,k3,k4,k5,k6.frame fun x hx=>hh x (k6.lt x hx),k7,?_⟩;cases ow
  ·simp only[mI,aA]at k8⊢;exact⟨k8.1,fun x hx=>hS x (k6.lt x hx) (k8.2 x hx)⟩
  simpa using k8
 |bx sz items=>
  simp only[jn]at ho⊢;rw[e1,hφ];obtain⟨h1,b,c,e,vs,rest,k1,k2,k3,k4,k5⟩:=ho;exact⟨h1,b,c,e,vs,rest,k1,by rw[hh b (bc.1 k2).1];exact k2,k3,fT.mono hu hh hβ kA k4,k5⟩
 |sb T E s=>
  simp only[jn]at ho⊢;rw[e1,hφ];obtain⟨b,F,k1,k2,k3⟩:=ho;exact⟨b,F,k1,k2,k3.frame fun x hx=>hh x (k3.lt x hx)⟩
end Go.Ax
namespace Go.Ax
inductive X where
 |t (n:Nat)
 |c (d:D)
 deriving Inhabited
inductive oT where
 |mv (d:Nat) (x:X)
 |pick (d:Nat) (c a b:X)
 |box (d sz:Nat) (x:X)
 |zer (d sz:Nat) (z:D)
 |ld (d:Nat) (agg:Bool) (sz:Nat) (a:X)
 |st (sz:Nat) (a x:X)
 |nck (d:Nat) (x:X)
 |bin (d:Nat) (op:BinOp) (x y:X)
 |beq (d:Nat) (neg:Bool) (x y:X)
 |snil (d:Nat) (neg:Bool) (x y:X)
 |ceq (d:Nat) (neg:Bool) (n:Nat) (x y:X)
 |un (d:Nat) (op:UnOp) (x:X)
 |cvt (d:Nat) (k:IntKind) (x:X)
 |mk (d sz bytes:Nat) (z:D) (l c:X)
 |slc (d sz:Nat) (x:X) (lo hi:Option X)
 |fa (d off:Nat) (x:X)
 |fl (d off sz:Nat) (agg:Bool) (x:X)
 |ia (d sz:Nat) (x i:X)
 |ix (d:Nat) (x i:X)
 |len (d:Nat) (x:X)
 |abS (d:Nat) (x:X)
 |sls (d:Nat) (x:X) (lo hi:Option X)
 |app (d sz bytes:Nat) (x y:X)
 |call (d:Option Nat) (f:Nat) (args:List X)
 |calv (d:Option Nat) (f:X) (args:List X)
 |ext (d:Nat) (x:X) (i:Nat)
 |bs (d sz:Nat) (z:D) (len:Nat) (parts:List (Nat×X))
 |bld (d:Nat) (z:D) (parts:List (Nat×Nat×X))
 |mcl (d f:Nat) (x y:X)
 |cls (d f:Nat) (x:X) (args:List X)
 |mkf (d f:Nat) (args:List X)
 |s30 (d sz:Nat) (x:X)
 |cpy (d:Option Nat) (sz:Nat) (x y:X)
 |sH (d:Option Nat) (f:Nat) (args:List X)
 |RX (d:Option Nat) (f:X) (args:List X)
 |mxm (d:Nat) (mx:Bool) (x y:X)
 |bse (d sz:Nat)
 |ape (d sz bytes:Nat) (x y:X)
 |zsb (d T E:Nat)
 |bwr (d:Option Nat) (f:Nat) (x:X) (args:List X)
 |bst (d f:Nat) (x:X)
 |cvs (d:Nat) (x:X)
 |Lk (d sz bytes:Nat) (x y:X)
 |wO (sz:Nat) (a x:X)
 |Ll (d:Option Nat) (f:Nat) (args:List X)
 |W2 (d sz len:Nat) (ps:List (Nat×X))
 |other (o:Oper)
 deriving Inhabited
def oT.dst:oT→Option Nat
 |.mv d _|.pick d _ _ _|.box d _ _|.zer d _ _|.ld d _ _ _|.nck d _|.bin d _ _ _|.beq d _ _ _|.snil d _ _ _|.ceq d _ _ _ _|.un d _ _|.cvt d _ _|.mk d _ _ _ _ _|.slc d _ _ _ _
 |.fa d _ _|.fl d _ _ _ _|.ia d _ _ _|.ix d _ _|.len d _|.abS d _|.sls d _ _ _|.app d _ _ _ _|.ext d _ _|.bs d _ _ _ _|.bld d _ _|.mcl d _ _ _|.cls d _ _ _|.mkf d _ _|.s30 d _ _|.mxm d _ _ _|.bse d _|.ape d _ _ _ _|.cvs d _|.zsb d _ _|.bst d _ _|.Lk d _ _ _ _|.W2 d _ _ _=>some d
 |.call d _ _|.calv d _ _|.cpy d _ _ _|.sH d _ _|.RX d _ _|.bwr d _ _ _=>d
 |.Ll d _ _=>d
 |.st .. |.wO .. =>none
 |.other o=>o.dst
structure RO where
 g:Option (Nat×Bool)
 op:oT
 deriving Inhabited
inductive Tr where
 |br (l:List (Nat×Tr))
 deriving Inhabited
inductive Pj where
 |br (cs:List oT) (l:List (RO×Pj))
 deriving Inhabited
def To(W:Nat→List Nat)(m:Nat):Nat→List Nat→Tr
 |0,_=>.br []
 |n+1,X=>.br (((List.range m).filter fun i=>!X.contains i&&(W i).all X.contains).map fun i=>(i,To W m n (i::X)))
inductive PO where
 |q (r:RO)
 |a (d sz bytes x y:Nat)
 deriving Inhabited
inductive RC where
 |skip
 |jI (draw:Bool) (ops:List RO)
 |alh (N:List RO) (E:List (List oT×RO))
 |abT (R:List RO) (T:Tr)
 |KN (N:List RO) (T:Pj)
 |abU (N:List PO) (E:List RO)
 |seq (a b:RC)
 |cond (x:X) (a b:RC)
 |gX (id:Nat) (c:RC)
 |loop (c:RC)
 |exit (id:Nat)
 |ret
 |other (c:Code)
 deriving Inhabited
def yx(P:Program):Nat→TypeId→List Nat
 |0,_=>[]
 |n+1,t=>
  match P.underlying t with
  |some (.struct fs)=>(fs.toList.map fun f=>yx P n f.type).flatten
  |some (.array k e)=>(List.replicate k (yx P n e)).flatten
  |some (.slice e)=>[((P.info? e).map (·.size)).getD 0]
  |_=>[0]
def wz(v:Value)(sz:Nat):D:=
 match v with
 |.slice none 0 0=>.ls (some true) sz []
 |v=>.sc v
def HC(P:Program)(t:TypeId)(v:Value):Option D:=
 let s:=yx P 20 t
 match v with
 |.agg cs=>if s.length=cs.size&&cs.all (·.oneCell')then some (.ag (List.zipWith wz cs.toList s))else none
 |v=>if v.oneCell' then some (wz v (s.headD 0))else none
def gG(P:Program)(t:TypeId):Operand→Option X
 |.tmp n=>some (.t n)
 |.const v=>(HC P t v).map .c
 |.global g=>some (.c (.sc (.pointer (some ⟨g,0,none⟩))))
 |.func f=>some (.c (.sc (.func (.func f) #[] #[])))
def tQ(P:Program)(t:TypeId):Option Bool:=
 match P.underlying t with
 |some (.struct _)|some (.array _ _)=>some true
 |some _=>some false
 |none=>none
def kx(P:Program)(t:TypeId):Option Nat:=(P.info? t).map (·.size)
def kY(P:Program)(t:TypeId):Option D:=
 match P.info? t with
 |some i=>match i.zero with
  |some z=>if z.cells.size=i.size then HC P t z else none
  |none=>none
 |none=>none
def ut(P:Program)(t:TypeId):Option TypeId:=
 match P.underlying t with
 |some (.slice e)=>some e
 |_=>none
def yF(P:Program):Nat→List Field→Bool
 |_,[]=>true
 | i, f :: fs => f.name != "_" && f.offset == i && kx P f.type == some 1 && tQ P f.type == some false && (match P.underlying f.type with | some (.int _) => true | _ => false) && yF P (i + 1) fs
def Oi(P:Program)(t:TypeId)(fs:Array Field):Bool:=!P.stoodInHeld t&& !P.eqGuardType P.depth t&&yF P 0 fs.toList
def PD : List String := ["loop.example/g01101/laws.markAutomaton", "loop.example/g01101/laws.markBoolS", "loop.example/g01101/laws.markBoolSS", "loop.example/g01101/laws.markBoolSSS", "loop.example/g01101/laws.markCosts", "loop.example/g01101/laws.markEquation", "loop.example/g01101/laws.markExpr", "loop.example/g01101/laws.markExprS", "loop.example/g01101/laws.markFlow", "loop.example/g01101/laws.markInt64S", "loop.example/g01101/laws.markInt64SS", "loop.example/g01101/laws.markInt64SSS", "loop.example/g01101/laws.markModel", "loop.example/g01101/laws.markProg", "loop.example/g01101/laws.markProgS", "loop.example/g01101/laws.markSpotS", "loop.example/g01101/laws.markWord", "loop.example/g01101/laws.markPair", "loop.example/g01101/laws.markPairS", "loop.example/g01101/laws.markProof", "loop.example/g01101/laws.markClaim", "loop.example/g01101/laws.markClaimS", "loop.example/g01101/laws.markProofStepS", "loop.example/g01101/laws.markWordS", "loop.example/g01101/laws.markWorld", "loop.example/g01101/laws.markWorldS", "loop.example/g01101/laws.markSpot"]
def aeB(P:Program)(f:Nat):Bool:=match P.funcs[f]? with|some fn=>PD.any (fun s=>s==fn.name)|none=>false
def TR : List String := ["loop.example/g01101/spec.l04At"]
def ag6(P:Program)(f:Nat):Bool:=match P.funcs[f]? with|some fn=>TR.any (fun s=>s==fn.name)|none=>false
def VD : List String := ["loop.example/g01101/spec.l06Add", "loop.example/g01101/spec.l06Make", "loop.example/g01101/spec.l06Sites", "loop.example/g01101/impl.sites", "loop.example/g01101/spec.l04Put", "loop.example/g01101/spec.l04Top", "loop.example/g01101/spec.l04Bind", "loop.example/g01101/spec.l01DrawSig", "loop.example/g01101/spec.l01Drawn", "loop.example/g01101/spec.l01Put", "loop.example/g01101/spec.l01List", "loop.example/g01101/spec.l01Spoil", "loop.example/g01101/spec.l01DrawWord", "loop.example/g01101/spec.l01Fitting", "loop.example/g01101/spec.l02Summands", "loop.example/g01101/spec.l02Random", "loop.example/g01101/spec.l03Varied", "loop.example/g01101/spec.l05Draw", "loop.example/g01101/spec.l05DrawCosts", "loop.example/g01101/spec.l05Order", "loop.example/g01101/spec.l05DrawPoints", "loop.example/g01101/spec.l05For", "(*loop.example/g01101/spec.l00Src).next", "(*loop.example/g01101/spec.l00Src).pick", "(*loop.example/g01101/spec.l00Src).one", "(*loop.example/g01101/spec.l00Src).among", "(*loop.example/g01101/spec.l00Src).text", "(*loop.example/g01101/spec.l00Src).word", "(*loop.example/g01101/spec.l01Gen).leaf", "(*loop.example/g01101/spec.l01Gen).expr", "(*loop.example/g01101/spec.l04Fit).fit", "(*loop.example/g01101/impl.Flow).add", "(*loop.example/g01101/impl.Flow).make", "slices.Sort[[]int64,int64]"]
def Wf : List String := ["loop.example/g01101/impl.writeExpr", "(*strings.Builder).WriteString"]
def Vs : List String := ["(*strings.Builder).String"]
def agB(P:Program)(f:Nat):Bool:=match P.funcs[f]? with|some fn=>Wf.any (fun s=>s==fn.name)|none=>false
def agj(P:Program)(f:Nat):Bool:=match P.funcs[f]? with|some fn=>Vs.any (fun s=>s==fn.name)|none=>false
def Zz : List String := ["loop.example/g01101/impl.table[bool]"]
inductive Wv where
 |no
 |yes
 |ap
 |sh
 |sb
 deriving Inhabited
def Wv.cl:Wv→Bool
 |.yes=>true
 |_=>false
def yn:Wv→Nat→Nat→Nat→X→X→oT
 |.ap,d,s,b,x,y=>.ape d s b x y
 |.sh,d,s,b,x,y=>.Lk d s b x y
 |.sb,d,s,b,x,y=>if s=3 then .Lk d s b x y else .app d s b x y
 |.no,d,s,b,x,y=>.app d s b x y
 |.yes,d,s,b,x,y=>.app d s b x y
def ajE:Wv→Nat→X→X→oT
 |.sh=>.wO
 |.sb=>.wO
 |_=>.st
def ag8:Wv→Option Nat→Nat→List X→oT
 |.sh=>.Ll
 |.sb=>.Ll
 |_=>.sH
def Wv.sh?:Wv→Bool
 |.sh=>true
 |.sb=>true
 |_=>false
def aaI : List String := ["loop.example/g01101/spec.l02Sorted", "loop.example/g01101/spec.l02Step"]
def ags:Wv→Option Nat→X→List X→oT
 |.yes=>.RX
 |_=>.calv
def CC:Wv→Nat→Nat→D→Nat→List (Nat×X)→oT
 |.ap,d,sz,_,0,[]=>.bse d sz
 |.sb,d,3,_,l,ps=>.W2 d 3 l ps
 |_,d,sz,z,l,ps=>.bs d sz z l ps
def UR(P:Program)(e:TypeId):Bool:=match P.underlying e with
 |some (.int k)=>k==.u8
 |_=>false
def agP(P:Program)(wv:Wv)(f:Nat):Bool:=match P.funcs[f]? with|some fn=>VD.any (fun s=>s==fn.name)||(wv.cl&&Zz.any (fun s=>s==fn.name))||(wv.sh?&&aaI.any (fun s=>s==fn.name))|none=>false
def ag5:Operand→Bool
 |.const (.int .i64 n)=>n==0
 |_=>false
def FF:Option Value→Bool
 |some (.agg cs)=>(match cs.toList with
  | [.pointer none,.slice none l c]=>l==0&&c==0
  |_=>false)
 |_=>false
def aeD(P:Program)(e:TypeId):Option TypeId:=
 match P.underlying e,P.info? e with
 |some (.struct fs),some i=>(match fs.toList with
  | [f0,f1]=>(match P.underlying f0.type,P.underlying f1.type with
   |some (.pointer t),some (.slice E)=>if(t==e&&UR P E&&FF i.zero)=true then some E else none
   |_,_=>none)
  |_=>none)
 |_,_=>none
def x6(P:Program)(d:Nat)(e:TypeId):Option oT:=
 match aeD P e with
 |some E=>some (.zsb d e E)
 |none=>do pure (.zer d (←kx P e) (←kY P e))
def tJ(P:Program)(wv:Wv)(n:Nat)(o:Oper):Option oT:=do
  match o.op with
  |.move x|.assign x=>let d←o.dst;guard (d<n);pure (.mv d (←gG P o.type x))
  |.pick c a b=>let d←o.dst;guard (d<n);pure (.pick d (←gG P 0 c) (←gG P o.type a) (←gG P o.type b))
  |.box e x=>let d←o.dst;guard (d<n);pure (.box d (←kx P e) (←gG P e x))
  |.alloc e=>let d←o.dst;guard (d<n);x6 P d e
  |.load t a=>let d←o.dst;guard (d<n);let s←kx P t;let g←tQ P t;guard (g||s==1);pure (.ld d g s (←gG P 0 a))
  |.store t a x=>guard o.dst.isNone;pure (ajE wv (←kx P t) (←gG P 0 a) (←gG P t x))
  |.nilCheck x=>let d←o.dst;guard (d<n);pure (.nck d (←gG P o.type x))
  | .binOp op t x y u => let d ← o.dst; guard (d < n)
                         match op,P.underlying t with
                         |_,some (.int _)|_,some .string=>pure (.bin d op (←gG P t x) (←gG P u y))
                         |.eql,some .bool=>pure (.beq d false (←gG P t x) (←gG P u y))
                         |.neq,some .bool=>pure (.beq d true (←gG P t x) (←gG P u y))
                         |.eql,some (.slice _)=>pure (.snil d false (←gG P t x) (←gG P u y))
                         |.neq,some (.slice _)=>pure (.snil d true (←gG P t x) (←gG P u y))
                         |.eql,some (.struct fs)=>if Oi P t fs then pure (.ceq d false fs.size (←gG P t x) (←gG P u y))else pure (.other o)
                         |.neq,some (.struct fs)=>if Oi P t fs then pure (.ceq d true fs.size (←gG P t x) (←gG P u y))else pure (.other o)
                         |_,_=>pure (.other o)
  |.unOp op t x=>let d←o.dst;guard (d<n);pure (.un d op (←gG P t x))
  | .convert s t x => let d ← o.dst; guard (d < n)
                      match P.underlying s,P.underlying t with
                      |some (.int _),some (.int k)=>pure (.cvt d k (←gG P s x))
                      |some (.slice e),some .string=>if UR P e then pure (.cvs d (←gG P s x))else pure (.other o)
                      |_,_=>pure (.other o)
  |.makeSlice t l c=>let d←o.dst;guard (d<n);let e←ut P t;let i←P.info? e;pure (.mk d i.size i.bytes (←kY P e) (←gG P 0 l) (←gG P 0 c))
  | .slice t x lo hi none => let d ← o.dst; guard (d < n)
                             let lo←(match lo with|some y=>(gG P 0 y).map some|none=>some none)
                             let hi←(match hi with|some y=>(gG P 0 y).map some|none=>some none)
                             match P.underlying t with
                             |some (.slice e)=>pure (.slc d (←kx P e) (←gG P t x) lo hi)
                             |some .string=>pure (.sls d (←gG P t x) lo hi)
                             |_=>pure (.other o)
  | .slice t x lo hi (some mx) =>
    let d←o.dst;guard (d<n)
    match P.underlying t,lo with
    |some (.slice e),none=>if(hi.map ag5).getD false&&ag5 mx then pure (.s30 d (←kx P e) (←gG P t x))else pure (.other o)
    |_,_=>pure (.other o)
  | .makeFunc fn first captured =>
    let d←o.dst;guard (d<n)
    match fn,first.toList with
    |.func f,[]=>pure (.mkf d f (←captured.toList.mapM fun x=>gG P 0 x))
    |_,_=>pure (.other o)
  | .fieldAddr t x k => let d ← o.dst; guard (d < n)
                        match P.underlying t with
                        |some (.struct fs)=>let f←fs[k]?;guard ((←kx P f.type) !=0);pure (.fa d f.offset (←gG P 0 x))
                        |_=>none
  | .field t x k => let d ← o.dst; guard (d < n)
                    match P.underlying t with
                    |some (.struct fs)=>let f←fs[k]?;let s←kx P f.type;let g←tQ P f.type;guard (g||s==1);pure (.fl d f.offset s g (←gG P t x))
                    |_=>none
  | .indexAddr t x i => let d ← o.dst; guard (d < n)
                        match P.underlying t with
                        |some (.slice e)=>pure (.ia d (←kx P e) (←gG P t x) (←gG P 0 i))
                        |_=>pure (.other o)
  | .index t x i => let d ← o.dst; guard (d < n)
                    match P.underlying t with
                    |some .string=>pure (.ix d (←gG P t x) (←gG P 0 i))
                    |_=>pure (.other o)
  |.extract x i=>let d←o.dst;guard (d<n);pure (.ext d (←gG P 0 x) i)
  | .buildSlice t l ps => let d ← o.dst; guard (d < n); let e ← ut P t; let s ← kx P e
                          pure (CC wv d s (←kY P e) l (←ps.toList.mapM fun(i,x)=>do pure (i,←gG P e x)))
  | .build t ps => let d ← o.dst; guard (d < n)
                   match P.underlying t with
                   | some (.struct fs) =>
                     let _←fs.toList.mapM fun f=>(P.info? f.type).map fun i=>(f.offset,i.size)
                     pure (.bld d (←kY P t) (←ps.toList.mapM fun(i,x)=>do let f←fs[i]?;pure (f.offset,←kx P f.type,←gG P f.type x)))
                   |_=>pure (.other o)
  | .call c =>
    match c.callee with
    | .value (.func f) =>
      guard (o.dst.all (· <n));guard (c.args.size==c.argTypes.size)
      let xs←(c.args.toList.zip c.argTypes.toList).mapM fun(x,t)=>gG P t x
      if aeB P f then(match o.dst,xs with
        |some d,[x,y]=>pure (.mcl d f x y)
        |_,_=>none)
      else if ag6 P f then(match o.dst,xs with
        |some d,x::r=>pure (.cls d f x r)
        |_,_=>none)
      else if agB P f then(match xs with
        |x::r=>pure (.bwr o.dst f x r)
        |_=>none)
      else if agj P f then(match o.dst,xs with
        |some d,[x]=>pure (.bst d f x)
        |_,_=>none)
      else if agP P wv f then pure (ag8 wv o.dst f xs)
      else pure (.call o.dst f xs)
    |.value x=>guard (o.dst.all (· <n));guard (c.args.size==c.argTypes.size);pure (ags wv o.dst (←gG P 0 x) (←(c.args.toList.zip c.argTypes.toList).mapM fun(x,t)=>gG P t x))
    | .builtin .len =>
      let d←o.dst;guard (d<n)
      match c.args.toList,c.argTypes.toList with
      | [x],[t]=>(match P.underlying t with|some .string=>do pure (.abS d (←gG P t x))|some (.slice _)=>do pure (.len d (←gG P t x))|_=>pure (.other o))
      |_,_=>none
    | .builtin .max =>
      let d←o.dst;guard (d<n)
      match c.args.toList,c.argTypes.toList with
      | [x,y],[t,u]=>pure (.mxm d true (←gG P t x) (←gG P u y))
      |_,_=>none
    | .builtin .min =>
      let d←o.dst;guard (d<n)
      match c.args.toList,c.argTypes.toList with
      | [x,y],[t,u]=>pure (.mxm d false (←gG P t x) (←gG P u y))
      |_,_=>none
    | .builtin .append =>
      let d←o.dst;guard (d<n)
      match c.args.toList,c.argTypes.toList with
      | [x, y], [t, u] => (match P.underlying t, P.underlying u with
        |some (.slice e),some (.slice _)=>do let i←P.info? e;guard (t==u);let _←kY P e;pure (yn wv d i.size i.bytes (←gG P t x) (←gG P u y))
        |_,_=>pure (.other o))
      |_,_=>none
    | .builtin .copy =>
      guard (o.dst.all (· <n))
      match c.args.toList,c.argTypes.toList with
      | [x, y], [t, u] => (match P.underlying t, P.underlying u with
        |some (.slice e),some (.slice _)=>do let s←kx P e;guard (t==u);pure (.cpy o.dst s (←gG P t x) (←gG P u y))
        |_,_=>pure (.other o))
      |_,_=>none
    |_=>pure (.other o)
  |_=>pure (.other o)
def kl(P:Program)(wv:Wv)(n:Nat)(ops:Array Oper)(o:Oper):Option RO:=do
 let r←tJ P wv n o
 guard (r.dst=o.dst)
 guard (o.dst.all (· <n)=true)
 match o.guard with
 |none=>pure ⟨none,r⟩
 |some (j,b)=>let p←ops[j]?;let d←p.dst;pure ⟨some (d,b),r⟩
def w7(sz:Nat):List AV→Option (List D)
 | []=>some []
 |.im none d::r=>if d.size=sz then(match w7 sz r with|some ds=>some (d::ds)|none=>none)else none
 |_::_=>none
mutual
def D.gl:D→Bool
 |.sc _=>true
 |.ag ds=>D.pL ds
 |.ls nn _ ds=>nn==some true&&ds.isEmpty
 |.pt _ _=>false
 |.jk=>true
 |.fn _ _=>false
 |.lc _ _ _=>false
def D.pL:List D→Bool
 | []=>true
 |d::ds=>d.gl&&D.pL ds
end
mutual
def D.flat:D→Bool
 |.sc _=>true
 |.ag ds=>D.qJ ds
 |.ls _ _ _=>false
 |.pt _ _=>false
 |.jk=>true
 |.fn _ _=>false
 |.lc _ _ _=>false
def D.qJ:List D→Bool
 | []=>true
 |d::ds=>d.flat&&D.qJ ds
end
mutual
def D.mq:∀{d:D},d.flat=true→d.gl=true
 |.sc _,_=>rfl
 |.ag ds,h=>by simp only[D.flat]at h;simp only[D.gl];exact D.vk h
 |.ls _ _ _,h=>by simp[D.flat]at h
 |.pt _ _,h=>by simp[D.flat]at h
 |.jk,_=>rfl
 |.fn _ _,h=>by simp[D.flat]at h
 |.lc _ _ _,h=>by simp[D.flat]at h
def D.vk:∀{ds:List D},D.qJ ds=true→D.pL ds=true
 | [],_=>rfl
 |d::ds,h=>by
  simp only[D.qJ,bA]at h;simp only[D.pL,D.mq h.1,D.vk h.2,bi]
end
def MK:Nat:=4000000000
def rL(d:D):AV:=if d.flat then .im none d else .im (some MK) d
def St.get(st:St)(t:Nat):AV:=lk st.env t
def St.ev(st:St):X→AV
 |.t n=>st.get n
 |.c d=>rL d
def lu:List (Nat×U)→Nat→Option U
 | [],_=>none
 |(k,v)::r,t=>if k=t then some v else lu r t
def St.unit(st:St)(k:Nat):Option U:=lu st.us k
mutual
def AV.refs(k:Nat):AV→Bool
 |.im t _=>t==some k
 |.tr i=>i==k
 |.pw i _ _=>i==k
 |.cw i _ _ _ _=>i==k
 |.sm i _ _=>i==k
 |.vb i _=>i==k
 |.sg vs=>AV.mr k vs
 |.lf vs=>AV.mr k vs
 |.any=>false
 |.cl _ vs=>AV.mr k vs
 |.pq i _ _ _ _ _=>i==k
 |.qs i _ _ _ _ _=>i==k
 |.ss i _ _=>i==k
 |.z0 _ _=>false
 |.pb i _=>i==k
 |.ps i=>i==k
def AV.mr(k:Nat):List AV→Bool
 | []=>false
 |v::vs=>v.refs k||AV.mr k vs
end
mutual
def AV.soft(k:Nat):AV→Bool
 |.cw i _ _ _ _=>i==k
 |.im t _=>t==some k
 |.sg vs=>AV.py k vs
 |.lf vs=>AV.py k vs
 |.cl _ vs=>AV.py k vs
 |.pq i _ _ _ _ _=>i==k
 |.qs i _ _ _ _ _=>i==k
 |_=>false
def AV.py(k:Nat):List AV→Bool
 | []=>false
 |v::vs=>v.soft k||AV.py k vs
end
def St.set(st:St)(d:Nat)(v:AV):St:={st with env:=(d,v)::st.env}
def St.mu(st:St)(d:Option Nat)(v:AV):St:=match d with|some d=>st.set d v|none=>st
def St.kc(st:St)(us:List (Nat×U)):St:={st with us:=us++st.us}
def tO(k:Nat):List (Nat×U)→Bool
 | []=>true
 |(i,_)::r=>i !=k&&tO k r
def St.fresh(st:St):List (Nat×U)→Bool
 | []=>true
 |x::r=>tO x.1 st.us&&tO x.1 r&&st.fresh r
def jp(f:AV→Bool):List (Nat×AV)→List (Nat×AV)
 | []=>[]
 |(k,v)::r=>(k,if f v then .any else v)::jp f r
def pQ(f:AV→Bool):List AV→List AV
 | []=>[]
 |v::r=>(if f v then .any else v)::pQ f r
def U.kill(f:AV→Bool):U→U
 |.bx sz items=>.bx sz (pQ f items)
 |u=>u
def gu(k:Nat)(f:AV→Bool):List (Nat×U)→List (Nat×U)
 | []=>[]
 |(i,u)::r=>if i=k then gu k f r else(i,u.kill f)::gu k f r
def St.del(st:St)(k:Nat):St:=⟨st.n,jp (AV.refs k) st.env,gu k (AV.refs k) st.us⟩
def St.ue(st:St)(k:Nat)(u:U):St:=⟨st.n,jp (AV.soft k) st.env,(k,u)::gu k (AV.soft k) st.us⟩
def AV.oq(k el:Nat):AV→Bool
 |.cw i jj _ _ _=>i==k&&jj==el
 |.im t _=>t==some k
 |.sg vs=>AV.py k vs
 |.lf vs=>AV.py k vs
 |.cl _ vs=>AV.py k vs
 |.pq i _ _ _ _ _=>i==k
 |.qs i _ _ _ _ _=>i==k
 |.tr _=>false
 |.pw _ _ _=>false
 |.sm _ _ _=>false
 |.vb _ _=>false
 |.any=>false
 |.ss _ _ _=>false
 |.z0 _ _=>false
 |.pb _ _=>false
 |.ps _=>false
def St.RY(st:St)(k el:Nat)(u:U):St:=⟨st.n,jp (AV.oq k el) st.env,(k,u)::gu k (AV.oq k el) st.us⟩
def St.upr(st:St)(k:Nat)(u:U):St:=⟨st.n,jp (AV.refs k) st.env,(k,u)::gu k (AV.refs k) st.us⟩
def TN(ow:Bool)(id el j sz:Nat)(agg:Bool)(d:D):AV:=
 if ow then(if d.flat then .im none d else .cw id el j sz agg)else .im none d
def Db(off len iE:Nat):D→Option D
 |.ls nn sz ds=>if sz=iE then some (.ls (if off=0∧len=ds.length then nn else none) sz ((ds.drop off).take len))else none
 |_=>none
def AV.den(un:Nat→Option U):AV→Option (Option Nat×D)
 |.im t d=>some (t,d)
 |.tr k=>match un k with|some (.own d)=>some (some k,d)|_=>none
 |.cw id el j sz agg=>match un id with|some (.ar true _ _ es)=>some (some id,D.sub (D.at es el) j sz agg)|_=>none
 |.qs id el j iE off len=>match un id with|some (.ar true _ _ es)=>(Db off len iE (D.sub (D.at es el) j 1 false)).map (some id,·)|_=>none
 |_=>none
def IK(op:BinOp)(x y:Value)(k:Value→Prop):Prop:=
 match x,y with
 |.int a m,.int b n=>
  match op with
  |.shl=>0≤n∧k (.int a (a.wrap (m*2 ^ (min n.toNat a.bits))))
  |.shr=>0≤n∧k (.int a (m.fdiv (2 ^ (min n.toNat a.bits))))
  |.add=>a=b∧k (.int a (a.wrap (m+n)))
  |.sub=>a=b∧k (.int a (a.wrap (m-n)))
  |.mul=>a=b∧k (.int a (a.wrap (m*n)))
  |.quo=>a=b∧n≠0∧k (.int a (a.wrap (m.tdiv n)))
  |.rem=>a=b∧n≠0∧k (.int a (m.tmod n))
  |.and=>a=b∧k (.int a (a.wrap (BitVec.ofInt a.bits m&&&BitVec.ofInt a.bits n).toNat))
  |.or=>a=b∧k (.int a (a.wrap (BitVec.ofInt a.bits m|||BitVec.ofInt a.bits n).toNat))
  |.xor=>a=b∧k (.int a (a.wrap (BitVec.ofInt a.bits m ^^^ BitVec.ofInt a.bits n).toNat))
  |.andNot=>a=b∧k (.int a (a.wrap (BitVec.ofInt a.bits m&&& ~~~BitVec.ofInt a.bits n).toNat))
  |.eql=>a=b∧k (.bool (m==n))
  |.neq=>a=b∧k (.bool (m !=n))
  |.lss=>a=b∧k (.bool (m<n))
  |.leq=>a=b∧k (.bool (m≤n))
  |.gtr=>a=b∧k (.bool (m>n))
  |.geq=>a=b∧k (.bool (m≥n))
 |.string a,.string b=>
  match op with
  |.eql=>k (.bool (a.toList==b.toList))
  |.neq=>k (.bool !(a.toList==b.toList))
  |.add=>a.size+b.size≤9223372036854775807∧k (.string (a++b))
  |.lss=>k (.bool (Op.bytesLess a.toList b.toList))
  |_=>False
 |_,_=>False
def Zs(op:BinOp)(x y:AV)(k:Value→Prop):Prop:=
 match x,y with
 |.im _ (.sc a),.im _ (.sc b)=>IK op a b k
 |_,_=>False
def agt(iE jj j':Nat):D→Option D
 |.ls _ sz ds=>if sz=iE∧jj<ds.length∧j'<iE then some (.pt (D.at ds jj) j')else none
 |_=>none
def sgD(ds:List D):Option D:=if ds.all (fun d=>d.size==1&& !d.fX)=true then some (.ag ds)else none
mutual
def AV.arg(un:Nat→Option U):AV→Option D
 |.im _ d=>some d
 |.tr k=>match un k with|some (.own d)=>some d|_=>none
 |.cw id el j sz agg=>match un id with|some (.ar true _ _ es)=>some (D.sub (D.at es el) j sz agg)|_=>none
 |.pw id el j=>match un id with|some (.ar _ _ _ es)=>some (.pt (D.at es el) j)|_=>none
 |.sm id off len=>match un id with|some (.ar _ nn sz es)=>some (.ls (if off=0∧len=es.length then nn else none) sz ((es.drop off).take len))|_=>none
 |.ss id off len=>match un id with|some (.ar _ _ sz es)=>some (.ls none sz ((es.drop off).take len))|_=>none
 |.vb id len=>match un id with|some (.bx sz items)=>if len=items.length then(match w7 sz items with|some ds=>some (.ls (some false) sz ds)|none=>none)else none|_=>none
 |.qs id el j iE off len=>match un id with|some (.ar true _ _ es)=>Db off len iE (D.sub (D.at es el) j 1 false)|_=>none
 |.pq id el j iE jj j'=>match un id with|some (.ar true _ _ es)=>agt iE jj j' (D.sub (D.at es el) j 1 false)|_=>none
 |.cl f vs=>match kI un vs with|some ds=>some (.fn f ds)|none=>none
 |.z0 nn sz=>some (.ls nn sz [])
 |.sg vs=>match kI un vs with|some ds=>sgD ds|none=>none
 |.lf _=>none
 |.any=>none
 |.pb _ _=>none
 |.ps _=>none
def kI(un:Nat→Option U):List AV→Option (List D)
 | []=>some []
 |a::as=>match a.arg un,kI un as with|some d,some ds=>some (d::ds)|_,_=>none
end
mutual
def AV.shared:AV→Bool
 |.im none _=>true
 |.im (some t) d=>t==MK&&d.gl
 |.cl _ vs=>AV.Cb vs
 |_=>false
def AV.Cb:List AV→Bool
 | []=>true
 |v::vs=>v.shared&&AV.Cb vs
end
inductive ud where
 |own (d:D)
 |sh (d:D)
 |lf (rs:List ud)
 |arr (sz:Nat) (es:List D)
 |bxs (d:D)
def D.Le(d e:D):Prop:=(∀(h:jv) F cs,gJ h d F cs→gJ h e F cs)∧(∀v:Value,d.fits v→e.fits v)
def D.LeA(d e:D):Prop:=(∀(h:jv) F cs,gJ h d F cs→∃F',gJ h e F' cs∧∀b∈F',b∈F)∧(∀v:Value,d.fits v→e.fits v)
def D.XN:List D→List D→Prop
 | [],[]=>True
 |d::ds,e::es=>d.LeA e∧D.XN ds es
 |_,_=>False
def je(h:jv)(jL:Nat→Prop):List D→List Value→Prop
 | [],vs=>vs=[]
 |d::ds,vs=>∃v r F,vs=v::r∧gJ h d F v.cells.toList∧d.fits v∧(∀b∈F,jL b)∧je h jL ds r
mutual
def jr(h:jv):ud→List Nat→List Nat→Value→Prop
 |.own d,F,G,v=>G=[]∧gJ h d F v.cells.toList∧d.fits v
 |.sh d,F,G,v=>F=[]∧gJ h d G v.cells.toList∧d.fits v
 |.lf rs,F,G,v=>∃vs,v=.tuple vs∧ke h rs F G vs.toList
 | .arr sz es, F, G, v => G = [] ∧ es.length ≤ gz ∧ (∀ d ∈ es, d.size = sz) ∧ ∃ b c e F' cs rest cap, v = .slice (some ⟨b, 0, none⟩) es.length cap ∧ F = b :: F' ∧ h[b]? = some (.cells c e (0, 0)) ∧
   c.toList=cs++rest∧c.size=cap*sz∧es.length≤cap∧gt h es F' cs
 |.bxs d,F,G,v=>0<d.size∧∃b c e cs rest cap,v=.pointer (some ⟨b,0,none⟩)∧F=[b]∧h[b]?=some (.cells c e (0,0))∧c.toList=cs++rest∧c.size=cap*d.size∧1≤cap∧gJ h d G cs
def ke(h:jv):List ud→List Nat→List Nat→List Value→Prop
 | [],F,G,vs=>F=[]∧G=[]∧vs=[]
 |r::rs,F,G,vs=>∃F1 F2 G1 G2 v ws,F=F1++F2∧G=G1++G2∧vs=v::ws∧jr h r F1 G1 v∧ke h rs F2 G2 ws
end
def mN(P : Program)(f : Nat) : Prop := ∃ fn, P.funcs[f]? = some fn ∧ fn.body.isSome = true ∧ (fn.name == "runtime.NumGoroutine") = false
def AF(P:Program)(f:Nat)(ds:List D)(r:ud):Prop:=mN P f∧
 ∀(w:World)(vs:List Value)(jL:Nat→Prop),je w.heap jL ds vs→
  Calls P f vs.toArray w fun e w'=>∃v F G,e=.returned v∧Go.RowKit.Below w.heap.size w w'∧jr w'.heap r F G v∧
   F.Nodup∧(∀b∈F,w.heap.size≤b∧b∉G∧t7 w'.heap b)∧∀b∈G,(w.heap.size≤b∧b<w'.heap.size)∨jL b
def jb(n:Nat)(iC:Bool):ud→AV×List (Nat×U)
 |.own d=>if d.flat then(.im none d,[])else(.tr n,[(n,.own d)])
 |.sh d=>(if iC then .im none d else .any,[])
 |.arr sz es=>(.sm n 0 es.length,[(n,.ar true (some false) sz es)])
 |.bxs d=>if iC then(.pw n 0 0,[(n,.ar false (some false) d.size [d])])else(.any,[])
 |.lf rs=>let l:=qK (n+1000) rs;(.lf (l.map (·.1)),(l.map (·.2)).flatten)
where qK (n:Nat):List ud→List (AV×List (Nat×U))
 | []=>[]
 | r :: rs => (match r with
   |.own d=>if d.flat then(.im none d,[])else(.tr n,[(n,.own d)])
   |.sh d=>(if iC then .im none d else .any,[])
   |.arr sz es=>(.sm n 0 es.length,[(n,.ar true (some false) sz es)])
   |.bxs d=>if iC then(.pw n 0 0,[(n,.ar false (some false) d.size [d])])else(.any,[])
   |.lf _=>(.any,[]))::qK (n+1000) rs
def AV.OL:AV→D→Bool
 |.cw _ _ _ _ _,d=>d.gl
 |.sg _,d=>d.gl
 |a,_=>a.shared
def LA:List AV→List D→Bool
 |a::as,d::ds=>a.OL d&&LA as ds
 |_,_=>true
def acf(P:Program)(dst:Option Nat)(f:Nat)(args:List AV)(un:Nat→Option U)(k:AV→List (Nat×U)→Prop):Prop:=
 ∃ds es r,kI un args=some ds∧D.XN ds es∧AF P f es r∧(let b:=jb (dst.getD 0) (LA args ds) r;k b.1 b.2)
def AV.one(un:Nat→Option U):AV→Bool
 |.im _ d=>d.size==1&& !d.fX
 |.tr k=>match un k with|some (.own d)=>d.size==1&& !d.fX|_=>false
 |.sm _ _ _=>true
 |.vb _ _=>true
 |.cw _ _ _ sz agg=>sz==1&& !agg
 |.pw _ _ _=>true
 |.pb _ _=>true
 |.cl _ _=>true
 |_=>false
def Dy(z:List D):Nat→List (Nat×Nat×AV)→List AV
 |o,[]=>(z.drop o).map rL
 |o,(p,s,v)::r=>((z.drop o).take (p-o)).map rL++v::Dy z (p+s) r
def sS(n:Nat):Nat→List (Nat×Nat)→Bool
 |_,[]=>true
 |o,(p,s)::r=>decide (o≤p)&&decide (p+s≤n)&&sS n (p+s) r
def AV.size(un:Nat→Option U):AV→Nat
 |.im _ d=>d.size
 |.tr k=>match un k with|some (.own d)=>d.size|_=>0
 |.cw _ _ _ s _=>s
 |.any=>0
 |.sg _=>0
 |.lf _=>0
 |_=>1
def ig(un:Nat→Option U)(sz:Nat):AV→Bool
 |.im none d=>d.size==sz
 |.im (some _) d=>d.gl&&d.size==sz
 |.cw _ _ _ s _=>s==sz
 |.tr k=>match un k with|some (.own d)=>d.size==sz|_=>false
 |.sm _ _ _=>sz==1
 |.pw _ _ _=>sz==1
 |.pb _ _=>sz==1
 |.cl _ _=>sz==1
 |.sg vs=>vs.all (fun a=>AV.size un a !=0)&&(vs.map (AV.size un)).sum==sz
 |_=>false
def E8:List AV→Option (List D)
 | []=>some []
 |.im none d::r=>match E8 r with|some ds=>some (d.cells++ds)|none=>none
 |_::_=>none
def QN(vs:List AV):AV:=match E8 vs with|some ds=>.im none (.ag ds)|none=>.sg vs
def AFP(P:Program)(f:Nat):Prop:=mN P f∧∀(k:Int)(a b:Array Value)(w:World),a.size=3→b.size=3→
 Calls P f #[.int .i64 k,.agg a,.agg b] w fun e w'=>(∃x t,e=.returned (.agg #[.int .i64 k,.int .i64 0,.slice (some ⟨x,0,none⟩) 2 2])∧w.heap.size≤x∧w'.heap[x]?=some (.cells (a++b) t (0,0)))∧Go.RowKit.Below w.heap.size w w'
def AV.mw(un:Nat→Option U):AV→Bool
 |.im none d=>d.fX
 |.tr k=>match un k with|some (.own d)=>d.fX|_=>false
 |.cw _ _ _ _ agg=>agg
 |.sg _=>true
 |_=>false
def ach(P:Program)(dst:Option Nat)(f:Nat)(args:List AV)(un:Nat→Option U)(k:AV→List (Nat×U)→Prop):Prop:=
 dst.getD 0<3000000000∧∃t kk B C,args=[.im t (.sc (.int .i64 kk)),B,C]∧AFP P f∧(AV.mw un B&&ig un 3 B)=true∧(AV.mw un C&&ig un 3 C)=true∧
  k (.sg [.im none (.sc (.int .i64 kk)),.im none (.sc (.int .i64 0)),.vb (dst.getD 0) 2]) [(dst.getD 0,.bx 3 [B,C])]
def pP(P:Program)(dst:Option Nat)(f:Nat)(args:List AV)(un:Nat→Option U)(k:AV→List (Nat×U)→Prop):Prop:=
 acf P dst f args un k∨ach P dst f args un k
abbrev KQ:=AV→List (Nat×U)→Prop
def sw(c:AV)(a b:AV)(k:KQ):Prop:=
 match c with
 |.im _ (.sc (.bool t))=>(t=true→k a [])∧(t=false→k b [])
 |_=>False
def AV.isRef:AV→Bool
 |.pw _ _ _=>true
 |.pb _ _=>true
 |.cl _ _=>true
 |.sg vs=>HS vs
 |_=>false
where HS:List AV→Bool
 | []=>false
 |.pw _ _ _::_=>true
 |.pb _ _::_=>true
 |.cl _ _::_=>true
 |_::r=>HS r
def AV.lV:AV→Bool
 |.im _ d=>d.size==1&& !d.fX
 |.pw _ _ _=>true
 |.pb _ _=>true
 |.cl _ _=>true
 |.sm _ _ _=>true
 |_=>false
def kz:List AV→List AV
 | []=>[]
 |.im t (.ag ds)::r=>ds.map (.im t)++kz r
 |v::r=>v::kz r
def lx:AV→AV
 |.sg vs=>.sg (kz vs)
 |v=>v
def zr(x:AV)(un:Nat→Option U)(d sz:Nat)(k:KQ):Prop:=
 match x with
 |.im none e=>(0<sz∧e.size=sz)∧k (.pw d 0 0) [(d,.ar false (some false) sz [e])]
 |x=>(d<3000000000∧0<sz∧ig un sz (lx x)=true)∧k (.pb d 0) [(d,.bx sz [lx x])]
def ldW(u:Option U)(id el j:Nat)(agg:Bool)(sz:Nat)(k:KQ):Prop:=
 match u with
 |some (.ar ow _ usz es)=>(j+sz≤usz∧(agg=true→(D.at es el).fX=true))∧k (TN ow id el j sz agg (D.sub (D.at es el) j sz agg)) []
 |_=>False
def D.Nl:D→Bool
 |.sc _=>true
 |_=>false
def uM(agg:Bool)(id:Nat)(d:D):Option Nat:=if agg=false∧d.Nl=true then none else some id
def Ma(iE jj j' sz:Nat)(agg:Bool)(id:Nat)(d:D)(k:KQ):Prop:=
 match d with
 |.ls _ gV ds=>(gV=iE∧jj<ds.length∧j'<iE∧j'+sz≤iE∧(agg=true→(D.at ds jj).fX=true))∧k (.im (uM agg id (D.sub (D.at ds jj) j' sz agg)) (D.sub (D.at ds jj) j' sz agg)) []
 |_=>False
def ldQ(u:Option U)(id el j iE jj j':Nat)(agg:Bool)(sz:Nat)(k:KQ):Prop:=
 match u with
 |some (.ar true _ _ es)=>Ma iE jj j' sz agg id (D.sub (D.at es el) j 1 false) k
 |_=>False
def So(x:AV)(j sz:Nat)(agg:Bool)(k:KQ):Prop:=
 match x with
 |.sg vs=>(vs.all AV.lV=true∧j+sz≤vs.length)∧(if agg then k (QN ((vs.drop j).take sz)) []else k (vs.getD j .any) [])
 |_=>False
def jW(agg:Bool)(x:AV):Bool:=
 match agg,x with
 |true,.sg _=>true
 |false,x=>x.lV
 |_,_=>false
def AN(x:AV)(usz j sz:Nat)(agg:Bool)(k:KQ):Prop:=
 if j=0∧sz=usz∧jW agg x=true then k x []else So x j sz agg k
def ldB(u:Option U)(j sz:Nat)(agg:Bool)(k:KQ):Prop:=
 match u with
 |some (.bx usz [x])=>(0<usz∧(agg=false→sz=1))∧AN x usz j sz agg k
 |_=>False
def FM(a:AV)(un:Nat→Option U)(agg:Bool)(sz:Nat)(k:KQ):Prop:=
 match a with
 |.im t (.pt d j)=>(j+sz≤d.size∧(agg=true→d.fX=true))∧k (.im t (D.sub d j sz agg)) []
 |.im t (.lc _ _ (.pt d j))=>(j+sz≤d.size∧(agg=true→d.fX=true))∧k (.im t (D.sub d j sz agg)) []
 |.pw id el j=>ldW (un id) id el j agg sz k
 |.pq id el j iE jj j'=>ldQ (un id) id el j iE jj j' agg sz k
 |.pb id j=>ldB (un id) j sz agg k
 |_=>False
def uj(x:AV)(k:KQ):Prop:=
 match x with
 |.im t (.pt d j)=>k (.im t (.pt d j)) []
 |.im t (.lc b o (.pt d j))=>k (.im t (.lc b o (.pt d j))) []
 |.im t (.sc (.pointer (some p)))=>k (.im t (.sc (.pointer (some p)))) []
 |.pw id el j=>k (.pw id el j) []
 |.pq id el j iE jj j'=>k (.pq id el j iE jj j') []
 |.pb id j=>k (.pb id j) []
 |_=>False
def Ks(op:BinOp)(x y:AV)(k:KQ):Prop:=Zs op x y fun v=>k (.im none (.sc v)) []
def J4(neg:Bool)(x y:AV)(k:KQ):Prop:=
 match x,y with
 |.im _ (.sc (.bool a)),.im _ (.sc (.bool b))=>k (.im none (.sc (.bool (if neg then !(a==b)else a==b)))) []
 |_,_=>False
def yP:List D→List D→(Bool→Prop)→Prop
 | [],[],f=>f true
 |.sc (.int a m)::ds,.sc (.int b n)::es,f=>a=b∧yP ds es fun r=>f ((m==n)&&r)
 |_,_,_=>False
def Kp(neg:Bool)(x y:AV)(n:Nat)(k:KQ):Prop:=
 match x,y with
 |.im _ (.ag ds),.im _ (.ag es)=>ds.length=n∧yP ds es fun r=>k (.im none (.sc (.bool (if neg then !r else r)))) []
 |_,_=>False
def A0(neg:Bool)(x y:AV)(k:KQ):Prop:=
 match x,y with
 |.im _ (.ls (some p) _ _),.im _ (.ls (some true) _ [])=>k (.im none (.sc (.bool (if neg then !p else p)))) []
 |_,_=>False
def unK(op:UnOp)(x:AV)(k:KQ):Prop:=
 match op,x with
 |.not,.im _ (.sc (.bool b))=>k (.im none (.sc (.bool (!b)))) []
 |.neg,.im _ (.sc (.int a n))=>k (.im none (.sc (.int a (a.wrap (-n))))) []
 |_,_=>False
def Km(kd:IntKind)(x:AV)(k:KQ):Prop:=
 match x with
 |.im _ (.sc (.int _ n))=>k (.im none (.sc (.int kd (kd.wrap n)))) []
 |_=>False
def mkK(l c:AV)(d sz bytes:Nat)(z:D)(k:KQ):Prop:=
 match l,c with
 |.im _ (.sc (.int _ m)),.im _ (.sc (.int _ n))=>
  (0≤m∧m≤n∧bytes*n≤140737488355328∧n≤140737488355328∧0<sz∧z.size=sz∧z.gl=true)∧k (.sm d 0 m.toNat) [(d,.ar true (some false) sz (List.replicate m.toNat z))]
 |_,_=>False
def MN(t:Option Nat)(nn:Option Bool)(sz:Nat)(ds:List D)(l h:AV)(k:KQ):Prop:=
 match l,h with
 |.im _ (.sc (.int _ l)),.im _ (.sc (.int _ h))=>(0≤l∧l≤h∧h≤ds.length)∧k (.im t (.ls nn sz ((ds.take h.toNat).drop l.toNat))) []
 |_,_=>False
def Bx(l h:AV)(n:Nat)(k:Nat→Nat→Prop):Prop:=
 match l,h with
 |.im _ (.sc (.int _ l)),.im _ (.sc (.int _ h))=>(0≤l∧l≤h∧h≤n)∧k l.toNat h.toNat
 |_,_=>False
def HI(u:Option U)(id off len sz:Nat)(lo:Bool)(l h:AV)(k:KQ):Prop:=
 match u with
 |some (.ar _ _ usz _)=>usz=sz∧Bx l h len fun l h=>k (if lo then .ss id (off+l) (h-l)else .sm id off h) []
 |_=>False
def MD(d:D)(id el j sz:Nat)(l:AV)(h:Option AV)(k:KQ):Prop:=
 match d with
 |.ls _ iE ds=>iE=sz∧Bx l (h.getD (.im none (.sc (.int .i64 ds.length)))) ds.length fun l h=>k (.qs id el j sz l (h-l)) []
 |_=>False
def Iq(u:Option U)(id el j sz:Nat)(l:AV)(h:Option AV)(k:KQ):Prop:=
 match u with
 |some (.ar true _ _ es)=>MD (D.sub (D.at es el) j 1 false) id el j sz l h k
 |_=>False
def Cl(x:AV)(ev:X→AV)(un:Nat→Option U)(sz:Nat)(lo hi:Option X)(k:KQ):Prop:=
 match x with
 |.im t (.ls nn gV ds)=>sz=gV∧MN t nn sz ds ((lo.map ev).getD (.im none (.sc (.int .i64 0)))) ((hi.map ev).getD (.im none (.sc (.int .i64 ds.length)))) k
 |.sm id off len=>HI (un id) id off len sz lo.isSome ((lo.map ev).getD (.im none (.sc (.int .i64 0)))) ((hi.map ev).getD (.im none (.sc (.int .i64 len)))) k
 |.cw id el j 1 false=>Iq (un id) id el j sz ((lo.map ev).getD (.im none (.sc (.int .i64 0)))) (hi.map ev) k
 |_=>False
def Zk(u:Option U)(id el j off:Nat)(k:KQ):Prop:=
 match u with
 |some (.ar _ _ usz _)=>j+off<usz∧k (.pw id el (j+off)) []
 |_=>False
def Jw(x:AV)(un:Nat→Option U)(off:Nat)(k:KQ):Prop:=
 match x with
 |.im t (.pt d j)=>j+off<d.size∧k (.im t (.pt d (j+off))) []
 |.im t (.lc b o (.pt d j))=>j+off<d.size∧k (.im t (.lc b (o+off) (.pt d (j+off)))) []
 |.pw id el j=>Zk (un id) id el j off k
 |.pq id el j iE jj j'=>j'+off<iE∧k (.pq id el j iE jj (j'+off)) []
 |.pb id j=>k (.pb id (j+off)) []
 |_=>False
def Sr(q:Option (Option Nat×D))(sz:Nat)(n:Int)(k:KQ):Prop:=
 match q with
 |some (t,.ls _ gV ds)=>(sz=gV∧0<sz∧0≤n∧n<ds.length)∧k (.im t (.pt (D.at ds n.toNat) 0)) []
 |some (t,.lc b o (.ls _ gV ds))=>(sz=gV∧0<sz∧0≤n∧n<ds.length)∧k (.im t (.lc b (o+n.toNat*sz) (.pt (D.at ds n.toNat) 0))) []
 |_=>False
def Mb(u:Option U)(id sz p:Nat)(k:KQ):Prop:=
 match u with
 |some (.ar _ _ usz _)=>(sz=usz∧0<sz)∧k (.pw id p 0) []
 |_=>False
def iaI(id el j sz:Nat)(n:Int)(d:D)(k:KQ):Prop:=
 match d with
 |.ls _ gV ds=>(sz=gV∧0<sz∧0≤n∧n<ds.length)∧k (.pq id el j sz n.toNat 0) []
 |_=>False
def iaC(u:Option U)(id el j sz:Nat)(n:Int)(k:KQ):Prop:=
 match u with
 |some (.ar true _ _ es)=>iaI id el j sz n (D.sub (D.at es el) j 1 false) k
 |_=>False
def Jg(x i:AV)(un:Nat→Option U)(sz:Nat)(k:KQ):Prop:=
 match i with
 |.im _ (.sc (.int _ n))=>match x with
  |.sm id off len=>(0≤n∧n<len)∧Mb (un id) id sz (off+n.toNat) k
  |.ss id off len=>(0≤n∧n<len)∧Mb (un id) id sz (off+n.toNat) k
  |.cw id el j 1 false=>iaC (un id) id el j sz n k
  |x=>Sr (x.den un) sz n k
 |_=>False
def Bt(q:Option (Option Nat×D))(k:KQ):Prop:=
 match q with
 |some (_,.ls _ _ ds)=>k (.im none (.sc (.int .i64 ds.length))) []
 |some (_,.lc _ _ (.ls _ _ ds))=>k (.im none (.sc (.int .i64 ds.length))) []
 |_=>False
def tv(x:AV)(un:Nat→Option U)(k:KQ):Prop:=
 match x with
 |.sm _ _ len=>k (.im none (.sc (.int .i64 len))) []
 |.ss _ _ len=>k (.im none (.sc (.int .i64 len))) []
 |.z0 _ _=>k (.im none (.sc (.int .i64 0))) []
 |x=>Bt (x.den un) k
def uu(x:AV)(P:Program)(d:Option Nat)(args:List AV)(un:Nat→Option U)(k:KQ):Prop:=
 match x with
 |.im _ (.sc (.func (.func f) ⟨[]⟩ ⟨[]⟩))=>pP P d f args un k
 |.im t (.fn f ds)=>pP P d f (args++ds.map (.im t)) un k
 |.cl f vs=>pP P d f (args++vs) un k
 |_=>False
def BD(x:AV)(i:Nat)(k:KQ):Prop:=
 match x with
 |.lf vs=>i<vs.length∧k (vs.getD i .any) []
 |_=>False
def Wb:AV→Bool
 |.im none d=>!d.flat
 |_=>false
def bsS(sz:Nat)(as:List AV):Option (List D):=if as.any Wb=true then w7 sz as else none
def bsK(ps:List (Nat×AV))(un:Nat→Option U)(d sz len:Nat)(k:KQ):Prop:=
 if len=0 then(0<sz∧ps=[])∧k (.sm d 0 0) [(d,.ar true (some false) sz [])]
 else match bsS sz (ps.map (·.2))with
  |some ds=>(ps.map (·.1)=List.range len∧0<sz∧len*sz≤16777216)∧k (.im none (.ls (some false) sz ds)) []
  |none=>(d<3000000000∧ps.map (·.1)=List.range len∧0<sz∧len*sz≤16777216∧(ps.map (·.2)).all (ig un sz)=true)∧k (.vb d len) [(d,.bx sz (ps.map (·.2)))]
def V9:AV→Option UInt8
 |.im _ (.sc (.int .u8 n))=>some (UInt8.ofNat n.toNat)
 |_=>none
def qr:List AV→Option (List UInt8)
 | []=>some []
 |a::r=>match V9 a,qr r with|some b,some bs=>some (b::bs)|_,_=>none
def MA(q:Option (List UInt8))(k:KQ):Prop:=
 match q with
 |some bs=>k (.im none (.sc (.string ⟨bs.toArray⟩))) []
 |none=>False
def Kd(u:Option U)(len:Nat)(k:KQ):Prop:=
 match u with
 |some (.bx sz items)=>(sz=1∧len=items.length)∧MA (qr items) k
 |_=>False
def GP(x:AV)(un:Nat→Option U)(k:KQ):Prop:=
 match x with
 |.vb id len=>Kd (un id) len k
 |_=>False
def GN(ps:List (Nat×Nat×AV))(un:Nat→Option U)(z:D)(k:KQ):Prop:=
 match z with
 |.ag zs=>(ps.all (fun p=>p.2.2.size un==p.2.1&&p.2.1 !=0)=true∧sS zs.length 0 (ps.map fun p=>(p.1,p.2.1))=true∧z.gl=true)∧k (QN (Dy zs 0 ps)) []
 |_=>False
def ES(P:Program)(r:oT)(ev:X→AV)(un:Nat→Option U)(k:KQ):Prop:=
 match r with
 |.mv _ x=>k (ev x) []
 |.pick _ c a b=>sw (ev c) (ev a) (ev b) k
 |.box d sz x=>zr (ev x) un d sz k
 |.zer d sz z=>(0<sz∧z.size=sz∧z.gl=true)∧k (.pw d 0 0) [(d,.ar true (some false) sz [z])]
 |.ld _ agg sz a=>FM (ev a) un agg sz k
 |.nck _ x=>uj (ev x) k
 |.bin _ op x y=>Ks op (ev x) (ev y) k
 |.beq _ neg x y=>J4 neg (ev x) (ev y) k
 |.snil _ neg x y=>A0 neg (ev x) (ev y) k
 |.ceq _ neg n x y=>Kp neg (ev x) (ev y) n k
 |.un _ op x=>unK op (ev x) k
 |.cvt _ kd x=>Km kd (ev x) k
 |.mk d sz bytes z l c=>mkK (ev l) (ev c) d sz bytes z k
 |.slc _ sz x lo hi=>Cl (ev x) ev un sz lo hi k
 |.fa _ off x=>Jw (ev x) un off k
 |.fl .. =>False
 |.ia _ sz x i=>Jg (ev x) (ev i) un sz k
 |.ix .. =>False
 |.len _ x=>tv (ev x) un k
 |.abS .. =>False
 |.sls .. =>False
 |.call d f args=>pP P d f (args.map ev) un k
 |.calv d x args=>uu (ev x) P d (args.map ev) un k
 |.ext _ x i=>BD (ev x) i k
 |.bs d sz _ len ps=>bsK (ps.map fun p=>(p.1,ev p.2)) un d sz len k
 |.bld _ z ps=>GN (ps.map fun p=>(p.1,p.2.1,ev p.2.2)) un z k
 |.mkf _ f xs=>k (.cl f (xs.map ev)) []
 |.s30 .. =>False
 |.mxm .. =>False
 |.bse _ sz=>0<sz∧k (.z0 (some false) sz) []
 |.zsb d T E=>d<3000000000∧k (.ps d) [(d,.sb T E ⟨#[]⟩)]
 |.ape .. =>False
 |.cvs _ x=>GP (ev x) un k
 |.st .. |.app .. |.mcl .. |.cls .. |.cpy .. |.sH .. |.RX .. |.bwr .. |.bst .. |.Lk .. |.wO .. |.Ll .. |.W2 .. |.other .. =>False
def oT.xQ:oT→Bool
 |.st .. |.app .. |.mcl .. |.cls .. |.cpy .. |.sH .. |.RX .. |.bwr .. |.bst .. |.Lk .. |.wO .. |.Ll .. |.W2 .. |.other .. =>false
 |_=>true
def fO:List D→Bool
 | []=>true
 |d::ds=>d.gl&&fO ds
abbrev KT:=Bool→D→St→Prop
abbrev KL:=Bool→List D→St→Prop
def xz(u:Option U)(i:Nat)(st:St)(k:KT):Prop:=
 match u with
 |some (.own d)=>k true d (st.del i)
 |_=>False
def AA(u:Option U)(i off len:Nat)(st:St)(k:KT):Prop:=
 match u with
 |some (.ar true nn sz es)=>(off=0∧len=es.length)∧k true (.ls nn sz es) (st.del i)
 |_=>False
def Su(sz:Nat)(agg:Bool):D:=if agg then .ag (List.replicate sz .jk)else .jk
def Au(u:Option U)(i el j sz:Nat)(agg:Bool)(st:St)(k:KT):Prop:=
 match u with
 |some (.ar true nn usz es)=>(agg=true→(D.at es el).fX=true)∧k true (D.sub (D.at es el) j sz agg) (st.RY i el (.ar true nn usz (es.set el (D.put usz (D.at es el) j sz (Su sz agg)))))
 |_=>False
def sgC(k:KT)(b:Bool)(ds:List D)(st:St):Prop:=k b (.ag (ds.map D.cells).flatten) st
def Kv(b bq c cq:Bool):Bool:=(b||bq)&&(c||cq)
def EC(b:Bool)(d:D)(k:KL)(c:Bool)(ds:List D)(st:St):Prop:=
 (b=true∨c=false∨fO ds=true)∧(c=true∨b=false∨d.gl=true)∧k (Kv b d.gl c (fO ds)) (d::ds) st
mutual
def io(st:St):AV→KT→Prop
 |.im none d,k=>k d.gl d st
 |.im (some _) d,k=>d.gl=true∧k true d st
 |.tr i,k=>xz (st.unit i) i st k
 |.sm i off len,k=>AA (st.unit i) i off len st k
 |.cw i el j sz agg,k=>Au (st.unit i) i el j sz agg st k
 |.sg vs,k=>qX st vs (sgC k)
 |_,_=>False
def qX(st:St):List AV→KL→Prop
 | [],k=>k true [] st
 |v::vs,k=>io st v fun b d st=>qX st vs (EC b d k)
end
def aaJ(vs:List AV)(k:KL)(b:Bool)(d:D)(st:St):Prop:=qX st vs (EC b d k)
def mp(f:St→AV→KT→Prop):St→List AV→KL→Prop
 |st,[],k=>k true [] st
 |st,v::vs,k=>f st v fun b d st=>mp f st vs (EC b d k)
def lsC(sz:Nat)(k:KT)(b:Bool)(ds:List D)(st:St):Prop:=(0<sz∧b=true∧∀d∈ds,d.size=sz)∧k true (.ls (some false) sz ds) st
def xu(f:St→AV→KT→Prop)(u:Option U)(i len:Nat)(st:St)(k:KT):Prop:=
 match u with
 |some (.bx sz items)=>len=items.length∧mp f (st.del i) items (lsC sz k)
 |_=>False
def js:Nat→St→AV→KT→Prop
 |n+1,st,.vb i len,k=>xu (js n) (st.unit i) i len st k
 |n+1,st,.sg vs,k=>mp (js n) st vs (sgC k)
 |_,st,.im none d,k=>k d.flat d st
 |_,st,v,k=>io st v k
def aby(f:St→AV→KT→Prop)(vs:List AV)(k:KL)(b:Bool)(d:D)(st:St):Prop:=mp f st vs (EC b d k)
def C0(u:Option U)(i len sz:Nat)(st:St)(k:KL):Prop:=
 match u with
 |some (.bx yR items)=>(yR=sz∧len=items.length)∧mp (js 12) (st.del i) items k
 |_=>False
def wt(q:Option D)(sz:Nat)(st:St)(k:KL):Prop:=
 match q with
 |some (.ls _ gV ds)=>(sz=gV∧fO ds=true)∧k true ds st
 |_=>False
def ra(st:St)(sz:Nat)(v:AV)(k:KL):Prop:=
 match v with
 |.vb i len=>C0 (st.unit i) i len sz st k
 |.im none (.ls _ gV ds)=>sz=gV∧k (fO ds) ds st
 |v=>wt (v.arg st.unit) sz st k
def gT(nn:Option Bool)(ds:List D):Option Bool:=
 match ds with
 |_::_=>some false
 | []=>nn
def fU(own ow fl eq:Bool):Bool:=if own=ow then ow else if fl then ow else if eq then own else ow
def stU(u:Option U)(id el j sz:Nat)(own:Bool)(d:D)(gp:St)(f:St→Prop):Prop:=
 match u with
 |some (.ar ow nn usz es)=>(d.size=sz∧j+sz≤usz∧el<es.length∧(j=0∧sz=usz∨(D.at es el).fX=true)∧
    (own=ow∨d.gl=true∨fO es=true))∧
    f (gp.ue id (.ar (fU own ow d.flat (fO es)) nn usz (es.set el (D.put usz (D.at es el) j sz d))))
 |_=>False
def stC(id el j sz:Nat)(f:St→Prop)(own:Bool)(d:D)(gp:St):Prop:=stU (gp.unit id) id el j sz own d gp f
def lj(es:List D)(usz el j:Nat)(d:D):List D:=es.set el (D.put usz (D.at es el) j 1 d)
def stI(nn:Option Bool)(usz:Nat)(es:List D)(id el j iE jj j' sz:Nat)(own:Bool)(d:D)(gp:St)(f:St→Prop)(q:D):Prop:=
 match q with
 | .ls jR gV ds => (gV = iE ∧ d.size = sz ∧ j' < iE ∧ j' + sz ≤ iE ∧ el < es.length ∧ jj < ds.length ∧ (j = 0 ∧ usz = 1 ∧ (D.at es el).fX = false ∨ (D.at es el).fX = true ∧ usz ≠ 1) ∧ (j' = 0 ∧ sz = iE ∨ (D.at ds jj).fX = true) ∧ d.gl = true) ∧
   f (gp.ue id (.ar true nn usz (lj es usz el j (.ls jR gV (ds.set jj (D.put gV (D.at ds jj) j' sz d))))))
 |_=>False
def stQ(u:Option U)(id el j iE jj j' sz:Nat)(own:Bool)(d:D)(gp:St)(f:St→Prop):Prop:=
 match u with
 |some (.ar true nn usz es)=>stI nn usz es id el j iE jj j' sz own d gp f (D.sub (D.at es el) j 1 false)
 |_=>False
def stD(id el j iE jj j' sz:Nat)(f:St→Prop)(own:Bool)(d:D)(gp:St):Prop:=stQ (gp.unit id) id el j iE jj j' sz own d gp f
def zO(id:Nat)(v:AV):AV:=
 match v with
 |.pw i el j=>if i=id then(if el=0 then .pb id j else .any)else .pw i el j
 |v=>if v.refs id then .any else v
def Iy(id:Nat):List (Nat×AV)→List (Nat×AV)
 | []=>[]
 |(k,v)::r=>(k,zO id v)::Iy id r
def qV:AV→Bool
 |.sg vs=>vs.all AV.lV
 |v=>v.lV
def St.cvt(st:St)(id:Nat)(u:U):St:=⟨st.n,Iy id st.env,(id,u)::gu id (AV.refs id) st.us⟩
def stN(u:Option U)(id el j sz:Nat)(x:AV)(st:St)(f:St→Prop):Prop:=
 match u with
 |some (.ar _ nn usz [d])=>((nn=none∨id<3000000000)∧0<sz∧el=0∧j=0∧sz=usz∧d.gl=true∧ig st.unit sz (lx x)=true∧qV (lx x)=true∧(lx x).refs id=false)∧f (st.cvt id (.bx sz [lx x]))
 |_=>False
def JT(y x:AV)(usz j sz:Nat)(k:AV→Prop):Prop:=
 if j=0∧sz=usz then k x else
 match y with
 |.sg vs=>(vs.all AV.lV=true∧j<vs.length∧sz=1∧x.lV=true)∧k (.sg (vs.set j x))
 |_=>False
def stB(u:Option U)(id j sz:Nat)(x:AV)(st:St)(f:St→Prop):Prop:=
 match u with
 |some (.bx usz [y])=>(0<usz∧0<sz∧ig st.unit sz x=true∧qV x=true∧x.refs id=false∧y.refs id=false)∧JT y x usz j sz fun z=>f (st.ue id (.bx usz [z]))
 |_=>False
def Ho:AV→Bool
 |.sg [.im _ (.sc (.pointer none)),.im _ (.ls (some true) _ [])]=>true
 |_=>false
def stS(u:Option U)(id sz:Nat)(x:AV)(st:St)(f:St→Prop):Prop:=
 match u with
 |some (.sb T E _)=>(sz=2∧Ho x=true)∧f (st.ue id (.sb T E ⟨#[]⟩))
 |_=>False
def Li(a x:AV)(st:St)(sz:Nat)(f:St→Prop):Prop:=
 match a with
 |.pw id el j=>if x.isRef=true then stN (st.unit id) id el j sz x st f else js 12 st x (stC id el j sz f)
 |.pq id el j iE jj j'=>js 12 st x (stD id el j iE jj j' sz f)
 |.pb id j=>stB (st.unit id) id j sz x st f
 |.ps id=>stS (st.unit id) id sz x st f
 |_=>False
def abG(a x:AV)(st:St)(sz:Nat)(f:St→Prop):Prop:=
 match a with
 |.pw id el j=>js 12 st x (stC id el j sz f)
 |.pq id el j iE jj j'=>js 12 st x (stD id el j iE jj j' sz f)
 |_=>False
def wi(len:Nat)(es:List D):List D:=if len=es.length then es else es.take len
def DY(len:Nat)(es:List D):Prop:=if len=es.length then True else len<es.length
def QS(u:Option U)(id off len:Nat)(own:Bool)(ds:List D)(gp:St)(d sz bytes:Nat)(f:St→Prop):Prop:=
 match u with
 |some (.ar ow nn usz es)=>(usz=sz∧0<sz∧off=0∧DY len es∧(len+ds.length)*bytes≤140737488355328∧len+ds.length≤gz∧(∀e∈ds,e.size=sz)∧
    (own=ow∨fO ds=true∨fO (wi len es)=true))∧
    f ((gp.upr id (.ar (fU own ow (D.qJ ds) (fO (wi len es))) (gT nn ds) sz (wi len es++ds))).set d (.sm id 0 (len+ds.length)))
 |_=>False
def Iw(own:Bool)(ds:List D)(d sz bytes:Nat)(f:St→Prop)(ET:Bool)(e:D)(RZ:St):Prop:=
 match e with
 |.ls nn gV es=>(gV=sz∧own=true∧ET=true∧(es.length+ds.length)*bytes≤140737488355328∧es.length+ds.length≤gz∧(∀e∈ds,e.size=sz)∧0<sz∧
    RZ.fresh [(d,.own .jk)]=true)∧
    f ((RZ.kc [(d,.own (.ls (gT nn ds) sz (es++ds)))]).set d (.tr d))
 |_=>False
def C6(x:AV)(own:Bool)(ds:List D)(gp:St)(d sz bytes:Nat)(f:St→Prop):Prop:=
 match x with
 | .im _ (.ls (some true) _ []) => (ds.length * bytes ≤ 140737488355328 ∧ ds.length ≤ gz ∧ 0 < sz ∧ (∀ e ∈ ds, e.size = sz) ∧ gp.fresh [(d, .own .jk)] = true) ∧
   f ((gp.kc [(d,.ar own (gT (some true) ds) sz ds)]).set d (.sm d 0 ds.length))
 |.sm id off len=>QS (gp.unit id) id off len own ds gp d sz bytes f
 | .z0 nn _ => (ds.length * bytes ≤ 140737488355328 ∧ ds.length ≤ gz ∧ 0 < sz ∧ own = true ∧ (∀ e ∈ ds, e.size = sz) ∧ gp.fresh [(d, .own .jk)] = true) ∧
   f ((gp.kc [(d,.own (.ls (gT nn ds) sz ds))]).set d (.tr d))
 |x=>io gp x (Iw own ds d sz bytes f)
def IN(x:X)(d sz bytes:Nat)(f:St→Prop)(own:Bool)(ds:List D)(gp:St):Prop:=C6 (gp.ev x) own ds gp d sz bytes f
def AFM(P:Program)(f:Nat)(d:D)(n:Int)(d':D)(n':Int):Prop:=mN P f∧
 ∀(w:World)(v:Value)(F:List Nat),gJ w.heap d F v.cells.toList→d.fits v→F.Nodup→(∀b∈F,t7 w.heap b)→
  Calls P f #[v,.int .i64 n] w fun e w'=>e=.returned (.int .i64 n')∧w'.os=w.os∧w'.tape=w.tape∧w'.output=w.output∧w.heap.size≤w'.heap.size∧
   (∀b,b<w.heap.size→b∉F→w'.heap[b]?=w.heap[b]?)∧∃F',gJ w'.heap d' F' v.cells.toList∧F'.Nodup∧∀b∈F',b∈F∧t7 w'.heap b
def Ev(es:List D)(off n:Nat)(ds:List D):List D:=es.take off++(ds.take n++es.drop (off+n))
def PW(u:Option U)(id off len sz:Nat)(ds:List D)(st:St)(f:Nat→St→Prop):Prop:=
 match u with
 |some (.ar true nn usz es)=>(usz=sz∧off+len≤es.length)∧f (min len ds.length) (st.ue id (.ar true nn usz (Ev es off (min len ds.length) ds)))
 |_=>False
def MZ(nn:Option Bool)(usz:Nat)(es:List D)(id el j off:Nat)(len:Option Nat)(sz:Nat)(ds:List D)(st:St)(f:Nat→St→Prop)(q:D):Prop:=
 match q with
 | .ls jR gV lQ => (gV = sz ∧ el < es.length ∧ (j = 0 ∧ usz = 1 ∧ (D.at es el).fX = false ∨ (D.at es el).fX = true ∧ usz ≠ 1)) ∧
   f (min (len.getD lQ.length) ds.length) (st.ue id (.ar true nn usz (lj es usz el j (.ls jR gV (Ev lQ off (min (len.getD lQ.length) ds.length) ds)))))
 |_=>False
def Hw(u:Option U)(id el j off:Nat)(len:Option Nat)(sz:Nat)(ds:List D)(st:St)(f:Nat→St→Prop):Prop:=
 match u with
 |some (.ar true nn usz es)=>MZ nn usz es id el j off len sz ds st f (D.sub (D.at es el) j 1 false)
 |_=>False
def Kx(x:AV)(sz:Nat)(ds:List D)(st:St)(f:Nat→St→Prop):Prop:=
 match x with
 |.sm id off len=>PW (st.unit id) id off len sz ds st f
 |.cw id el j 1 false=>Hw (st.unit id) id el j 0 none sz ds st f
 |.qs id el j iE off len=>iE=sz∧Hw (st.unit id) id el j off (some len) sz ds st f
 |_=>False
def Po(q:Option D)(x:AV)(sz:Nat)(st:St)(f:Nat→St→Prop):Prop:=
 match q with
 |some (.ls _ gV ds)=>(gV=sz∧0<sz∧fO ds=true)∧Kx x sz ds st f
 |_=>False
def Tm(x y:AV)(d:Option Nat)(sz:Nat)(st:St)(f:St→Prop):Prop:=Po (y.arg st.unit) x sz st fun n gp=>f (gp.mu d (.im none (.sc (.int .i64 n))))
def jc:Nat→List U→List (Nat×U)
 |_,[]=>[]
 |i,u::r=>(3000000000+i,u)::jc (i+1) r
structure QX (h:jv) (jL:Nat→Prop) (us:List U) (g:Gh):Prop where
 nodup:(fp g (jc 0 us)).Nodup
 lt:∀b∈fp g (jc 0 us),b<h.size
 fz:∀b∈fp g (jc 0 us),t7 h b
 dead:∀k,k∉(jc 0 us).map (·.1)→g.φ k=[]
 sh:∀b,g.Sh b→b<h.size∧jL b∧b∉fp g (jc 0 us)
 each:∀x∈jc 0 us,jn h (jc 0 us) g x.1 x.2
 gX:∀x∈jc 0 us,x.2.kb=true→g.β x.1≠none
structure aag (h:jv) (n0:Nat) (jL:Nat→Prop) (us us':List U) (g g':Gh) (F:List Nat):Prop where
 each:∀x∈jc 0 us',jn h (jc 0 us') g' x.1 x.2
 AB:∀x∈jc 0 us',g'.β x.1=g.β x.1∧g'.cap x.1=g.cap x.1
 nodup:(F++fp g' (jc 0 us')).Nodup
 all:∀b∈F++fp g' (jc 0 us'),b<h.size∧t7 h b∧(b<n0→b∈fp g (jc 0 us))∧¬g'.Sh b
 sh:∀b,g'.Sh b→b<h.size∧(b<n0→jL b∨b∈fp g (jc 0 us))
def Lh(P:Program)(f:Nat)(us:List U)(as:List AV)(us':List U)(r:ud):Prop:=mN P f∧us.length≤8∧
 ∀(w:World)(vs:List Value)(jL:Nat→Prop)(g:Gh),QX w.heap jL us g→fT w.heap (jc 0 us) g as vs→
  Calls P f vs.toArray w fun e w'=>∃v F g',e=.returned v∧w'.os=w.os∧w'.tape=w.tape∧w'.output=w.output∧w.heap.size≤w'.heap.size∧
   (∀b,b<w.heap.size→b∉fp g (jc 0 us)→w'.heap[b]?=w.heap[b]?)∧aag w'.heap w.heap.size jL us us' g g' F∧jr w'.heap r F [] v
def gU:List Nat→Nat→Nat→Option Nat
 | [],_,_=>none
 |i::r,n,k=>if i=k then some n else gU r (n+1) k
def agm(ids:List Nat):Option Nat→Bool
 |none=>true
 |some k=>(gU ids 0 k).isNone
def adw(u:Option U)(id el j:Nat):Option (Option Nat×D):=match u with|some (.ar _ _ _ es)=>some (some id,.pt (D.at es el) j)|_=>none
def aeU(u:Option U)(id off len:Nat):Option (Option Nat×D):=match u with|some (.ar _ nn sz es)=>some (some id,.ls (if off=0∧len=es.length then nn else none) sz ((es.drop off).take len))|_=>none
def ag3(u:Option U)(id len:Nat):Option (Option Nat×D):=match u with|some (.bx sz items)=>(match w7 sz items with|some ds=>if len=items.length∧D.qJ ds=true then some (some id,.ls (some false) sz ds)else none|none=>none)|_=>none
def AV.rd(un:Nat→Option U):AV→Option (Option Nat×D)
 |.pw id el j=>adw (un id) id el j
 |.sm id off len=>aeU (un id) id off len
 |.vb id len=>ag3 (un id) id len
 |.z0 nn sz=>some (none,.ls nn sz [])
 |av=>av.den un
def RS(ids:List Nat)(q:Option (Option Nat×D)):Option AV:=match q with|some (t,d)=>if agm ids t=true then some (.im none d)else none|none=>none
def pwW(q:Option Nat)(el j:Nat)(r:Option AV):Option AV:=match q with|some k=>some (.pw (3000000000+k) el j)|none=>r
def smW(q:Option Nat)(off len:Nat)(r:Option AV):Option AV:=match q with|some k=>some (.sm (3000000000+k) off len)|none=>r
def trW(q:Option Nat)(r:Option AV):Option AV:=match q with|some k=>some (.tr (3000000000+k))|none=>r
def pbW(q:Option Nat)(j:Nat):Option AV:=match q with|some k=>some (.pb (3000000000+k) j)|none=>none
mutual
def AV.t8(ids:List Nat)(un:Nat→Option U):AV→Option AV
 |.pw id el j=>pwW (gU ids 0 id) el j (RS ids (AV.rd un (.pw id el j)))
 |.sm id off len=>smW (gU ids 0 id) off len (RS ids (AV.rd un (.sm id off len)))
 |.tr k=>trW (gU ids 0 k) (RS ids (AV.rd un (.tr k)))
 |.pb id j=>pbW (gU ids 0 id) j
 |.cl f vs=>match rO ids un vs with|some as=>some (.cl f as)|none=>none
 |.sg vs=>match rO ids un vs with|some as=>some (.sg as)|none=>none
 |av=>RS ids (av.rd un)
def rO(ids:List Nat)(un:Nat→Option U):List AV→Option (List AV)
 | []=>some []
 |a::as=>match a.t8 ids un,rO ids un as with|some b,some bs=>some (b::bs)|_,_=>none
end
mutual
def AV.hZ(ids:List Nat):AV→Bool
 |.im none _=>true
 |.im (some _) d=>d.gl
 |.pw id _ _=>(gU ids 0 id).isSome
 |.sm id _ _=>(gU ids 0 id).isSome
 |.tr id=>(gU ids 0 id).isSome
 |.pb _ _=>true
 |.cl _ vs=>ii ids vs
 |.sg vs=>ii ids vs
 |_=>false
def ii(ids:List Nat):List AV→Bool
 | []=>true
 |v::vs=>v.hZ ids&&ii ids vs
end
def U.hZ(ids:List Nat):Option U→Bool
 |some (.bx _ items)=>ii ids items
 |_=>true
def ir(ids:List Nat)(un:Nat→Option U):List Nat→Bool
 | []=>true
 |i::r=>U.hZ ids (un i)&&ir ids un r
def wU(ids:List Nat)(un:Nat→Option U)(u:Option U):Option U:=
 match u with
 |some (.ar ow nn sz es)=>if(nn==some false|| !es.isEmpty)=true then some (.ar ow none sz es)else none
 |some (.own d)=>some (.own d)
 |some (.bx sz items)=>(match rO ids un items with|some as=>some (.bx sz as)|none=>none)
 |some (.sb _ _ _)=>none
 |none=>none
def wUs(ids:List Nat)(un:Nat→Option U):List Nat→Option (List U)
 | []=>some []
 |i::r=>match wU ids un (un i),wUs ids un r with|some u,some r=>some (u::r)|_,_=>none
mutual
def AV.Ih(ids:List Nat):AV→AV
 |.pw k el j=>.pw (ids.getD (k-3000000000) 0) el j
 |.pb k j=>.pb (ids.getD (k-3000000000) 0) j
 |.cl f vs=>.cl f (tV ids vs)
 |.sg vs=>.sg (tV ids vs)
 |v=>v
def tV(ids:List Nat):List AV→List AV
 | []=>[]
 |v::vs=>v.Ih ids::tV ids vs
end
mutual
def AV.okW(m:Nat):AV→Bool
 |.im none d=>d.flat
 |.pw k _ _=>decide (3000000000≤k)&&decide (k<3000000000+m)
 |.pb k _=>decide (3000000000≤k)&&decide (k<3000000000+m)
 |.cl _ vs=>mG m vs
 |.sg vs=>mG m vs
 |_=>false
def mG(m:Nat):List AV→Bool
 | []=>true
 |v::vs=>v.okW m&&mG m vs
end
def ij(m:Nat)(iC:Bool)(u u':U):Prop:=
 match u,u' with
 |.ar _ _ sz es,.ar ow' jR gV es'=>jR=none∧gV=sz∧es'.length=es.length∧(iC=true∨ow'=true∨fO es'=true)
 |.bx sz items,.bx gV iT=>gV=sz∧iT.length=items.length∧mG m iT=true
 |_,_=>False
def iv(m:Nat)(iC:Bool):List U→List U→Prop
 |_,[]=>True
 |u::r,u'::r'=>ij m iC u u'∧iv m iC r r'
 |_,_=>False
def Bk:List Nat→AV→Bool
 | [],_=>false
 |i::r,v=>v.soft i||Bk r v
def AY:List Nat→AV→Bool
 | [],_=>false
 |i::r,v=>v.refs i||AY r v
def re(k1 k2:List Nat)(v:AV):Bool:=Bk k1 v||AY k2 v
def Ac(ids:List Nat)(u u':U):U:=
 match u,u' with
 |.ar _ nn _ _,.ar ow' _ gV es'=>.ar ow' nn gV es'
 |.bx _ _,.bx gV iT=>.bx gV (tV ids iT)
 |u,_=>u
def ye(q:Option Nat)(ids k1 k2:List Nat)(us':List U)(u:U):U:=match q with|some k=>Ac ids u (us'.getD k default)|none=>u.kill (re k1 k2)
def pk(ids k1 k2:List Nat)(us':List U):List (Nat×U)→List (Nat×U)
 | []=>[]
 |(i,u)::r=>if(gU k2 0 i).isSome=true then pk ids k1 k2 us' r else(i,ye (gU k1 0 i) ids k1 k2 us' u)::pk ids k1 k2 us' r
def St.abV(st:St)(k1 k2:List Nat)(us':List U):St:=⟨st.n,jp (re k1 k2) st.env,pk (k1++k2) k1 k2 us' st.us⟩
def CT:List Nat→Bool
 | []=>true
 |x::l=>!l.contains x&&CT l
def kq(f:St→Prop)(st:St)(d:Option Nat)(v:AV):List (Nat×U)→Prop
 | []=>f (st.mu d v)
 |us=>st.fresh us=true∧f ((st.kc us).mu d v)
def Jb(P:Program)(dst:Option Nat)(f:Nat)(args:List AV)(st:St)(kk:St→Prop):Prop:=
 ∃k1 k2 us as us' r,CT (k1++k2)=true∧wUs (k1++k2) st.unit (k1++k2)=some us∧rO (k1++k2) st.unit args=some as∧Lh P f us as us' r∧us'.length=k1.length∧
  iv k1.length (ii (k1++k2) args&&ir (k1++k2) st.unit (k1++k2)) us us'∧kq kk (st.abV k1 k2 us') dst (jb (dst.getD 0) false r).1 (jb (dst.getD 0) false r).2
def eOp(P:Program)(r:oT)(st:St)(f:St→Prop):Prop:=
 match r with
 |.mcl .. =>False
 |.st sz a x=>Li (st.ev a) (st.ev x) st sz f
 |.app d sz bytes x y=>ra st sz (st.ev y) (IN x d sz bytes f)
 |_=>False
def gO(st gp:St):Prop:=∀n0 S0 M0 w0 a w,k9 n0 S0 M0 w0 st a w→k9 n0 S0 M0 w0 gp a w
def XK(k:D→St→Prop)(_own:Bool)(d:D)(st:St):Prop:=k d st
def QM(u:Option U)(i off len:Nat)(st:St)(k:D→St→Prop):Prop:=
 match u with
 |some (.ar _ nn sz es)=>(off=0∧len=es.length)∧k (.ls nn sz es) (st.del i)
 |_=>False
def tkG(k:D→St→Prop)(ds:List D)(st:St):Prop:=k (.ag (ds.map D.cells).flatten) st
def tkD(d:D)(k:List D→St→Prop)(ds:List D)(st:St):Prop:=k (d::ds) st
mutual
def wS(st:St):AV→(D→St→Prop)→Prop
 |.sm i off len,k=>QM (st.unit i) i off len st k
 |.sg vs,k=>tZ st vs (tkG k)
 |.im t d,k=>io st (.im t d) (XK k)
 |.tr i,k=>io st (.tr i) (XK k)
 |.cw i el j sz agg,k=>io st (.cw i el j sz agg) (XK k)
 |_,_=>False
def tZ(st:St):List AV→(List D→St→Prop)→Prop
 | [],k=>k [] st
 |v::vs,k=>wS st v fun d st=>tZ st vs (tkD d k)
end
def tkC(vs:List AV)(k:List D→St→Prop)(d:D)(st:St):Prop:=tZ st vs (tkD d k)
def shV(u:Option U)(i len sz:Nat)(st:St)(k:List D→St→Prop):Prop:=
 match u with
 |some (.bx yR items)=>(yR=sz∧len=items.length)∧tZ (st.del i) items k
 |_=>False
def Hg(u:Option U)(off len sz:Nat)(st:St)(k:List D→St→Prop):Prop:=
 match u with
 |some (.ar false _ usz es)=>usz=sz∧k ((es.drop off).take len) st
 |_=>False
def Vh(st:St)(sz:Nat)(v:AV)(k:List D→St→Prop):Prop:=
 match v with
 |.vb i len=>shV (st.unit i) i len sz st k
 |.im none (.ls _ gV ds)=>gV=sz∧k ds st
 |.sm i off len=>Hg (st.unit i) off len sz st k
 |.ss i off len=>Hg (st.unit i) off len sz st k
 |_=>False
def T5(d sz len:Nat)(f:St→Prop)(ds:List D)(gp:St):Prop:=((∀e∈ds,e.size=sz)∧gp.fresh [(d,.own .jk)]=true)∧f ((gp.kc [(d,.ar false (some false) sz ds)]).set d (.sm d 0 len))
def PV(ps:List (Nat×AV))(st:St)(d sz len:Nat)(f:St→Prop):Prop:=(ps.map (·.1)=List.range len∧0<sz∧len*sz≤16777216)∧tZ st (ps.map (·.2)) (T5 d sz len f)
def Pr(u:Option U)(id off len:Nat)(ds:List D)(gp:St)(d sz bytes:Nat)(f:St→Prop):Prop:=
 match u with
 |some (.ar ow nn usz es)=>(usz=sz∧0<sz∧off=0∧DY len es∧(ow=false∨wi len es=[])∧(len+ds.length)*bytes≤140737488355328∧len+ds.length≤gz∧(∀e∈ds,e.size=sz))∧
    f ((gp.upr id (.ar false (gT nn ds) sz (wi len es++ds))).set d (.sm id 0 (len+ds.length)))
 |_=>False
def O6(x:AV)(d sz bytes:Nat)(f:St→Prop)(ds:List D)(gp:St):Prop:=
 match x with
 |.sm id off len=>Pr (gp.unit id) id off len ds gp d sz bytes f
 |_=>False
def ME(x:X)(d sz bytes:Nat)(f:St→Prop)(ds:List D)(gp:St):Prop:=O6 (gp.ev x) d sz bytes f ds gp
def zF(a x:AV)(st:St)(sz:Nat)(f:St→Prop):Prop:=
 match x with
 |.sm i off len=>(match a with
  |.pw id el j=>stN (st.unit id) id el j sz (.sm i off len) st f
  |.pb id j=>stB (st.unit id) id j sz (.sm i off len) st f
  |_=>False)
 |x=>Li a x st sz f
def Z8(h:jv)(sh:Nat→Prop)(ow:Bool)(sz:Nat)(es:List D)(b:Nat)(F:List Nat):Prop:=
 es.length≤gz∧(∀d∈es,d.size=sz)∧∃c e rest b2 c2 e2 G cs r2 cap,h[b]?=some (.cells c e (0,0))∧c.toList=Value.slice (some ⟨b2,0,none⟩) es.length cap::rest∧
  h[b2]?=some (.cells c2 e2 (0,0))∧c2.toList=cs++r2∧c2.size=cap*sz∧es.length≤cap∧gt h es G cs∧(if ow then F=b2::G else F=[b2]∧∀x∈G,sh x)
def Yu(P:Program)(f:Nat)(ow:Bool)(sz:Nat)(ds:List D)(es es':List D):Prop:=mN P f∧
 ∀(w:World)(vs:List Value)(jL:Nat→Prop)(b:Nat)(F:List Nat),Z8 w.heap jL ow sz es b F→(b::F).Nodup→(∀x∈b::F,t7 w.heap x∧¬jL x)→je w.heap jL ds vs→
  Calls P f (vs++[Value.pointer (some ⟨b,0,none⟩)]).toArray w fun e w'=>(∃v,e=.returned v)∧w'.os=w.os∧w'.tape=w.tape∧w'.output=w.output∧w.heap.size≤w'.heap.size∧
   (∀ x, x < w.heap.size → x ∉ b :: F → w'.heap[x]? = w.heap[x]?) ∧ ∃ F' sh', Z8 w'.heap sh' ow sz es' b F' ∧ (b :: F').Nodup ∧ (∀ x ∈ b :: F', t7 w'.heap x ∧ (x < w.heap.size → x ∈ b :: F) ∧ ¬ sh' x) ∧
    ∀x,sh' x→x<w'.heap.size∧(x<w.heap.size→jL x∨x∈b::F)
mutual
def AV.Ii(un:Nat→Option U):AV→Option (List Nat×D)
 |.sg vs=>match Jm un vs with|some (ts,ds)=>(sgD ds).map (ts,·)|none=>none
 |.im t d=>some (if d.gl=true then[]else t.toList,d)
 |av=>(av.rd un).map fun p=>(p.1.toList,p.2)
def Jm(un:Nat→Option U):List AV→Option (List Nat×List D)
 | []=>some ([],[])
 |a::as=>match a.Ii un,Jm un as with|some (t,d),some (ts,ds)=>some (t++ts,d::ds)|_,_=>none
end
def nq(k id:Nat)(v:AV):Bool:=v.refs k||v.soft id
def St.HT(st:St)(id k:Nat)(es:List D)(ow:Bool)(sz:Nat):St:=
 ⟨st.n,jp (nq k id) st.env,(id,.bx 1 [.sm k 0 es.length])::(k,.ar ow (some false) sz es)::gu id (nq k id) (gu k (nq k id) st.us)⟩
def aeT(u v:Option U)(P:Program)(dst:Option Nat)(f id:Nat)(k:Nat)(ys:List AV)(st:St)(kk:St→Prop):Prop:=
 match u,v with
 | some (.bx 1 [.sm k' 0 n]), some (.ar ow nn sz es) => (k' = k ∧ k ≠ id ∧ n = es.length ∧ (nn = some false ∨ es ≠ [])) ∧ ∃ ts ds es', Jm st.unit ys = some (ts, ds) ∧ (ts.contains k || ts.contains id || (!ow && !ts.isEmpty)) = false ∧
   Yu P f ow sz ds es es'∧kk ((st.HT id k es' ow sz).mu dst .any)
 |_,_=>False
def Kn(P:Program)(dst:Option Nat)(f:Nat)(xs:List X)(iz:St)(kk:St→Prop):Prop:=
 ∃st,gO iz st∧(Jb P dst f (xs.map st.ev) st kk∨(∃ys id k,xs.map st.ev=ys++[.pb id 0]∧aeT (st.unit id) (st.unit k) P dst f id k ys st kk)∨pP P dst f (xs.map st.ev) st.unit (kq kk st dst))
def abb(P:Program)(r:oT)(st:St)(f:St→Prop):Prop:=
 match r with
 |.cls .. =>False
 |.cpy d sz x y=>Tm (st.ev x) (st.ev y) d sz st f
 |.sH d g xs=>Jb P d g (xs.map st.ev) st f
 |.RX .. =>False
 |.bwr .. =>False
 |.bst .. =>False
 |.Lk d sz bytes x y=>Vh st sz (st.ev y) (ME x d sz bytes f)
 |.wO sz a x=>zF (st.ev a) (st.ev x) st sz f
 |.Ll d g xs=>Kn P d g xs st f
 |.W2 d sz len ps=>PV (ps.map fun p=>(p.1,st.ev p.2)) st d sz len f
 |r=>eOp P r st f
def tY(P:Program)(r:oT)(st:St)(f:St→Prop):Prop:=
 if r.xQ then ES P r st.ev st.unit (kq f st r.dst)else abb P r st f
def qO(g:AV)(b:Bool)(p q:Prop):Prop:=
 match g with
 |.im _ (.sc (.bool c))=>(c=b→p)∧(c=!b→q)
 |.lf []=>q
 |_=>False
def gR(P:Program):List RO→St→(Exit→St→Prop)→Prop
 | [],st,K=>K .normal st
 |⟨none,r⟩::rest,st,K=>tY P r st fun st=>gR P rest st K
 |⟨some (t,b),r⟩::rest,st,K=>qO (st.get t) b (tY P r st fun st=>gR P rest st K) (gR P rest (st.mu r.dst (.lf [])) K)
def kC(s:St)(d:Nat)(v:AV)(us:List (Nat×U)):Prop:=v=s.get d∧us=[]
def tP(P:Program)(r:oT)(s:St):Prop:=match r.dst with|some d=>ES P r s.ev s.unit (kC s d)|none=>True
def oZ(P:Program):List oT→St→Prop
 | [],_=>True
 |c::cs,s=>tP P c s∧oZ P cs s
def Lx(P:Program):List (List oT×RO)→St→(Exit→St→Prop)→Prop
 | [],s,K=>K .normal s
 |(cs,r)::l,s,K=>oZ P cs s∧gR P [r] s (fun _ s'=>Lx P l s' K)
def kE(P:Program)(l:List (List oT×RO))(K:Exit→St→Prop)(_:Exit)(s:St):Prop:=Lx P l s K
def Ie(k:Nat):List (Nat×U)→List (Nat×U)
 | []=>[]
 |(i,u)::r=>(i,if i=k then .own .jk else u)::Ie k r
def St.apJ(st:St)(d sz x y:Nat)(es:List D):St:=⟨st.n,(d,.tr d)::(y,.any)::(x,.any)::st.env,(d,.own (.ls (some false) sz es))::Ie x (Ie y st.us)⟩
def agU(u v:Option U)(d sz bytes x y:Nat)(st:St)(k:St→Prop):Prop:=
 match u,v with
 |some (.own (.ls _ gV es)),some (.bx yR [.im none d0])=>(x≠y∧gV=sz∧yR=sz∧0<sz∧d0.flat=true∧d0.size=sz∧(es.length+1)*bytes≤140737488355328∧es.length+1≤gz∧st.fresh [(d,.own .jk)]=true)∧k (st.apJ d sz x y (es++[d0]))
 |_,_=>False
def apP(a b:AV)(u v:Option U)(d sz bytes x y:Nat)(st:St)(k:St→Prop):Prop:=
 match a,b with
 |.tr x',.vb y' 1=>(x'=x∧y'=y)∧agU u v d sz bytes x y st k
 |_,_=>False
def w8(P:Program):List PO→St→(St→Prop)→Prop
 | [],st,K=>K st
 |.q r::l,st,K=>gR P [r] st (fun _ s=>w8 P l s K)
 |.a d sz b x y::l,st,K=>apP (st.get x) (st.get y) (st.unit x) (st.unit y) d sz b x y st (fun s=>w8 P l s K)
def AJ:List PO→List Nat
 | []=>[]
 |.q _::l=>AJ l
 |.a _ _ _ x y::l=>x::y::AJ l
def zC(C:List Nat):List (Nat×AV)→Bool
 | []=>true
 |(t,v)::r=>C.all (fun k=>k==t|| !v.refs k)&&zC C r
def DI(C:List Nat):List AV→Bool
 | []=>true
 |v::r=>C.all (fun k=>!v.refs k)&&DI C r
def uL(C:List Nat):List (Nat×U)→Bool
 | []=>true
 |(_,.bx _ items)::r=>DI C items&&uL C r
 |_::r=>uL C r
def kP(P:Program)(C:List Nat)(E:List RO)(K:Exit→St→Prop)(s:St):Prop:=(zC C s.env=true∧uL C s.us=true)∧gR P E s K
def zt(f:St→Prop)(K:Exit→St→Prop)(e:Exit)(st:St):Prop:=
 match e with
 |.normal=>f st
 |e=>K e st
def Iz(id:Nat)(K:Exit→St→Prop)(e:Exit)(st:St):Prop:=
 match e with
 |.exit i=>if i=id then K .normal st else K (.exit i) st
 |e=>K e st
def wu(c:AV)(p q:Prop):Prop:=
 match c with
 |.im _ (.sc (.bool t))=>(t=true→p)∧(t=false→q)
 |_=>False
mutual
def Lg(P:Program)(L:List RO):Tr→St→(St→Prop)→Prop
 |.br l,st,K=>Bu P L l st K (l=[]→K st)
def Bu(P:Program)(L:List RO):List (Nat×Tr)→St→(St→Prop)→Prop→Prop
 | [],_,_,q=>q
 |(i,t)::l,st,K,q=>gR P [L.getD i default] st (fun _ s=>Lg P L t s K)∧Bu P L l st K q
end
def vcA(P:Program)(R:List RO)(T:Tr)(st:St)(k:St→Prop):Prop:=∃gp,Lg P R T st (fun s=>gO s gp)∧k gp
mutual
def sB(P:Program):Pj→St→(Exit→St→Prop)→Prop
 |.br cs l,st,K=>oZ P cs st∧tL P l st K (l=[]→K .normal st)
def tL(P:Program):List (RO×Pj)→St→(Exit→St→Prop)→Prop→Prop
 | [],_,_,q=>q
 |(r,t)::l,st,K,q=>gR P [r] st (fun _ s=>sB P t s K)∧tL P l st K q
end
def kT(P:Program)(T:Pj)(K:Exit→St→Prop)(_:Exit)(s:St):Prop:=sB P T s K
def sN(P:Program):RC→St→(Exit→St→Prop)→Prop
 |.skip,st,K=>K .normal st
 |.jI _ ops,st,K=>gR P ops st K
 |.alh _ _,_,_=>False
 |.abT R T,st,K=>vcA P R T st (K .normal)
 |.KN N T,st,K=>gR P N st (kT P T K)
 |.abU N E,st,K=>w8 P N st (kP P (AJ N) E K)
 |.seq a b,st,K=>sN P a st (zt (fun st=>sN P b st K) K)
 |.cond x a b,st,K=>wu (st.ev x) (sN P a st K) (sN P b st K)
 |.gX id c,st,K=>sN P c st (Iz id K)
 |.loop c,st,K=>∃(I:Nat→St→Prop),(∃n s,gO st s∧I n s)∧∀n s,I n s→sN P c s (zt (fun s'=>∃n' Sv,gO s' Sv∧I n' Sv∧n'<n) K)
 |.exit id,st,K=>K (.exit id) st
 |.ret,st,K=>K .ret st
 |.other _,_,_=>False
def jZ(P:Program)(rest:List RO)(K:Exit→St→Prop)(st:St):Prop:=gR P rest st K
def kR(P:Program)(c:RC)(K:Exit→St→Prop)(st:St):Prop:=sN P c st K
end Go.Ax
