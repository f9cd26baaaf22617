/- THE ENGINE, PART 1: a generator of conditions over the register code, and its soundness. No condition. -/
import Derived.WalkKit
set_option linter.all false
namespace Go.Ax
abbrev ab:=@Bool.or_false
abbrev ae:=@Bool.false_or
abbrev af:=@Bool.or_true
abbrev ah:=@Bool.true_or
abbrev aj:=@List.mem_cons
abbrev al:=@if_neg
abbrev am:=@List.mem_singleton
abbrev an:=@if_pos
abbrev aw:=@Nat.zero_add
abbrev ax:=@List.mem_append
abbrev ay:=@Bool.or_self
abbrev az:=@List.drop_zero
abbrev aA:=@List.take_zero
abbrev aB:=@List.append_nil
abbrev aC:=@Nat.add_zero
abbrev aD:=@List.getD_cons_zero
abbrev aE:=@Int.toNat_natCast
abbrev aF:=@List.getD_cons_succ
abbrev aG:=@List.take_succ_cons
abbrev aH:=@if_false
abbrev aI:=@Int.le_refl
abbrev aJ:=@List.drop_succ_cons
abbrev aK:=@if_true
abbrev aL:=@List.any_cons
abbrev aM:=@List.any_nil
abbrev aO:=@Int.cast_ofNat_Int
abbrev aP:=@List.nodup_cons
abbrev aQ:=@Option.some.inj
abbrev aR:=@List.mem_map
abbrev aS:=@Array.ext'
abbrev aT:=@List.nodup_append
abbrev aU:=@Nat.le_refl
abbrev aV:=@Nat.zero_lt_one
abbrev aW:=@run_underlying
abbrev aX:=@List.mem_filter
abbrev aY:=@List.all_eq_true
abbrev aZ:=@List.getElem_mem
abbrev a9:=@Nat.add_mul
abbrev ba:=@Nat.mul_le_mul_right
abbrev bc:=@bne_self_eq_false
abbrev be:=@List.nil_append
abbrev bf:=@List.mem_of_mem_take
abbrev bg:=@List.not_mem_nil
abbrev bh:=@Array.getElem?_eq_some_iff
abbrev bi:=@List.getD_eq_getElem?_getD
abbrev bj:=@forall_eq
abbrev bk:=@List.length_take
abbrev bl:=@Nat.min_eq_left
abbrev bm:=@and_true
abbrev bn:=@decide_eq_true_eq
abbrev bo:=@List.range_zero
abbrev bp:=@List.cons_append
abbrev bt:=@List.mem_cons_of_mem
abbrev bu:=@Nat.zero_le
abbrev bw:=@List.take_append_drop
abbrev bz:=@List.append_assoc
abbrev bB:=@beq_iff_eq
abbrev bC:=@List.nodup_nil
abbrev bD:=@Array.getD_eq_getD_getElem?
abbrev bF:=@List.getElem?_eq_some_iff
abbrev bH:=@List.map_append
abbrev bK:=@Sem.run_bind
abbrev bL:=@Iff.rfl
abbrev bM:=@List.contains_eq_mem
abbrev bO:=@List.cons.injEq
abbrev bP:=@List.mem_cons_self
abbrev bQ:=@List.drop_eq_nil_of_le
abbrev bR:=@List.getElem?_eq_getElem
abbrev bS:=@setRow_size
abbrev bV:=@List.take_left'
abbrev bW:=@Nat.add_assoc
abbrev bX:=@Nat.le_trans
abbrev bY:=@Function.comp_def
abbrev bZ:=@List.take_of_length_le
abbrev b9:=@List.mem_range
abbrev ca:=@beq_false_of_ne
abbrev cb:=@List.flatten_cons
abbrev cd:=@List.mem_of_mem_drop
abbrev ce:=@Bool.not_eq_true'
abbrev ch:=@List.drop_drop
abbrev cj:=@true_and
abbrev cm:=@Bool.or_eq_true
abbrev co:=@setRow_other
abbrev cp:=@List.flatMap_cons
abbrev cr:=@Array.getElem?_toList
abbrev cu:=@Nat.lt_irrefl
abbrev cx:=@false_implies
abbrev cy:=@List.drop_eq_getElem_cons
abbrev cA:=@not_or
abbrev cB:=@List.mapM_cons
abbrev cC:=@beq_eq_false_iff_ne
abbrev cD:=@Bool.or_eq_false_iff
abbrev cE:=@List.all_cons
abbrev cF:=@Option.map_eq_some_iff
abbrev cG:=@wp_mono
abbrev cH:=@true_implies
abbrev cI:=@decide_eq_false_iff_not
abbrev cJ:=@List.getElem?_drop
abbrev cK:=@List.length_drop
abbrev cL:=@Oper.upon_enter
abbrev cM:=@Prod.mk.injEq
abbrev cN:=@Classical.byContradiction
abbrev cO:=@and_self
abbrev cQ:=@not_true_eq_false
abbrev cS:=@Option.getD_some
abbrev cT:=@Option.getD_none
abbrev cU:=@implies_true
abbrev cV:=@not_false_eq_true
abbrev cW:=@List.length_replicate
abbrev cX:=@Array.length_toList
abbrev cY:=@setRow_heap
abbrev cZ:=@Oper.wp_mono
abbrev c9:=@Array.getElem?_eq_getElem
abbrev da:=@List.getElem?_append_left
abbrev db:=@Nat.le_of_lt
abbrev dd:=@List.drop_left'
abbrev de:=@List.take_take
abbrev df:=@List.map_map
abbrev dg:=@List.map_congr_left
abbrev dh:=@Result.andThen_ok
abbrev di:=@Ne.symm
abbrev dj:=@List.mem_reverse
abbrev dk:=@Int.eq_ofNat_of_zero_le
abbrev dm:=@Option.map_none
abbrev dp:=@List.getElem?_take
abbrev dq:=@List.drop_take
abbrev dr:=@List.getElem?_take_of_lt
abbrev dt:=@List.drop_append_of_le_length
abbrev du:=@List.take_append_of_le_length
abbrev dv:=@List.eq_nil_of_length_eq_zero
abbrev dw:=@List.Sublist.refl
abbrev dx:=@Option.isSome_none
abbrev dy:=@List.set_set
abbrev dz:=@List.mem_append_left
abbrev dA:=@List.map_set
abbrev dB:=@Int.lt_irrefl
abbrev dC:=@Option.map_some
abbrev dD:=@bne_iff_ne
abbrev dE:=@Oper.upon_skip
abbrev dF:=@Addr.add_lit
abbrev dG:=@List.mem_append_right
abbrev dH:=@mem_ready
abbrev dI:=@List.reverse_perm
abbrev dJ:=@Option.isSome_some
abbrev dK:=@false_or
abbrev dL:=@Value.slice.injEq
abbrev dM:=@List.replicate_succ
abbrev dN:=@List.size_toArray
abbrev dO:=@Nat.sub_self
abbrev dP:=@cell_of_row
abbrev dQ:=@List.getElem_of_mem
abbrev dR:=@List.perm_ext_iff_of_nodup
abbrev dS:=@List.eq_nil_iff_forall_not_mem
abbrev dT:=@wpOp_mono
abbrev dU:=@List.mem_iff_getElem
abbrev dV:=@Region.noSelect_spec
abbrev dW:=@List.zipWith_cons_cons
abbrev dX:=@Array.getElem?_push
abbrev dY:=@Nat.add_comm
abbrev dZ:=@Array.toList_map
abbrev d7:=@Nat.zero_mul
abbrev d8:=@List.mem_of_getElem?
abbrev d9:=@Option.isNone_iff_eq_none
abbrev eb:=@Bool.eq_iff_iff
abbrev ed:=@wp_region_any
abbrev ef:=@List.pairwise_cons
abbrev eh:=@List.any_eq_true
abbrev ej:=@List.set_cons_zero
abbrev eo:=@List.getElem?_append_right
abbrev et:=@List.ext_getElem?
abbrev eu:=@Nat.one_mul
abbrev ew:=@List.sublist_append_right
abbrev ez:=@List.Sublist.append
abbrev eC:=@List.drop_append
abbrev eD:=@List.take_succ_eq_append_getElem
abbrev eF:=@List.append_eq_nil_iff
abbrev eH:=@Nat.sub_zero
abbrev eJ:=@MapKept.run_getObj_map
abbrev eK:=@List.mem_filterMap
abbrev eL:=@Array.getElem?_append_left
abbrev eM:=@Bool.and_self
abbrev eN:=@List.ext_getElem
abbrev eO:=@Value.int.injEq
abbrev eQ:=@Sem.run_pure
abbrev eR:=@List.set_eq_take_append_cons_drop
abbrev eT:=@List.Sublist.nodup
abbrev eU:=@Bool.and_eq_false_iff
abbrev eV:=@List.zipIdx_cons
abbrev eW:=@List.range_eq_range'
abbrev eX:=@List.length_eq_zero_iff
abbrev eY:=@MapKept.heap_set
abbrev eZ:=@List.map_replicate
abbrev e6:=@List.length_cons
abbrev e7:=@List.set_cons_succ
abbrev e8:=@List.getElem?_eq_none
abbrev e9:=@List.eq_of_mem_replicate
abbrev fb:=@List.zip_cons_cons
abbrev fc:=@List.take_append
abbrev fe:=@Nat.eq_of_mul_eq_mul_right
abbrev ff:=@run_storeCells_at
abbrev fg:=@List.getElem?_cons_zero
abbrev fh:=@List.range'_succ
abbrev fi:=@Nat.le_mul_of_pos_right
abbrev fj:=@Nat.lt_of_lt_of_le
abbrev fk:=@Option.bind_some
abbrev fm:=@List.filter_sublist
abbrev fo:=@List.Nodup.idxOf_getElem
abbrev fq:=@Nat.le_of_not_lt
abbrev ft:=@List.replicate_append_replicate
abbrev fu:=@Std.Legacy.Range.forIn_eq_forIn_range'
abbrev Mx(P:Program):Prop:=P.follows .mixedOrders=true
def oB{α β:Type _}{b:β}{o:Option α}{f:α→Option β}:o.bind f=some b↔∃a,o=some a∧f a=some b:=Option.bind_eq_some_iff
def oS{α:Type _}(a b:α):(some a=some b)=(a=b):=Option.some.injEq a b
def oD.{u} {α β:Type u}:bind=@Option.bind α β:=Option.bind_eq_bind
def oP.{u} {α:Type u}:pure=@some α:=Option.pure_def
def bA(a b:Bool):((a&&b)=true)=(a=true∧b=true):=Bool.and_eq_true a b
def lM{α β:Type _}{l:List α}(f:α→β):(l.map f).length=l.length:=List.length_map f
def kY:(false=true)=False:=Bool.false_eq_true
def bN:(!false)=true:=Bool.not_false
def bT:(!true)=false:=Bool.not_true
def bU(b:Bool):(b&&true)=b:=Bool.and_true b
def lC{α β:Type _}{f:α→β}{a:α}{l:List α}:(a::l).map f=f a::l.map f:=List.map_cons
def lN{α β:Type _}{f:α→β}:[].map f=[]:=List.map_nil
def iL{n m:Nat}:(↑n:Int)< ↑m↔n<m:=Int.ofNat_lt
def iN(n:Nat):0≤(n:Int):=Int.natCast_nonneg n
def bG(b:Bool):(false&&b)=false:=Bool.false_and b
def bI(b:Bool):(true&&b)=b:=Bool.true_and b
def bJ(b:Bool):(b&&false)=false:=Bool.and_false b
def lK{α:Type _}{a:α}{l:List α}:(a::l).length=l.length+1:=e6
def lZ{α:Type _}:([]:List α).length=0:=List.length_nil
def lP{α:Type _}{a b:List α}:(a++b).length=a.length+b.length:=List.length_append
def bE{α:Type _}[BEq α][ReflBEq α](a:α):(a==a)=true:=beq_self_eq_true a
inductive D where
 |sc (v:Value)
 |ag (ds:List D)
 |ls (nn:Option Bool) (sz:Nat) (ds:List D)
 |pt (d:D) (j:Nat)
 |jk
 |fn (f:Nat) (ds:List D)
 |lc (b o:Nat) (d:D)
 deriving Inhabited
mutual
def D.size:D→Nat
 |.sc _=>1
 |.ag ds=>D.f6 ds
 |.ls _ _ _=>1
 |.pt _ _=>1
 |.jk=>1
 |.fn _ _=>1
 |.lc _ _ _=>1
def D.f6:List D→Nat
 | []=>0
 |d::ds=>D.size d+D.f6 ds
end
def D.fK:D→Bool
 |.ag _=>true
 |_=>false
abbrev ij:=Array Obj
def D.fits:D→Value→Prop
 |.ag _,v=>∃c,v=.agg c
 |_,v=>v.oneCell'=true
def gp:Nat:=9223372036854775807
mutual
def f8(h:ij):D→List Nat→List Value→Prop
 |.sc v,F,cs=>F=[]∧cs=[v]∧v.oneCell'=true
 |.ag ds,F,cs=>(∀d∈ds,d.size=1∧d.fK=false)∧fR h ds F cs
 |.jk,F,cs=>F=[]∧∃v:Value,cs=[v]∧v.oneCell'=true
 | .ls nn sz ds, F, cs =>
   (∃p,cs=[.slice p 0 0]∧ds=[]∧F=[]∧(p=none→nn≠some false)∧(p.isSome=true→nn≠some true))∨
   ∃b off cap c e fr F',cs=[.slice (some ⟨b,off,none⟩) ds.length cap]∧F=b::F'∧nn≠some true∧
    ds.length≤cap∧ds.length≤gp∧h[b]?=some (.cells c e fr)∧off+cap*sz≤c.size∧(∀d∈ds,d.size=sz)∧
    fR h ds F' ((c.toList.drop off).take (ds.length*sz))
 |.pt d j,F,cs=>∃b off c e fr F',cs=[.pointer (some ⟨b,off+j,none⟩)]∧F=b::F'∧j<d.size∧
    h[b]?=some (.cells c e fr)∧off+d.size≤c.size∧f8 h d F' ((c.toList.drop off).take d.size)
 |.fn f ds,F,cs=>∃vs,cs=[.func (.func f) #[] ⟨vs⟩]∧lO h ds F vs
 |.lc b o d,F,cs=>((∃l c,cs=[.slice (some ⟨b,o,none⟩) l c])∨cs=[.pointer (some ⟨b,o,none⟩)])∧f8 h d F cs
def fR(h:ij):List D→List Nat→List Value→Prop
 | [],F,cs=>F=[]∧cs=[]
 |d::ds,F,cs=>∃F1 F2 c1 c2,F=F1++F2∧cs=c1++c2∧f8 h d F1 c1∧fR h ds F2 c2
def lO(h:ij):List D→List Nat→List Value→Prop
 | [],F,vs=>F=[]∧vs=[]
 |d::ds,F,vs=>∃F1 F2 v r,F=F1++F2∧vs=v::r∧f8 h d F1 v.cells.toList∧d.fits v∧lO h ds F2 r
end
variable {h:ij}
def D3{F vs}:lO h [] F vs↔F=[]∧vs=[]:=by simp[lO]
def rH{d ds F vs}:lO h (d::ds) F vs↔∃F1 F2 v r,F=F1++F2∧vs=v::r∧f8 h d F1 v.cells.toList∧d.fits v∧lO h ds F2 r:=by simp[lO]
def lS{F cs}:fR h [] F cs↔F=[]∧cs=[]:=by simp[fR]
def ig{d ds F cs}:fR h (d::ds) F cs↔∃F1 F2 c1 c2,F=F1++F2∧cs=c1++c2∧f8 h d F1 c1∧fR h ds F2 c2:=by
 simp[fR]
mutual
def f8.length:∀{d F cs},f8 h d F cs→cs.length=d.size
 |.sc _,_,_,hr=>by simp[f8]at hr;simp[hr.2.1,D.size]
 |.ag ds,_,_,hr=>by simp only[f8]at hr;simpa[D.size]using fR.length hr.2
 |.jk,_,_,hr=>by simp only[f8]at hr;obtain⟨_,v,rfl,_⟩:=hr;simp[D.size]
 |.ls _ _ _,_,_,hr=>by
  simp only[f8]at hr;rcases hr with⟨p,rfl,_⟩|⟨b,off,cap,c,e,fr,F',rfl,_⟩<;>simp[D.size]
 |.pt _ _,_,_,hr=>by
  simp only[f8]at hr;obtain⟨b,off,c,e,fr,F',rfl,_⟩:=hr;simp[D.size]
 |.fn _ _,_,_,hr=>by
  simp only[f8]at hr;obtain⟨vs,rfl,_⟩:=hr;simp[D.size]
 |.lc _ _ _,_,_,hr=>by
  simp only[f8]at hr;rcases hr.1 with⟨_,_,rfl⟩|rfl<;>simp[D.size]
def fR.length:∀{ds F cs},fR h ds F cs→cs.length=D.f6 ds
 | [],_,_,hr=>by simp[fR]at hr;simp[hr.2,D.f6]
 |d::ds,_,_,hr=>by
  simp only[fR]at hr;obtain⟨F1,F2,c1,c2,rfl,rfl,h1,h2⟩:=hr;simp[D.f6,f8.length h1,fR.length h2]
end
variable {h':ij}
mutual
def f8.frame:∀{d F cs},f8 h d F cs→(∀b∈F,h'[b]?=h[b]?)→f8 h' d F cs
 |.sc _,_,_,hr,_=>by simpa[f8]using hr
 |.ag ds,_,_,hr,hf=>by simp only[f8]at hr⊢;exact⟨hr.1,fR.frame hr.2 hf⟩
 |.jk,_,_,hr,_=>by simpa[f8]using hr
 |.ls _ _ _,_,_,hr,hf=>by
  simp only[f8]at hr⊢;rcases hr with hr|⟨b,off,cap,c,e,fr,F',h1,h2,h3,h4,h5,h6,h7,h8,h9⟩
  exact .inl hr;subst h2;exact .inr ⟨b,off,cap,c,e,fr,F',h1,rfl,h3,h4,h5,by rw[hf b (by simp)];exact h6,h7,h8,
   fR.frame h9 fun x hx=>hf x (by simp[hx])⟩
 |.pt _ _,_,_,hr,hf=>by
  simp only[f8]at hr⊢;obtain⟨b,off,c,e,fr,F',h1,h2,h3,h4,h5,h6⟩:=hr;subst h2;exact⟨b,off,c,e,fr,F',h1,rfl,h3,by rw[hf b (by simp)];exact h4,h5,f8.frame h6 fun x hx=>hf x (by simp[hx])⟩
 |.fn _ ds,_,_,hr,hf=>by
  simp only[f8]at hr⊢;obtain⟨vs,h1,h2⟩:=hr;exact⟨vs,h1,lO.frame h2 hf⟩
 |.lc _ _ _,_,_,hr,hf=>by
  simp only[f8]at hr⊢;exact⟨hr.1,f8.frame hr.2 hf⟩
def fR.frame:∀{ds F cs},fR h ds F cs→(∀b∈F,h'[b]?=h[b]?)→fR h' ds F cs
 | [],_,_,hr,_=>by simpa[fR]using hr
 |d::ds,_,_,hr,hf=>by
  simp only[fR]at hr⊢;obtain⟨F1,F2,c1,c2,rfl,rfl,h1,h2⟩:=hr;exact⟨F1,F2,c1,c2,rfl,rfl,f8.frame h1 fun x hx=>hf x (by simp[hx]),fR.frame h2 fun x hx=>hf x (by simp[hx])⟩
def lO.frame:∀{ds F vs},lO h ds F vs→(∀b∈F,h'[b]?=h[b]?)→lO h' ds F vs
 | [],_,_,hr,_=>by simpa[lO]using hr
 |d::ds,_,_,hr,hf=>by
  simp only[lO]at hr⊢;obtain⟨F1,F2,v,r,rfl,rfl,h1,h2,h3⟩:=hr;exact⟨F1,F2,v,r,rfl,rfl,f8.frame h1 fun x hx=>hf x (by simp[hx]),h2,lO.frame h3 fun x hx=>hf x (by simp[hx])⟩
end
mutual
def f8.lt:∀{d F cs},f8 h d F cs→∀b∈F,b<h.size
 |.sc _,_,_,hr=>by simp[f8]at hr;simp[hr.1]
 |.ag ds,_,_,hr=>by simp only[f8]at hr;exact fR.lt hr.2
 |.jk,_,_,hr=>by simp only[f8]at hr;simp[hr.1]
 |.ls _ _ _,_,_,hr=>by
  simp only[f8]at hr;rcases hr with⟨_,_,_,rfl,_⟩|⟨b,off,cap,c,e,fr,F',h1,rfl,h3,h4,h5,h6,h7,h8,h9⟩
  simp;intro x hx;rcases aj.1 hx with rfl|hx
  exact(bh.1 h6).1;exact fR.lt h9 x hx
 |.pt _ _,_,_,hr=>by
  simp only[f8]at hr;obtain⟨b,off,c,e,fr,F',h1,rfl,h3,h4,h5,h6⟩:=hr;intro x hx;rcases aj.1 hx with rfl|hx
  exact(bh.1 h4).1;exact f8.lt h6 x hx
 |.fn _ ds,_,_,hr=>by
  simp only[f8]at hr;obtain⟨vs,h1,h2⟩:=hr;exact lO.lt h2
 |.lc _ _ _,_,_,hr=>by
  simp only[f8]at hr;exact f8.lt hr.2
def fR.lt:∀{ds F cs},fR h ds F cs→∀b∈F,b<h.size
 | [],_,_,hr=>by simp[fR]at hr;simp[hr.1]
 |d::ds,_,_,hr=>by
  simp only[fR]at hr;obtain⟨F1,F2,c1,c2,rfl,rfl,h1,h2⟩:=hr;intro x hx;rcases ax.1 hx with hx|hx
  exact f8.lt h1 x hx;exact fR.lt h2 x hx
def lO.lt:∀{ds F vs},lO h ds F vs→∀b∈F,b<h.size
 | [],_,_,hr=>by simp[lO]at hr;simp[hr.1]
 |d::ds,_,_,hr=>by
  simp only[lO]at hr;obtain⟨F1,F2,v,r,rfl,rfl,h1,_,h2⟩:=hr;intro x hx;rcases ax.1 hx with hx|hx
  exact f8.lt h1 x hx;exact lO.lt h2 x hx
end
def fR.append{ds' F' nb}:∀{ds F cs},fR h ds F cs→fR h ds' F' nb→fR h (ds++ds') (F++F') (cs++nb)
 | [],_,_,hr,h'=>by simp[fR]at hr;simpa[hr]using h'
 |d::ds,_,_,hr,h'=>by
  simp only[fR]at hr;obtain⟨F1,F2,c1,c2,rfl,rfl,h1,h2⟩:=hr;simp only[bp,fR];exact⟨F1,F2++F',c1,c2++nb,by simp,by simp,h1,fR.append h2 h'⟩
def fR.split{ds'}:∀{ds F cs},fR h (ds++ds') F cs→∃F1 F2 c1 c2,F=F1++F2∧cs=c1++c2∧fR h ds F1 c1∧fR h ds' F2 c2
 | [],F,cs,hr=>⟨[],F,[],cs,by simp,by simp,by simp[fR],by simpa using hr⟩
 |d::ds,_,_,hr=>by
  simp only[bp,fR]at hr;obtain⟨F1,F2,c1,c2,rfl,rfl,h1,h2⟩:=hr;obtain⟨G1,G2,e1,e2,rfl,rfl,g1,g2⟩:=fR.split h2;exact⟨F1++G1,G2,c1++e1,e2,by simp,by simp,by simp only[fR];exact⟨F1,G1,c1,e1,rfl,rfl,h1,g1⟩,g2⟩
def fR.pick{ds F cs}(hr:fR h ds F cs){i:Nat}(hi:i<ds.length):
  ∃F1 F2 F3 c1 c2 c3,F=F1++(F2++F3)∧cs=c1++(c2++c3)∧fR h (ds.take i) F1 c1∧f8 h ds[i] F2 c2∧fR h (ds.drop (i+1)) F3 c3:=by
 have e:ds=ds.take i++(ds[i]::ds.drop (i+1)):=by
  rw[List.getElem_cons_drop,bw]
 have wL:=hr;rw[e]at wL;obtain⟨F1,F2,c1,c2,rfl,rfl,h1,h2⟩:=wL.split;simp only[fR]at h2;obtain⟨F3,F4,c3,c4,rfl,rfl,h3,h4⟩:=h2;exact⟨F1,F3,F4,c1,c3,c4,rfl,rfl,h1,h3,h4⟩
def D.uk(a b:List D):D.f6 (a++b)=D.f6 a+D.f6 b:=by
 induction a with
 |nil=>simp[D.f6]
 |cons x a ih=>simp[D.f6,ih];omega
def D.fG{sz:Nat}{ds:List D}(hs:∀d∈ds,d.size=sz):D.f6 ds=ds.length*sz:=by
 induction ds with
 |nil=>simp[D.f6]
 |cons x a ih=>
  have h1:=hs x (by simp);have h2:=ih fun d hd=>hs d (by simp[hd]);simp[D.f6,h1,h2,Nat.succ_mul];omega
mutual
def f8.one:∀{d F cs},f8 h d F cs→∀v∈cs,v.oneCell'=true
 |.sc _,_,_,hr=>by simp only[f8]at hr;obtain⟨_,rfl,h1⟩:=hr;simpa using h1
 |.ag ds,_,_,hr=>by simp only[f8]at hr;exact fR.one hr.2
 |.jk,_,_,hr=>by simp only[f8]at hr;obtain⟨_,v,rfl,h1⟩:=hr;simpa using h1
 |.ls _ _ _,_,_,hr=>by
  simp only[f8]at hr;rcases hr with⟨p,rfl,_⟩|⟨b,off,cap,c,e,fr,F',rfl,_⟩<;>simp[Value.oneCell']
 |.pt _ _,_,_,hr=>by
  simp only[f8]at hr;obtain⟨b,off,c,e,fr,F',rfl,_⟩:=hr;simp[Value.oneCell']
 |.fn _ _,_,_,hr=>by
  simp only[f8]at hr;obtain⟨vs,rfl,_⟩:=hr;simp[Value.oneCell']
 |.lc _ _ _,_,_,hr=>by
  simp only[f8]at hr;rcases hr.1 with⟨_,_,rfl⟩|rfl<;>simp[Value.oneCell']
def fR.one:∀{ds F cs},fR h ds F cs→∀v∈cs,v.oneCell'=true
 | [],_,_,hr=>by simp[fR]at hr;simp[hr.2]
 |d::ds,_,_,hr=>by
  simp only[fR]at hr;obtain⟨F1,F2,c1,c2,rfl,rfl,h1,h2⟩:=hr;intro v hv;rcases ax.1 hv with hv|hv
  exact f8.one h1 v hv;exact fR.one h2 v hv
end
end Go.Ax
namespace Go.Ax
open Go.RowKit (Below)
inductive MK where
 |i (n:Int)
 |s (b:ByteArray)
 |p (a b:Int)
 deriving DecidableEq,Inhabited
def MK.val:MK→Value
 |.i n=>.int .i64 n
 |.s b=>.string b
 |.p a b=>.agg #[.int .i64 a,.int .i64 b]
inductive AV where
 |im (tok:Option Nat) (d:D)
 |tr (k:Nat)
 |pw (id el j:Nat)
 |cw (id el j sz:Nat) (agg:Bool)
 |sm (id off len:Nat)
 |vb (id len:Nat)
 |sg (vs:List AV)
 |jS (vs:List AV)
 |any
 |cl (f:Nat) (vs:List AV)
 |pq (id el j gQ ic j':Nat)
 |qs (id el j gQ off len:Nat)
 |ss (id off len:Nat)
 |z0 (nn:Option Bool) (sz:Nat)
 |pb (id j:Nat)
 |ps (id:Nat)
 |mv (id:Nat)
 deriving Inhabited
inductive U where
 |own (d:D)
 |ar (ow:Bool) (nn:Option Bool) (sz:Nat) (es:List D)
 |bx (sz:Nat) (items:List AV)
 |sb (T E:Nat) (s:ByteArray)
 |mp (es:List (MK×Value))
 deriving Inhabited
structure St where
 n:Nat
 env:List (Nat×AV)
 us:List (Nat×U)
def D.at(ds:List D)(i:Nat):D:=ds.getD i default
def D.sub(d:D)(j sz:Nat)(agg:Bool):D:=
 match d with
 |.ag ds=>if agg then .ag ((ds.drop j).take sz)else ds.getD j default
 |d=>d
def D.cells:D→List D
 |.ag ds=>ds
 |d=>[d]
def D.put(usz:Nat)(d:D)(j sz:Nat)(v:D):D:=
 if j=0∧sz=usz then v else
 match d with
 |.ag ds=>.ag (ds.take j++v.cells++ds.drop (j+sz))
 |d=>d
def lk:List (Nat×AV)→Nat→AV
 | [],_=>.any
 |(k,v)::r,t=>if k=t then v else lk r t
structure Gh where
 β:Nat→Option Nat
 φ:Nat→List Nat
 root:Nat→Value
 cap:Nat→Nat
 Sh:Nat→Prop
def Gh.ok(g:Gh)(tok:Option Nat)(b:Nat):Prop:=g.Sh b∨∃k,tok=some k∧b∈g.φ k∧g.β k≠some b
def TK(s:ByteArray):List Value:=s.data.toList.map fun c=>Value.int .u8 c.toNat
def AM(h:ij)(E:Nat)(s:ByteArray)(F:List Nat)(bv:Value):Prop:=
 (bv=.slice none 0 0∧s.size=0∧F=[])∨∃g cap cur,bv=.slice (some ⟨g,0,none⟩) s.size cap∧F=[g]∧h[g]?=some (.cells cur E (0,0))∧s.size≤cap∧cap≤gp∧cur.size=cap∧cur.toList.take s.size=TK s
def wD(h:ij)(T E:Nat)(s:ByteArray)(b:Nat)(F:List Nat):Prop:=
 ∃ad bv,h[b]?=some (.cells #[ad,bv] T (0,0))∧(ad=.pointer none∨ad=.pointer (some ⟨b,0,none⟩))∧AM h E s F bv
variable {s:ByteArray}{h h':ij}{F:List Nat}{E:Nat}
def AM.frame{bv:Value}(hr:AM h E s F bv)(hf:∀x∈F,h'[x]?=h[x]?):AM h' E s F bv:=by
 rcases hr with hr|⟨g,cap,cur,h1,rfl,h3,h4⟩
 exact .inl hr;exact .inr ⟨g,cap,cur,h1,rfl,by rw[hf g (by simp)];exact h3,h4⟩
variable {T b:Nat}
def wD.frame(hr:wD h T E s b F)(hf:∀x∈b::F,h'[x]?=h[x]?):wD h' T E s b F:=by
 obtain⟨ad,bv,h1,h2,h3⟩:=hr;exact⟨ad,bv,by rw[hf b (by simp)];exact h1,h2,h3.frame fun x hx=>hf x (by simp[hx])⟩
def wD.lt(hr:wD h T E s b F):∀x∈b::F,x<h.size:=by
 obtain⟨ad,bv,h1,h2,h3⟩:=hr;intro x hx;rcases aj.1 hx with rfl|hx
 exact(bh.1 h1).1;rcases h3 with⟨_,_,rfl⟩|⟨g,cap,cur,_,rfl,h3,_⟩
 cases hx;simp only[am]at hx;subst hx;exact(bh.1 h3).1
def AM.nd{bv:Value}(hr:AM h E s F bv):F.Nodup:=by
 rcases hr with⟨_,_,rfl⟩|⟨g,cap,cur,_,rfl,_⟩<;>simp
def wD.nd(hr:wD h T E s b F):F.Nodup:=by
 obtain⟨_,_,_,_,h3⟩:=hr;exact h3.nd
def Dj(h:ij)(es:List (MK×Value))(b:Nat):Prop:=∃arr clock,h[b]?=some (.map arr clock)∧arr.toList.map (fun e=>(e.key,e.val))=es.map (fun x=>(x.1.val,x.2))∧∀x∈es,x.2.oneCell'=true
def Dj.frame{es:List (MK×Value)}(hr:Dj h es b)(hf:h'[b]?=h[b]?):Dj h' es b:=by
 obtain⟨arr,clock,h1,h2⟩:=hr;exact⟨arr,clock,by rw[hf];exact h1,h2⟩
def Dj.lt{es:List (MK×Value)}(hr:Dj h es b):b<h.size:=by
 obtain⟨arr,clock,h1,h2⟩:=hr;exact(bh.1 h1).1
mutual
def fx(h:ij)(us:List (Nat×U))(g:Gh):AV→Value→Prop
 |.im tok d,v=>∃F,f8 h d F v.cells.toList∧d.fits v∧∀b∈F,g.ok tok b
 |.tr k,v=>(∃d,(k,.own d)∈us)∧v=g.root k
 |.pw id el j,v=>∃ow nn sz es b,(id,.ar ow nn sz es)∈us∧el<es.length∧j<sz∧g.β id=some b∧v=.pointer (some ⟨b,el*sz+j,none⟩)
 | .cw id el j sz agg, v => ∃ nn usz es b c e, (id, .ar true nn usz es) ∈ us ∧ el < es.length ∧ j + sz ≤ usz ∧ g.β id = some b ∧ h[b]? = some (.cells c e (0, 0)) ∧ (agg = true → (D.at es el).fK = true) ∧
   (agg=false→sz=1)∧v.cells.toList=(c.toList.drop (el*usz+j)).take sz∧(if agg then v=.agg v.cells else v.oneCell'=true)
 | .sm id off len, v => ∃ ow nn sz es, (id, .ar ow nn sz es) ∈ us ∧ off + len ≤ es.length ∧
   ((∃b,g.β id=some b∧v=.slice (some ⟨b,off*sz,none⟩) len (g.cap id-off))∨(g.β id=none∧off=0∧len=0∧v=.slice none 0 0))
 |.vb id len,v=>∃sz items b,(id,.bx sz items)∈us∧items.length=len∧g.β id=some b∧v=.slice (some ⟨b,0,none⟩) len len
 |.sg vs,v=>∃xs,fA h us g vs xs∧v=.agg (xs.map (·.cells.toList)).flatten.toArray
 |.jS vs,v=>∃xs,v=.tuple xs∧fA h us g vs xs.toList
 |.any,_=>True
 |.cl f vs,v=>∃xs,fA h us g vs xs∧v=.func (.func f) #[] ⟨xs⟩
 | .pq id el j gQ ic j', v => ∃ ow nn usz es b c e b' off' len' cap', (id, .ar ow nn usz es) ∈ us ∧ el < es.length ∧ j + 1 ≤ usz ∧ g.β id = some b ∧ h[b]? = some (.cells c e (0, 0)) ∧
   c[el*usz+j]?=some (.slice (some ⟨b',off',none⟩) len' cap')∧v=.pointer (some ⟨b',off'+ic*gQ+j',none⟩)
 | .qs id el j gQ off len, v => ∃ ow nn usz es b c e p len' cap', (id, .ar ow nn usz es) ∈ us ∧ el < es.length ∧ j + 1 ≤ usz ∧ g.β id = some b ∧ h[b]? = some (.cells c e (0, 0)) ∧
   c[el*usz+j]?=some (.slice p len' cap')∧off+len≤len'∧off≤cap'∧v=.slice (p.map fun a=>a.add (if off=cap' then 0 else off*gQ)) len (cap'-off)
 | .ss id off len, v => ∃ ow nn sz es, (id, .ar ow nn sz es) ∈ us ∧ off + len ≤ es.length ∧
   ((∃b o,g.β id=some b∧(off<g.cap id→o=off*sz)∧v=.slice (some ⟨b,o,none⟩) len (g.cap id-off))∨(g.β id=none∧len=0∧v=.slice none 0 0))
 |.pb id j,v=>∃sz items b,(id,.bx sz items)∈us∧g.β id=some b∧v=.pointer (some ⟨b,j,none⟩)
 |.ps id,v=>∃T E s b,(id,.sb T E s)∈us∧g.β id=some b∧v=.pointer (some ⟨b,0,none⟩)
 |.mv id,v=>∃es b,(id,.mp es)∈us∧g.β id=some b∧v=.map (some b)
 |.z0 nn _,v=>∃p,v=.slice p 0 0∧(p=none→nn≠some false)∧(p.isSome=true→nn≠some true)
def fA(h:ij)(us:List (Nat×U))(g:Gh):List AV→List Value→Prop
 | [],vs=>vs=[]
 |a::as,vs=>∃v r,vs=v::r∧fx h us g a v∧fA h us g as r
end
def hP(h:ij)(us:List (Nat×U))(g:Gh)(id:Nat):U→Prop
  |.own d=>g.β id=none∧f8 h d (g.φ id) (g.root id).cells.toList∧d.fits (g.root id)
  |.ar ow nn sz es=>es.length≤gp∧(∀d∈es,d.size=sz)∧
     ((g.β id = none ∧ es = [] ∧ g.φ id = [] ∧ nn ≠ some false) ∨
      ∃b c e G cs rest,g.β id=some b∧h[b]?=some (.cells c e (0,0))∧c.toList=cs++rest∧c.size=g.cap id*sz∧es.length≤g.cap id∧
        fR h es G cs∧nn≠some true∧(if ow then g.φ id=b::G else g.φ id=[b]∧∀x∈G,g.Sh x))
  |.bx sz items=>items.length≤gp∧∃b c e vs rest,g.β id=some b∧h[b]?=some (.cells c e (0,0))∧g.φ id=[b]∧fA h us g items vs∧
      (0<sz→∀v∈vs,v.cells.size=sz)∧c.toList=(vs.map (·.cells.toList)).flatten++rest
  |.sb T E s=>∃b F,g.β id=some b∧g.φ id=b::F∧wD h T E s b F
  |.mp es=>∃b,g.β id=some b∧g.φ id=[b]∧Dj h es b
def fp(g:Gh)(us:List (Nat×U)):List Nat:=us.flatMap fun x=>g.φ x.1
def mO(h:ij)(b:Nat):Prop:=(∃c e,h[b]?=some (.cells c e (0,0)))∨∃es k,h[b]?=some (.map es k)
def mO.eq(hu:mO h b)(e:h'[b]?=h[b]?):mO h' b:=by unfold mO at*;rw[e];exact hu
def U.jL:U→Bool
 |.ar _ none _ _=>true
 |.bx _ _=>true
 |.sb _ _ _=>true
 |_=>false
def U.lg{ow:Bool}{nn:Option Bool}{sz:Nat}{es:List D}:(U.ar ow nn sz es).jL=true↔nn=none:=by cases nn<;>simp[U.jL]
def la(n0:Nat)(M0:Nat→Prop)(us:List (Nat×U))(g:Gh):Prop:=
 ∀k v,k<8→(∃u:U,(3000000000+k,u)∈us∧u.jL=true)→
  (M0 (n0+(16*v+k))→g.β (3000000000+k)=some v)∧(M0 (n0+(16*v+(8+k)))→g.β (3000000000+k)≠none→g.cap (3000000000+k)=v)
variable {g:Gh}{us:List (Nat×U)}{n0:Nat}{M0:Nat→Prop}
def la.mono{us':List (Nat×U)}{g':Gh}(h:la n0 M0 us g)
  (H:∀i (u:U),(i,u)∈us'→u.jL=true→(∃u:U,(i,u)∈us∧u.jL=true)∧g'.β i=g.β i∧g'.cap i=g.cap i):la n0 M0 us' g':=by
 intro k v hk ⟨u,hm,hp⟩;obtain⟨h1,h2,h3⟩:=H _ _ hm hp;rw[h2,h3];exact h k v hk h1
def qf(n0:Nat)(M0:Nat→Prop)(n:Nat)(β:Option Nat)(cap:Nat):Prop:=
 ∀k v,k<8→n=3000000000+k→(M0 (n0+(16*v+k))→β=some v)∧(M0 (n0+(16*v+(8+k)))→β≠none→cap=v)
variable {n:Nat}
def qf.low{β:Option Nat}{cap:Nat}(h:n<3000000000):qf n0 M0 n β cap:=fun k v _ e=>by omega
variable {u:U}
def la.at(h:la n0 M0 us g)(hm:(n,u)∈us)(hp:u.jL=true):qf n0 M0 n (g.β n) (g.cap n):=by
 rintro k v hk rfl;exact h k v hk ⟨u,hm,hp⟩
variable {g':Gh}
def la.app{nus:List (Nat×U)}(h:la n0 M0 us g)(hn:∀x∈nus,x.2.jL=true→x.1<3000000000)(hg:∀x∈us,g'.β x.1=g.β x.1∧g'.cap x.1=g.cap x.1):la n0 M0 (nus++us) g':=by
 rintro k v hk ⟨u,hm,hp⟩;rcases ax.1 hm with hm|hm
 have:=hn _ hm hp;simp only at this;omega;have:=hg _ hm;simp only at this;rw[this.1,this.2];exact h k v hk ⟨u,hm,hp⟩
def la.cons{g':Gh}{u:U}(h:la n0 M0 us g)(hn:n∉us.map (·.1))
  (hg:∀i,i≠n→g'.β i=g.β i∧g'.cap i=g.cap i) (hp:u.jL=true→qf n0 M0 n (g'.β n) (g'.cap n)):la n0 M0 ((n,u)::us) g':=by
 intro k v hk ⟨u',hm,hpu⟩;rcases aj.1 hm with e|hm
 ·injection e with e1 e2;rw[e1];exact hp (e2▸hpu) k v hk e1.symm
 have gw:3000000000+k≠n:=fun e=>hn (e▸aR.2 ⟨_,hm,rfl⟩);rw[(hg _ gw).1,(hg _ gw).2];exact h k v hk ⟨u',hm,hpu⟩
structure gr (h:ij) (n0:Nat) (S0 M0:Nat→Prop) (us:List (Nat×U)) (g:Gh):Prop where
 keys:(us.map (·.1)).Nodup
 nodup:(fp g us).Nodup
 lt:∀b∈fp g us,b<h.size
 low:∀b∈fp g us,b<n0→M0 b
 dead:∀k,k∉us.map (·.1)→g.φ k=[]
 sh:∀b,g.Sh b→b<h.size∧(b<n0→S0 b)∧b∉fp g us
 each:∀x∈us,hP h us g x.1 x.2
 fz:∀b∈fp g us,mO h b
 ww:la n0 M0 us g
structure ju (n0:Nat) (S0 M0:Nat→Prop) (w0:World) (st:St) (a:Act) (w:World):Prop where
 ms:∀b,b<n0→M0 b→S0 b
 mS:a.defers=[]
 tm:a.tmps.size=st.n
 base:n0=w0.heap.size
 os:w.os=w0.os
 tape:w.tape=w0.tape
 output:w.output=w0.output
 size:w0.heap.size≤w.heap.size
 iD:∀b,b<n0→¬M0 b→w.heap[b]?=w0.heap[b]?
 gh:∃g,gr w.heap n0 S0 M0 st.us g∧∀t,fx w.heap st.us g (lk st.env t) (a.tmps.getD t undef)
def fL:b∈fp g us↔∃x∈us,b∈g.φ x.1:=by simp[fp]
def gK(hk:(us.map (·.1)).Nodup)(hn:(fp g us).Nodup){x y:Nat×U}(hx:x∈us)(hy:y∈us){b:Nat}
  (bx:b∈g.φ x.1) (by_:b∈g.φ y.1):x.1=y.1:=by
 induction us with
 |nil=>cases hx
 |cons z us ih=>
  simp only[lC,aP]at hk;simp only[fp,cp,aT]at hn;obtain⟨_,hn2,hn3⟩:=hn;rcases aj.1 hx with e1|hx<;>rcases aj.1 hy with e2|hy
  ·rw[e1,e2]
  exact absurd rfl (hn3 b (e1▸bx) b (fL.2 ⟨_,hy,by_⟩));exact absurd rfl (hn3 b (e2▸by_) b (fL.2 ⟨_,hx,bx⟩));exact ih hk.2 hn2 hx hy
def hP.iZ{id:Nat}(hu:hP h us g id u)(hb:g.β id=some b):b∈g.φ id:=by
 cases u with
 |own d=>simp[hP,hb]at hu
 |ar ow nn sz es=>
  simp only[hP]at hu;rcases hu.2.2 with⟨h0,_⟩|⟨b',c,e,G,cs,rest,h1,_,_,_,_,_,_,h7⟩
  simp[hb]at h0;rw[hb]at h1;obtain rfl:=aQ h1
  split at h7;simp[h7];simp[h7.1]
 |bx sz items=>
  simp only[hP]at hu;obtain⟨_,b',c,e,vs,rest,h1,_,h3,_⟩:=hu;rw[hb]at h1;obtain rfl:=aQ h1;simp[h3]
 |sb T E s=>
  simp only[hP]at hu;obtain⟨b',F,h1,h3,_⟩:=hu;rw[hb]at h1;obtain rfl:=aQ h1;simp[h3]
 |mp es=>
  simp only[hP]at hu;obtain⟨b',h1,h3,_⟩:=hu;rw[hb]at h1;obtain rfl:=aQ h1;simp[h3]
def gr.uniq{n0 S0 M0 us g}(hu:gr h n0 S0 M0 us g){id:Nat}{v:U}(h1:(id,u)∈us)(h2:(id,v)∈us):u=v:=by
 have hk:=hu.keys;clear hu
 induction us with
 |nil=>cases h1
 |cons z us ih=>
  simp only[lC,aP]at hk;rcases aj.1 h1 with e1|h1<;>rcases aj.1 h2 with e2|h2
  rw[←e1]at e2;injection e2 with _ e2;exact e2.symm;exact absurd (aR.2 ⟨_,h2,rfl⟩) (by rw[←e1]at hk;exact hk.1);exact absurd (aR.2 ⟨_,h1,rfl⟩) (by rw[←e2]at hk;exact hk.1);exact ih h1 h2 hk.2
def gr.live{n0 S0 M0 us g}(hu:gr h n0 S0 M0 us g){k:Nat}(hb:b∈g.φ k):∃u,(k,u)∈us:=by
 rcases Classical.em (k∈us.map (·.1))with h1|h1
 obtain⟨x,hx,rfl⟩:=aR.1 h1;exact⟨x.2,hx⟩;rw[hu.dead k h1]at hb;cases hb
def gr.VF{n0 S0 M0 us g}(hu:gr h n0 S0 M0 us g){tok:Option Nat}(hb:g.ok tok b)
  {id:Nat} {u:U} (ku:(id,u)∈us) {b0:Nat} (h0:g.β id=some b0):b≠b0:=by
 rintro rfl;have hm:=(hu.each _ ku).iZ h0;rcases hb with hb|⟨k,rfl,hk,gw⟩
 exact(hu.sh b hb).2.2 (fL.2 ⟨_,ku,hm⟩);obtain⟨u',rN⟩:=hu.live hk;have:=gK hu.keys hu.nodup rN ku hk hm;simp only at this;subst this;exact gw h0
variable {us':List (Nat×U)}
mutual
def fx.mono{g g':Gh}(hu:∀x∈us,x∈us')(hh:∀b,b<h.size→h'[b]?=h[b]?)
  (hβ:∀x∈us,g'.β x.1=g.β x.1∧g'.root x.1=g.root x.1∧g'.cap x.1=g.cap x.1) (i9:∀t b,b<h.size→g.ok t b→g'.ok t b):
  ∀{a:AV} {v:Value},fx h us g a v→fx h' us' g' a v
 |.im t d,v,hr=>by
  simp only[fx]at hr⊢;obtain⟨F,h1,h2,h3⟩:=hr;exact⟨F,h1.frame fun b hb=>hh b (h1.lt b hb),h2,fun b hb=>i9 t b (h1.lt b hb) (h3 b hb)⟩
 |.tr k,v,hr=>by
  simp only[fx]at hr⊢;obtain⟨⟨d,hd⟩,hv⟩:=hr;exact⟨⟨d,hu _ hd⟩,by rw[(hβ _ hd).2.1];exact hv⟩
 |.pw id el j,v,hr=>by
  simp only[fx]at hr⊢;obtain⟨ow,nn,sz,es,b,h1,h2,h3,h4,h5⟩:=hr;exact⟨ow,nn,sz,es,b,hu _ h1,h2,h3,by rw[(hβ _ h1).1];exact h4,h5⟩
 |.cw id el j sz agg,v,hr=>by
  simp only[fx]at hr⊢;obtain⟨nn,usz,es,b,c,e,h1,h2,h3,h4,h5,h6⟩:=hr;exact⟨nn,usz,es,b,c,e,hu _ h1,h2,h3,by rw[(hβ _ h1).1];exact h4,by rw[hh b (bh.1 h5).1];exact h5,h6⟩
 |.sm id off len,v,hr=>by
  simp only[fx]at hr⊢;obtain⟨ow,nn,sz,es,h1,h2,h3⟩:=hr;refine⟨ow,nn,sz,es,hu _ h1,h2,?_⟩;rw[(hβ _ h1).1,(hβ _ h1).2.2];exact h3
 |.vb id len,v,hr=>by
  simp only[fx]at hr⊢;obtain⟨sz,items,b,h1,h2,h3,h4⟩:=hr;exact⟨sz,items,b,hu _ h1,h2,by rw[(hβ _ h1).1];exact h3,h4⟩
 |.sg vs,v,hr=>by
  simp only[fx]at hr⊢;obtain⟨xs,h1,h2⟩:=hr;exact⟨xs,fA.mono hu hh hβ i9 h1,h2⟩
 |.jS vs,v,hr=>by
  simp only[fx]at hr⊢;obtain⟨xs,h1,h2⟩:=hr;exact⟨xs,h1,fA.mono hu hh hβ i9 h2⟩
 |.any,_,_=>by simp[fx]
 |.cl f vs,v,hr=>by
  simp only[fx]at hr⊢;obtain⟨xs,h1,h2⟩:=hr;exact⟨xs,fA.mono hu hh hβ i9 h1,h2⟩
 |.pq id el j gQ ic j',v,hr=>by
  simp only[fx]at hr⊢;obtain⟨ow,nn,usz,es,b,c,e,b',off',len',cap',h1,h2,h3,h4,h5,h6⟩:=hr;exact⟨ow,nn,usz,es,b,c,e,b',off',len',cap',hu _ h1,h2,h3,by rw[(hβ _ h1).1];exact h4,by rw[hh b (bh.1 h5).1];exact h5,h6⟩
 |.qs id el j gQ off len,v,hr=>by
  simp only[fx]at hr⊢;obtain⟨ow,nn,usz,es,b,c,e,p,len',cap',h1,h2,h3,h4,h5,h6⟩:=hr;exact⟨ow,nn,usz,es,b,c,e,p,len',cap',hu _ h1,h2,h3,by rw[(hβ _ h1).1];exact h4,by rw[hh b (bh.1 h5).1];exact h5,h6⟩
 |.ss id off len,v,hr=>by
  simp only[fx]at hr⊢;obtain⟨ow,nn,sz,es,h1,h2,h3⟩:=hr;refine⟨ow,nn,sz,es,hu _ h1,h2,?_⟩;rw[(hβ _ h1).1,(hβ _ h1).2.2];exact h3
 |.z0 nn _,v,hr=>by simpa[fx]using hr
 |.pb id j,v,hr=>by
  simp only[fx]at hr⊢;obtain⟨sz,items,b,h1,h3,h4⟩:=hr;exact⟨sz,items,b,hu _ h1,by rw[(hβ _ h1).1];exact h3,h4⟩
 |.ps id,v,hr=>by
  simp only[fx]at hr⊢;obtain⟨T,E,s,b,h1,h3,h4⟩:=hr;exact⟨T,E,s,b,hu _ h1,by rw[(hβ _ h1).1];exact h3,h4⟩
 |.mv id,v,hr=>by
  simp only[fx]at hr⊢;obtain⟨es,b,h1,h3,h4⟩:=hr;exact⟨es,b,hu _ h1,by rw[(hβ _ h1).1];exact h3,h4⟩
def fA.mono{g g':Gh}(hu:∀x∈us,x∈us')(hh:∀b,b<h.size→h'[b]?=h[b]?)
  (hβ:∀x∈us,g'.β x.1=g.β x.1∧g'.root x.1=g.root x.1∧g'.cap x.1=g.cap x.1) (i9:∀t b,b<h.size→g.ok t b→g'.ok t b):
  ∀{as:List AV} {vs:List Value},fA h us g as vs→fA h' us' g' as vs
 | [],_,hr=>by simpa[fA]using hr
 |a::as,vs,hr=>by
  simp only[fA]at hr⊢;obtain⟨v,r,h1,h2,h3⟩:=hr;exact⟨v,r,h1,fx.mono hu hh hβ i9 h2,fA.mono hu hh hβ i9 h3⟩
end
def hP.mono{g g':Gh}{id:Nat}(hm:(id,u)∈us)(hu:∀x∈us,x∈us')(hh:∀b,b<h.size→h'[b]?=h[b]?)
  (hβ:∀x∈us,g'.β x.1=g.β x.1∧g'.root x.1=g.root x.1∧g'.cap x.1=g.cap x.1) (hφ:g'.φ id=g.φ id) (hS:∀b,b<h.size→g.Sh b→g'.Sh b)
  (i9:∀t b,b<h.size→g.ok t b→g'.ok t b) (ho:hP h us g id u):hP h' us' g' id u:=by
 obtain⟨e1,e2,e3⟩:=hβ _ hm;simp only at e1 e2 e3;cases u with
 |own d=>
  simp only[hP]at ho⊢;obtain⟨h1,h2,h3⟩:=ho;rw[e1,e2,hφ];exact⟨h1,h2.frame fun b hb=>hh b (h2.lt b hb),h3⟩
 |ar ow nn sz es=>
  simp only[hP]at ho⊢;rw[e1,e3,hφ];obtain⟨h1,h2,h3⟩:=ho;refine⟨h1,h2,?_⟩;rcases h3 with h3|⟨b,c,e,G,cs,rest,k1,k2,k3,k4,k5,k6,k7,k8⟩
  exact .inl h3;refine .inr ⟨b,c,e,G,cs,rest,k1,by rw[hh b (bh.1 k2).1];exact k2,k3,k4,k5,k6.frame fun x hx=>hh x (k6.lt x hx),k7,?_⟩;cases ow
  ·simp only[kY,aH]at k8⊢;exact⟨k8.1,fun x hx=>hS x (k6.lt x hx) (k8.2 x hx)⟩
  simpa using k8
 |bx sz items=>
  simp only[hP]at ho⊢;rw[e1,hφ];obtain⟨h1,b,c,e,vs,rest,k1,k2,k3,k4,k5⟩:=ho;exact⟨h1,b,c,e,vs,rest,k1,by rw[hh b (bh.1 k2).1];exact k2,k3,fA.mono hu hh hβ i9 k4,k5⟩
 |sb T E s=>
  simp only[hP]at ho⊢;rw[e1,hφ];obtain⟨b,F,k1,k2,k3⟩:=ho;exact⟨b,F,k1,k2,k3.frame fun x hx=>hh x (k3.lt x hx)⟩
 |mp es=>
  simp only[hP]at ho⊢;rw[e1,hφ];obtain⟨b,k1,k2,k3⟩:=ho;exact⟨b,k1,k2,k3.frame (hh b k3.lt)⟩
end Go.Ax
namespace Go.Ax
inductive X where
 |t (n:Nat)
 |c (d:D)
 deriving Inhabited
inductive lz where
 |mv (d:Nat) (x:X)
 |pick (d:Nat) (c a b:X)
 |box (d sz:Nat) (x:X)
 |zer (d sz:Nat) (z:D)
 |ld (d:Nat) (agg:Bool) (sz:Nat) (a:X)
 |st (sz:Nat) (a x:X)
 |nck (d:Nat) (x:X)
 |bin (d:Nat) (op:BinOp) (x y:X)
 |beq (d:Nat) (neg:Bool) (x y:X)
 |snil (d:Nat) (neg:Bool) (x y:X)
 |ceq (d:Nat) (neg:Bool) (n:Nat) (x y:X)
 |un (d:Nat) (op:UnOp) (x:X)
 |cvt (d:Nat) (k:IntKind) (x:X)
 |mk (d sz bytes:Nat) (z:D) (l c:X)
 |slc (d sz:Nat) (x:X) (lo hi:Option X)
 |fa (d off:Nat) (x:X)
 |fl (d off sz:Nat) (agg:Bool) (x:X)
 |ia (d sz:Nat) (x i:X)
 |ix (d:Nat) (x i:X)
 |len (d:Nat) (x:X)
 |slen (d:Nat) (x:X)
 |sls (d:Nat) (x:X) (lo hi:Option X)
 |app (d sz bytes:Nat) (x y:X)
 |call (d:Option Nat) (f:Nat) (args:List X)
 |calv (d:Option Nat) (f:X) (args:List X)
 |ext (d:Nat) (x:X) (i:Nat)
 |bs (d sz:Nat) (z:D) (len:Nat) (parts:List (Nat×X))
 |bld (d:Nat) (z:D) (parts:List (Nat×Nat×X))
 |Eg (d f:Nat) (x y:X)
 |cls (d f:Nat) (x:X) (args:List X)
 |mkf (d f:Nat) (args:List X)
 |s30 (d sz:Nat) (x:X)
 |Uy (d:Option Nat) (sz:Nat) (x y:X)
 |ZO (d:Option Nat) (f:Nat) (args:List X)
 |GC (d:Option Nat) (f:X) (args:List X)
 |mxm (d:Nat) (mx:Bool) (x y:X)
 |bse (d sz:Nat)
 |ape (d sz bytes:Nat) (x y:X)
 |zsb (d T E:Nat)
 |ZP (d:Option Nat) (f:Nat) (x:X) (args:List X)
 |K6 (d f:Nat) (x:X)
 |cvs (d:Nat) (x:X)
 |VG (d sz bytes:Nat) (x y:X)
 |VH (sz:Nat) (a x:X)
 |VI (d:Option Nat) (f:Nat) (args:List X)
 |ZQ (d sz len:Nat) (ps:List (Nat×X))
 |mkm (d:Nat)
 |lku (d:Nat) (kk:Nat) (ok:Bool) (z:Value) (m k:X)
 |ZR (kk:Nat) (m k v:X)
 |mln (d:Nat) (m:X)
 |other (o:Oper)
 deriving Inhabited
def lz.dst:lz→Option Nat
 |.mv d _|.pick d _ _ _|.box d _ _|.zer d _ _|.ld d _ _ _|.nck d _|.bin d _ _ _|.beq d _ _ _|.snil d _ _ _|.ceq d _ _ _ _|.un d _ _|.cvt d _ _|.mk d _ _ _ _ _|.slc d _ _ _ _
 |.fa d _ _|.fl d _ _ _ _|.ia d _ _ _|.ix d _ _|.len d _|.slen d _|.sls d _ _ _|.app d _ _ _ _|.ext d _ _|.bs d _ _ _ _|.bld d _ _|.Eg d _ _ _|.cls d _ _ _|.mkf d _ _|.s30 d _ _|.mxm d _ _ _|.bse d _|.ape d _ _ _ _|.cvs d _|.zsb d _ _|.K6 d _ _|.VG d _ _ _ _|.ZQ d _ _ _|.mkm d|.lku d _ _ _ _ _|.mln d _=>some d
 |.call d _ _|.calv d _ _|.Uy d _ _ _|.ZO d _ _|.GC d _ _|.ZP d _ _ _=>d
 |.VI d _ _=>d
 |.st .. |.VH .. |.ZR .. =>none
 |.other o=>o.dst
structure RO where
 g:Option (Nat×Bool)
 op:lz
 deriving Inhabited
inductive Tr where
 |br (l:List (Nat×Tr))
 deriving Inhabited
inductive KA where
 |br (cs:List lz) (l:List (RO×KA))
 deriving Inhabited
def Ng(W:Nat→List Nat)(m:Nat):Nat→List Nat→Tr
 |0,_=>.br []
 |n+1,X=>.br (((List.range m).filter fun i=>!X.contains i&&(W i).all X.contains).map fun i=>(i,Ng W m n (i::X)))
inductive PO where
 |q (r:RO)
 |a (d sz bytes x y:Nat)
 deriving Inhabited
inductive RC where
 |skip
 |gt (draw:Bool) (ops:List RO)
 |adv (N:List RO) (E:List (List lz×RO))
 |O7 (R:List RO) (T:Tr)
 |ZS (N:List RO) (T:KA)
 |ZT (N:List PO) (E:List RO)
 |seq (a b:RC)
 |cond (x:X) (a b:RC)
 |iV (id:Nat) (c:RC)
 |loop (c:RC)
 |exit (id:Nat)
 |ret
 |other (c:Code)
 deriving Inhabited
def tI(P:Program):Nat→TypeId→List Nat
 |0,_=>[]
 |n+1,t=>
  match P.underlying t with
  |some (.struct fs)=>(fs.toList.map fun f=>tI P n f.type).flatten
  |some (.array k e)=>(List.replicate k (tI P n e)).flatten
  |some (.slice e)=>[((P.info? e).map (·.size)).getD 0]
  |_=>[0]
def sn(v:Value)(sz:Nat):D:=
 match v with
 |.slice none 0 0=>.ls (some true) sz []
 |v=>.sc v
def A9(P:Program)(t:TypeId)(v:Value):Option D:=
 let s:=tI P 20 t
 match v with
 |.agg cs=>if s.length=cs.size&&cs.all (·.oneCell')then some (.ag (List.zipWith sn cs.toList s))else none
 |v=>if v.oneCell' then some (sn v (s.headD 0))else none
def fY(P:Program)(t:TypeId):Operand→Option X
 |.tmp n=>some (.t n)
 |.const v=>(A9 P t v).map .c
 |.global g=>some (.c (.sc (.pointer (some ⟨g,0,none⟩))))
 |.func f=>some (.c (.sc (.func (.func f) #[] #[])))
def mL(P:Program)(t:TypeId):Option Bool:=
 match P.underlying t with
 |some (.struct _)|some (.array _ _)=>some true
 |some _=>some false
 |none=>none
def io(P:Program)(t:TypeId):Option Nat:=(P.info? t).map (·.size)
def iI(P:Program)(t:TypeId):Option D:=
 match P.info? t with
 |some i=>match i.zero with
  |some z=>if z.cells.size=i.size then A9 P t z else none
  |none=>none
 |none=>none
def pN(P:Program)(t:TypeId):Option TypeId:=
 match P.underlying t with
 |some (.slice e)=>some e
 |_=>none
def tB(P:Program):Nat→List Field→Bool
 |_,[]=>true
 | i, f :: fs => f.name != "_" && f.offset == i && io P f.type == some 1 && mL P f.type == some false && (match P.underlying f.type with | some (.int _) => true | _ => false) && tB P (i + 1) fs
def G3(P:Program)(t:TypeId)(fs:Array Field):Bool:=!P.stoodInHeld t&& !P.eqGuardType P.depth t&&tB P 0 fs.toList
def JB : List String := ["loop.example/g01101/laws.markAutomaton", "loop.example/g01101/laws.markBoolS", "loop.example/g01101/laws.markBoolSS", "loop.example/g01101/laws.markBoolSSS", "loop.example/g01101/laws.markCosts", "loop.example/g01101/laws.markEquation", "loop.example/g01101/laws.markExpr", "loop.example/g01101/laws.markExprS", "loop.example/g01101/laws.markFlow", "loop.example/g01101/laws.markInt64S", "loop.example/g01101/laws.markInt64SS", "loop.example/g01101/laws.markInt64SSS", "loop.example/g01101/laws.markModel", "loop.example/g01101/laws.markProg", "loop.example/g01101/laws.markProgS", "loop.example/g01101/laws.markSpotS", "loop.example/g01101/laws.markWord", "loop.example/g01101/laws.markPair", "loop.example/g01101/laws.markPairS", "loop.example/g01101/laws.markProof", "loop.example/g01101/laws.markClaim", "loop.example/g01101/laws.markClaimS", "loop.example/g01101/laws.markProofStepS", "loop.example/g01101/laws.markWordS", "loop.example/g01101/laws.markWorld", "loop.example/g01101/laws.markWorldS", "loop.example/g01101/laws.markSpot"]
def XR(P:Program)(f:Nat):Bool:=match P.funcs[f]? with|some fn=>JB.any (fun s=>s==fn.name)|none=>false
def M9 : List String := ["loop.example/g01101/spec.l04At"]
def abx(P:Program)(f:Nat):Bool:=match P.funcs[f]? with|some fn=>M9.any (fun s=>s==fn.name)|none=>false
def O3 : List String := ["loop.example/g01101/spec.l06Add", "loop.example/g01101/spec.l06Make", "loop.example/g01101/spec.l06Sites", "loop.example/g01101/impl.sites", "loop.example/g01101/spec.l04Put", "loop.example/g01101/spec.l04Top", "loop.example/g01101/spec.l04Bind", "loop.example/g01101/spec.l01DrawSig", "loop.example/g01101/spec.l01Drawn", "loop.example/g01101/spec.l01Put", "loop.example/g01101/spec.l01List", "loop.example/g01101/spec.l01Spoil", "loop.example/g01101/spec.l01DrawWord", "loop.example/g01101/spec.l01Fitting", "loop.example/g01101/spec.l02Summands", "loop.example/g01101/spec.l02Random", "loop.example/g01101/spec.l03Varied", "loop.example/g01101/spec.l05Draw", "loop.example/g01101/spec.l05DrawCosts", "loop.example/g01101/spec.l05Order", "loop.example/g01101/spec.l05DrawPoints", "loop.example/g01101/spec.l05For", "(*loop.example/g01101/spec.l00Src).next", "(*loop.example/g01101/spec.l00Src).pick", "(*loop.example/g01101/spec.l00Src).one", "(*loop.example/g01101/spec.l00Src).among", "(*loop.example/g01101/spec.l00Src).text", "(*loop.example/g01101/spec.l00Src).word", "(*loop.example/g01101/spec.l01Gen).leaf", "(*loop.example/g01101/spec.l01Gen).expr", "(*loop.example/g01101/spec.l04Fit).fit", "(*loop.example/g01101/impl.Flow).add", "(*loop.example/g01101/impl.Flow).make", "slices.Sort[[]int64,int64]"]
def ME : List String := ["loop.example/g01101/impl.writeExpr", "(*strings.Builder).WriteString"]
def Np : List String := ["(*strings.Builder).String"]
def acA(P:Program)(f:Nat):Bool:=match P.funcs[f]? with|some fn=>ME.any (fun s=>s==fn.name)|none=>false
def aa7(P:Program)(f:Nat):Bool:=match P.funcs[f]? with|some fn=>Np.any (fun s=>s==fn.name)|none=>false
def Th : List String := ["loop.example/g01101/impl.table[bool]"]
inductive Wv where
 |no
 |yes
 |ap
 |sh
 |sb
 deriving Inhabited
def Wv.cl:Wv→Bool
 |.yes=>true
 |_=>false
def t6:Wv→Nat→Nat→Nat→X→X→lz
 |.ap,d,s,b,x,y=>.ape d s b x y
 |.sh,d,s,b,x,y=>.VG d s b x y
 |.sb,d,s,b,x,y=>if s=3 then .VG d s b x y else .app d s b x y
 |.no,d,s,b,x,y=>.app d s b x y
 |.yes,d,s,b,x,y=>.app d s b x y
def af2:Wv→Nat→X→X→lz
 |.sh=>.VH
 |.sb=>.VH
 |_=>.st
def abg:Wv→Option Nat→Nat→List X→lz
 |.sh=>.VI
 |.sb=>.VI
 |_=>.ZO
def Wv.sh?:Wv→Bool
 |.sh=>true
 |.sb=>true
 |_=>false
def Tf : List String := ["loop.example/g01101/spec.l02Sorted", "loop.example/g01101/spec.l02Step"]
def ac5:Wv→Option Nat→X→List X→lz
 |.yes=>.GC
 |_=>.calv
def yc:Wv→Nat→Nat→D→Nat→List (Nat×X)→lz
 |.ap,d,sz,_,0,[]=>.bse d sz
 |.sb,d,3,_,l,ps=>.ZQ d 3 l ps
 |_,d,sz,z,l,ps=>.bs d sz z l ps
def OK(P:Program)(e:TypeId):Bool:=match P.underlying e with
 |some (.int k)=>k==.u8
 |_=>false
def acG(P:Program)(wv:Wv)(f:Nat):Bool:=match P.funcs[f]? with|some fn=>O3.any (fun s=>s==fn.name)||(wv.cl&&Th.any (fun s=>s==fn.name))||(wv.sh?&&Tf.any (fun s=>s==fn.name))|none=>false
def ny(P:Program)(K:TypeId):Option Nat:=
 match P.underlying K with
 |some (.int k)=>if k==.i64 then some 0 else none
 |some .string=>some 1
 |some (.array n e)=>if n==2&&io P e==some 1&&(match P.underlying e with|some (.int k)=>k==.i64|_=>false)then some 2 else none
 |_=>none
def DR(P:Program)(E:TypeId):Option Value:=
 match iI P E with
 |some (.sc v)=>if v.oneCell' then some v else none
 |_=>none
def sX:Operand→Option Nat
 |.const (.int .i64 n)=>if 0≤n then some n.toNat else none
 |_=>none
def Km:Operand→Bool
 |.const (.int .i64 n)=>n==0
 |_=>false
def Ak:Option Value→Bool
 |some (.agg cs)=>(match cs.toList with
  | [.pointer none,.slice none l c]=>l==0&&c==0
  |_=>false)
 |_=>false
def YI(P:Program)(e:TypeId):Option TypeId:=
 match P.underlying e,P.info? e with
 |some (.struct fs),some i=>(match fs.toList with
  | [f0,f1]=>(match P.underlying f0.type,P.underlying f1.type with
   |some (.pointer t),some (.slice E)=>if(t==e&&OK P E&&Ak i.zero)=true then some E else none
   |_,_=>none)
  |_=>none)
 |_,_=>none
def sa(P:Program)(d:Nat)(e:TypeId):Option lz:=
 match YI P e with
 |some E=>some (.zsb d e E)
 |none=>do pure (.zer d (←io P e) (←iI P e))
def oI(P:Program)(wv:Wv)(n:Nat)(o:Oper):Option lz:=do
  match o.op with
  |.move x|.assign x=>let d←o.dst;guard (d<n);pure (.mv d (←fY P o.type x))
  |.pick c a b=>let d←o.dst;guard (d<n);pure (.pick d (←fY P 0 c) (←fY P o.type a) (←fY P o.type b))
  |.box e x=>let d←o.dst;guard (d<n);pure (.box d (←io P e) (←fY P e x))
  |.alloc e=>let d←o.dst;guard (d<n);sa P d e
  |.load t a=>let d←o.dst;guard (d<n);let s←io P t;let g←mL P t;guard (g||s==1);pure (.ld d g s (←fY P 0 a))
  |.store t a x=>guard o.dst.isNone;pure (af2 wv (←io P t) (←fY P 0 a) (←fY P t x))
  |.nilCheck x=>let d←o.dst;guard (d<n);pure (.nck d (←fY P o.type x))
  | .binOp op t x y u => let d ← o.dst; guard (d < n)
                         match op,P.underlying t with
                         |_,some (.int _)|_,some .string=>pure (.bin d op (←fY P t x) (←fY P u y))
                         |.eql,some .bool=>pure (.beq d false (←fY P t x) (←fY P u y))
                         |.neq,some .bool=>pure (.beq d true (←fY P t x) (←fY P u y))
                         |.eql,some (.slice _)=>pure (.snil d false (←fY P t x) (←fY P u y))
                         |.neq,some (.slice _)=>pure (.snil d true (←fY P t x) (←fY P u y))
                         |.eql,some (.struct fs)=>if G3 P t fs then pure (.ceq d false fs.size (←fY P t x) (←fY P u y))else pure (.other o)
                         |.neq,some (.struct fs)=>if G3 P t fs then pure (.ceq d true fs.size (←fY P t x) (←fY P u y))else pure (.other o)
                         |_,_=>pure (.other o)
  |.unOp op t x=>let d←o.dst;guard (d<n);pure (.un d op (←fY P t x))
  | .convert s t x => let d ← o.dst; guard (d < n)
                      match P.underlying s,P.underlying t with
                      |some (.int _),some (.int k)=>pure (.cvt d k (←fY P s x))
                      |some (.slice e),some .string=>if OK P e then pure (.cvs d (←fY P s x))else pure (.other o)
                      |_,_=>pure (.other o)
  |.makeSlice t l c=>let d←o.dst;guard (d<n);let e←pN P t;let i←P.info? e;pure (.mk d i.size i.bytes (←iI P e) (←fY P 0 l) (←fY P 0 c))
  | .slice t x lo hi none => let d ← o.dst; guard (d < n)
                             let lo←(match lo with|some y=>(fY P 0 y).map some|none=>some none)
                             let hi←(match hi with|some y=>(fY P 0 y).map some|none=>some none)
                             match P.underlying t with
                             |some (.slice e)=>pure (.slc d (←io P e) (←fY P t x) lo hi)
                             |some .string=>pure (.sls d (←fY P t x) lo hi)
                             |_=>pure (.other o)
  | .slice t x lo hi (some mx) =>
    let d←o.dst;guard (d<n)
    match P.underlying t,lo with
    |some (.slice e),none=>if(hi.map Km).getD false&&Km mx then pure (.s30 d (←io P e) (←fY P t x))else pure (.other o)
    |_,_=>pure (.other o)
  | .makeFunc fn first captured =>
    let d←o.dst;guard (d<n)
    match fn,first.toList with
    |.func f,[]=>pure (.mkf d f (←captured.toList.mapM fun x=>fY P 0 x))
    |_,_=>pure (.other o)
  | .fieldAddr t x k => let d ← o.dst; guard (d < n)
                        match P.underlying t with
                        |some (.struct fs)=>let f←fs[k]?;guard ((←io P f.type) !=0);pure (.fa d f.offset (←fY P 0 x))
                        |_=>none
  | .field t x k => let d ← o.dst; guard (d < n)
                    match P.underlying t with
                    |some (.struct fs)=>let f←fs[k]?;let s←io P f.type;let g←mL P f.type;guard (g||s==1);pure (.fl d f.offset s g (←fY P t x))
                    |_=>none
  | .indexAddr t x i => let d ← o.dst; guard (d < n)
                        match P.underlying t with
                        |some (.slice e)=>pure (.ia d (←io P e) (←fY P t x) (←fY P 0 i))
                        | some (.array n e) => match sX i with
                          |some k=>if k<n then do let s←io P e;guard (s !=0);pure (.fa d (k*s) (←fY P 0 x))else pure (.other o)
                          |none=>pure (.other o)
                        |_=>pure (.other o)
  | .index t x i => let d ← o.dst; guard (d < n)
                    match P.underlying t with
                    |some .string=>pure (.ix d (←fY P t x) (←fY P 0 i))
                    |_=>pure (.other o)
  |.extract x i=>let d←o.dst;guard (d<n);pure (.ext d (←fY P 0 x) i)
  | .buildSlice t l ps => let d ← o.dst; guard (d < n); let e ← pN P t; let s ← io P e
                          pure (yc wv d s (←iI P e) l (←ps.toList.mapM fun(i,x)=>do pure (i,←fY P e x)))
  | .build t ps => let d ← o.dst; guard (d < n)
                   match P.underlying t with
                   | some (.struct fs) =>
                     let _←fs.toList.mapM fun f=>(P.info? f.type).map fun i=>(f.offset,i.size)
                     pure (.bld d (←iI P t) (←ps.toList.mapM fun(i,x)=>do let f←fs[i]?;pure (f.offset,←io P f.type,←fY P f.type x)))
                   |some (.array n e)=>do let s←io P e;guard (ps.toList.all (fun p=>decide (p.1<n))=true);pure (.bld d (←iI P t) (←ps.toList.mapM fun(i,x)=>do pure (i*s,s,←fY P e x)))
                   |_=>pure (.other o)
  | .makeMap t none => let d ← o.dst; guard (d < n)
                       match P.underlying t with
                       |some (.map _ _)=>pure (.mkm d)
                       |_=>pure (.other o)
  | .lookup t x i ok => let d ← o.dst; guard (d < n)
                        match P.underlying t with
                        | some (.map K E) => (match ny P K, DR P E with
                          |some kk,some z=>do pure (.lku d kk ok z (←fY P t x) (←fY P K i))
                          |_,_=>pure (.other o))
                        |_=>pure (.other o)
  |.mapUpdate t m k v|.insert t m k v=>
                        guard o.dst.isNone
                        match P.underlying t with
                        | some (.map K E) => (match ny P K, DR P E with
                          |some kk,some _=>do pure (.ZR kk (←fY P t m) (←fY P K k) (←fY P E v))
                          |_,_=>pure (.other o))
                        |_=>pure (.other o)
  | .call c =>
    match c.callee with
    | .value (.func f) =>
      guard (o.dst.all (· <n));guard (c.args.size==c.argTypes.size)
      let xs←(c.args.toList.zip c.argTypes.toList).mapM fun(x,t)=>fY P t x
      if XR P f then(match o.dst,xs with
        |some d,[x,y]=>pure (.Eg d f x y)
        |_,_=>none)
      else if abx P f then(match o.dst,xs with
        |some d,x::r=>pure (.cls d f x r)
        |_,_=>none)
      else if acA P f then(match xs with
        |x::r=>pure (.ZP o.dst f x r)
        |_=>none)
      else if aa7 P f then(match o.dst,xs with
        |some d,[x]=>pure (.K6 d f x)
        |_,_=>none)
      else if acG P wv f then pure (abg wv o.dst f xs)
      else pure (.call o.dst f xs)
    |.value x=>guard (o.dst.all (· <n));guard (c.args.size==c.argTypes.size);pure (ac5 wv o.dst (←fY P 0 x) (←(c.args.toList.zip c.argTypes.toList).mapM fun(x,t)=>fY P t x))
    | .builtin .len =>
      let d←o.dst;guard (d<n)
      match c.args.toList,c.argTypes.toList with
      | [x],[t]=>(match P.underlying t with|some .string=>do pure (.slen d (←fY P t x))|some (.slice _)=>do pure (.len d (←fY P t x))|some (.map _ _)=>do pure (.mln d (←fY P t x))|_=>pure (.other o))
      |_,_=>none
    | .builtin .max =>
      let d←o.dst;guard (d<n)
      match c.args.toList,c.argTypes.toList with
      | [x,y],[t,u]=>pure (.mxm d true (←fY P t x) (←fY P u y))
      |_,_=>none
    | .builtin .min =>
      let d←o.dst;guard (d<n)
      match c.args.toList,c.argTypes.toList with
      | [x,y],[t,u]=>pure (.mxm d false (←fY P t x) (←fY P u y))
      |_,_=>none
    | .builtin .append =>
      let d←o.dst;guard (d<n)
      match c.args.toList,c.argTypes.toList with
      | [x, y], [t, u] => (match P.underlying t, P.underlying u with
        |some (.slice e),some (.slice _)=>do let i←P.info? e;guard (t==u);let _←iI P e;pure (t6 wv d i.size i.bytes (←fY P t x) (←fY P u y))
        |_,_=>pure (.other o))
      |_,_=>none
    | .builtin .copy =>
      guard (o.dst.all (· <n))
      match c.args.toList,c.argTypes.toList with
      | [x, y], [t, u] => (match P.underlying t, P.underlying u with
        |some (.slice e),some (.slice _)=>do let s←io P e;guard (t==u);pure (.Uy o.dst s (←fY P t x) (←fY P u y))
        |_,_=>pure (.other o))
      |_,_=>none
    |_=>pure (.other o)
  |_=>pure (.other o)
def iO(P:Program)(wv:Wv)(n:Nat)(ops:Array Oper)(o:Oper):Option RO:=do
 let r←oI P wv n o
 guard (r.dst=o.dst)
 guard (o.dst.all (· <n)=true)
 match o.guard with
 |none=>pure ⟨none,r⟩
 |some (j,b)=>let p←ops[j]?;let d←p.dst;pure ⟨some (d,b),r⟩
def sJ(sz:Nat):List AV→Option (List D)
 | []=>some []
 |.im none d::r=>if d.size=sz then(match sJ sz r with|some ds=>some (d::ds)|none=>none)else none
 |_::_=>none
mutual
def D.gJ:D→Bool
 |.sc _=>true
 |.ag ds=>D.nf ds
 |.ls nn _ ds=>nn==some true&&ds.isEmpty
 |.pt _ _=>false
 |.jk=>true
 |.fn _ _=>false
 |.lc _ _ _=>false
def D.nf:List D→Bool
 | []=>true
 |d::ds=>d.gJ&&D.nf ds
end
mutual
def D.flat:D→Bool
 |.sc _=>true
 |.ag ds=>D.n9 ds
 |.ls _ _ _=>false
 |.pt _ _=>false
 |.jk=>true
 |.fn _ _=>false
 |.lc _ _ _=>false
def D.n9:List D→Bool
 | []=>true
 |d::ds=>d.flat&&D.n9 ds
end
mutual
def D.kH:∀{d:D},d.flat=true→d.gJ=true
 |.sc _,_=>rfl
 |.ag ds,h=>by simp only[D.flat]at h;simp only[D.gJ];exact D.qY h
 |.ls _ _ _,h=>by simp[D.flat]at h
 |.pt _ _,h=>by simp[D.flat]at h
 |.jk,_=>rfl
 |.fn _ _,h=>by simp[D.flat]at h
 |.lc _ _ _,h=>by simp[D.flat]at h
def D.qY:∀{ds:List D},D.n9 ds=true→D.nf ds=true
 | [],_=>rfl
 |d::ds,h=>by
  simp only[D.n9,bA]at h;simp only[D.nf,D.kH h.1,D.qY h.2,eM]
end
def EU:Nat:=4000000000
def pi(d:D):AV:=if d.flat then .im none d else .im (some EU) d
def St.get(st:St)(t:Nat):AV:=lk st.env t
def St.ev(st:St):X→AV
 |.t n=>st.get n
 |.c d=>pi d
def lu:List (Nat×U)→Nat→Option U
 | [],_=>none
 |(k,v)::r,t=>if k=t then some v else lu r t
def St.unit(st:St)(k:Nat):Option U:=lu st.us k
mutual
def AV.refs(k:Nat):AV→Bool
 |.im t _=>t==some k
 |.tr i=>i==k
 |.pw i _ _=>i==k
 |.cw i _ _ _ _=>i==k
 |.sm i _ _=>i==k
 |.vb i _=>i==k
 |.sg vs=>AV.kI k vs
 |.jS vs=>AV.kI k vs
 |.any=>false
 |.cl _ vs=>AV.kI k vs
 |.pq i _ _ _ _ _=>i==k
 |.qs i _ _ _ _ _=>i==k
 |.ss i _ _=>i==k
 |.z0 _ _=>false
 |.pb i _=>i==k
 |.ps i=>i==k
 |.mv i=>i==k
def AV.kI(k:Nat):List AV→Bool
 | []=>false
 |v::vs=>v.refs k||AV.kI k vs
end
mutual
def AV.soft(k:Nat):AV→Bool
 |.cw i _ _ _ _=>i==k
 |.im t _=>t==some k
 |.sg vs=>AV.mP k vs
 |.jS vs=>AV.mP k vs
 |.cl _ vs=>AV.mP k vs
 |.pq i _ _ _ _ _=>i==k
 |.qs i _ _ _ _ _=>i==k
 |_=>false
def AV.mP(k:Nat):List AV→Bool
 | []=>false
 |v::vs=>v.soft k||AV.mP k vs
end
def St.set(st:St)(d:Nat)(v:AV):St:={st with env:=(d,v)::st.env}
def St.kl(st:St)(d:Option Nat)(v:AV):St:=match d with|some d=>st.set d v|none=>st
def St.iQ(st:St)(us:List (Nat×U)):St:={st with us:=us++st.us}
def o9(k:Nat):List (Nat×U)→Bool
 | []=>true
 |(i,_)::r=>i !=k&&o9 k r
def St.fresh(st:St):List (Nat×U)→Bool
 | []=>true
 |x::r=>o9 x.1 st.us&&o9 x.1 r&&st.fresh r
def iy(f:AV→Bool):List (Nat×AV)→List (Nat×AV)
 | []=>[]
 |(k,v)::r=>(k,if f v then .any else v)::iy f r
def kS(f:AV→Bool):List AV→List AV
 | []=>[]
 |v::r=>(if f v then .any else v)::kS f r
def U.kill(f:AV→Bool):U→U
 |.bx sz items=>.bx sz (kS f items)
 |u=>u
def fQ(k:Nat)(f:AV→Bool):List (Nat×U)→List (Nat×U)
 | []=>[]
 |(i,u)::r=>if i=k then fQ k f r else(i,u.kill f)::fQ k f r
def St.del(st:St)(k:Nat):St:=⟨st.n,iy (AV.refs k) st.env,fQ k (AV.refs k) st.us⟩
def St.mc(st:St)(k:Nat)(u:U):St:=⟨st.n,iy (AV.soft k) st.env,(k,u)::fQ k (AV.soft k) st.us⟩
def AV.lX(k:Nat)(el:Option Nat):AV→Bool
 |.cw i ic _ _ _=>match el with|some e=>i==k&&ic==e|none=>false
 |.im t _=>t==some k
 |.sg vs=>AV.mP k vs
 |.jS vs=>AV.mP k vs
 |.cl _ vs=>AV.mP k vs
 |.pq i _ _ _ _ _=>i==k
 |.qs i _ _ _ _ _=>i==k
 |.tr _=>false
 |.pw _ _ _=>false
 |.sm _ _ _=>false
 |.vb _ _=>false
 |.any=>false
 |.ss _ _ _=>false
 |.z0 _ _=>false
 |.pb _ _=>false
 |.ps _=>false
 |.mv _=>false
def St.KH(st:St)(k:Nat)(el:Option Nat)(u:U):St:=⟨st.n,iy (AV.lX k el) st.env,(k,u)::fQ k (AV.lX k el) st.us⟩
def St.upr(st:St)(k:Nat)(u:U):St:=⟨st.n,iy (AV.refs k) st.env,(k,u)::fQ k (AV.refs k) st.us⟩
def Mo(ow:Bool)(id el j sz:Nat)(agg:Bool)(d:D):AV:=
 if ow then(if d.flat then .im none d else .cw id el j sz agg)else .im none d
def xK(off len gQ:Nat):D→Option D
 |.ls nn sz ds=>if sz=gQ then some (.ls (if off=0∧len=ds.length then nn else none) sz ((ds.drop off).take len))else none
 |_=>none
def AV.den(un:Nat→Option U):AV→Option (Option Nat×D)
 |.im t d=>some (t,d)
 |.tr k=>match un k with|some (.own d)=>some (some k,d)|_=>none
 |.cw id el j sz agg=>match un id with|some (.ar true _ _ es)=>some (some id,D.sub (D.at es el) j sz agg)|_=>none
 |.qs id el j gQ off len=>match un id with|some (.ar true _ _ es)=>(xK off len gQ (D.sub (D.at es el) j 1 false)).map (some id,·)|_=>none
 |_=>none
def zk(op:BinOp)(x y:Value)(k:Value→Prop):Prop:=
 match x,y with
 |.int a m,.int b n=>
  match op with
  |.shl=>0≤n∧k (.int a (a.wrap (m*2 ^ (min n.toNat a.bits))))
  |.shr=>0≤n∧k (.int a (m.fdiv (2 ^ (min n.toNat a.bits))))
  |.add=>a=b∧k (.int a (a.wrap (m+n)))
  |.sub=>a=b∧k (.int a (a.wrap (m-n)))
  |.mul=>a=b∧k (.int a (a.wrap (m*n)))
  |.quo=>a=b∧n≠0∧k (.int a (a.wrap (m.tdiv n)))
  |.rem=>a=b∧n≠0∧k (.int a (m.tmod n))
  |.and=>a=b∧k (.int a (a.wrap (BitVec.ofInt a.bits m&&&BitVec.ofInt a.bits n).toNat))
  |.or=>a=b∧k (.int a (a.wrap (BitVec.ofInt a.bits m|||BitVec.ofInt a.bits n).toNat))
  |.xor=>a=b∧k (.int a (a.wrap (BitVec.ofInt a.bits m ^^^ BitVec.ofInt a.bits n).toNat))
  |.andNot=>a=b∧k (.int a (a.wrap (BitVec.ofInt a.bits m&&& ~~~BitVec.ofInt a.bits n).toNat))
  |.eql=>a=b∧k (.bool (m==n))
  |.neq=>a=b∧k (.bool (m !=n))
  |.lss=>a=b∧k (.bool (m<n))
  |.leq=>a=b∧k (.bool (m≤n))
  |.gtr=>a=b∧k (.bool (m>n))
  |.geq=>a=b∧k (.bool (m≥n))
 |.string a,.string b=>
  match op with
  |.eql=>k (.bool (a.toList==b.toList))
  |.neq=>k (.bool !(a.toList==b.toList))
  |.add=>a.size+b.size≤9223372036854775807∧k (.string (a++b))
  |.lss=>k (.bool (Op.bytesLess a.toList b.toList))
  |_=>False
 |_,_=>False
def T0(op:BinOp)(x y:AV)(k:Value→Prop):Prop:=
 match x,y with
 |.im _ (.sc a),.im _ (.sc b)=>zk op a b k
 |_,_=>False
def abQ(gQ ic j':Nat):D→Option D
 |.ls _ sz ds=>if sz=gQ∧ic<ds.length∧j'<gQ then some (.pt (D.at ds ic) j')else none
 |_=>none
def Vl(ds:List D):Option D:=if ds.all (fun d=>d.size==1&& !d.fK)=true then some (.ag ds)else none
mutual
def AV.arg(un:Nat→Option U):AV→Option D
 |.im _ d=>some d
 |.tr k=>match un k with|some (.own d)=>some d|_=>none
 |.cw id el j sz agg=>match un id with|some (.ar true _ _ es)=>some (D.sub (D.at es el) j sz agg)|_=>none
 |.pw id el j=>match un id with|some (.ar _ _ _ es)=>some (.pt (D.at es el) j)|_=>none
 |.sm id off len=>match un id with|some (.ar _ nn sz es)=>some (.ls (if off=0∧len=es.length then nn else none) sz ((es.drop off).take len))|_=>none
 |.ss id off len=>match un id with|some (.ar _ _ sz es)=>some (.ls none sz ((es.drop off).take len))|_=>none
 |.vb id len=>match un id with|some (.bx sz items)=>if len=items.length then(match sJ sz items with|some ds=>some (.ls (some false) sz ds)|none=>none)else none|_=>none
 |.qs id el j gQ off len=>match un id with|some (.ar true _ _ es)=>xK off len gQ (D.sub (D.at es el) j 1 false)|_=>none
 |.pq id el j gQ ic j'=>match un id with|some (.ar true _ _ es)=>abQ gQ ic j' (D.sub (D.at es el) j 1 false)|_=>none
 |.cl f vs=>match jp un vs with|some ds=>some (.fn f ds)|none=>none
 |.z0 nn sz=>some (.ls nn sz [])
 |.sg vs=>match jp un vs with|some ds=>Vl ds|none=>none
 |.jS _=>none
 |.any=>none
 |.pb _ _=>none
 |.ps _=>none
 |.mv _=>none
def jp(un:Nat→Option U):List AV→Option (List D)
 | []=>some []
 |a::as=>match a.arg un,jp un as with|some d,some ds=>some (d::ds)|_,_=>none
end
mutual
def AV.shared:AV→Bool
 |.im none _=>true
 |.im (some t) d=>t==EU&&d.gJ
 |.cl _ vs=>AV.w7 vs
 |_=>false
def AV.w7:List AV→Bool
 | []=>true
 |v::vs=>v.shared&&AV.w7 vs
end
inductive tf where
 |own (d:D)
 |sh (d:D)
 |jS (rs:List tf)
 |arr (sz:Nat) (es:List D)
 |ZU (d:D)
def D.Le(d e:D):Prop:=(∀(h:ij) F cs,f8 h d F cs→f8 h e F cs)∧(∀v:Value,d.fits v→e.fits v)
def D.GD(d e:D):Prop:=(∀(h:ij) F cs,f8 h d F cs→∃F',f8 h e F' cs∧∀b∈F',b∈F)∧(∀v:Value,d.fits v→e.fits v)
def D.AQ:List D→List D→Prop
 | [],[]=>True
 |d::ds,e::es=>d.GD e∧D.AQ ds es
 |_,_=>False
def gM(h:ij)(iD:Nat→Prop):List D→List Value→Prop
 | [],vs=>vs=[]
 |d::ds,vs=>∃v r F,vs=v::r∧f8 h d F v.cells.toList∧d.fits v∧(∀b∈F,iD b)∧gM h iD ds r
mutual
def jl(h:ij):tf→List Nat→List Nat→Value→Prop
 |.own d,F,G,v=>G=[]∧f8 h d F v.cells.toList∧d.fits v
 |.sh d,F,G,v=>F=[]∧f8 h d G v.cells.toList∧d.fits v
 |.jS rs,F,G,v=>∃vs,v=.tuple vs∧jW h rs F G vs.toList
 | .arr sz es, F, G, v => G = [] ∧ es.length ≤ gp ∧ (∀ d ∈ es, d.size = sz) ∧ ∃ b c e F' cs rest cap, v = .slice (some ⟨b, 0, none⟩) es.length cap ∧ F = b :: F' ∧ h[b]? = some (.cells c e (0, 0)) ∧
   c.toList=cs++rest∧c.size=cap*sz∧es.length≤cap∧fR h es F' cs
 |.ZU d,F,G,v=>0<d.size∧∃b c e cs rest cap,v=.pointer (some ⟨b,0,none⟩)∧F=[b]∧h[b]?=some (.cells c e (0,0))∧c.toList=cs++rest∧c.size=cap*d.size∧1≤cap∧f8 h d G cs
def jW(h:ij):List tf→List Nat→List Nat→List Value→Prop
 | [],F,G,vs=>F=[]∧G=[]∧vs=[]
 |r::rs,F,G,vs=>∃F1 F2 G1 G2 v ws,F=F1++F2∧G=G1++G2∧vs=v::ws∧jl h r F1 G1 v∧jW h rs F2 G2 ws
end
def jf(P : Program)(f : Nat) : Prop := ∃ fn, P.funcs[f]? = some fn ∧ fn.body.isSome = true ∧ (fn.name == "runtime.NumGoroutine") = false
def AF(P:Program)(f:Nat)(ds:List D)(r:tf):Prop:=jf P f∧
 ∀(w:World)(vs:List Value)(iD:Nat→Prop),gM w.heap iD ds vs→
  Calls P f vs.toArray w fun e w'=>∃v F G,e=.returned v∧Go.RowKit.Below w.heap.size w w'∧jl w'.heap r F G v∧
   F.Nodup∧(∀b∈F,w.heap.size≤b∧b∉G∧mO w'.heap b)∧∀b∈G,(w.heap.size≤b∧b<w'.heap.size)∨iD b
def gS(n:Nat)(gP:Bool):tf→AV×List (Nat×U)
 |.own d=>if d.flat then(.im none d,[])else(.tr n,[(n,.own d)])
 |.sh d=>(if gP then .im none d else .any,[])
 |.arr sz es=>(.sm n 0 es.length,[(n,.ar true (some false) sz es)])
 |.ZU d=>if gP then(.pw n 0 0,[(n,.ar false (some false) d.size [d])])else(.any,[])
 |.jS rs=>let l:=oa (n+1000) rs;(.jS (l.map (·.1)),(l.map (·.2)).flatten)
where oa (n:Nat):List tf→List (AV×List (Nat×U))
 | []=>[]
 | r :: rs => (match r with
   |.own d=>if d.flat then(.im none d,[])else(.tr n,[(n,.own d)])
   |.sh d=>(if gP then .im none d else .any,[])
   |.arr sz es=>(.sm n 0 es.length,[(n,.ar true (some false) sz es)])
   |.ZU d=>if gP then(.pw n 0 0,[(n,.ar false (some false) d.size [d])])else(.any,[])
   |.jS _=>(.any,[]))::oa (n+1000) rs
def AV.HQ:AV→D→Bool
 |.cw _ _ _ _ _,d=>d.gJ
 |.sg _,d=>d.gJ
 |.im (some _) _,d=>d.gJ
 |a,_=>a.shared
def D2:List AV→List D→Bool
 |a::as,d::ds=>a.HQ d&&D2 as ds
 |_,_=>true
def U9(P:Program)(dst:Option Nat)(f:Nat)(args:List AV)(un:Nat→Option U)(k:AV→List (Nat×U)→Prop):Prop:=
 ∃ds es r,jp un args=some ds∧D.AQ ds es∧AF P f es r∧(let b:=gS (dst.getD 0) (D2 args ds) r;k b.1 b.2)
def tD(cs:List Value):Value ⊕ Nat→D
 |.inl c=>.sc c
 |.inr i=>.sc (cs.getD i undef)
def tV(cs:List Value):Value ⊕ Nat→Value
 |.inl c=>c
 |.inr i=>cs.getD i undef
def tA(avs:List AV):Value ⊕ Nat→AV
 |.inl c=>.im none (.sc c)
 |.inr i=>avs.getD i .any
def tOk(m:Nat):Value ⊕ Nat→Bool
 |.inl c=>c.oneCell'
 |.inr i=>i<m
def AFT(P:Program)(f m:Nat)(T:List (Value ⊕ Nat)):Prop:=T.all (tOk m)=true∧
 ∀cs:List Value,cs.length=m→(∀c∈cs,c.oneCell'=true)→AF P f (cs.map .sc) (.own (.ag (T.map (tD cs))))
def AV.one(un:Nat→Option U):AV→Bool
 |.im _ d=>d.size==1&& !d.fK
 |.tr k=>match un k with|some (.own d)=>d.size==1&& !d.fK|_=>false
 |.sm _ _ _=>true
 |.vb _ _=>true
 |.cw _ _ _ sz agg=>sz==1&& !agg
 |.pw _ _ _=>true
 |.pb _ _=>true
 |.cl _ _=>true
 |_=>false
def Vx(P:Program)(f:Nat)(args:List AV)(un:Nat→Option U)(k:AV→List (Nat×U)→Prop):Prop:=
 ∃T,AFT P f args.length T∧args.all (AV.one un)=true∧k (.sg (T.map (tA args))) []
def xi(z:List D):Nat→List (Nat×Nat×AV)→List AV
 |o,[]=>(z.drop o).map pi
 |o,(p,s,v)::r=>((z.drop o).take (p-o)).map pi++v::xi z (p+s) r
def pW(n:Nat):Nat→List (Nat×Nat)→Bool
 |_,[]=>true
 |o,(p,s)::r=>decide (o≤p)&&decide (p+s≤n)&&pW n (p+s) r
def AV.size(un:Nat→Option U):AV→Nat
 |.im _ d=>d.size
 |.tr k=>match un k with|some (.own d)=>d.size|_=>0
 |.cw _ _ _ s _=>s
 |.any=>0
 |.sg _=>0
 |.jS _=>0
 |_=>1
def iP(un:Nat→Option U)(sz:Nat):AV→Bool
 |.im none d=>d.size==sz
 |.im (some _) d=>d.gJ&&d.size==sz
 |.cw _ _ _ s _=>s==sz
 |.tr k=>match un k with|some (.own d)=>d.size==sz|_=>false
 |.sm _ _ _=>sz==1
 |.pw _ _ _=>sz==1
 |.pb _ _=>sz==1
 |.cl _ _=>sz==1
 |.sg vs=>vs.all (fun a=>AV.size un a !=0)&&(vs.map (AV.size un)).sum==sz
 |_=>false
def AI:List AV→Option (List D)
 | []=>some []
 |.im none d::r=>match AI r with|some ds=>some (d.cells++ds)|none=>none
 |_::_=>none
def I8(vs:List AV):AV:=match AI vs with|some ds=>.im none (.ag ds)|none=>.sg vs
def AFP(P:Program)(f:Nat):Prop:=jf P f∧∀(k:Int)(a b:Array Value)(w:World),a.size=3→b.size=3→
 Calls P f #[.int .i64 k,.agg a,.agg b] w fun e w'=>(∃x t,e=.returned (.agg #[.int .i64 k,.int .i64 0,.slice (some ⟨x,0,none⟩) 2 2])∧w.heap.size≤x∧w'.heap[x]?=some (.cells (a++b) t (0,0)))∧Go.RowKit.Below w.heap.size w w'
def AV.vE(un:Nat→Option U):AV→Bool
 |.im none d=>d.fK
 |.tr k=>match un k with|some (.own d)=>d.fK|_=>false
 |.cw _ _ _ _ agg=>agg
 |.sg _=>true
 |_=>false
def Vj(P:Program)(dst:Option Nat)(f:Nat)(args:List AV)(un:Nat→Option U)(k:AV→List (Nat×U)→Prop):Prop:=
 dst.getD 0<3000000000∧∃t kk B C,args=[.im t (.sc (.int .i64 kk)),B,C]∧AFP P f∧(AV.vE un B&&iP un 3 B)=true∧(AV.vE un C&&iP un 3 C)=true∧
  k (.sg [.im none (.sc (.int .i64 kk)),.im none (.sc (.int .i64 0)),.vb (dst.getD 0) 2]) [(dst.getD 0,.bx 3 [B,C])]
def nU(P:Program)(dst:Option Nat)(f:Nat)(args:List AV)(un:Nat→Option U)(k:AV→List (Nat×U)→Prop):Prop:=
 U9 P dst f args un k∨Vx P f args un k∨Vj P dst f args un k
abbrev KQ:=AV→List (Nat×U)→Prop
def pr(c:AV)(a b:AV)(k:KQ):Prop:=
 match c with
 |.im _ (.sc (.bool t))=>(t=true→k a [])∧(t=false→k b [])
 |_=>False
def AV.isRef:AV→Bool
 |.pw _ _ _=>true
 |.pb _ _=>true
 |.cl _ _=>true
 |.sg vs=>BY vs
 |_=>false
where BY:List AV→Bool
 | []=>false
 |.pw _ _ _::_=>true
 |.pb _ _::_=>true
 |.cl _ _::_=>true
 |_::r=>BY r
def AV.gY:AV→Bool
 |.im _ d=>d.size==1&& !d.fK
 |.pw _ _ _=>true
 |.pb _ _=>true
 |.cl _ _=>true
 |.sm _ _ _=>true
 |_=>false
def jx:List AV→List AV
 | []=>[]
 |.im t (.ag ds)::r=>ds.map (.im t)++jx r
 |v::r=>v::jx r
def jY:AV→AV
 |.sg vs=>.sg (jx vs)
 |v=>v
def uR(x:AV)(un:Nat→Option U)(d sz:Nat)(k:KQ):Prop:=
 match x with
 |.im none e=>(0<sz∧e.size=sz)∧k (.pw d 0 0) [(d,.ar false (some false) sz [e])]
 |x=>(d<3000000000∧0<sz∧iP un sz (jY x)=true)∧k (.pb d 0) [(d,.bx sz [jY x])]
def Vw(u:Option U)(id el j:Nat)(agg:Bool)(sz:Nat)(k:KQ):Prop:=
 match u with
 |some (.ar ow _ usz es)=>(j+sz≤usz∧(agg=true→(D.at es el).fK=true))∧k (Mo ow id el j sz agg (D.sub (D.at es el) j sz agg)) []
 |_=>False
def D.vF:D→Bool
 |.sc _=>true
 |_=>false
def qz(agg:Bool)(id:Nat)(d:D):Option Nat:=if agg=false∧d.vF=true then none else some id
def Fj(gQ ic j' sz:Nat)(agg:Bool)(id:Nat)(d:D)(k:KQ):Prop:=
 match d with
 |.ls _ gv ds=>(gv=gQ∧ic<ds.length∧j'<gQ∧j'+sz≤gQ∧(agg=true→(D.at ds ic).fK=true))∧k (.im (qz agg id (D.sub (D.at ds ic) j' sz agg)) (D.sub (D.at ds ic) j' sz agg)) []
 |_=>False
def Vc(u:Option U)(id el j gQ ic j':Nat)(agg:Bool)(sz:Nat)(k:KQ):Prop:=
 match u with
 |some (.ar true _ _ es)=>Fj gQ ic j' sz agg id (D.sub (D.at es el) j 1 false) k
 |_=>False
def K5(x:AV)(j sz:Nat)(agg:Bool)(k:KQ):Prop:=
 match x with
 |.sg vs=>(vs.all AV.gY=true∧j+sz≤vs.length)∧(if agg then k (I8 ((vs.drop j).take sz)) []else k (vs.getD j .any) [])
 |_=>False
def gj(agg:Bool)(x:AV):Bool:=
 match agg,x with
 |true,.sg _=>true
 |false,x=>x.gY
 |_,_=>false
def k9(x:AV)(usz j sz:Nat)(agg:Bool)(k:KQ):Prop:=
 if j=0∧sz=usz∧gj agg x=true then k x []else K5 x j sz agg k
def Vu(u:Option U)(j sz:Nat)(agg:Bool)(k:KQ):Prop:=
 match u with
 |some (.bx usz [x])=>(0<usz∧(agg=false→sz=1))∧k9 x usz j sz agg k
 |_=>False
def zX(a:AV)(un:Nat→Option U)(agg:Bool)(sz:Nat)(k:KQ):Prop:=
 match a with
 |.im t (.pt d j)=>(j+sz≤d.size∧(agg=true→d.fK=true))∧k (.im t (D.sub d j sz agg)) []
 |.im t (.lc _ _ (.pt d j))=>(j+sz≤d.size∧(agg=true→d.fK=true))∧k (.im t (D.sub d j sz agg)) []
 |.pw id el j=>Vw (un id) id el j agg sz k
 |.pq id el j gQ ic j'=>Vc (un id) id el j gQ ic j' agg sz k
 |.pb id j=>Vu (un id) j sz agg k
 |_=>False
def qA(x:AV)(k:KQ):Prop:=
 match x with
 |.im t (.pt d j)=>k (.im t (.pt d j)) []
 |.im t (.lc b o (.pt d j))=>k (.im t (.lc b o (.pt d j))) []
 |.im t (.sc (.pointer (some p)))=>k (.im t (.sc (.pointer (some p)))) []
 |.pw id el j=>k (.pw id el j) []
 |.pq id el j gQ ic j'=>k (.pq id el j gQ ic j') []
 |.pb id j=>k (.pb id j) []
 |_=>False
def CF(op:BinOp)(x y:AV)(k:KQ):Prop:=T0 op x y fun v=>k (.im none (.sc v)) []
def C4(neg:Bool)(x y:AV)(k:KQ):Prop:=
 match x,y with
 |.im _ (.sc (.bool a)),.im _ (.sc (.bool b))=>k (.im none (.sc (.bool (if neg then !(a==b)else a==b)))) []
 |_,_=>False
def tv:List D→List D→(Bool→Prop)→Prop
 | [],[],f=>f true
 |.sc (.int a m)::ds,.sc (.int b n)::es,f=>a=b∧tv ds es fun r=>f ((m==n)&&r)
 |_,_,_=>False
def Dw(neg:Bool)(x y:AV)(n:Nat)(k:KQ):Prop:=
 match x,y with
 |.im _ (.ag ds),.im _ (.ag es)=>ds.length=n∧tv ds es fun r=>k (.im none (.sc (.bool (if neg then !r else r)))) []
 |_,_=>False
def vV(neg:Bool)(x y:AV)(k:KQ):Prop:=
 match x,y with
 |.im _ (.ls (some p) _ _),.im _ (.ls (some true) _ [])=>k (.im none (.sc (.bool (if neg then !p else p)))) []
 |_,_=>False
def Q1(op:UnOp)(x:AV)(k:KQ):Prop:=
 match op,x with
 |.not,.im _ (.sc (.bool b))=>k (.im none (.sc (.bool (!b)))) []
 |.neg,.im _ (.sc (.int a n))=>k (.im none (.sc (.int a (a.wrap (-n))))) []
 |_,_=>False
def Dt(kd:IntKind)(x:AV)(k:KQ):Prop:=
 match x with
 |.im _ (.sc (.int _ n))=>k (.im none (.sc (.int kd (kd.wrap n)))) []
 |_=>False
def VC(l c:AV)(d sz bytes:Nat)(z:D)(k:KQ):Prop:=
 match l,c with
 |.im _ (.sc (.int _ m)),.im _ (.sc (.int _ n))=>
  (0≤m∧m≤n∧bytes*n≤140737488355328∧n≤140737488355328∧0<sz∧z.size=sz∧z.gJ=true)∧k (.sm d 0 m.toNat) [(d,.ar true (some false) sz (List.replicate m.toNat z))]
 |_,_=>False
def E0(s:ByteArray)(l h:AV)(k:KQ):Prop:=
 match l,h with
 |.im _ (.sc (.int _ l)),.im _ (.sc (.int _ h))=>(0≤l∧l≤h∧h≤s.size)∧k (.im none (.sc (.string (s.extract l.toNat h.toNat)))) []
 |_,_=>False
def Gq(t:Option Nat)(nn:Option Bool)(sz:Nat)(ds:List D)(l h:AV)(k:KQ):Prop:=
 match l,h with
 |.im _ (.sc (.int _ l)),.im _ (.sc (.int _ h))=>(0≤l∧l≤h∧h≤ds.length)∧k (.im t (.ls nn sz ((ds.take h.toNat).drop l.toNat))) []
 |_,_=>False
def wK(l h:AV)(n:Nat)(k:Nat→Nat→Prop):Prop:=
 match l,h with
 |.im _ (.sc (.int _ l)),.im _ (.sc (.int _ h))=>(0≤l∧l≤h∧h≤n)∧k l.toNat h.toNat
 |_,_=>False
def BW(u:Option U)(id off len sz:Nat)(lo:Bool)(l h:AV)(k:KQ):Prop:=
 match u with
 |some (.ar _ _ usz _)=>usz=sz∧wK l h len fun l h=>k (if lo then .ss id (off+l) (h-l)else .sm id off h) []
 |_=>False
def Fm(d:D)(id el j sz:Nat)(l:AV)(h:Option AV)(k:KQ):Prop:=
 match d with
 |.ls _ gQ ds=>gQ=sz∧wK l (h.getD (.im none (.sc (.int .i64 ds.length)))) ds.length fun l h=>k (.qs id el j sz l (h-l)) []
 |_=>False
def DC(u:Option U)(id el j sz:Nat)(l:AV)(h:Option AV)(k:KQ):Prop:=
 match u with
 |some (.ar true _ _ es)=>Fm (D.sub (D.at es el) j 1 false) id el j sz l h k
 |_=>False
def yp(x:AV)(ev:X→AV)(un:Nat→Option U)(sz:Nat)(lo hi:Option X)(k:KQ):Prop:=
 match x with
 |.im t (.ls nn gv ds)=>sz=gv∧Gq t nn sz ds ((lo.map ev).getD (.im none (.sc (.int .i64 0)))) ((hi.map ev).getD (.im none (.sc (.int .i64 ds.length)))) k
 |.sm id off len=>BW (un id) id off len sz lo.isSome ((lo.map ev).getD (.im none (.sc (.int .i64 0)))) ((hi.map ev).getD (.im none (.sc (.int .i64 len)))) k
 |.cw id el j 1 false=>DC (un id) id el j sz ((lo.map ev).getD (.im none (.sc (.int .i64 0)))) (hi.map ev) k
 |_=>False
def Bw(x:AV)(ev:X→AV)(lo hi:Option X)(k:KQ):Prop:=
 match x with
 |.im _ (.sc (.string s))=>E0 s ((lo.map ev).getD (.im none (.sc (.int .i64 0)))) ((hi.map ev).getD (.im none (.sc (.int .i64 s.size)))) k
 |_=>False
def OC(u:Option U)(id el j off:Nat)(k:KQ):Prop:=
 match u with
 |some (.ar _ _ usz _)=>j+off<usz∧k (.pw id el (j+off)) []
 |_=>False
def yY(x:AV)(un:Nat→Option U)(off:Nat)(k:KQ):Prop:=
 match x with
 |.im t (.pt d j)=>j+off<d.size∧k (.im t (.pt d (j+off))) []
 |.im t (.lc b o (.pt d j))=>j+off<d.size∧k (.im t (.lc b (o+off) (.pt d (j+off)))) []
 |.pw id el j=>OC (un id) id el j off k
 |.pq id el j gQ ic j'=>j'+off<gQ∧k (.pq id el j gQ ic (j'+off)) []
 |.pb id j=>k (.pb id (j+off)) []
 |_=>False
def R4(u:Option U)(i off sz:Nat)(agg:Bool)(k:KQ):Prop:=
 match u with
 |some (.own d)=>(d.fK=true∧off+sz≤d.size)∧k (.im (some i) (D.sub d off sz agg)) []
 |_=>False
def Jo(x:AV)(un:Nat→Option U)(off sz:Nat)(agg:Bool)(k:KQ):Prop:=
 match x with
 |.im t d=>(d.fK=true∧off+sz≤d.size)∧k (.im t (D.sub d off sz agg)) []
 |.tr i=>R4 (un i) i off sz agg k
 |_=>False
def K4(q:Option (Option Nat×D))(sz:Nat)(n:Int)(k:KQ):Prop:=
 match q with
 |some (t,.ls _ gv ds)=>(sz=gv∧0<sz∧0≤n∧n<ds.length)∧k (.im t (.pt (D.at ds n.toNat) 0)) []
 |some (t,.lc b o (.ls _ gv ds))=>(sz=gv∧0<sz∧0≤n∧n<ds.length)∧k (.im t (.lc b (o+n.toNat*sz) (.pt (D.at ds n.toNat) 0))) []
 |_=>False
def Gd(u:Option U)(id sz p:Nat)(k:KQ):Prop:=
 match u with
 |some (.ar _ _ usz _)=>(sz=usz∧0<sz)∧k (.pw id p 0) []
 |_=>False
def Vh(id el j sz:Nat)(n:Int)(d:D)(k:KQ):Prop:=
 match d with
 |.ls _ gv ds=>(sz=gv∧0<sz∧0≤n∧n<ds.length)∧k (.pq id el j sz n.toNat 0) []
 |_=>False
def Qj(u:Option U)(id el j sz:Nat)(n:Int)(k:KQ):Prop:=
 match u with
 |some (.ar true _ _ es)=>Vh id el j sz n (D.sub (D.at es el) j 1 false) k
 |_=>False
def D6(x i:AV)(un:Nat→Option U)(sz:Nat)(k:KQ):Prop:=
 match i with
 |.im _ (.sc (.int _ n))=>match x with
  |.sm id off len=>(0≤n∧n<len)∧Gd (un id) id sz (off+n.toNat) k
  |.ss id off len=>(0≤n∧n<len)∧Gd (un id) id sz (off+n.toNat) k
  |.cw id el j 1 false=>Qj (un id) id el j sz n k
  |x=>K4 (x.den un) sz n k
 |_=>False
def U1(x i:AV)(k:KQ):Prop:=
 match x,i with
 |.im _ (.sc (.string s)),.im _ (.sc (.int _ n))=>(0≤n∧n<s.size)∧k (.im none (.sc (.int .u8 (s.data.getD n.toNat 0).toNat))) []
 |_,_=>False
def wJ(q:Option (Option Nat×D))(k:KQ):Prop:=
 match q with
 |some (_,.ls _ _ ds)=>k (.im none (.sc (.int .i64 ds.length))) []
 |some (_,.lc _ _ (.ls _ _ ds))=>k (.im none (.sc (.int .i64 ds.length))) []
 |_=>False
def vY(x:AV)(k:KQ):Prop:=
 match x with
 |.im _ (.sc (.string s))=>k (.im none (.sc (.int .i64 s.size))) []
 |_=>False
def pO(x:AV)(un:Nat→Option U)(k:KQ):Prop:=
 match x with
 |.sm _ _ len=>k (.im none (.sc (.int .i64 len))) []
 |.ss _ _ len=>k (.im none (.sc (.int .i64 len))) []
 |.z0 _ _=>k (.im none (.sc (.int .i64 0))) []
 |x=>wJ (x.den un) k
def qe(x:AV)(P:Program)(d:Option Nat)(args:List AV)(un:Nat→Option U)(k:KQ):Prop:=
 match x with
 |.im _ (.sc (.func (.func f) ⟨[]⟩ ⟨[]⟩))=>nU P d f args un k
 |.im t (.fn f ds)=>nU P d f (args++ds.map (.im t)) un k
 |.cl f vs=>nU P d f (args++vs) un k
 |_=>False
def Ds(x:AV)(sz:Nat)(k:KQ):Prop:=
 match x with
 |.im _ (.ls nn _ _)=>k (.z0 nn sz) []
 |_=>False
def Vt(mx:Bool)(x y:AV)(k:KQ):Prop:=
 match x,y with
 |.im _ (.sc (.int a m)),.im _ (.sc (.int _ n))=>k (.im none (.sc (.int a (if mx then(if n>m then n else m)else(if n<m then n else m))))) []
 |_,_=>False
def wE(x:AV)(i:Nat)(k:KQ):Prop:=
 match x with
 |.jS vs=>i<vs.length∧k (vs.getD i .any) []
 |_=>False
def ND:AV→Bool
 |.im none d=>!d.flat
 |_=>false
def bsS(sz:Nat)(as:List AV):Option (List D):=if as.any ND=true then sJ sz as else none
def TQ(ps:List (Nat×AV))(un:Nat→Option U)(d sz len:Nat)(k:KQ):Prop:=
 if len=0 then(0<sz∧ps=[])∧k (.sm d 0 0) [(d,.ar true (some false) sz [])]
 else match bsS sz (ps.map (·.2))with
  |some ds=>(ps.map (·.1)=List.range len∧0<sz∧len*sz≤16777216)∧k (.im none (.ls (some false) sz ds)) []
  |none=>(d<3000000000∧ps.map (·.1)=List.range len∧0<sz∧len*sz≤16777216∧(ps.map (·.2)).all (iP un sz)=true)∧k (.vb d len) [(d,.bx sz (ps.map (·.2)))]
def CE(x y:AV)(sz bytes:Nat)(k:KQ):Prop:=
 match x,y with
 |.z0 nn gv,.im none (.ls _ O8 ds)=>(gv=sz∧O8=sz∧nn=some false∧0<sz∧ds.length*bytes≤140737488355328∧ds.length≤gp)∧k (.im none (.ls (some false) sz ds)) []
 |_,_=>False
def Mf:AV→Option UInt8
 |.im _ (.sc (.int .u8 n))=>some (UInt8.ofNat n.toNat)
 |_=>none
def n8:List AV→Option (List UInt8)
 | []=>some []
 |a::r=>match Mf a,n8 r with|some b,some bs=>some (b::bs)|_,_=>none
def FR(q:Option (List UInt8))(k:KQ):Prop:=
 match q with
 |some bs=>k (.im none (.sc (.string ⟨bs.toArray⟩))) []
 |none=>False
def Dq(u:Option U)(len:Nat)(k:KQ):Prop:=
 match u with
 |some (.bx sz items)=>(sz=1∧len=items.length)∧FR (n8 items) k
 |_=>False
def Bt(x:AV)(un:Nat→Option U)(k:KQ):Prop:=
 match x with
 |.vb id len=>Dq (un id) len k
 |_=>False
def xG(ps:List (Nat×Nat×AV))(un:Nat→Option U)(z:D)(k:KQ):Prop:=
 match z with
 |.ag zs=>(ps.all (fun p=>p.2.2.size un==p.2.1&&p.2.1 !=0)=true∧pW zs.length 0 (ps.map fun p=>(p.1,p.2.1))=true∧z.gJ=true)∧k (I8 (xi zs 0 ps)) []
 |_=>False
def BE:D→Option MK
 |.sc (.int .i64 n)=>some (.i n)
 |.sc (.string b)=>some (.s b)
 |.ag [.sc (.int .i64 a),.sc (.int .i64 b)]=>some (.p a b)
 |_=>none
def mb:MK→Nat
 |.i _=>0
 |.s _=>1
 |.p _ _=>2
def qi:List (MK×Value)→MK→Option Value
 | [],_=>none
 |(k,v)::r,x=>if x=k then some v else qi r x
def zm:List (MK×Value)→MK→Value→List (MK×Value)
 | [],x,w=>[(x,w)]
 |(k,v)::r,x,w=>if x=k then(k,w)::r else(k,v)::zm r x w
def Id(ok:Bool)(z:Value)(q:Option Value):AV:=
 if ok then .jS [.im none (.sc (q.getD z)),.im none (.sc (.bool q.isSome))]else .im none (.sc (q.getD z))
def Dg(u:Option U)(kk:Nat)(ok:Bool)(z:Value)(q:Option MK)(k:KQ):Prop:=
 match u,q with
 |some (.mp es),some x=>(mb x=kk∧es.all (fun e=>mb e.1==kk)=true)∧k (Id ok z (qi es x)) []
 |_,_=>False
def BK(m x:AV)(un:Nat→Option U)(kk:Nat)(ok:Bool)(z:Value)(k:KQ):Prop:=
 match m,x with
 |.mv id,.im _ d=>Dg (un id) kk ok z (BE d) k
 |_,_=>False
def C6(u:Option U)(k:KQ):Prop:=
 match u with
 |some (.mp es)=>k (.im none (.sc (.int .i64 es.length))) []
 |_=>False
def Bm(m:AV)(un:Nat→Option U)(k:KQ):Prop:=
 match m with
 |.mv id=>C6 (un id) k
 |_=>False
def yX(P:Program)(r:lz)(ev:X→AV)(un:Nat→Option U)(k:KQ):Prop:=
 match r with
 |.mv _ x=>k (ev x) []
 |.pick _ c a b=>pr (ev c) (ev a) (ev b) k
 |.box d sz x=>uR (ev x) un d sz k
 |.zer d sz z=>(0<sz∧z.size=sz∧z.gJ=true)∧k (.pw d 0 0) [(d,.ar true (some false) sz [z])]
 |.ld _ agg sz a=>zX (ev a) un agg sz k
 |.nck _ x=>qA (ev x) k
 |.bin _ op x y=>CF op (ev x) (ev y) k
 |.beq _ neg x y=>C4 neg (ev x) (ev y) k
 |.snil _ neg x y=>vV neg (ev x) (ev y) k
 |.ceq _ neg n x y=>Dw neg (ev x) (ev y) n k
 |.un _ op x=>Q1 op (ev x) k
 |.cvt _ kd x=>Dt kd (ev x) k
 |.mk d sz bytes z l c=>VC (ev l) (ev c) d sz bytes z k
 |.slc _ sz x lo hi=>yp (ev x) ev un sz lo hi k
 |.fa _ off x=>yY (ev x) un off k
 |.fl _ off sz agg x=>Jo (ev x) un off sz agg k
 |.ia _ sz x i=>D6 (ev x) (ev i) un sz k
 |.ix _ x i=>U1 (ev x) (ev i) k
 |.len _ x=>pO (ev x) un k
 |.slen _ x=>vY (ev x) k
 |.sls _ x lo hi=>Bw (ev x) ev lo hi k
 |.call d f args=>nU P d f (args.map ev) un k
 |.calv d x args=>qe (ev x) P d (args.map ev) un k
 |.ext _ x i=>wE (ev x) i k
 |.bs d sz _ len ps=>TQ (ps.map fun p=>(p.1,ev p.2)) un d sz len k
 |.bld _ z ps=>xG (ps.map fun p=>(p.1,p.2.1,ev p.2.2)) un z k
 |.mkf _ f xs=>k (.cl f (xs.map ev)) []
 |.s30 _ sz x=>Ds (ev x) sz k
 |.mxm _ mx x y=>Vt mx (ev x) (ev y) k
 |.bse _ sz=>0<sz∧k (.z0 (some false) sz) []
 |.zsb d T E=>d<3000000000∧k (.ps d) [(d,.sb T E ⟨#[]⟩)]
 |.ape _ sz bytes x y=>CE (ev x) (ev y) sz bytes k
 |.cvs _ x=>Bt (ev x) un k
 |.mkm d=>d<3000000000∧k (.mv d) [(d,.mp [])]
 |.lku _ kk ok z m x=>BK (ev m) (ev x) un kk ok z k
 |.mln _ m=>Bm (ev m) un k
 |.ZR .. |.st .. |.app .. |.Eg .. |.cls .. |.Uy .. |.ZO .. |.GC .. |.ZP .. |.K6 .. |.VG .. |.VH .. |.VI .. |.ZQ .. |.other .. =>False
def lz.sq:lz→Bool
 |.ZR .. |.st .. |.app .. |.Eg .. |.cls .. |.Uy .. |.ZO .. |.GC .. |.ZP .. |.K6 .. |.VG .. |.VH .. |.VI .. |.ZQ .. |.other .. =>false
 |_=>true
def fC:List D→Bool
 | []=>true
 |d::ds=>d.gJ&&fC ds
abbrev KT:=Bool→D→St→Prop
abbrev KL:=Bool→List D→St→Prop
def sv(u:Option U)(i:Nat)(st:St)(k:KT):Prop:=
 match u with
 |some (.own d)=>k true d (st.del i)
 |_=>False
def uM(u:Option U)(i off len:Nat)(st:St)(k:KT):Prop:=
 match u with
 |some (.ar true nn sz es)=>(off=0∧len=es.length)∧k true (.ls nn sz es) (st.del i)
 |_=>False
def rZ(sz:Nat)(agg:Bool):D:=if agg then .ag (List.replicate sz .jk)else .jk
def uE(u:Option U)(i el j sz:Nat)(agg:Bool)(st:St)(k:KT):Prop:=
 match u with
 |some (.ar true nn usz es)=>(agg=true→(D.at es el).fK=true)∧k true (D.sub (D.at es el) j sz agg) (st.KH i (if j=0∧sz=usz then some el else none) (.ar true nn usz (es.set el (D.put usz (D.at es el) j sz (rZ sz agg)))))
 |_=>False
def YK(k:KT)(b:Bool)(ds:List D)(st:St):Prop:=k b (.ag (ds.map D.cells).flatten) st
def C5(b bq c cq:Bool):Bool:=(b||bq)&&(c||cq)
def zh(b:Bool)(d:D)(k:KL)(c:Bool)(ds:List D)(st:St):Prop:=
 (b=true∨c=false∨fC ds=true)∧(c=true∨b=false∨d.gJ=true)∧k (C5 b d.gJ c (fC ds)) (d::ds) st
mutual
def gH(st:St):AV→KT→Prop
 |.im none d,k=>k d.gJ d st
 |.im (some _) d,k=>d.gJ=true∧k true d st
 |.tr i,k=>sv (st.unit i) i st k
 |.sm i off len,k=>uM (st.unit i) i off len st k
 |.cw i el j sz agg,k=>uE (st.unit i) i el j sz agg st k
 |.sg vs,k=>oG st vs (YK k)
 |_,_=>False
def oG(st:St):List AV→KL→Prop
 | [],k=>k true [] st
 |v::vs,k=>gH st v fun b d st=>oG st vs (zh b d k)
end
def SZ(vs:List AV)(k:KL)(b:Bool)(d:D)(st:St):Prop:=oG st vs (zh b d k)
def kA(f:St→AV→KT→Prop):St→List AV→KL→Prop
 |st,[],k=>k true [] st
 |st,v::vs,k=>f st v fun b d st=>kA f st vs (zh b d k)
def lsC(sz:Nat)(k:KT)(b:Bool)(ds:List D)(st:St):Prop:=(0<sz∧b=true∧∀d∈ds,d.size=sz)∧k true (.ls (some false) sz ds) st
def sC(f:St→AV→KT→Prop)(u:Option U)(i len:Nat)(st:St)(k:KT):Prop:=
 match u with
 |some (.bx sz items)=>len=items.length∧kA f (st.del i) items (lsC sz k)
 |_=>False
def it:Nat→St→AV→KT→Prop
 |n+1,st,.vb i len,k=>sC (it n) (st.unit i) i len st k
 |n+1,st,.sg vs,k=>kA (it n) st vs (YK k)
 |_,st,.im none d,k=>k d.flat d st
 |_,st,v,k=>gH st v k
def QI(f:St→AV→KT→Prop)(vs:List AV)(k:KL)(b:Bool)(d:D)(st:St):Prop:=kA f st vs (zh b d k)
def yz(u:Option U)(i len sz:Nat)(st:St)(k:KL):Prop:=
 match u with
 |some (.bx w6 items)=>(w6=sz∧len=items.length)∧kA (it 12) (st.del i) items k
 |_=>False
def se(q:Option D)(sz:Nat)(st:St)(k:KL):Prop:=
 match q with
 |some (.ls _ gv ds)=>(sz=gv∧fC ds=true)∧k true ds st
 |_=>False
def oK(st:St)(sz:Nat)(v:AV)(k:KL):Prop:=
 match v with
 |.vb i len=>yz (st.unit i) i len sz st k
 |.im none (.ls _ gv ds)=>sz=gv∧k (fC ds) ds st
 |v=>se (v.arg st.unit) sz st k
def gC(nn:Option Bool)(ds:List D):Option Bool:=
 match ds with
 |_::_=>some false
 | []=>nn
def fO(own ow fl eq:Bool):Bool:=if own=ow then ow else if fl then ow else if eq then own else ow
def stU(u:Option U)(id el j sz:Nat)(own:Bool)(d:D)(fS:St)(f:St→Prop):Prop:=
 match u with
 |some (.ar ow nn usz es)=>(d.size=sz∧j+sz≤usz∧el<es.length∧(j=0∧sz=usz∨(D.at es el).fK=true)∧
    (own=ow∨d.gJ=true∨fC es=true))∧
    f (fS.mc id (.ar (fO own ow d.flat (fC es)) nn usz (es.set el (D.put usz (D.at es el) j sz d))))
 |_=>False
def YJ(id el j sz:Nat)(f:St→Prop)(own:Bool)(d:D)(fS:St):Prop:=stU (fS.unit id) id el j sz own d fS f
def ni(es:List D)(usz el j:Nat)(d:D):List D:=es.set el (D.put usz (D.at es el) j 1 d)
def stI(nn:Option Bool)(usz:Nat)(es:List D)(id el j gQ ic j' sz:Nat)(own:Bool)(d:D)(fS:St)(f:St→Prop)(q:D):Prop:=
 match q with
 | .ls jc gv ds => (gv = gQ ∧ d.size = sz ∧ j' < gQ ∧ j' + sz ≤ gQ ∧ el < es.length ∧ ic < ds.length ∧ (j = 0 ∧ usz = 1 ∧ (D.at es el).fK = false ∨ (D.at es el).fK = true ∧ usz ≠ 1) ∧ (j' = 0 ∧ sz = gQ ∨ (D.at ds ic).fK = true) ∧ d.gJ = true) ∧
   f (fS.mc id (.ar true nn usz (ni es usz el j (.ls jc gv (ds.set ic (D.put gv (D.at ds ic) j' sz d))))))
 |_=>False
def stQ(u:Option U)(id el j gQ ic j' sz:Nat)(own:Bool)(d:D)(fS:St)(f:St→Prop):Prop:=
 match u with
 |some (.ar true nn usz es)=>stI nn usz es id el j gQ ic j' sz own d fS f (D.sub (D.at es el) j 1 false)
 |_=>False
def WT(id el j gQ ic j' sz:Nat)(f:St→Prop)(own:Bool)(d:D)(fS:St):Prop:=stQ (fS.unit id) id el j gQ ic j' sz own d fS f
def uI(id:Nat)(v:AV):AV:=
 match v with
 |.pw i el j=>if i=id then(if el=0 then .pb id j else .any)else .pw i el j
 |v=>if v.refs id then .any else v
def Du(id:Nat):List (Nat×AV)→List (Nat×AV)
 | []=>[]
 |(k,v)::r=>(k,uI id v)::Du id r
def oy:AV→Bool
 |.sg vs=>vs.all AV.gY
 |v=>v.gY
def St.cvt(st:St)(id:Nat)(u:U):St:=⟨st.n,Du id st.env,(id,u)::fQ id (AV.refs id) st.us⟩
def Ru(u:Option U)(id el j sz:Nat)(x:AV)(st:St)(f:St→Prop):Prop:=
 match u with
 |some (.ar _ nn usz [d])=>((nn=none∨id<3000000000)∧0<sz∧el=0∧j=0∧sz=usz∧d.gJ=true∧iP st.unit sz (jY x)=true∧oy (jY x)=true∧(jY x).refs id=false)∧f (st.cvt id (.bx sz [jY x]))
 |_=>False
def iG(y x:AV)(usz j sz:Nat)(k:AV→Prop):Prop:=
 if j=0∧sz=usz then k x else
 match y with
 |.sg vs=>(vs.all AV.gY=true∧j<vs.length∧sz=1∧x.gY=true)∧k (.sg (vs.set j x))
 |_=>False
def R7(u:Option U)(id j sz:Nat)(x:AV)(st:St)(f:St→Prop):Prop:=
 match u with
 |some (.bx usz [y])=>(0<usz∧0<sz∧iP st.unit sz x=true∧oy x=true∧x.refs id=false∧y.refs id=false)∧iG y x usz j sz fun z=>f (st.mc id (.bx usz [z]))
 |_=>False
def A7:AV→Bool
 |.sg [.im _ (.sc (.pointer none)),.im _ (.ls (some true) _ [])]=>true
 |_=>false
def ZA(u:Option U)(id sz:Nat)(x:AV)(st:St)(f:St→Prop):Prop:=
 match u with
 |some (.sb T E _)=>(sz=2∧A7 x=true)∧f (st.mc id (.sb T E ⟨#[]⟩))
 |_=>False
def adr(d1:D)(b o sz:Nat)(v d2:D):Prop:=d2.size=d1.size∧v.size=sz∧∀(h:ij)(F G:List Nat)(cs cv:List Value),f8 h d1 F cs→F.Nodup→f8 h v G cv→G.Nodup→(∀x∈F,x∉G)→
 ∃c e fr,b∈F∧h[b]?=some (.cells c e fr)∧o+sz≤c.size∧
  ∀(h':ij)(c':Array Value),(∀x,x≠b→h'[x]?=h[x]?)→h'[b]?=some (.cells c' e fr)→c'.toList=c.toList.take o++(cv++c.toList.drop (o+sz))→∃F',f8 h' d2 F' cs∧F'.Nodup∧∀x∈F',x∈F∨x∈G
def O6(u:Option U)(id b o sz:Nat)(own:Bool)(d:D)(fS:St)(f:St→Prop):Prop:=
 match u with
 |some (.ar true nn usz [d1])=>own=true∧∃d2,adr d1 b o sz d d2∧f (fS.mc id (.ar true nn usz [d2]))
 |_=>False
def Ya(id b o sz:Nat)(f:St→Prop)(own:Bool)(d:D)(fS:St):Prop:=O6 (fS.unit id) id b o sz own d fS f
def CZ(a x:AV)(st:St)(sz:Nat)(f:St→Prop):Prop:=
 match a with
 |.pw id el j=>if x.isRef=true then Ru (st.unit id) id el j sz x st f else it 12 st x (YJ id el j sz f)
 |.pq id el j gQ ic j'=>it 12 st x (WT id el j gQ ic j' sz f)
 |.pb id j=>R7 (st.unit id) id j sz x st f
 |.ps id=>ZA (st.unit id) id sz x st f
 |.im _ (.sc (.pointer (some ⟨b,o,none⟩)))=>∃id,it 12 st x (Ya id b o sz f)
 |_=>False
def TL(a x:AV)(st:St)(sz:Nat)(f:St→Prop):Prop:=
 match a with
 |.pw id el j=>it 12 st x (YJ id el j sz f)
 |.pq id el j gQ ic j'=>it 12 st x (WT id el j gQ ic j' sz f)
 |_=>False
def rT(len:Nat)(es:List D):List D:=if len=es.length then es else es.take len
def yk(len:Nat)(es:List D):Prop:=if len=es.length then True else len<es.length
def Jl(u:Option U)(id off len:Nat)(own:Bool)(ds:List D)(fS:St)(d sz bytes:Nat)(f:St→Prop):Prop:=
 match u with
 |some (.ar ow nn usz es)=>(usz=sz∧0<sz∧off=0∧yk len es∧(len+ds.length)*bytes≤140737488355328∧len+ds.length≤gp∧(∀e∈ds,e.size=sz)∧
    (own=ow∨fC ds=true∨fC (rT len es)=true))∧
    f ((fS.upr id (.ar (fO own ow (D.n9 ds) (fC (rT len es))) (gC nn ds) sz (rT len es++ds))).set d (.sm id 0 (len+ds.length)))
 |_=>False
def D0(own:Bool)(ds:List D)(d sz bytes:Nat)(f:St→Prop)(ul:Bool)(e:D)(KI:St):Prop:=
 match e with
 |.ls nn gv es=>(gv=sz∧own=true∧ul=true∧(es.length+ds.length)*bytes≤140737488355328∧es.length+ds.length≤gp∧(∀e∈ds,e.size=sz)∧0<sz∧
    KI.fresh [(d,.own .jk)]=true)∧
    f ((KI.iQ [(d,.own (.ls (gC nn ds) sz (es++ds)))]).set d (.tr d))
 |_=>False
def yr(x:AV)(own:Bool)(ds:List D)(fS:St)(d sz bytes:Nat)(f:St→Prop):Prop:=
 match x with
 | .im _ (.ls (some true) _ []) => (ds.length * bytes ≤ 140737488355328 ∧ ds.length ≤ gp ∧ 0 < sz ∧ (∀ e ∈ ds, e.size = sz) ∧ fS.fresh [(d, .own .jk)] = true) ∧
   f ((fS.iQ [(d,.ar own (gC (some true) ds) sz ds)]).set d (.sm d 0 ds.length))
 |.sm id off len=>Jl (fS.unit id) id off len own ds fS d sz bytes f
 | .z0 nn _ => (ds.length * bytes ≤ 140737488355328 ∧ ds.length ≤ gp ∧ 0 < sz ∧ own = true ∧ (∀ e ∈ ds, e.size = sz) ∧ fS.fresh [(d, .own .jk)] = true) ∧
   f ((fS.iQ [(d,.own (.ls (gC nn ds) sz ds))]).set d (.tr d))
 |x=>gH fS x (D0 own ds d sz bytes f)
def DM(x:X)(d sz bytes:Nat)(f:St→Prop)(own:Bool)(ds:List D)(fS:St):Prop:=yr (fS.ev x) own ds fS d sz bytes f
def Cr(P:Program)(f:Nat)(d:D)(n:Int)(d':D)(n':Int):Prop:=jf P f∧
 ∀(w:World)(v:Value)(F:List Nat),f8 w.heap d F v.cells.toList→d.fits v→F.Nodup→(∀b∈F,mO w.heap b)→
  Calls P f #[v,.int .i64 n] w fun e w'=>e=.returned (.int .i64 n')∧w'.os=w.os∧w'.tape=w.tape∧w'.output=w.output∧w.heap.size≤w'.heap.size∧
   (∀b,b<w.heap.size→b∉F→w'.heap[b]?=w.heap[b]?)∧∃F',f8 w'.heap d' F' v.cells.toList∧F'.Nodup∧∀b∈F',b∈F∧mO w'.heap b
def OJ(u:Option U)(P:Program)(d f i:Nat)(n:Int)(st:St)(k:St→Prop):Prop:=
 match u with
 |some (.own e)=>∃e' n',Cr P f e n e' n'∧e'.fK=e.fK∧k ((st.mc i (.own e')).set d (.im none (.sc (.int .i64 n'))))
 |_=>False
def Me(u:Option U)(P:Program)(d f i el j sz:Nat)(agg:Bool)(n:Int)(st:St)(k:St→Prop):Prop:=
 match u with
 | some (.ar true nn usz es) => ∃ e' n', Cr P f (D.sub (D.at es el) j sz agg) n e' n' ∧ (e'.size = sz ∧ (agg = true → (D.at es el).fK = true) ∧ e'.fK = agg) ∧
   k ((st.mc i (.ar true nn usz (es.set el (D.put usz (D.at es el) j sz e')))).set d (.im none (.sc (.int .i64 n'))))
 |_=>False
def Fy(x:AV)(P:Program)(d f:Nat)(n:Int)(st:St)(k:St→Prop):Prop:=
 match x with
 |.tr i=>OJ (st.unit i) P d f i n st k
 |.cw i el j sz agg=>Me (st.unit i) P d f i el j sz agg n st k
 |.im _ e=>e.gJ=true∧∃e' n',Cr P f e n e' n'∧k (st.set d (.im none (.sc (.int .i64 n'))))
 |_=>False
def Fn(x y:AV)(P:Program)(d f:Nat)(st:St)(k:St→Prop):Prop:=
 match y with
 |.im _ (.sc (.int .i64 n))=>Fy x P d f n st k
 |_=>False
def Ie(u:Option U)(P:Program)(d f i el j:Nat)(ys:List AV)(st:St)(k:KQ):Prop:=
 match u with
 |some (.ar false _ _ es)=>ys.all AV.shared=true∧∃ds fs r,jp st.unit ys=some ds∧D.AQ (.pt (D.at es el) j::ds) fs∧AF P f fs r∧(let b:=gS d true r;k b.1 b.2)
 |_=>False
def wx(es:List D)(off n:Nat)(ds:List D):List D:=es.take off++(ds.take n++es.drop (off+n))
def Ge(u:Option U)(id off len sz:Nat)(ds:List D)(st:St)(f:Nat→St→Prop):Prop:=
 match u with
 |some (.ar true nn usz es)=>(usz=sz∧off+len≤es.length)∧f (min len ds.length) (st.mc id (.ar true nn usz (wx es off (min len ds.length) ds)))
 |_=>False
def EZ(nn:Option Bool)(usz:Nat)(es:List D)(id el j off:Nat)(len:Option Nat)(sz:Nat)(ds:List D)(st:St)(f:Nat→St→Prop)(q:D):Prop:=
 match q with
 | .ls jc gv ds' => (gv = sz ∧ el < es.length ∧ (j = 0 ∧ usz = 1 ∧ (D.at es el).fK = false ∨ (D.at es el).fK = true ∧ usz ≠ 1)) ∧
   f (min (len.getD ds'.length) ds.length) (st.mc id (.ar true nn usz (ni es usz el j (.ls jc gv (wx ds' off (min (len.getD ds'.length) ds.length) ds)))))
 |_=>False
def BL(u:Option U)(id el j off:Nat)(len:Option Nat)(sz:Nat)(ds:List D)(st:St)(f:Nat→St→Prop):Prop:=
 match u with
 |some (.ar true nn usz es)=>EZ nn usz es id el j off len sz ds st f (D.sub (D.at es el) j 1 false)
 |_=>False
def JJ(u:Option U)(id off len sz:Nat)(ds:List D)(st:St)(f:Nat→St→Prop):Prop:=
 match u with
 |some (.ar true nn usz es)=>(0<len∧usz=sz∧off+len≤es.length)∧f (min len ds.length) (st.mc id (.ar true nn usz (wx es off (min len ds.length) ds)))
 |_=>False
def BM(x:AV)(sz:Nat)(ds:List D)(st:St)(f:Nat→St→Prop):Prop:=
 match x with
 |.sm id off len=>Ge (st.unit id) id off len sz ds st f
 |.cw id el j 1 false=>BL (st.unit id) id el j 0 none sz ds st f
 |.qs id el j gQ off len=>gQ=sz∧BL (st.unit id) id el j off (some len) sz ds st f
 |.ss id off len=>JJ (st.unit id) id off len sz ds st f
 |_=>False
def Im(q:Option D)(x:AV)(sz:Nat)(st:St)(f:Nat→St→Prop):Prop:=
 match q with
 |some (.ls _ gv ds)=>(gv=sz∧0<sz∧fC ds=true)∧BM x sz ds st f
 |_=>False
def LK(x y:AV)(d:Option Nat)(sz:Nat)(st:St)(f:St→Prop):Prop:=Im (y.arg st.unit) x sz st fun n fS=>f (fS.kl d (.im none (.sc (.int .i64 n))))
def jh:Nat→List U→List (Nat×U)
 |_,[]=>[]
 |i,u::r=>(3000000000+i,u)::jh (i+1) r
structure Sk (h:ij) (iD:Nat→Prop) (us:List U) (g:Gh):Prop where
 nodup:(fp g (jh 0 us)).Nodup
 lt:∀b∈fp g (jh 0 us),b<h.size
 fz:∀b∈fp g (jh 0 us),mO h b
 dead:∀k,k∉(jh 0 us).map (·.1)→g.φ k=[]
 sh:∀b,g.Sh b→b<h.size∧iD b∧b∉fp g (jh 0 us)
 each:∀x∈jh 0 us,hP h (jh 0 us) g x.1 x.2
 iV:∀x∈jh 0 us,x.2.jL=true→g.β x.1≠none
structure agD (h:ij) (n0:Nat) (iD:Nat→Prop) (us us':List U) (g g':Gh) (F:List Nat):Prop where
 each:∀x∈jh 0 us',hP h (jh 0 us') g' x.1 x.2
 ww:∀x∈jh 0 us',g'.β x.1=g.β x.1∧g'.cap x.1=g.cap x.1
 nodup:(F++fp g' (jh 0 us')).Nodup
 all:∀b∈F++fp g' (jh 0 us'),b<h.size∧mO h b∧(b<n0→b∈fp g (jh 0 us))∧¬g'.Sh b
 sh:∀b,g'.Sh b→b<h.size∧(b<n0→iD b∨b∈fp g (jh 0 us))
def AFW(P:Program)(f:Nat)(us:List U)(as:List AV)(us':List U)(r:tf):Prop:=jf P f∧us.length≤8∧
 ∀(w:World)(vs:List Value)(iD:Nat→Prop)(g:Gh),Sk w.heap iD us g→fA w.heap (jh 0 us) g as vs→
  Calls P f vs.toArray w fun e w'=>∃v F g',e=.returned v∧w'.os=w.os∧w'.tape=w.tape∧w'.output=w.output∧w.heap.size≤w'.heap.size∧
   (∀b,b<w.heap.size→b∉fp g (jh 0 us)→w'.heap[b]?=w.heap[b]?)∧agD w'.heap w.heap.size iD us us' g g' F∧jl w'.heap r F [] v
def lb:List Nat→Nat→Nat→Option Nat
 | [],_,_=>none
 |i::r,n,k=>if i=k then some n else lb r (n+1) k
def abk(ids:List Nat):Option Nat→Bool
 |none=>true
 |some k=>(lb ids 0 k).isNone
def Xc(u:Option U)(id el j:Nat):Option (Option Nat×D):=match u with|some (.ar _ _ _ es)=>some (some id,.pt (D.at es el) j)|_=>none
def Yw(u:Option U)(id off len:Nat):Option (Option Nat×D):=match u with|some (.ar _ nn sz es)=>some (some id,.ls (if off=0∧len=es.length then nn else none) sz ((es.drop off).take len))|_=>none
def abY(u:Option U)(id len:Nat):Option (Option Nat×D):=match u with|some (.bx sz items)=>(match sJ sz items with|some ds=>if len=items.length∧D.n9 ds=true then some (some id,.ls (some false) sz ds)else none|none=>none)|_=>none
def AV.rd(un:Nat→Option U):AV→Option (Option Nat×D)
 |.pw id el j=>Xc (un id) id el j
 |.sm id off len=>Yw (un id) id off len
 |.vb id len=>abY (un id) id len
 |.z0 nn sz=>some (none,.ls nn sz [])
 |av=>av.den un
def Ia(ids:List Nat)(q:Option (Option Nat×D)):Option AV:=match q with|some (t,d)=>if abk ids t=true then some (.im none d)else none|none=>none
def pwW(q:Option Nat)(el j:Nat)(r:Option AV):Option AV:=match q with|some k=>some (.pw (3000000000+k) el j)|none=>r
def smW(q:Option Nat)(off len:Nat)(r:Option AV):Option AV:=match q with|some k=>some (.sm (3000000000+k) off len)|none=>r
def trW(q:Option Nat)(r:Option AV):Option AV:=match q with|some k=>some (.tr (3000000000+k))|none=>r
def pbW(q:Option Nat)(j:Nat):Option AV:=match q with|some k=>some (.pb (3000000000+k) j)|none=>none
mutual
def AV.pX(ids:List Nat)(un:Nat→Option U):AV→Option AV
 |.pw id el j=>pwW (lb ids 0 id) el j (Ia ids (AV.rd un (.pw id el j)))
 |.sm id off len=>smW (lb ids 0 id) off len (Ia ids (AV.rd un (.sm id off len)))
 |.tr k=>trW (lb ids 0 k) (Ia ids (AV.rd un (.tr k)))
 |.pb id j=>pbW (lb ids 0 id) j
 |.cl f vs=>match qg ids un vs with|some as=>some (.cl f as)|none=>none
 |.sg vs=>match qg ids un vs with|some as=>some (.sg as)|none=>none
 |av=>Ia ids (av.rd un)
def qg(ids:List Nat)(un:Nat→Option U):List AV→Option (List AV)
 | []=>some []
 |a::as=>match a.pX ids un,qg ids un as with|some b,some bs=>some (b::bs)|_,_=>none
end
mutual
def AV.pA(ids:List Nat):AV→Bool
 |.im none _=>true
 |.im (some _) d=>d.gJ
 |.pw id _ _=>(lb ids 0 id).isSome
 |.sm id _ _=>(lb ids 0 id).isSome
 |.tr id=>(lb ids 0 id).isSome
 |.pb _ _=>true
 |.cl _ vs=>qm ids vs
 |.sg vs=>qm ids vs
 |_=>false
def qm(ids:List Nat):List AV→Bool
 | []=>true
 |v::vs=>v.pA ids&&qm ids vs
end
def U.pA(ids:List Nat):Option U→Bool
 |some (.bx _ items)=>qm ids items
 |_=>true
def zn(ids:List Nat)(un:Nat→Option U):List Nat→Bool
 | []=>true
 |i::r=>U.pA ids (un i)&&zn ids un r
def wU(ids:List Nat)(un:Nat→Option U)(u:Option U):Option U:=
 match u with
 |some (.ar ow nn sz es)=>if(nn==some false|| !es.isEmpty)=true then some (.ar ow none sz es)else none
 |some (.own d)=>some (.own d)
 |some (.bx sz items)=>(match qg ids un items with|some as=>some (.bx sz as)|none=>none)
 |some (.sb _ _ _)=>none
 |some (.mp _)=>none
 |none=>none
def U8(ids:List Nat)(un:Nat→Option U):List Nat→Option (List U)
 | []=>some []
 |i::r=>match wU ids un (un i),U8 ids un r with|some u,some r=>some (u::r)|_,_=>none
mutual
def AV.Ct(ids:List Nat):AV→AV
 |.pw k el j=>.pw (ids.getD (k-3000000000) 0) el j
 |.pb k j=>.pb (ids.getD (k-3000000000) 0) j
 |.cl f vs=>.cl f (qj ids vs)
 |.sg vs=>.sg (qj ids vs)
 |v=>v
def qj(ids:List Nat):List AV→List AV
 | []=>[]
 |v::vs=>v.Ct ids::qj ids vs
end
mutual
def AV.okW(m:Nat):AV→Bool
 |.im none d=>d.flat
 |.pw k _ _=>decide (3000000000≤k)&&decide (k<3000000000+m)
 |.pb k _=>decide (3000000000≤k)&&decide (k<3000000000+m)
 |.cl _ vs=>tJ m vs
 |.sg vs=>tJ m vs
 |_=>false
def tJ(m:Nat):List AV→Bool
 | []=>true
 |v::vs=>v.okW m&&tJ m vs
end
def qn(m:Nat)(gP:Bool)(u u':U):Prop:=
 match u,u' with
 |.ar _ _ sz es,.ar ow' jc gv es'=>jc=none∧gv=sz∧es'.length=es.length∧(gP=true∨ow'=true∨fC es'=true)
 |.bx sz items,.bx gv g9=>gv=sz∧g9.length=items.length∧tJ m g9=true
 |_,_=>False
def JL(m:Nat)(gP:Bool):List U→List U→Prop
 |_,[]=>True
 |u::r,u'::r'=>qn m gP u u'∧JL m gP r r'
 |_,_=>False
def we:List Nat→AV→Bool
 | [],_=>false
 |i::r,v=>v.soft i||we r v
def v9:List Nat→AV→Bool
 | [],_=>false
 |i::r,v=>v.refs i||v9 r v
def oA(k1 k2:List Nat)(v:AV):Bool:=we k1 v||v9 k2 v
def vd(ids:List Nat)(u u':U):U:=
 match u,u' with
 |.ar _ nn _ _,.ar ow' _ gv es'=>.ar ow' nn gv es'
 |.bx _ _,.bx gv g9=>.bx gv (qj ids g9)
 |u,_=>u
def tj(q:Option Nat)(ids k1 k2:List Nat)(us':List U)(u:U):U:=match q with|some k=>vd ids u (us'.getD k default)|none=>u.kill (oA k1 k2)
def mM(ids k1 k2:List Nat)(us':List U):List (Nat×U)→List (Nat×U)
 | []=>[]
 |(i,u)::r=>if(lb k2 0 i).isSome=true then mM ids k1 k2 us' r else(i,tj (lb k1 0 i) ids k1 k2 us' u)::mM ids k1 k2 us' r
def St.ZV(st:St)(k1 k2:List Nat)(us':List U):St:=⟨st.n,iy (oA k1 k2) st.env,mM (k1++k2) k1 k2 us' st.us⟩
def Bz:List Nat→Bool
 | []=>true
 |x::l=>!l.contains x&&Bz l
def kq(f:St→Prop)(st:St)(d:Option Nat)(v:AV):List (Nat×U)→Prop
 | []=>f (st.kl d v)
 |us=>st.fresh us=true∧f ((st.iQ us).kl d v)
def D9(P:Program)(dst:Option Nat)(f:Nat)(args:List AV)(st:St)(kk:St→Prop):Prop:=
 ∃k1 k2 us as us' r,Bz (k1++k2)=true∧U8 (k1++k2) st.unit (k1++k2)=some us∧qg (k1++k2) st.unit args=some as∧AFW P f us as us' r∧us'.length=k1.length∧
  JL k1.length (qm (k1++k2) args&&zn (k1++k2) st.unit (k1++k2)) us us'∧kq kk (st.ZV k1 k2 us') dst (gS (dst.getD 0) false r).1 (gS (dst.getD 0) false r).2
def C0(x:AV)(P:Program)(d:Option Nat)(args:List AV)(st:St)(kk:St→Prop):Prop:=
 qe x P d args st.unit (kq kk st d)∨∃f vs,x=.cl f vs∧D9 P d f (args++vs) st kk
def eOp(P:Program)(r:lz)(st:St)(f:St→Prop):Prop:=
 match r with
 |.Eg d g x y=>Fn (st.ev x) (st.ev y) P d g st f
 |.st sz a x=>CZ (st.ev a) (st.ev x) st sz f
 |.app d sz bytes x y=>oK st sz (st.ev y) (DM x d sz bytes f)
 |_=>False
def Cov(d:D){α:Type}(A:α→D):Prop:=(∀a,(A a).size=d.size)∧∀(h:ij) F cs,f8 h d F cs→∃a,f8 h (A a) F cs
def Fk(u:Option U)(P:Program)(d f i el j:Nat)(ys:List AV)(st:St)(k:St→Prop):Prop:=
 match u with
 | some (.ar true nn usz [d1]) => (el = 0 ∧ j = 0 ∧ 0 < usz ∧ ys.all AV.shared = true) ∧ ∃ (ds : List D) (α : Type) (A : α → D), jp st.unit ys = some ds ∧ Cov d1 A ∧
   ∀(a:α)(b0:Nat),∃(b o:Nat) (e:D) (p q:Value) (root:Bool),AF P f (.lc b0 0 (.pt (A a) 0)::ds) (.jS [.sh (.lc b o (.pt e 0)),.own (.sc p),.own (.sc q)])∧(root=true→b=b0∧o=0)∧
    k ((st.mc i (.ar true nn usz [A a])).set d (.jS [if root=true then .pw i 0 0 else .im none (.sc (.pointer (some ⟨b,o,none⟩))),.im none (.sc p),.im none (.sc q)]))
 |_=>False
def Gb(x:AV)(P:Program)(d f:Nat)(ys:List AV)(st:St)(k:St→Prop):Prop:=
 match x with
 |.pw i el j=>Ie (st.unit i) P d f i el j ys st (kq k (st.del i) (some d))∨Fk (st.unit i) P d f i el j ys st k
 |_=>False
def AFB(P:Program)(f T E:Nat)(ds:List D)(t:ByteArray):Prop:=jf P f∧
 ∀(w:World)(vs:List Value)(iD:Nat→Prop)(b:Nat)(s:ByteArray)(F:List Nat),s.size+t.size≤140737488355328→wD w.heap T E s b F→b∉F→(∀x∈b::F,mO w.heap x)→(∀x,iD x→x∉b::F)→gM w.heap iD ds vs→
  Calls P f (.pointer (some ⟨b,0,none⟩)::vs).toArray w fun e w'=>(∃v,e=.returned v)∧w'.os=w.os∧w'.tape=w.tape∧w'.output=w.output∧w.heap.size≤w'.heap.size∧
   (∀x,x<w.heap.size→x∉b::F→w'.heap[x]?=w.heap[x]?)∧∃F',wD w'.heap T E (s++t) b F'∧b∉F'∧∀x∈F',x∈F∨w.heap.size≤x
def AFS(P:Program)(f T E:Nat):Prop:=jf P f∧
 ∀(w:World)(b:Nat)(s:ByteArray)(F:List Nat),wD w.heap T E s b F→b∉F→
  Calls P f #[.pointer (some ⟨b,0,none⟩)] w fun e w'=>e=.returned (.string s)∧w'.os=w.os∧w'.tape=w.tape∧w'.output=w.output∧w.heap.size≤w'.heap.size∧
   ∀x,x<w.heap.size→x∉b::F→w'.heap[x]?=w.heap[x]?
def abh(u:Option U)(P:Program)(dst:Option Nat)(f id:Nat)(ys:List AV)(st:St)(k:St→Prop):Prop:=
 match u with
 |some (.sb T E s)=>ys.all AV.shared=true∧∃ds es t,jp st.unit ys=some ds∧D.AQ ds es∧AFB P f T E es t∧s.size+t.size≤140737488355328∧k ((st.mc id (.sb T E (s++t))).kl dst .any)
 |_=>False
def I1(x:AV)(P:Program)(dst:Option Nat)(f:Nat)(ys:List AV)(st:St)(k:St→Prop):Prop:=
 match x with
 |.ps id=>abh (st.unit id) P dst f id ys st k
 |_=>False
def acU(u:Option U)(P:Program)(d f id:Nat)(st:St)(k:St→Prop):Prop:=
 match u with
 |some (.sb T E s)=>AFS P f T E∧k ((st.del id).set d (.im none (.sc (.string s))))
 |_=>False
def Jx(x:AV)(P:Program)(d f:Nat)(st:St)(k:St→Prop):Prop:=
 match x with
 |.ps id=>acU (st.unit id) P d f id st k
 |_=>False
def iC(st fS:St):Prop:=∀n0 S0 M0 w0 a w,ju n0 S0 M0 w0 st a w→ju n0 S0 M0 w0 fS a w
def PT(k:D→St→Prop)(_own:Bool)(d:D)(st:St):Prop:=k d st
def Jd(u:Option U)(i off len:Nat)(st:St)(k:D→St→Prop):Prop:=
 match u with
 |some (.ar _ nn sz es)=>(off=0∧len=es.length)∧k (.ls nn sz es) (st.del i)
 |_=>False
def tkG(k:D→St→Prop)(ds:List D)(st:St):Prop:=k (.ag (ds.map D.cells).flatten) st
def Ym(d:D)(k:List D→St→Prop)(ds:List D)(st:St):Prop:=k (d::ds) st
mutual
def sj(st:St):AV→(D→St→Prop)→Prop
 |.sm i off len,k=>Jd (st.unit i) i off len st k
 |.sg vs,k=>qo st vs (tkG k)
 |.im t d,k=>gH st (.im t d) (PT k)
 |.tr i,k=>gH st (.tr i) (PT k)
 |.cw i el j sz agg,k=>gH st (.cw i el j sz agg) (PT k)
 |_,_=>False
def qo(st:St):List AV→(List D→St→Prop)→Prop
 | [],k=>k [] st
 |v::vs,k=>sj st v fun d st=>qo st vs (Ym d k)
end
def tkC(vs:List AV)(k:List D→St→Prop)(d:D)(st:St):Prop:=qo st vs (Ym d k)
def shV(u:Option U)(i len sz:Nat)(st:St)(k:List D→St→Prop):Prop:=
 match u with
 |some (.bx w6 items)=>(w6=sz∧len=items.length)∧qo (st.del i) items k
 |_=>False
def Bl(u:Option U)(off len sz:Nat)(st:St)(k:List D→St→Prop):Prop:=
 match u with
 |some (.ar false _ usz es)=>usz=sz∧k ((es.drop off).take len) st
 |_=>False
def OA(st:St)(sz:Nat)(v:AV)(k:List D→St→Prop):Prop:=
 match v with
 |.vb i len=>shV (st.unit i) i len sz st k
 |.im none (.ls _ gv ds)=>gv=sz∧k ds st
 |.sm i off len=>Bl (st.unit i) off len sz st k
 |.ss i off len=>Bl (st.unit i) off len sz st k
 |_=>False
def NX(d sz len:Nat)(f:St→Prop)(ds:List D)(fS:St):Prop:=((∀e∈ds,e.size=sz)∧fS.fresh [(d,.own .jk)]=true)∧f ((fS.iQ [(d,.ar false (some false) sz ds)]).set d (.sm d 0 len))
def JN(ps:List (Nat×AV))(st:St)(d sz len:Nat)(f:St→Prop):Prop:=(ps.map (·.1)=List.range len∧0<sz∧len*sz≤16777216)∧qo st (ps.map (·.2)) (NX d sz len f)
def Jk(u:Option U)(id off len:Nat)(ds:List D)(fS:St)(d sz bytes:Nat)(f:St→Prop):Prop:=
 match u with
 |some (.ar ow nn usz es)=>(usz=sz∧0<sz∧off=0∧yk len es∧(ow=false∨rT len es=[])∧(len+ds.length)*bytes≤140737488355328∧len+ds.length≤gp∧(∀e∈ds,e.size=sz))∧
    f ((fS.upr id (.ar false (gC nn ds) sz (rT len es++ds))).set d (.sm id 0 (len+ds.length)))
 |_=>False
def IQ(x:AV)(d sz bytes:Nat)(f:St→Prop)(ds:List D)(fS:St):Prop:=
 match x with
 |.sm id off len=>Jk (fS.unit id) id off len ds fS d sz bytes f
 |_=>False
def FL(x:X)(d sz bytes:Nat)(f:St→Prop)(ds:List D)(fS:St):Prop:=IQ (fS.ev x) d sz bytes f ds fS
def uQ(a x:AV)(st:St)(sz:Nat)(f:St→Prop):Prop:=
 match x with
 |.sm i off len=>(match a with
  |.pw id el j=>Ru (st.unit id) id el j sz (.sm i off len) st f
  |.pb id j=>R7 (st.unit id) id j sz (.sm i off len) st f
  |_=>False)
 |x=>CZ a x st sz f
def ZB(h:ij)(sh:Nat→Prop)(ow:Bool)(sz:Nat)(es:List D)(b:Nat)(F:List Nat):Prop:=
 es.length≤gp∧(∀d∈es,d.size=sz)∧∃c e rest b2 c2 e2 G cs r2 cap,h[b]?=some (.cells c e (0,0))∧c.toList=Value.slice (some ⟨b2,0,none⟩) es.length cap::rest∧
  h[b2]?=some (.cells c2 e2 (0,0))∧c2.toList=cs++r2∧c2.size=cap*sz∧es.length≤cap∧fR h es G cs∧(if ow then F=b2::G else F=[b2]∧∀x∈G,sh x)
def AFL(P:Program)(f:Nat)(ow:Bool)(sz:Nat)(ds:List D)(es es':List D):Prop:=jf P f∧
 ∀(w:World)(vs:List Value)(iD:Nat→Prop)(b:Nat)(F:List Nat),ZB w.heap iD ow sz es b F→(b::F).Nodup→(∀x∈b::F,mO w.heap x∧¬iD x)→gM w.heap iD ds vs→
  Calls P f (vs++[Value.pointer (some ⟨b,0,none⟩)]).toArray w fun e w'=>(∃v,e=.returned v)∧w'.os=w.os∧w'.tape=w.tape∧w'.output=w.output∧w.heap.size≤w'.heap.size∧
   (∀ x, x < w.heap.size → x ∉ b :: F → w'.heap[x]? = w.heap[x]?) ∧ ∃ F' sh', ZB w'.heap sh' ow sz es' b F' ∧ (b :: F').Nodup ∧ (∀ x ∈ b :: F', mO w'.heap x ∧ (x < w.heap.size → x ∈ b :: F) ∧ ¬ sh' x) ∧
    ∀x,sh' x→x<w'.heap.size∧(x<w.heap.size→iD x∨x∈b::F)
mutual
def AV.BZ(un:Nat→Option U):AV→Option (List Nat×D)
 |.sg vs=>match JE un vs with|some (ts,ds)=>(Vl ds).map (ts,·)|none=>none
 |.im t d=>some (if d.gJ=true then[]else t.toList,d)
 |av=>(av.rd un).map fun p=>(p.1.toList,p.2)
def JE(un:Nat→Option U):List AV→Option (List Nat×List D)
 | []=>some ([],[])
 |a::as=>match a.BZ un,JE un as with|some (t,d),some (ts,ds)=>some (t++ts,d::ds)|_,_=>none
end
def lv(k id:Nat)(v:AV):Bool:=v.refs k||v.soft id
def St.GE(st:St)(id k:Nat)(es:List D)(ow:Bool)(sz:Nat):St:=
 ⟨st.n,iy (lv k id) st.env,(id,.bx 1 [.sm k 0 es.length])::(k,.ar ow (some false) sz es)::fQ id (lv k id) (fQ k (lv k id) st.us)⟩
def Xf(u v:Option U)(P:Program)(dst:Option Nat)(f id:Nat)(k:Nat)(ys:List AV)(st:St)(kk:St→Prop):Prop:=
 match u,v with
 | some (.bx 1 [.sm k' 0 n]), some (.ar ow nn sz es) => (k' = k ∧ k ≠ id ∧ n = es.length ∧ (nn = some false ∨ es ≠ [])) ∧ ∃ ts ds es', JE st.unit ys = some (ts, ds) ∧ (ts.contains k || ts.contains id || (!ow && !ts.isEmpty)) = false ∧
   AFL P f ow sz ds es es'∧kk ((st.GE id k es' ow sz).kl dst .any)
 |_,_=>False
def NK(P:Program)(dst:Option Nat)(f:Nat)(xs:List X)(gR:St)(kk:St→Prop):Prop:=
 ∃st,iC gR st∧(D9 P dst f (xs.map st.ev) st kk∨(∃ys id k,xs.map st.ev=ys++[.pb id 0]∧Xf (st.unit id) (st.unit k) P dst f id k ys st kk)∨nU P dst f (xs.map st.ev) st.unit (kq kk st dst))
def Jb(u:Option U)(id kk:Nat)(q:Option MK)(v:Value)(st:St)(f:St→Prop):Prop:=
 match u,q with
 |some (.mp es),some x=>(mb x=kk∧es.all (fun e=>mb e.1==kk)=true∧es.length<9223372036854775807)∧f (st.mc id (.mp (zm es x v)))
 |_,_=>False
def GA(m x y:AV)(kk:Nat)(st:St)(f:St→Prop):Prop:=
 match m,x,y with
 |.mv id,.im _ d,.im _ (.sc v)=>Jb (st.unit id) id kk (BE d) v st f
 |_,_,_=>False
def Tu(P:Program)(r:lz)(st:St)(f:St→Prop):Prop:=
 match r with
 |.cls d g x ys=>Gb (st.ev x) P d g (ys.map st.ev) st f
 |.Uy d sz x y=>LK (st.ev x) (st.ev y) d sz st f
 |.ZO d g xs=>D9 P d g (xs.map st.ev) st f
 |.GC d x xs=>C0 (st.ev x) P d (xs.map st.ev) st f
 |.ZP d g x xs=>I1 (st.ev x) P d g (xs.map st.ev) st f
 |.K6 d g x=>Jx (st.ev x) P d g st f
 |.VG d sz bytes x y=>OA st sz (st.ev y) (FL x d sz bytes f)
 |.VH sz a x=>uQ (st.ev a) (st.ev x) st sz f
 |.VI d g xs=>NK P d g xs st f
 |.ZQ d sz len ps=>JN (ps.map fun p=>(p.1,st.ev p.2)) st d sz len f
 |.ZR kk m x y=>GA (st.ev m) (st.ev x) (st.ev y) kk st f
 |r=>eOp P r st f
def oq(P:Program)(r:lz)(st:St)(f:St→Prop):Prop:=
 if r.sq then yX P r st.ev st.unit (kq f st r.dst)else Tu P r st f
def nK(g:AV)(b:Bool)(p q:Prop):Prop:=
 match g with
 |.im _ (.sc (.bool c))=>(c=b→p)∧(c=!b→q)
 |.jS []=>q
 |_=>False
def gl(P:Program):List RO→St→(Exit→St→Prop)→Prop
 | [],st,K=>K .normal st
 |⟨none,r⟩::rest,st,K=>oq P r st fun st=>gl P rest st K
 |⟨some (t,b),r⟩::rest,st,K=>nK (st.get t) b (oq P r st fun st=>gl P rest st K) (gl P rest (st.kl r.dst (.jS [])) K)
def kC(s:St)(d:Nat)(v:AV)(us:List (Nat×U)):Prop:=v=s.get d∧us=[]
def pk(P:Program)(r:lz)(s:St):Prop:=match r.dst with|some d=>yX P r s.ev s.unit (kC s d)|none=>True
def ml(P:Program):List lz→St→Prop
 | [],_=>True
 |c::cs,s=>pk P c s∧ml P cs s
def Gx(P:Program):List (List lz×RO)→St→(Exit→St→Prop)→Prop
 | [],s,K=>K .normal s
 |(cs,r)::l,s,K=>ml P cs s∧gl P [r] s (fun _ s'=>Gx P l s' K)
def kE(P:Program)(l:List (List lz×RO))(K:Exit→St→Prop)(_:Exit)(s:St):Prop:=Gx P l s K
def Cq(k:Nat):List (Nat×U)→List (Nat×U)
 | []=>[]
 |(i,u)::r=>(i,if i=k then .own .jk else u)::Cq k r
def St.apJ(st:St)(d sz x y:Nat)(es:List D):St:=⟨st.n,(d,.tr d)::(y,.any)::(x,.any)::st.env,(d,.own (.ls (some false) sz es))::Cq x (Cq y st.us)⟩
def abE(u v:Option U)(d sz bytes x y:Nat)(st:St)(k:St→Prop):Prop:=
 match u,v with
 |some (.own (.ls _ gv es)),some (.bx w6 [.im none d0])=>(x≠y∧gv=sz∧w6=sz∧0<sz∧d0.flat=true∧d0.size=sz∧(es.length+1)*bytes≤140737488355328∧es.length+1≤gp∧st.fresh [(d,.own .jk)]=true)∧k (st.apJ d sz x y (es++[d0]))
 |_,_=>False
def YB(a b:AV)(u v:Option U)(d sz bytes x y:Nat)(st:St)(k:St→Prop):Prop:=
 match a,b with
 |.tr x',.vb y' 1=>(x'=x∧y'=y)∧abE u v d sz bytes x y st k
 |_,_=>False
def sT(P:Program):List PO→St→(St→Prop)→Prop
 | [],st,K=>K st
 |.q r::l,st,K=>gl P [r] st (fun _ s=>sT P l s K)
 |.a d sz b x y::l,st,K=>YB (st.get x) (st.get y) (st.unit x) (st.unit y) d sz b x y st (fun s=>sT P l s K)
def wd:List PO→List Nat
 | []=>[]
 |.q _::l=>wd l
 |.a _ _ _ x y::l=>x::y::wd l
def vn(C:List Nat):List (Nat×AV)→Bool
 | []=>true
 |(t,v)::r=>C.all (fun k=>k==t|| !v.refs k)&&vn C r
def x7(C:List Nat):List AV→Bool
 | []=>true
 |v::r=>C.all (fun k=>!v.refs k)&&x7 C r
def qK(C:List Nat):List (Nat×U)→Bool
 | []=>true
 |(_,.bx _ items)::r=>x7 C items&&qK C r
 |_::r=>qK C r
def kP(P:Program)(C:List Nat)(E:List RO)(K:Exit→St→Prop)(s:St):Prop:=(vn C s.env=true∧qK C s.us=true)∧gl P E s K
def vw(f:St→Prop)(K:Exit→St→Prop)(e:Exit)(st:St):Prop:=
 match e with
 |.normal=>f st
 |e=>K e st
def D7(id:Nat)(K:Exit→St→Prop)(e:Exit)(st:St):Prop:=
 match e with
 |.exit i=>if i=id then K .normal st else K (.exit i) st
 |e=>K e st
def si(c:AV)(p q:Prop):Prop:=
 match c with
 |.im _ (.sc (.bool t))=>(t=true→p)∧(t=false→q)
 |_=>False
mutual
def wb(P:Program)(L:List RO):Tr→St→(St→Prop)→Prop
 |.br l,st,K=>uV P L l st K (l=[]→K st)
def uV(P:Program)(L:List RO):List (Nat×Tr)→St→(St→Prop)→Prop→Prop
 | [],_,_,q=>q
 |(i,t)::l,st,K,q=>gl P [L.getD i default] st (fun _ s=>wb P L t s K)∧uV P L l st K q
end
def vcA(P:Program)(R:List RO)(T:Tr)(st:St)(k:St→Prop):Prop:=∃fS,wb P R T st (fun s=>iC s fS)∧k fS
mutual
def pn(P:Program):KA→St→(Exit→St→Prop)→Prop
 |.br cs l,st,K=>ml P cs st∧qb P l st K (l=[]→K .normal st)
def qb(P:Program):List (RO×KA)→St→(Exit→St→Prop)→Prop→Prop
 | [],_,_,q=>q
 |(r,t)::l,st,K,q=>gl P [r] st (fun _ s=>pn P t s K)∧qb P l st K q
end
def kT(P:Program)(T:KA)(K:Exit→St→Prop)(_:Exit)(s:St):Prop:=pn P T s K
def qu(P:Program):RC→St→(Exit→St→Prop)→Prop
 |.skip,st,K=>K .normal st
 |.gt _ ops,st,K=>gl P ops st K
 |.adv N E,st,K=>gl P N st (kE P E K)
 |.O7 R T,st,K=>vcA P R T st (K .normal)
 |.ZS N T,st,K=>gl P N st (kT P T K)
 |.ZT N E,st,K=>sT P N st (kP P (wd N) E K)
 |.seq a b,st,K=>qu P a st (vw (fun st=>qu P b st K) K)
 |.cond x a b,st,K=>si (st.ev x) (qu P a st K) (qu P b st K)
 |.iV id c,st,K=>qu P c st (D7 id K)
 |.loop c,st,K=>∃(I:Nat→St→Prop),(∃n s,iC st s∧I n s)∧∀n s,I n s→qu P c s (vw (fun s'=>∃n' GF,iC s' GF∧I n' GF∧n'<n) K)
 |.exit id,st,K=>K (.exit id) st
 |.ret,st,K=>K .ret st
 |.other _,_,_=>False
def g7(P:Program)(rest:List RO)(K:Exit→St→Prop)(st:St):Prop:=gl P rest st K
def kR(P:Program)(c:RC)(K:Exit→St→Prop)(st:St):Prop:=qu P c st K
end Go.Ax
