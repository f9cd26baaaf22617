/- THE ENGINE, PART 7: a generator of conditions over the register code, and its soundness. No condition. -/
import Derived.Test.YtjnghfepojipiaaEnF
import Derived.OrdersHeld
set_option linter.unusedSimpArgs false
set_option linter.unusedVariables false
set_option linter.unnecessarySimpa false
set_option linter.unusedSectionVars false
namespace Go.Ax

variable {P : Program} {wv : Wv} {n0 : Nat} {S0 M0 : Nat → Prop} {w0 : World}

theorem BL{ops:Array Oper}{R:List RO}{st:St}{V:Nat→Rs}{X:List Nat}{listed:Array Bool}{i:Nat}{r:RO}{o:Oper}{a:Act}{w:World}{Q:Exit→Act→World→Prop}
  (hd:Bv P wv ops R st V) (h:eo P ops R X listed) (ho:ops[i]?=some o) (hr:R[i]?=some r) (hres:db P wv st.n ops o=some r)
  (hw:∀j∈aF ops i,j∈X) (hn:i∉X) (hnext:eo P ops R (i::X) (listed.setIfInBounds i true)) (hs:dH n0 S0 M0 w0 (aA st (be R) V X) a w):
  wpOp P ops Q i (fun a w=>dH n0 S0 M0 w0 (aA st (be R) V (i::X)) a w) a w:=by
 have hlen:=hd.len;have hXn:(aA st (be R) V X).n=st.n:=ce;have hget:∀t∈r.slots,(aA st (be R) V X).get t=(aA st (be R) V (cu i)).get t:=fun t ht=>AH hd h hr hw hn ht;have hkX:=pm hd.keys h.nd (fun j hj=>by have:=h.lt j hj;omega);have hkN:=pm hd.keys hnext.nd (fun j hj=>by have:=hnext.lt j hj;omega);have hi:i<R.length:=(List.getElem?_eq_some_iff.1 hr).1;have hkD:=pm (X:=cu i) hd.keys iB (fun j hj=>by have:=fB.1 hj;omega);have hdst:be R i=r.op.dst:=by simp[be,hr]
 have hfr:(V i).2=[]∨(aA st (be R) V X).fresh (V i).2=true:=.inr (oc (by
  have e:(aA st (be R) V (i::X)).us=(V i).2++(aA st (be R) V X).us:=by simp[cb]
  rw[←e];exact hkN.1))
 have hexec:aA st (be R) V (i::X)=dp (aA st (be R) V X) r.op.dst (V i):=by simp only[aA];rw[hdst]
 obtain⟨g,hu,hv⟩:=hs.gh;have hstep:=hd.step i r hr;have hres0:=hres;unfold db at hres0;simp only[oD,oB,ae]at hres0;obtain⟨op,hop,_,h1,_,h2,hres0⟩:=hres0;have hdl:∀d,o.dst=some d→d<(aA st (be R) V X).n:=by
  intro d hdd;rw[hXn];rw[hdd]at h2;simpa using h2
 have hrop:r.op=op:=by
  split at hres0
  ·simp only[oP,oS]at hres0;rw[←hres0]
  ·simp only[oB,oP,oS]at hres0;obtain⟨_,_,_,_,hres0⟩:=hres0;rw[←hres0]
 have run:∀{Q':Exit→Act→World→Prop},QD P r.op (aA st (be R) V (cu i)) (V i)→o.wp P a w (fun a w=>dH n0 S0 M0 w0 (aA st (be R) V (i::X)) a w) Q':=by
  intro Q' hq;have hev:∀x∈r.op.xs,(aA st (be R) V X).ev x=(aA st (be R) V (cu i)).ev x:=by
   intro x hx;cases x with
   |c d=>rfl
   |t n=>exact hget n (List.mem_append_left _ (List.mem_filterMap.2 ⟨_,hx,rfl⟩))
  have hq':uo P r.op (aA st (be R) V X).ev (aA st (be R) V X).unit (fun v u=>v=(V i).1∧u=(V i).2):=by
   refine qb hq.1 hev ?_;intro x hx k u hk hu';rw[←hev x hx]at hk;cases x with
   |c d=>simp only[St.ev,jc]at hk;split at hk<;>simp[AV.ids]at hk
   |t n=>
    obtain⟨u',hm⟩:=oM (hv n) k hk;have h3:=hkX.2 _ hm;have h4:=hkD.2 _ (ay hu');have e1:=ck hd.keys h3;have e2:=ck hd.keys h4;rw[e1]at e2;injection e2 with e2;subst e2;exact ck hkX.1 hm
  have hQ:=hd.isQ i r hr;rw[hrop]at hq' hQ;have⟨h5,h6⟩:=rO (Q':=Q') (n:=st.n) hop hQ hXn ⟨hs,hu,hv,hdl⟩ hq';refine Oper.wp_mono ?_ h5;rintro a' w' ⟨av,us,⟨rfl,rfl⟩,hS⟩;rw[hexec,hrop,h6];exact hS hfr
 unfold wpOp;rw[ho];simp only
 split at hres0
 ·next hg=>
  simp only[oP,oS]at hres0;subst hres0;have:Region.wanted o (yielded ops a.tmps)=true:=by simp[Region.wanted,hg]
  rw[this,if_pos rfl];exact .inl (run hstep)
 ·next j b hg=>
  simp only[oB,oP,oS]at hres0;obtain⟨p,hp,t,ht,rfl⟩:=hres0;rcases hstep with⟨tk,c,hc,hy,hno⟩|⟨hc,hno⟩
  ·rw[←hget t (List.mem_append_right _ (by simp))]at hc;have hvt:=hv t;have hc':lk (aA st (be R) V X).env t=.im tk (.sc (.bool c)):=hc;rw[hc']at hvt;have hval:=c9 hvt;have hyy:=jL (ops:=ops) hp ht hval;have hwt:Region.wanted o (yielded ops a.tmps)=(some c==some b):=by simp[Region.wanted,hg,hyy]
   rw[hwt]
   by_cases e:c=b
   ·rw[if_pos (by simp[e])];exact .inl (run (hy e))
   ·rw[if_neg (by simp[e])];have hV:V i=(.tup [],[]):=hno (by cases c<;>cases b<;>simp_all);rw[hexec,hV,h1];unfold dp;rw[dL];exact cY hs hu hv hdl gX
  ·rw[←hget t (List.mem_append_right _ (by simp))]at hc;have hvt:=hv t;have hc':lk (aA st (be R) V X).env t=.tup []:=hc;rw[hc']at hvt;have hwt:Region.wanted o (yielded ops a.tmps)=false:=by simp[Region.wanted,hg,gl (ops:=ops) hp ht (ma hvt)]
   rw[hwt,if_neg (by simp),hexec,hno,h1];unfold dp;rw[dL];exact cY hs hu hv hdl gX

theorem CI{ops:Array Oper}{R:List RO}{st:St}{V:Nat→Rs}{Q:Exit→Act→World→Prop}(hd:Bv P wv ops R st V)
  (hend:∀a w,dH n0 S0 M0 w0 (aA st (be R) V (cu R.length)) a w→Q .normal a w):∀(fuel:Nat)(X:List Nat)(listed:Array Bool)(a:Act)(w:World),eo P ops R X listed→fuel+X.length=ops.size→
  dH n0 S0 M0 w0 (aA st (be R) V X) a w→wpAny P .any ops Q fuel listed a w:=by
 have fin:∀{X:List Nat} {listed:Array Bool} {a:Act} {w:World},eo P ops R X listed→(∀i,i<ops.size→i∈X)→dH n0 S0 M0 w0 (aA st (be R) V X) a w→Q .normal a w:=by
  intro X listed a w h hf hs;have hp:X.Perm (cu R.length):=(List.perm_ext_iff_of_nodup h.nd iB).2 fun i=>by
   rw[fB,hd.len];exact⟨h.lt i,hf i⟩
  refine hend a w (hs.eqv (by rw[ce,ce]) ?_ ?_)
  ·intro t;have x:=cW (bD:=st) (V:=V) hd.inj (L:=X) (t:=t);have y:=cW (bD:=st) (V:=V) hd.inj (L:=cu R.length) (t:=t)
   by_cases he:∃j,j∈X∧be R j=some t
   ·obtain⟨j,h1,h2⟩:=he;rw[x.1 j h1 h2,y.1 j (hp.mem_iff.1 h1) h2]
   ·rw[x.2 fun k hk e=>he ⟨k,hk,e⟩,y.2 fun k hk e=>he ⟨k,hp.mem_iff.2 hk,e⟩]
  ·rw[cb,cb];exact((hp.flatMap_right _).append_right _).symm
 intro fuel
 induction fuel with
 |zero=>
  intro X listed a w h hl hs;have hf:=fw h.nd h.lt (by omega);refine⟨?_,fin h hf hs⟩;rw[List.eq_nil_iff_forall_not_mem];intro i hi;have:=h.next hi;obtain⟨_,h2,o,ho,_⟩:=this;exact h2 (hf i (Array.getElem?_eq_some_iff.1 ho).1)
 |succ fuel ih=>
  intro X listed a w h hl hs;refine⟨fun h0=>fin h (h.full hd.acyc h0) hs,fun i hi=>?_⟩;obtain⟨h1,h2,o,ho,h3⟩:=h.next hi;obtain⟨r,hr,hres⟩:=hd.res i o ho;refine wpOp_mono ?_ (BL (Q:=Q) hd h ho hr hres h3 h2 h1 hs);intro a' w' hs';exact ih (i::X) _ a' w' h1 (by simp only[lK];omega) hs'

theorem zZ{ops:Array Oper}{R:List RO}{st:St}{K:Exit→St→Prop}{id:Nat}{a:Act}{w:World}(hm:P.follows .mixedOrders=true)(hd:mN ops R=true)
  (hR:ops.toList.mapM (db P wv st.n ops)=some R) (hs:dH n0 S0 M0 w0 st a w) (hq:a8 P R st K):(Code.region id ops true).wp P (fX n0 S0 M0 w0 st.n K) a w:=by
 refine wp_region_any hm ?_;have hQ:∀r∈R,r.op.isQ=true:=by
  have hd':=hd;unfold mN at hd';simp only[bA,beq_iff_eq,List.all_eq_true,List.mem_range]at hd';intro r hr;obtain⟨i,hi,e⟩:=List.mem_iff_getElem.1 hr;have:=(hd'.2 i hi).2;rw[List.getElem?_eq_getElem hi,e]at this;simp only[bA]at this;exact this.1
 obtain⟨rl,s',hx,hK,hl⟩:=fC hQ hq;obtain⟨g,hu,hv⟩:=hs.gh;obtain⟨hD,e⟩:=EM hd hR hu.keys hx;have hc:eo P ops R [] (Array.replicate ops.size false):=⟨List.nodup_nil,by simp,by simp,by simp,fun j hj=>by simp[Array.getD_eq_getD_getElem?,hj]⟩;have hn:s'.n=st.n:=by rw[e];exact ce
 exact CI hD (fun a w h=>⟨s',hn,hK,by rw[e];exact h⟩) ops.size [] _ a _ hc (by simp) ⟨hs.ms,hs.dfr,hs.tm,hs.base,hs.os,hs.tape,hs.output,hs.size,hs.old,hs.gh⟩

end Go.Ax
namespace Go.Ax

variable {P : Program} {wv : Wv} {n0 : Nat} {S0 M0 : Nat → Prop} {w0 : World}
variable {st : St} {o : Oper} {a : Act} {w : World} {k : KQ} {g : Gh}

def ff.isFl:ff→Bool
 |.mv .. |.fa .. |.ext .. |.nck .. |.mkf .. |.pick .. =>true
 |_=>false

theorem Eg{d:Nat}{e:TypeId}{r:ff}(h:nQ P d e=some r):r.isFl=false:=by
 unfold nQ at h
 split at h
 ·injection h with h;subst h;rfl
 ·simp only[oD,oB,oP,oS]at h;obtain⟨s,hs,z,hz,rfl⟩:=h
  rfl
theorem Fp{wv:Wv}{d sz:Nat}{z:D}{l:Nat}{ps:List (Nat×X)}:(uf wv d sz z l ps).isFl=false:=by
 unfold uf
 split<;>rfl
theorem jz{n:Nat}{r:ff}(hres:kc P wv n o=some r)(hfl:r.isFl=true)(h:At n0 S0 M0 w0 st o a w g)(hq:uo P r st.ev st.unit k):
  ∃v,∀w',(execOp a.eval o).run P w'=.ok (.value v) w':=by
 unfold kc at hres
 split at hres
 ·next x ho=>exact⟨a.eval x,fun w'=>by simp[execOp,ho]⟩
 ·next x ho=>exact⟨a.eval x,fun w'=>by simp[execOp,ho]⟩
 ·next c x y ho=>
  simp only[oD,oB,oP,oS,ae]at hres;obtain⟨d,hd,_,_,C,hC,X,hX,Y,hY,rfl⟩:=hres;have e:=h.ev_ hC;simp only[uo]at hq;unfold jn at hq
  split at hq
  ·next t' b hv=>
   rw[hv]at e;have hc:=c9 e;cases b
   ·exact⟨a.eval y,fun w'=>by simp[execOp,ho,hc,asBool]⟩
   ·exact⟨a.eval x,fun w'=>by simp[execOp,ho,hc,asBool]⟩
  ·exact hq.elim
 ·next e x ho=>
  simp only[oD,oB,oP,oS,ae]at hres;obtain⟨d,hd,_,_,s,hs,X,hX,rfl⟩:=hres;cases hfl
 ·next e ho=>
  simp only[oD,oB,oP,ae]at hres;obtain⟨d,hd,_,_,hres⟩:=hres;rw[Eg hres]at hfl;cases hfl
 ·next t x ho=>
  simp only[oD,oB,oP,oS,ae]at hres;obtain⟨d,hd,_,_,s,hs,ag,hag,_,h1,X,hX,rfl⟩:=hres;cases hfl
 ·next t p x ho=>
  simp only[oD,oB,oP,oS,ae]at hres;obtain⟨_,hd,s,hs,A,hA,X,hX,rfl⟩:=hres;cases wv<;>cases hfl
 ·next x ho=>
  simp only[oD,oB,oP,oS,ae]at hres;obtain⟨d,hd,_,_,X,hX,rfl⟩:=hres;have e:=h.ev_ hX;simp only[uo]at hq;unfold kZ at hq
  split at hq
  ·next t' d j hv=>
   rw[hv]at e;simp only[ab,aW,D.fits]at e;obtain⟨F,⟨b,off,c,el,fr,F',h1,_⟩,h2,_⟩:=e;rw[aS h2]at h1;have h3:a.eval x=.pointer (some ⟨b,off+j,none⟩):=by simpa using h1
   exact⟨_,fun w'=>by simp[execOp,ho,h3];rfl⟩
  ·next t' b0 o0 d j hv=>
   rw[hv]at e;simp only[ab,aW,D.fits]at e;obtain⟨F,⟨_,b,off,c,el,fr,F',h1,_⟩,h2,_⟩:=e;rw[aS h2]at h1;have h3:a.eval x=.pointer (some ⟨b,off+j,none⟩):=by simpa using h1
   exact⟨_,fun w'=>by simp[execOp,ho,h3];rfl⟩
  ·next t' p0 hv=>
   rw[hv]at e;have h3:=c9 e;exact⟨_,fun w'=>by simp[execOp,ho,h3];rfl⟩
  ·next id el j hv=>
   rw[hv]at e;simp only[ab]at e;obtain⟨ow,nn,sz,es,b,_,_,_,_,h3⟩:=e;exact⟨_,fun w'=>by simp[execOp,ho,h3];rfl⟩
  ·next id el j isz el' j' hv=>
   rw[hv]at e;simp only[ab]at e;obtain⟨ow,nn,usz,es,b,c,ty,b',off',len',cap',_,_,_,_,_,_,h3⟩:=e;exact⟨_,fun w'=>by simp[execOp,ho,h3];rfl⟩
  ·next id j hv=>
   rw[hv]at e;simp only[ab]at e;obtain⟨_,_,b,_,_,h3⟩:=e;exact⟨_,fun w'=>by simp[execOp,ho,h3];rfl⟩
  ·exact hq.elim
 ·next op t x y u ho=>
  simp only[oD,oB,oP,ae]at hres;obtain⟨d,hd,_,_,hres⟩:=hres
  split at hres<;>(try simp only[oB,oS]at hres)
  ·obtain⟨X,hX,Y,hY,rfl⟩:=hres;cases hfl
  ·obtain⟨X,hX,Y,hY,rfl⟩:=hres;cases hfl
  ·next ht _ _=>obtain⟨X,hX,Y,hY,rfl⟩:=hres;cases hfl
  ·obtain⟨X,hX,Y,hY,rfl⟩:=hres;cases hfl
  ·obtain⟨X,hX,Y,hY,rfl⟩:=hres;cases hfl
  ·obtain⟨X,hX,Y,hY,rfl⟩:=hres;cases hfl
  ·split at hres<;>(try simp only[oB,oS]at hres)
   ·obtain⟨X,hX,Y,hY,rfl⟩:=hres;cases hfl
   ·subst hres;cases hfl
  ·split at hres<;>(try simp only[oB,oS]at hres)
   ·obtain⟨X,hX,Y,hY,rfl⟩:=hres;cases hfl
   ·subst hres;cases hfl
  ·subst hres;cases hfl
 ·next op t x ho=>
  simp only[oD,oB,oP,oS,ae]at hres;obtain⟨d,hd,_,_,X,hX,rfl⟩:=hres;cases hfl
 ·next s t x ho=>
  simp only[oD,oB,oP,ae]at hres;obtain⟨d,hd,_,_,hres⟩:=hres
  split at hres<;>(try simp only[oB,oS]at hres)
  ·obtain⟨X,hX,rfl⟩:=hres;cases hfl
  ·split at hres<;>simp only[oB,oS]at hres
   ·obtain⟨X,hX,rfl⟩:=hres;cases hfl
   ·subst hres;cases hfl
  ·subst hres;cases hfl
 ·next t l c ho=>
  simp only[oD,oB,oP,oS,ae]at hres;obtain⟨d,hd,_,_,e,he,i,hi,z,hz,L,hL,C,hC,rfl⟩:=hres;have ht:P.underlying t=some (.slice e):=by
   unfold ky at he
   split at he
   ·next e' h'=>injection he with he;subst he;exact h'
   ·cases he
  cases hfl
 ·next t x lo hi ho=>
  simp only[oD,oB,oP,ae]at hres;obtain⟨d,hd,_,_,Lo,hLo,Hi,hHi,hres⟩:=hres;have l1:∀y,lo=some y→∃Y,Lo=some Y∧aU P 0 y=some Y:=by
   rintro y rfl;simp only[Option.map_eq_some_iff]at hLo;obtain⟨Y,h1,rfl⟩:=hLo;exact⟨Y,rfl,h1⟩
  have l2:lo=none→Lo=none:=by rintro rfl;simpa using hLo.symm
  have l3:∀y,hi=some y→∃Y,Hi=some Y∧aU P 0 y=some Y:=by
   rintro y rfl;simp only[Option.map_eq_some_iff]at hHi;obtain⟨Y,h1,rfl⟩:=hHi;exact⟨Y,rfl,h1⟩
  have l4:hi=none→Hi=none:=by rintro rfl;simpa using hHi.symm
  split at hres<;>simp only[oB,oS]at hres
  ·obtain⟨s,hs,X,hX,rfl⟩:=hres;cases hfl
  ·obtain⟨X,hX,rfl⟩:=hres;cases hfl
  ·subst hres;cases hfl
 ·next t x lo hi mx ho=>
  simp only[oD,oB,oP,ae]at hres;obtain⟨d,hd,_,_,hres⟩:=hres
  split at hres
  ·next e ht=>
   split at hres
   ·simp only[oB,oS]at hres;obtain⟨s,hs,X,hX,rfl⟩:=hres;cases hfl
   ·simp only[oS]at hres;subst hres;cases hfl
  ·simp only[oS]at hres;subst hres;cases hfl
 ·next fn first captured ho=>
  simp only[oD,oB,oP,ae]at hres;obtain⟨d,hd,_,_,hres⟩:=hres
  split at hres
  ·next f hf=>
   exact⟨_,fun w'=>by simp[execOp,ho,Instr.makeFunc];rfl⟩
  ·simp only[oS]at hres;subst hres;cases hfl
 ·next t x i ho=>
  simp only[oD,oB,oP,ae]at hres;obtain⟨d,hd,_,_,hres⟩:=hres
  split at hres
  ·next fs ht=>
   simp only[oB,oS,ae]at hres;obtain⟨f,hf,z,hz,_,hz0,X,hX,rfl⟩:=hres;have ex:=h.ev_ hX;have hrun:∀(b p:Nat)(w':World),a.eval x=.pointer (some ⟨b,p,none⟩)→(execOp a.eval o).run P w'=.ok (.value (.pointer (some ⟨b,p+f.offset,none⟩))) w':=by
    intro b p w' hv;have hz0:z≠0:=by simpa using hz0
    simp[execOp,ho,hv,Instr.fieldAt,run_underlying ht,hf,Instr.sureAddr,fieldPlace,hZ hz,hz0,jG]
   simp only[uo]at hq;unfold yL at hq
   split at hq
   ·next t1 d' j e1=>
    rw[e1]at ex;obtain⟨b,p,hv,_⟩:=pX ex;exact⟨_,fun w'=>hrun _ _ w' hv⟩
   ·next t1 b0 o0 d' j e1=>
    rw[e1]at ex;obtain⟨b,p,hv,_⟩:=pX (qS ex rfl).1;exact⟨_,fun w'=>hrun _ _ w' hv⟩
   ·next id el j e1=>
    rw[e1]at ex;simp only[ab]at ex;obtain⟨ow,nn,usz,es,b,r1,r2,r3,r4,hv⟩:=ex;exact⟨_,fun w'=>hrun _ _ w' hv⟩
   ·next id el j isz el' j' e1=>
    rw[e1]at ex;simp only[ab]at ex;obtain⟨ow,nn,usz,es,b,c,ty,b',off',len',cap',r1,r2,r3,r4,r5,r6,hv⟩:=ex;exact⟨_,fun w'=>hrun _ _ w' hv⟩
   ·next id j e1=>
    rw[e1]at ex;simp only[ab]at ex;obtain⟨sz,items,b,r1,r2,hv⟩:=ex;exact⟨_,fun w'=>hrun _ _ w' hv⟩
   ·exact hq.elim
  ·cases hres
 ·next t x i ho=>
  simp only[oD,oB,oP,ae]at hres;obtain⟨d,hd,_,_,hres⟩:=hres
  split at hres
  ·next fs ht=>
   simp only[oB,oS,ae]at hres;obtain⟨f,hf,s,hs,ag,hag,_,h1,X,hX,rfl⟩:=hres;cases hfl
  ·cases hres
 ·next t x i ho=>
  simp only[oD,oB,oP,ae]at hres;obtain⟨d,hd,_,_,hres⟩:=hres
  split at hres
  ·next e ht=>
   simp only[oB,oS]at hres;obtain⟨s,hs,X,hX,I,hI,rfl⟩:=hres;cases hfl
  ·simp only[oS]at hres;subst hres;cases hfl
 ·next t x i ho=>
  simp only[oD,oB,oP,ae]at hres;obtain⟨d,hd,_,_,hres⟩:=hres
  split at hres
  ·next ht=>
   simp only[oB,oS]at hres;obtain⟨X,hX,I,hI,rfl⟩:=hres;cases hfl
  ·simp only[oS]at hres;subst hres;cases hfl
 ·next x i ho=>
  simp only[oD,oB,oP,oS,ae]at hres;obtain⟨d,hd,_,_,X,hX,rfl⟩:=hres;have ex:=h.ev_ hX;simp only[uo]at hq;unfold rv at hq
  split at hq
  ·next vs e1=>
   rw[e1]at ex;simp only[ab]at ex;obtain⟨xs,hv,hl⟩:=ex;have hlen:∀(vs:List AV)(xs:List Value),ah w.heap st.us g vs xs→xs.length=vs.length:=by
    intro vs
    induction vs with
    |nil=>intro xs hl;simp only[ah]at hl;simp[hl]
    |cons y vs ih=>intro xs hl;simp only[ah]at hl;obtain⟨v,r,rfl,_,h2⟩:=hl;simp[ih r h2]
   have hlt:i<xs.size:=by have:=hlen vs _ hl;simp at this;have:=hq.1;omega
   exact⟨xs[i],fun w'=>by simp[execOp,ho,hv,Instr.extract,hlt]⟩
  ·exact hq.elim
 ·next t l ps ho=>
  simp only[oD,oB,oP,oS,ae]at hres;obtain⟨d,hd,_,_,e,he,s,hs,z,hz,L,hL,rfl⟩:=hres;rw[Fp]at hfl;cases hfl
 ·next t ps ho=>
  simp only[oD,oB,oP,ae]at hres;obtain⟨d,hd,_,_,hres⟩:=hres
  split at hres
  ·next fs ht=>
   simp only[oB,oS]at hres;obtain⟨_,_,z,hz,L,hL,rfl⟩:=hres;cases hfl
  ·simp only[oS]at hres;subst hres;cases hfl
 ·next c ho=>
  split at hres
  ·next f hc=>
   simp only[oD,oB,ae]at hres;obtain⟨_,_,_,hl,Xs,hXs,hres⟩:=hres
   split at hres
   ·split at hres
    ·simp only[oP,oS]at hres;subst hres;cases hfl
    ·cases hres
   split at hres
   ·split at hres
    ·simp only[oP,oS]at hres;subst hres;cases hfl
    ·cases hres
   split at hres
   ·split at hres
    ·simp only[oP,oS]at hres;subst hres;cases hfl
    ·cases hres
   split at hres
   ·split at hres
    ·simp only[oP,oS]at hres;subst hres;cases hfl
    ·cases hres
   split at hres
   ·simp only[oP,oS]at hres;subst hres;cases wv<;>cases hfl
   ·simp only[oP,oS]at hres;subst hres;cases hfl
  ·next x _ hc=>
   simp only[oD,oB,oP,oS,ae]at hres;obtain⟨_,_,_,hl,X,hX,Xs,hXs,rfl⟩:=hres;cases wv<;>cases hfl
  ·next hc=>
   simp only[oD,oB,ae]at hres;obtain⟨d,hd,_,_,hres⟩:=hres
   split at hres
   ·next x t ha hta=>
    have ha':c.args= #[x]:=by apply Array.ext';simpa using ha
    have hta':c.argTypes= #[t]:=by apply Array.ext';simpa using hta
    split at hres<;>simp only[oB,oP,oS]at hres
    ·obtain⟨X,hX,rfl⟩:=hres;cases hfl
    ·obtain⟨X,hX,rfl⟩:=hres;cases hfl
    ·subst hres;cases hfl
   ·cases hres
  ·next hc=>
   simp only[oD,oB,ae]at hres;obtain⟨d,hd,_,_,hres⟩:=hres
   split at hres
   ·next x y t u ha hta=>
    have ha':c.args= #[x,y]:=by apply Array.ext';simpa using ha
    simp only[oB,oP,oS]at hres;obtain⟨X,hX,Y,hY,rfl⟩:=hres;cases hfl
   ·cases hres
  ·next hc=>
   simp only[oD,oB,ae]at hres;obtain⟨d,hd,_,_,hres⟩:=hres
   split at hres
   ·next x y t u ha hta=>
    have ha':c.args= #[x,y]:=by apply Array.ext';simpa using ha
    simp only[oB,oP,oS]at hres;obtain⟨X,hX,Y,hY,rfl⟩:=hres;cases hfl
   ·cases hres
  ·next hc=>
   simp only[oD,oB,ae]at hres;obtain⟨d,hd,_,_,hres⟩:=hres
   split at hres
   ·next s x t u ha hta=>
    have ha':c.args= #[s,x]:=by apply Array.ext';simpa using ha
    have hta':c.argTypes= #[t,u]:=by apply Array.ext';simpa using hta
    split at hres<;>simp only[oB,oP,oS,ae]at hres
    ·obtain⟨i,hi,_,htu,z,hz,X,hX,Y,hY,rfl⟩:=hres;cases wv<;>first|cases hfl|(by_cases h3:i.size=3;(rw[n9,if_pos h3]at hfl;cases hfl);(rw[n9,if_neg h3]at hfl;cases hfl))
    ·subst hres;cases hfl
   ·cases hres
  ·next hc=>
   simp only[oD,oB,ae]at hres;obtain⟨_,_,hres⟩:=hres
   split at hres
   ·split at hres<;>simp only[oB,oP,oS,ae]at hres
    ·obtain⟨s,hs,_,htu,X,hX,Y,hY,rfl⟩:=hres;cases hfl
    ·subst hres;cases hfl
   ·cases hres
  ·simp only[oP,oS]at hres;subst hres;cases hfl
 ·simp only[oP,oS]at hres;subst hres;cases hfl

def mI(R:List RO)(i:Nat):Bool:=match R[i]? with|some r=>r.op.isQ|none=>false
def fW(ops:Array Oper)(R:List RO)(i:Nat):Bool:=
 match ops[i]?,R[i]? with
 |some o,some r=>r.g.isNone&&r.op.isFl&&(List.range ops.size).all fun j=>j==i||(aF ops i).contains j||(match ops[j]? with|some oj=>(aF ops j).contains i||o.apart ops oj|none=>true)
 |_,_=>false
def gO(ops:Array Oper):List Nat→Bool
 |e::e'::r=>(aF ops e').contains e&&decide (e<e')&&gO ops (e'::r)
 |_=>true

def wu(ops:Array Oper)(R:List RO):List Nat:=(List.range R.length).foldl (fun acc i=>if mI R i&&(aF ops i).all (fun j=>acc.contains j)then i::acc else acc) []
def NL(S:List Nat)(R:List RO):List Nat:=(List.range R.length).filter fun i=>S.contains i
def EL(S:List Nat)(R:List RO):List Nat:=(List.range R.length).filter fun i=>!S.contains i

def uE(S:List Nat)(ops:Array Oper)(R:List RO)(e k:Nat):Bool:=
 !fW ops R k||(aF ops e).contains k||(List.range R.length).any fun j=>decide (k<j)&&S.contains j&& !fW ops R j&&(aF ops j).contains k
def AW(S:List Nat)(ops:Array Oper)(R:List RO):Bool:=
 ua (R.filterMap (·.op.dst))&&(R.length==ops.size)&&Region.noSelect ops&&
 match EL S R with
 | []=>false
 | e :: es => gO ops (e :: es) && (List.range R.length).all fun i =>
   (aF ops i).all (· < i) && (!S.contains i || (mI R i && (aF ops i).all (fun j => S.contains j) && (match R[i]? with | some r => r.slots.all (ir ops R i) | none => true) &&
    (fW ops R i||(aF ops e).contains i||(List.range R.length).any fun k=>decide (i<k)&&S.contains k&&uE S ops R e k&&(aF ops k).contains i)))
def vW(ops:Array Oper)(R:List RO):Bool:=AW (wu ops R) ops R
def IV(ops:Array Oper)(R:List RO):List RO:=((NL (wu ops R) R).map fun i=>R.getD i default)++((EL (wu ops R) R).map fun i=>R.getD i default)

theorem uV{R:List RO}{i:Nat}{r:RO}(h:R[i]?=some r):mI R i=r.op.isQ:=by simp[mI,h]

def kv(N:List Nat)(i:Nat):List Nat:=(N.filter fun j=>decide (j<i)).reverse
theorem fK{N:List Nat}{i j:Nat}:j∈kv N i↔j∈N∧j<i:=by simp[kv]

structure kJ (P:Program) (wv:Wv) (ops:Array Oper) (R:List RO) (bD:St) (V:Nat→Rs) (S N:List Nat):Prop where
 len:R.length=ops.size
 res:∀(i:Nat)(o:Oper),ops[i]?=some o→∃r,R[i]?=some r∧db P wv bD.n ops o=some r
 inj:∀i j t,be R i=some t→be R j=some t→i=j
 acyc:∀i,∀j∈aF ops i,j<i
 mem:∀i,i∈N↔i<R.length∧S.contains i=true
 isQ:∀i∈N,mI R i=true
 nnd:N.Nodup
 nw:∀i∈N,∀j∈aF ops i,j∈N
 slot:∀(i:Nat)(r:RO)(t:Nat),i∈N→R[i]?=some r→t∈r.slots→∀j,be R j=some t→(j<i∧j∈aF ops i)∨(i<j∧i∈aF ops j)
 step:∀(i:Nat)(r:RO),i∈N→R[i]?=some r→cZ P r (aA bD (be R) V (kv N i)) (V i)
 keys:((aA bD (be R) V N.reverse).us.map (·.1)).Nodup

theorem Ay{N X:List Nat}(hN:N.Nodup)(hn:X.Nodup)(hl:∀i∈X,i∈N):X.Perm (N.reverse.filter (fun i=>decide (i∈X))):=
 (List.perm_ext_iff_of_nodup hn (((List.reverse_perm N).nodup_iff.2 hN).filter _)).2 fun a => by
  simp only[List.mem_filter,List.mem_reverse,decide_eq_true_eq];exact⟨fun h=>⟨hl a h,h⟩,fun h=>h.2⟩

theorem dh{bD:St}{D:Nat→Option Nat}{V:Nat→Rs}{N:List Nat}(hN:N.Nodup)(hf:((aA bD D V N.reverse).us.map (·.1)).Nodup){X:List Nat}(hn:X.Nodup)(hl:∀i∈X,i∈N):
  ((aA bD D V X).us.map (·.1)).Nodup∧∀x∈(aA bD D V X).us,x∈(aA bD D V N.reverse).us:=by
 rw[cb]at hf;simp only[cb];have hp:=Ay hN hn hl;have h1:((X.flatMap fun i=>(V i).2)++bD.us).Perm (((N.reverse.filter (fun i=>decide (i∈X))).flatMap fun i=>(V i).2)++bD.us):=(hp.flatMap_right _).append_right _;have h2:(((N.reverse.filter (fun i=>decide (i∈X))).flatMap fun i=>(V i).2)++bD.us).Sublist ((N.reverse.flatMap fun i=>(V i).2)++bD.us):=(og List.filter_sublist).append (List.Sublist.refl _);exact⟨(h1.map _).nodup_iff.2 ((h2.map _).nodup hf),fun x hx=>h2.subset (h1.mem_iff.1 hx)⟩

theorem A7{r:RO}{s:St}{v:Rs}(hs:cZ P r s v):v.2=[]∨s.fresh v.2=true:=by
 unfold cZ at hs
 split at hs
 ·exact hs.2
 ·next t b _=>
  rcases hs with⟨tk,c,_,h1,h2⟩|⟨_,h2⟩
  ·by_cases e:c=b
   ·exact(h1 e).2
   ·exact .inl (by rw[h2 (by cases c<;>cases b<;>simp_all)])
  ·exact .inl (by rw[h2])

theorem pe:∀{Rl:List RO} {rl:List Rs} {s s':St},xL P Rl rl s s'→(s.us.map (·.1)).Nodup→(s'.us.map (·.1)).Nodup
 | [],[],s,s',h,hn=>by simp only[xL]at h;subst h;exact hn
 |R::Rl,r::rl,s,s',h,hn=>by
  simp only[xL]at h;refine pe h.2 ?_;have:=fP hn (A7 h.1);have e:(dp s R.op.dst r).us=r.2++s.us:=by unfold dp;cases R.op.dst<;>rfl
  rw[e];exact this
 | [],_::_,_,_,h,_=>by simp[xL]at h
 |_::_,[],_,_,h,_=>by simp[xL]at h

theorem Hw{D:Nat→Option Nat}{V:Nat→Rs}{bD:St}{F:Nat→RO}:∀{N:List Nat} {rl:List Rs} {s s':St} {L:List Nat},(∀i∈N,D i=(F i).op.dst)→xL P (N.map F) rl s s'→s=aA bD D V L→N.map V=rl→
  s'=aA bD D V (N.reverse++L)∧∀(p:Nat)(hp:p<N.length),cZ P (F N[p]) (aA bD D V ((N.take p).reverse++L)) (V N[p])
 | [],rl,s,s',L,_,h,e,hV=>by
  simp only[lN]at hV h;subst hV;simp only[xL]at h;subst h;exact⟨by simpa using e,by simp⟩
 |i::N,rl,s,s',L,hD,h,e,hV=>by
  simp only[lC]at hV h;subst hV;simp only[xL]at h;have e1:dp s (F i).op.dst (V i)=aA bD D V (i::L):=by simp only[aA];rw[←e,hD i (by simp)]
  obtain⟨h1,h2⟩:=Hw (fun j hj=>hD j (by simp[hj])) h.2 e1 rfl;refine⟨by simpa using h1,fun p hp=>?_⟩;cases p with
  |zero=>simpa[←e]using h.1
  |succ p=>simpa using h2 p (by simpa using hp)

theorem tj:∀{N:List Nat},N.Pairwise (· <·)→∀(p:Nat)(hp:p<N.length),(N.take p).reverse=kv N N[p]:=by
 intro N hN p hp;unfold kv;congr 1;have key:∀{N:List Nat},N.Pairwise (· <·)→∀(p:Nat)(hp:p<N.length),N.take p=N.filter (fun j=>decide (j<N[p])):=by
  intro N
  induction N with
  |nil=>intro _ p hp;simp at hp
  |cons x N ih=>
   intro h p hp;rw[List.pairwise_cons]at h;cases p with
   |zero=>
    simp only[List.take_zero,List.getElem_cons_zero]
    symm
    rw[List.filter_eq_nil_iff];intro y hy;rcases List.mem_cons.1 hy with rfl|hy
    ·simp
    ·have:=h.1 y hy;simp;omega
   |succ p=>
    have hp':p<N.length:=by simpa using hp
    simp only[List.take_succ_cons,List.getElem_cons_succ];rw[List.filter_cons_of_pos (by have:=h.1 N[p] (List.getElem_mem hp');simpa using this),ih h.2 p hp']
 exact key hN p hp

theorem fv(S:List Nat)(R:List RO):(NL S R).Pairwise (· <·):=List.Pairwise.filter _ List.pairwise_lt_range
theorem bj{S:List Nat}{R:List RO}{i:Nat}:i∈NL S R↔i<R.length∧S.contains i=true:=by simp[NL]
theorem dD{S:List Nat}{R:List RO}{i:Nat}:i∈EL S R↔i<R.length∧S.contains i=false:=by simp[EL]
theorem gP{l:List Nat}(h:l.Pairwise (· <·)):l.Nodup:=h.imp fun h=>Nat.ne_of_lt h

theorem gR{K:Exit→St→Prop}:∀{A B:List RO} {st:St},a8 P (A++B) st K=a8 P A st (fun _ s=>a8 P B s K)
 | [],_,_=>rfl
 |⟨none,r⟩::A,B,st=>by
  simp only[List.cons_append,a8];congr 1
  funext s
  exact gR
 |⟨some (t,b),r⟩::A,B,st=>by
  simp only[List.cons_append,a8];rw[gR];congr 1;congr 1
  funext s
  exact gR

theorem yG{ops:Array Oper}{R:List RO}{st:St}{V:Nat→Rs}{S N X:List Nat}{listed:Array Bool}{i t:Nat}{r:RO}(hd:kJ P wv ops R st V S N)(h:eo P ops R X listed)(hX:∀i∈X,i∈N)(hi:i∈N)(hr:R[i]?=some r)
  (hw:∀j∈aF ops i,j∈X) (hn:i∉X) (ht:t∈r.slots):lk (aA st (be R) V X).env t=lk (aA st (be R) V (kv N i)).env t:=by
 have a:=cW (bD:=st) (V:=V) hd.inj (L:=X) (t:=t);have b:=cW (bD:=st) (V:=V) hd.inj (L:=kv N i) (t:=t)
 by_cases he:∃j,be R j=some t
 ·obtain⟨j,hj⟩:=he;rcases hd.slot i r t hi hr ht j hj with⟨h1,h2⟩|⟨h1,h2⟩
  ·rw[a.1 j (hw j h2) hj,b.1 j (fK.2 ⟨hd.nw i hi j h2,h1⟩) hj]
  ·have hx:j∉X:=fun hx=>hn (h.closed j hx i h2);rw[a.2 fun k hk e=>hx (hd.inj k j t e hj▸hk),b.2 fun k hk e=>by
    have:=hd.inj k j t e hj;have:=(fK.1 hk).2;omega]
 ·rw[a.2 fun k _ e=>he ⟨k,e⟩,b.2 fun k _ e=>he ⟨k,e⟩]

theorem ml{ops:Array Oper}{R:List RO}{st:St}{V:Nat→Rs}{S N X:List Nat}{listed:Array Bool}{i:Nat}{r:RO}{o:Oper}{a:Act}{w:World}
  (hd:kJ P wv ops R st V S N) (h:eo P ops R X listed) (hX:∀i∈X,i∈N) (hi:i∈N) (hr:R[i]?=some r) (hres:db P wv st.n ops o=some r)
  (hw:∀j∈aF ops i,j∈X) (hn:i∉X) (hs:dH n0 S0 M0 w0 (aA st (be R) V X) a w):
  ∃op,kc P wv st.n o=some op∧r.op=op∧op.isQ=true∧op.dst=o.dst∧(∀d,o.dst=some d→d<(aA st (be R) V X).n)∧(∃g,At n0 S0 M0 w0 (aA st (be R) V X) o a w g)∧(∀t∈r.slots,(aA st (be R) V X).get t=(aA st (be R) V (kv N i)).get t)∧
   (QD P r.op (aA st (be R) V (kv N i)) (V i)→uo P r.op (aA st (be R) V X).ev (aA st (be R) V X).unit (fun v u=>v=(V i).1∧u=(V i).2)):=by
 have hXn:(aA st (be R) V X).n=st.n:=ce;have hget:∀t∈r.slots,(aA st (be R) V X).get t=(aA st (be R) V (kv N i)).get t:=fun t ht=>yG hd h hX hi hr hw hn ht;have hkX:=dh hd.nnd hd.keys h.nd hX;have hbn:(kv N i).Nodup:=(List.reverse_perm _).nodup_iff.2 (hd.nnd.filter _);have hkD:=dh (X:=kv N i) hd.nnd hd.keys hbn (fun j hj=>(fK.1 hj).1);have hres0:=hres;unfold db at hres0;simp only[oD,oB,ae]at hres0;obtain⟨op,hop,_,h1,_,h2,hres0⟩:=hres0;have hdl:∀d,o.dst=some d→d<(aA st (be R) V X).n:=by
  intro d hdd;rw[hXn];rw[hdd]at h2;simpa using h2
 have hrop:r.op=op:=by
  split at hres0
  ·simp only[oP,oS]at hres0;rw[←hres0]
  ·simp only[oB,oP,oS]at hres0;obtain⟨_,_,_,_,hres0⟩:=hres0;rw[←hres0]
 have hQ:op.isQ=true:=by
  rw[←hrop,←uV hr];exact hd.isQ i hi
 obtain⟨g,hu,hv⟩:=hs.gh;refine⟨op,hop,hrop,hQ,h1,hdl,⟨g,hs,hu,hv,hdl⟩,hget,fun hq=>?_⟩;have hev:∀x∈r.op.xs,(aA st (be R) V X).ev x=(aA st (be R) V (kv N i)).ev x:=by
  intro x hx;cases x with
  |c d=>rfl
  |t n=>exact hget n (List.mem_append_left _ (List.mem_filterMap.2 ⟨_,hx,rfl⟩))
 refine qb hq.1 hev ?_;intro x hx k u hk hu';rw[←hev x hx]at hk;cases x with
 |c d=>simp only[St.ev,jc]at hk;split at hk<;>simp[AV.ids]at hk
 |t n=>
  obtain⟨u',hm⟩:=oM (hv n) k hk;have h3:=hkX.2 _ hm;have h4:=hkD.2 _ (ay hu');have e1:=ck hd.keys h3;have e2:=ck hd.keys h4;rw[e1]at e2;injection e2 with e2;subst e2;exact ck hkX.1 hm

theorem jv{ops:Array Oper}{R:List RO}{st:St}{V:Nat→Rs}{S N X:List Nat}{listed:Array Bool}{i:Nat}{r:RO}{o:Oper}{a:Act}{w:World}{Q:Exit→Act→World→Prop}
  (hd:kJ P wv ops R st V S N) (h:eo P ops R X listed) (hX:∀i∈X,i∈N) (hi:i∈N) (ho:ops[i]?=some o) (hr:R[i]?=some r) (hres:db P wv st.n ops o=some r)
  (hw:∀j∈aF ops i,j∈X) (hn:i∉X) (hs:dH n0 S0 M0 w0 (aA st (be R) V X) a w):
  wpOp P ops Q i (fun a w=>dH n0 S0 M0 w0 (aA st (be R) V (i::X)) a w) a w:=by
 obtain⟨op,hop,hrop,hQ,h1,hdl,⟨g,hat⟩,hget,hqq⟩:=ml hd h hX hi hr hres hw hn hs;have hXn:(aA st (be R) V X).n=st.n:=ce;have hkN:=dh hd.nnd hd.keys (X:=i::X) (List.nodup_cons.2 ⟨hn,h.nd⟩) (fun j hj=>(List.mem_cons.1 hj).elim (fun e=>e▸hi) (hX j));have hdst:be R i=r.op.dst:=by simp[be,hr]
 have hfr:(V i).2=[]∨(aA st (be R) V X).fresh (V i).2=true:=.inr (oc (by
  have e:(aA st (be R) V (i::X)).us=(V i).2++(aA st (be R) V X).us:=by simp[cb]
  rw[←e];exact hkN.1))
 have hexec:aA st (be R) V (i::X)=dp (aA st (be R) V X) r.op.dst (V i):=by simp only[aA];rw[hdst]
 have hstep:=hd.step i r hi hr;have run:∀{Q':Exit→Act→World→Prop},QD P r.op (aA st (be R) V (kv N i)) (V i)→o.wp P a w (fun a w=>dH n0 S0 M0 w0 (aA st (be R) V (i::X)) a w) Q':=by
  intro Q' hq;have hq':=hqq hq;rw[hrop]at hq';have⟨h5,h6⟩:=rO (Q':=Q') (n:=st.n) hop hQ hXn hat hq';refine Oper.wp_mono ?_ h5;rintro a' w' ⟨av,us,⟨rfl,rfl⟩,hS⟩;rw[hexec,hrop,h6];exact hS hfr
 have hu:=hat.us;have hv:=hat.rep;have hres0:=hres;unfold db at hres0;simp only[oD,oB,ae]at hres0;obtain⟨op',hop',_,_,_,_,hres0⟩:=hres0;rw[hop]at hop';injection hop' with hop';subst hop';have skip:V i=(.tup [],[])→dH n0 S0 M0 w0 (aA st (be R) V (i::X)) (a.put o.dst undef) w:=by
  intro hV;rw[hexec,hV,hrop,h1];unfold dp;rw[dL];exact cY hs hu hv hdl gX
 unfold wpOp;rw[ho];simp only
 split at hres0
 ·next hg=>
  simp only[oP,oS]at hres0;subst hres0;have:Region.wanted o (yielded ops a.tmps)=true:=by simp[Region.wanted,hg]
  rw[this,if_pos rfl];exact .inl (run hstep)
 ·next j b hg=>
  simp only[oB,oP,oS]at hres0;obtain⟨p,hp,t,ht,rfl⟩:=hres0;rcases hstep with⟨tk,c,hc,hy,hno⟩|⟨hc,hno⟩
  ·rw[←hget t (List.mem_append_right _ (by simp))]at hc;have hvt:=hv t;have hc':lk (aA st (be R) V X).env t=.im tk (.sc (.bool c)):=hc;rw[hc']at hvt;have hval:=c9 hvt;have hyy:=jL (ops:=ops) hp ht hval;have hwt:Region.wanted o (yielded ops a.tmps)=(some c==some b):=by simp[Region.wanted,hg,hyy]
   rw[hwt]
   by_cases e:c=b
   ·rw[if_pos (by simp[e])];exact .inl (run (hy e))
   ·rw[if_neg (by simp[e])];exact skip (hno (by cases c<;>cases b<;>simp_all))
  ·rw[←hget t (List.mem_append_right _ (by simp))]at hc;have hvt:=hv t;have hc':lk (aA st (be R) V X).env t=.tup []:=hc;rw[hc']at hvt;have hwt:Region.wanted o (yielded ops a.tmps)=false:=by simp[Region.wanted,hg,gl (ops:=ops) hp ht (ma hvt)]
   rw[hwt,if_neg (by simp)];exact skip hno

theorem j6{ops:Array Oper}:∀{l:List Nat},gO ops l=true→l.Pairwise (· <·)∧∀(p:Nat)(hp:p+1<l.length),l[p]∈aF ops l[p+1]
 | [],_=>⟨List.Pairwise.nil,by simp⟩
 | [e],_=>⟨by simp,by simp⟩
 |e::e'::r,h=>by
  simp only[gO,bA,List.contains_eq_mem,decide_eq_true_eq]at h;obtain⟨i1,i2⟩:=j6 h.2;refine⟨?_,fun p hp=>?_⟩
  ·rw[List.pairwise_cons];refine⟨fun x hx=>?_,i1⟩;rcases List.mem_cons.1 hx with rfl|hx
   ·exact h.1.2
   ·exact Nat.lt_trans h.1.2 ((List.pairwise_cons.1 i1).1 x hx)
  ·cases p with
   |zero=>exact h.1.1
   |succ p=>exact i2 p (by simpa using hp)

theorem Al{ops:Array Oper}{R:List RO}{n:Nat}{K:Exit→St→Prop}(hlen:R.length=ops.size)(hR:∀(i:Nat) (o:Oper),ops[i]?=some o→∃r,R[i]?=some r∧db P wv n ops o=some r)
  (acyc:∀i,∀j∈aF ops i,j<i):∀(es:List Nat)(listed:Array Bool)(s:St)(a:Act)(w:World),listed.size=ops.size→(∀j,j<ops.size→(listed.getD j true=true↔j∉es))→gO ops es=true→(∀e∈es,e<ops.size)→
  dH n0 S0 M0 w0 s a w→s.n=n→a8 P (es.map fun i=>R.getD i default) s K→wpAny P .any ops (fun e a w=>e=.normal∧fX n0 S0 M0 w0 n K e a w) es.length listed a w
 | [],listed,s,a,w,hsz,hli,_,_,hs,hn,hq=>by
  refine wpAny_done ?_ ⟨rfl,s,hn,hq,hs⟩ 0;rw[List.eq_nil_iff_forall_not_mem];intro i hi;obtain⟨h1,o,ho,_⟩:=mem_ready.1 hi;have:=(hli i (Array.getElem?_eq_some_iff.1 ho).1).2 (by simp);rw[this]at h1;cases h1
 |e::es,listed,s,a,w,hsz,hli,hch,hlt,hs,hn,hq=>by
  obtain⟨hso,hwt⟩:=j6 hch;have hso':=List.pairwise_cons.1 hso;have hlist:∀j,j<ops.size→j∉e::es→listed.getD j false=true:=by
   intro j hj hne;have:=(hli j hj).2 hne;rw[Array.getD_eq_getD_getElem?]at this⊢;rw[←hsz]at hj;rw[Array.getElem?_eq_getElem hj]at this⊢;exact this
  have hele:=hlt e (by simp);have hready:e∈Region.ready .any ops listed:=by
   rw[mem_ready];refine⟨?_,ops[e],by simp[hele],fun x hx hb=>?_⟩
   ·cases hc:listed.getD e true with
    |false=>rfl
    |true=>exact absurd (by simp) ((hli e hele).1 hc)
   ·have hw:x.on∈aF ops e:=by
     simp only[aF,Array.getElem?_eq_getElem hele,ik];exact List.mem_map.2 ⟨x,List.mem_filter.2 ⟨by simpa using hx,hb⟩,rfl⟩
    have hl:=acyc e _ hw;refine hlist _ (by omega) fun hm=>?_;rcases List.mem_cons.1 hm with h1|h1
    ·omega
    ·have:=hso'.1 _ h1;omega
  have honly:∀i∈Region.ready .any ops listed,i=e:=by
   intro i hi;obtain⟨h1,o,ho,h2⟩:=mem_ready.1 hi;have hio:=(Array.getElem?_eq_some_iff.1 ho).1;have hie:i∈e::es:=by
    refine Classical.byContradiction fun hne=>?_;rw[(hli i hio).2 hne]at h1;cases h1
   rcases List.mem_cons.1 hie with h3|h3
   ·exact h3
   ·exfalso;obtain⟨q,hq1,hq2⟩:=List.mem_iff_getElem.1 h3;have hw:=hwt q (by simp;omega);have e1:(e::es)[q+1]'(by simp;omega)=i:=by simpa using hq2
    rw[e1]at hw;have hpre:(e::es)[q]'(by simp;omega)∈e::es:=List.getElem_mem _;generalize (e::es)[q]'(by simp;omega)=p at hw hpre;simp only[aF,ho,ik]at hw;obtain⟨x,hx,rfl⟩:=List.mem_map.1 hw;obtain⟨hx1,hx2⟩:=List.mem_filter.1 hx;have h4:=h2 x (by simpa using hx1) hx2;have hps:=hlt _ hpre;have h5:listed.getD x.on true=true:=by
     rw[Array.getD_eq_getD_getElem?]at h4⊢;rw[←hsz]at hps;rw[Array.getElem?_eq_getElem hps]at h4⊢;exact h4
    exact(hli _ hps).1 h5 hpre
  refine⟨fun h0=>(by rw[h0]at hready;cases hready),fun i hi=>?_⟩;obtain rfl:=honly i hi;obtain⟨r,hr,hres⟩:=hR i ops[i] (by simp[hele]);have hget:R.getD i default=r:=by simp[List.getD_eq_getElem?_getD,hr]
  simp only[lC,hget]at hq;have hq':match r.g with|none=>kr P r.op s (cV P (es.map fun i=>R.getD i default) K)|some (t,b)=>iy (s.get t) b (kr P r.op s (cV P (es.map fun i=>R.getD i default) K)) (cV P (es.map fun i=>R.getD i default) K (s.setO r.op.dst (.tup []))):=by
   obtain⟨g,op⟩:=r;cases g with
   |none=>exact hq
   |some x=>exact hq
  rw[←hn]at hres;have keyr:=kW (Q':=fun e a w=>e=.normal∧fX n0 S0 M0 w0 n K e a w) hres hs hq';have next:∀{a':Act} {w':World},dz n0 S0 M0 w0 s.n (cV P (es.map fun i=>R.getD i default) K) a' w'→wpAny P .any ops (fun e a w=>e=.normal∧fX n0 S0 M0 w0 n K e a w) es.length (listed.setIfInBounds i true) a' w':=by
   rintro a' w' ⟨s',hn',hf,hs'⟩;refine Al hlen hR acyc es _ s' a' w' (by simpa using hsz) ?_ ?_ (fun e he=>hlt e (by simp[he])) hs' (hn'.trans hn) hf
   ·intro j hj
    by_cases hji:i=j
    ·subst hji;have hs:i<listed.size:=by rw[hsz];exact hele
     have hni:i∉es:=fun hm=>Nat.lt_irrefl _ (hso'.1 i hm);simp[Array.getD_eq_getD_getElem?,hs,hni]
    ·rw[getD_set_ne _ hji,hli j hj];simp[Ne.symm hji]
   ·cases es with
    |nil=>rfl
    |cons e' r'=>
     simp only[gO,bA]at hch;exact hch.2
  unfold wpOp;rw[show ops[i]?=some ops[i]by simp[hele]];simp only
  split
  ·next hw=>exact .inl (Oper.wp_mono (fun a' w' h=>next h) (keyr.1 hw))
  ·next hw=>exact next (keyr.2 (by simpa using hw))

theorem z8{ops:Array Oper}{R:List RO}{st:St}{V:Nat→Rs}{K:Exit→St→Prop}{S:List Nat}{e:Nat}{es:List Nat}(hd:kJ P wv ops R st V S (NL S R))(hE:EL S R=e::es)(hch:gO ops (e::es)=true)(hns:Region.noSelect ops=true)
  (hcov:∀i∈NL S R,fW ops R i=true∨i∈aF ops e∨∃k∈NL S R,i<k∧(fW ops R k=false∨k∈aF ops e∨∃j∈NL S R,k<j∧fW ops R j=false∧k∈aF ops j)∧i∈aF ops k)
  (hend:∀a w,dH n0 S0 M0 w0 (aA st (be R) V (NL S R).reverse) a w→a8 P ((e::es).map fun i=>R.getD i default) (aA st (be R) V (NL S R).reverse) K):∀(fuel:Nat)(X:List Nat)(listed:Array Bool)(a:Act)(w:World),
  eo P ops R X listed→(∀i∈X,i∈NL S R)→fuel+X.length=ops.size→dH n0 S0 M0 w0 (aA st (be R) V X) a w→wpAny P .any ops (fun e a w=>e=.normal∧fX n0 S0 M0 w0 st.n K e a w) fuel listed a w:=by
 have hel:e<ops.size:=by
  have:e∈EL S R:=by rw[hE];simp
  rw[←hd.len];exact(dD.1 this).1
 have heN:e∉NL S R:=by
  have:e∈EL S R:=by rw[hE];simp
  intro h;have h1:=(dD.1 this).2;have h2:=(bj.1 h).2;rw[h1]at h2;cases h2

 have fin:∀(fuel:Nat)(X:List Nat)(listed:Array Bool)(a:Act)(w:World),eo P ops R X listed→(∀i∈X,i∈NL S R)→fuel+X.length=ops.size→dH n0 S0 M0 w0 (aA st (be R) V X) a w→(∀i∈NL S R,i∈X)→
   wpAny P .any ops (fun e a w=>e=.normal∧fX n0 S0 M0 w0 st.n K e a w) fuel listed a w:=by
  intro fuel X listed a w h hX hl hs hall;have hp:X.Perm (NL S R).reverse:=(List.perm_ext_iff_of_nodup h.nd ((List.reverse_perm _).nodup_iff.2 hd.nnd)).2 fun i=>by
   rw[List.mem_reverse];exact⟨hX i,hall i⟩
  have hs':dH n0 S0 M0 w0 (aA st (be R) V (NL S R).reverse) a w:=by
   refine hs.eqv (by rw[ce,ce]) ?_ ?_
   ·intro t;have x:=cW (bD:=st) (V:=V) hd.inj (L:=X) (t:=t);have y:=cW (bD:=st) (V:=V) hd.inj (L:=(NL S R).reverse) (t:=t)
    by_cases he:∃j,j∈X∧be R j=some t
    ·obtain⟨j,h1,h2⟩:=he;rw[x.1 j h1 h2,y.1 j (hp.mem_iff.1 h1) h2]
    ·rw[x.2 fun k hk e=>he ⟨k,hk,e⟩,y.2 fun k hk e=>he ⟨k,hp.mem_iff.2 hk,e⟩]
   ·rw[cb,cb];exact((hp.flatMap_right _).append_right _).symm
  have hlen2:X.length+(e::es).length=ops.size:=by
   have h1:X.length=(NL S R).length:=by rw[hp.length_eq,List.length_reverse]
   have h2:(NL S R).length+(EL S R).length=R.length:=by
    unfold NL EL;have:∀l:List Nat,(l.filter fun i=>S.contains i).length+(l.filter fun i=>!S.contains i).length=l.length:=by
     intro l
     induction l with
     |nil=>rfl
     |cons x l ih=>
      simp only[List.filter_cons,lK]
      by_cases hx:S.contains x=true
      ·simp only[hx,if_true,bT,fq,if_false,lK];omega
      ·have hx':S.contains x=false:=by simpa using hx
       simp only[hx',if_true,bN,fq,if_false,lK];omega
    simpa using this (List.range R.length)
   rw[h1,←hE,h2,hd.len]
  have hfuel:fuel=(e::es).length:=by omega
  rw[hfuel];refine Al hd.len hd.res hd.acyc (e::es) listed _ a w h.size ?_ hch ?_ hs' ce (hend a w hs')
  ·intro j hj;rw[h.li j hj];have hjR:j<R.length:=by rw[hd.len];exact hj
   constructor
   ·intro hx hm;rw[←hE]at hm;have h1:=(dD.1 hm).2;have h2:=(bj.1 (hX j hx)).2;rw[h1]at h2;cases h2
   ·intro hm;rw[←hE]at hm;refine hall j (bj.2 ⟨hjR,?_⟩);cases hq:S.contains j with
    |true=>rfl
    |false=>exact absurd (dD.2 ⟨hjR,hq⟩) hm
  ·intro x hx;rw[←hE]at hx;rw[←hd.len];exact(dD.1 hx).1
 intro fuel
 induction fuel with
 |zero=>
  intro X listed a w h hX hl hs;have:=fw h.nd h.lt (by omega) e hel;exact absurd (hX e this) heN
 |succ fuel ih=>
  intro X listed a w h hX hl hs
  by_cases hall:∀i∈NL S R,i∈X
  ·exact fin (fuel+1) X listed a w h hX hl hs hall
  have ready_of:∀i,i<ops.size→i∉X→(∀j∈aF ops i,j∈X)→i∈Region.ready .any ops listed:=by
   intro i hi hm hw;rw[mem_ready];refine⟨?_,ops[i],by simp[hi],fun x hx hb=>?_⟩
   ·cases hc:listed.getD i true with
    |false=>rfl
    |true=>exact absurd ((h.li i hi).1 hc) hm
   ·have hw':x.on∈aF ops i:=by
     simp only[aF,Array.getElem?_eq_getElem hi,ik];exact List.mem_map.2 ⟨x,List.mem_filter.2 ⟨by simpa using hx,hb⟩,rfl⟩
    have hin:=hw _ hw';have:=(h.li x.on (h.lt _ hin)).2 hin;rw[Array.getD_eq_getD_getElem?]at this⊢;have hs:x.on<listed.size:=by rw[h.size];exact h.lt _ hin
    rw[Array.getElem?_eq_getElem hs]at this⊢;exact this
  by_cases hF:∃f∈NL S R,f∉X∧fW ops R f=true∧∀j∈aF ops f,j∈X
  ·obtain⟨f,hfN,hfX,hfl,hfw⟩:=hF;have hfs:f<ops.size:=by rw[←hd.len];exact(bj.1 hfN).1
   have hrd:=ready_of f hfs hfX hfw;obtain⟨h1,h2,o,ho,h3⟩:=h.next hrd;obtain⟨r,hr,hres⟩:=hd.res f o ho;unfold fW at hfl;rw[ho,hr]at hfl;simp only[bA,Option.isNone_iff_eq_none,List.all_eq_true,List.mem_range]at hfl;obtain⟨⟨hg0,hfl⟩,hap⟩:=hfl;obtain⟨op,hop,hrop,hQ,hdst,hdl,⟨g,hat⟩,hget,hqq⟩:=ml hd h hX hfN hr hres hfw hfX hs;have hstep:=hd.step f r hfN hr;unfold cZ at hstep;rw[hg0]at hstep;have hq':=hqq hstep;rw[hrop]at hq' hfl;obtain⟨v,hv⟩:=jz hop hfl hat hq';have hgo:o.guard=none:=by
    have hres0:=hres;unfold db at hres0;simp only[oD,oB,ae]at hres0;obtain⟨_,_,_,_,_,_,hres0⟩:=hres0
    split at hres0
    ·assumption
    ·simp only[oB,oP,oS]at hres0;obtain⟨_,_,_,_,hres0⟩:=hres0;rw[←hres0]at hg0;cases hg0
   have hwt:Region.wanted o (yielded ops a.tmps)=true:=by simp[Region.wanted,hgo]
   have hnext:dH n0 S0 M0 w0 (aA st (be R) V (f::X)) (a.put o.dst v) w:=by
    have:=jv (Q:=fun _ _ _=>False) hd h hX hfN ho hr hres hfw hfX hs;unfold wpOp at this;rw[ho]at this;simp only[hwt,if_true]at this;rcases this with h4|⟨_,a',w',h4⟩
    ·unfold Oper.wp at h4;rw[hv w]at h4;exact h4
    ·exact h4.elim
   refine wpAny_first ho (Region.noSelect_spec hns) (fun c a w hh=>absurd hh.1 (by simp)) fuel listed a w ?_ hrd (.inl ⟨hwt,hv⟩) (ih (f::X) _ _ w h1 (fun i hi=>(List.mem_cons.1 hi).elim (fun e=>e▸hfN) (hX i)) (by simp only[lK];omega) hnext);intro j oj hj hne hun hno;have hjs:=(Array.getElem?_eq_some_iff.1 hj).1;have:=hap j hjs;rw[hj]at this;simp only[Bool.or_eq_true,beq_iff_eq,hne,false_or,List.contains_eq_mem,decide_eq_true_eq]at this;rcases this with h4|h4|h4
   ·exact absurd ((h.li j hjs).2 (hfw j h4)) (by rw[hun];simp)
   ·simp only[aF,hj,ik]at h4;obtain⟨x,hx,hxe⟩:=List.mem_map.1 h4;obtain⟨hx1,hx2⟩:=List.mem_filter.1 hx;exact absurd hxe (hno x (by simpa using hx1) hx2)
   ·exact h4
  ·have eready:(∀j∈aF ops e,j∈X)→False:=by
    intro hw

    have hnf:∀m i,i∈NL S R→R.length-i≤m→fW ops R i=false→i∈X:=by
     intro m
     induction m with
     |zero=>intro i hi hm _;have:=(bj.1 hi).1;omega
     |succ m ihm=>
      intro i hi hm hfl;rcases hcov i hi with h1|h1|⟨k,hk,h1,h2,h3⟩
      ·rw[hfl]at h1;cases h1
      ·exact hw i h1
      ·rcases h2 with h2|h2|⟨j,hj,h4,h5,h6⟩
       ·exact h.closed k (ihm k hk (by omega) h2) i h3
       ·exact h.closed k (hw k h2) i h3
       ·exact h.closed k (h.closed j (ihm j hj (by omega) h5) k h6) i h3
    refine hall ?_;intro i
    induction i using Nat.strongRecOn with
    |ind i ihi=>
     intro hi;cases hfl:fW ops R i with
     |false=>exact hnf _ i hi (Nat.le_refl _) hfl
     |true=>
      refine Classical.byContradiction fun hne=>hF ⟨i,hi,hne,hfl,fun j hj=>ihi j (hd.acyc i j hj) (hd.nw i hi j hj)⟩
   refine⟨fun h0=>?_,fun i hi=>?_⟩
   ·exfalso;refine hall ?_;intro i
    induction i using Nat.strongRecOn with
    |ind i ihi=>
     intro hi;refine Classical.byContradiction fun hne=>?_;have:=ready_of i (by rw[←hd.len];exact(bj.1 hi).1) hne fun j hj=>ihi j (hd.acyc i j hj) (hd.nw i hi j hj);rw[h0]at this;cases this
   ·obtain⟨h1,h2,o,ho,h3⟩:=h.next hi;have his:=(Array.getElem?_eq_some_iff.1 ho).1;have hiN:i∈NL S R:=by
     have hiR:i<R.length:=by rw[hd.len];exact his
     refine bj.2 ⟨hiR,?_⟩;cases hq:S.contains i with
     |true=>rfl
     |false=>
      exfalso;have hm:i∈e::es:=by rw[←hE];exact dD.2 ⟨hiR,hq⟩
      rcases List.mem_cons.1 hm with rfl|hm
      ·exact eready h3
      ·obtain⟨q,hq1,hq2⟩:=List.mem_iff_getElem.1 hm;have hw:=(j6 hch).2 q (by simp;omega);have e1:(e::es)[q+1]'(by simp;omega)=i:=by simpa using hq2
       rw[e1]at hw;have hpre:(e::es)[q]'(by simp;omega)∈EL S R:=by rw[hE];exact List.getElem_mem _
       have h4:=(bj.1 (hX _ (h3 _ hw))).2;rw[(dD.1 hpre).2]at h4;cases h4
    obtain⟨r,hr,hres⟩:=hd.res i o ho;refine wpOp_mono ?_ (jv hd h hX hiN ho hr hres h3 h2 hs);intro a' w' hs';exact ih (i::X) _ a' w' h1 (fun j hj=>(List.mem_cons.1 hj).elim (fun e=>e▸hiN) (hX j)) (by simp only[lK];omega) hs'

theorem yy{ops:Array Oper}{R:List RO}{st:St}{K:Exit→St→Prop}{id:Nat}{a:Act}{w:World}(hm:P.follows .mixedOrders=true)(hd:vW ops R=true)
  (hR:ops.toList.mapM (db P wv st.n ops)=some R) (hs:dH n0 S0 M0 w0 st a w) (hq:a8 P (IV ops R) st K):(Code.region id ops true).wp P (fX n0 S0 M0 w0 st.n K) a w:=by
 refine wp_mono (Q:=fun e a w=>e=.normal∧fX n0 S0 M0 w0 st.n K e a w) (wp_region_any hm ?_) (fun e a w h=>h.2);unfold vW at hd;unfold IV at hq;generalize wu ops R=S at hd hq;unfold AW at hd;simp only[bA,beq_iff_eq]at hd;obtain⟨⟨⟨d1,d2⟩,d3⟩,hd⟩:=hd;rw[gR]at hq;cases hE:EL S R with
 |nil=>rw[hE]at hd;cases hd
 |cons e es=>
  rw[hE]at hd hq;simp only[bA,List.all_eq_true,List.mem_range,decide_eq_true_eq]at hd;obtain⟨hch,hall⟩:=hd;have hNQ:∀r∈(NL S R).map (fun i=>R.getD i default),r.op.isQ=true:=by
   intro r hr;obtain⟨i,hi,rfl⟩:=List.mem_map.1 hr;obtain⟨h1,h2⟩:=bj.1 hi;have h3:=(hall i h1).2;rw[h2]at h3;simp only[bT,Bool.false_or,bA]at h3;have h4:=h3.1.1.1;simpa[mI,List.getD_eq_getElem?_getD,h1]using h4
  obtain⟨rl,s',hx,hK,hl⟩:=fC hNQ hq;obtain⟨g,hu,hv⟩:=hs.gh;have hnd:=gP (fv S R);have hV:(NL S R).map (fun i=>rl.getD ((NL S R).idxOf i) (.any,[]))=rl:=by
   apply List.ext_getElem
   ·simp at hl;simp[hl]
   ·intro p h1 h2;have hp:p<(NL S R).length:=by simpa using h1
    simp[List.getD_eq_getElem?_getD,List.Nodup.idxOf_getElem hnd p hp,h2]
  generalize hVd:(fun i=>rl.getD ((NL S R).idxOf i) ((.any,[]):Rs))=V at hV;have hD:∀i∈NL S R,be R i=(R.getD i default).op.dst:=by
   intro i hi;have hlt:=(bj.1 hi).1;simp[be,List.getD_eq_getElem?_getD,hlt]
  obtain⟨e1,hst⟩:=Hw (D:=be R) (V:=V) (bD:=st) (L:=[]) hD hx rfl hV;simp only[List.append_nil]at e1 hst;have lt_of:∀{i:Nat} {r:RO},R[i]?=some r→i<R.length:=fun h=>(List.getElem?_eq_some_iff.1 h).1;have hwall:∀i,∀j∈aF ops i,j<i:=by
   intro i j hj
   by_cases hi:i<R.length
   ·exact(hall i hi).1 j hj
   ·have:ops[i]?=none:=by simp;omega
    simp[aF,this]at hj
  have hN:∀i∈NL S R,((mI R i=true∧(aF ops i).all (fun j=>S.contains j)=true)∧(match R[i]? with|some r=>r.slots.all (ir ops R i)|none=>true)=true)∧
    (fW ops R i||(aF ops e).contains i||(List.range R.length).any fun k=>decide (i<k)&&S.contains k&&uE S ops R e k&&(aF ops k).contains i)=true:=by
   intro i hi;obtain⟨h1,h2⟩:=bj.1 hi;have:=(hall i h1).2;rw[h2]at this;simpa only[bT,Bool.false_or,bA]using this
  have hDE:kJ P wv ops R st V S (NL S R):=by
   refine⟨d2,?_,oL (ii d1),hwall,fun i=>bj,fun i hi=>(hN i hi).1.1.1,hnd,?_,?_,?_,?_⟩
   ·intro i o ho;exact io hR i o (by simpa using ho)
   ·intro i hi j hj;have h1:=(hN i hi).1.1.2;rw[List.all_eq_true]at h1;have h2:=hwall i j hj;have h3:=(bj.1 hi).1;exact bj.2 ⟨by omega,h1 j hj⟩
   ·intro i r t hi hr ht j hj;have h2:=(hN i hi).1.2;rw[hr]at h2;simp only[List.all_eq_true]at h2;have hs:=h2 t ht;unfold ir at hs;simp only[List.all_eq_true,List.mem_range]at hs;simp only[be,oB]at hj;obtain⟨x,hx,hd⟩:=hj;have:=hs j (lt_of hx);rw[hx]at this;simpa[hd]using this
   ·intro i r hi hr;obtain⟨p,hp,rfl⟩:=List.mem_iff_getElem.1 hi;have:=hst p hp;rw[tj (fv S R) p hp]at this;rw[List.getD_eq_getElem?_getD,hr]at this;exact this
   ·rw[←e1];exact pe hx hu.keys
  have hc:eo P ops R [] (Array.replicate ops.size false):=⟨List.nodup_nil,by simp,by simp,by simp,fun j hj=>by simp[Array.getD_eq_getD_getElem?,hj]⟩;refine z8 hDE hE hch d3 ?_ (fun a w h=>by rw[←e1];exact hK) ops.size [] _ a _ hc (by simp) (by simp) ⟨hs.ms,hs.dfr,hs.tm,hs.base,hs.os,hs.tape,hs.output,hs.size,hs.old,hs.gh⟩;intro i hi;have:=(hN i hi).2;simp only[uE,Bool.or_eq_true,List.contains_eq_mem,decide_eq_true_eq,List.any_eq_true,List.mem_range,bA,Bool.not_eq_true']at this;rcases this with(h1|h1)|⟨k,hk,⟨⟨h1,h2⟩,h3⟩,h4⟩
  ·exact .inl h1
  ·exact .inr (.inl h1)
  ·refine .inr (.inr ⟨k,bj.2 ⟨hk,by simpa using h2⟩,h1,?_,h4⟩);rcases h3 with(h3|h3)|⟨j,hj,⟨⟨q1,q2⟩,q3⟩,q4⟩
   ·exact .inl h3
   ·exact .inr (.inl h3)
   ·exact .inr (.inr ⟨j,bj.2 ⟨hj,by simpa using q2⟩,q1,q3,q4⟩)

end Go.Ax
namespace Go.Ax

variable {P : Program} {wv : Wv} {n0 : Nat} {S0 M0 : Nat → Prop} {w0 : World}
variable {st : St} {o : Oper} {a : Act} {w : World} {k : KQ} {g : Gh}

def o5(P:Program)(o:Oper)(a:Act)(w:World)(st:St)(g:Gh)(k:KQ):Prop:=∃av v,(execOp a.eval o).run P w=.ok (.value v) w∧ab w.heap st.us g av v∧k av []
theorem At.still(h:At n0 S0 M0 w0 st o a w g){av:AV}{v:Value}(hrun:(execOp a.eval o).run P w=.ok (.value v) w)(hr:ab w.heap st.us g av v)(hk:k av []):o5 P o a w st g k:=⟨av,v,hrun,hr,hk⟩

theorem NT(h:At n0 S0 M0 w0 st o a w g){t:TypeId}{x:Operand}{X:Ax.X}(ho:o.op=.move x∨o.op=.assign x)(hx:aU P t x=some X)(hq:k (st.ev X) []):
  o5 P o a w st g k:=by
 refine h.still (v:=a.eval x) ?_ (h.ev_ hx) hq;rcases ho with ho|ho<;>simp[execOp,ho]

theorem O2(h:At n0 S0 M0 w0 st o a w g){t:TypeId}{x:Operand}{X:Ax.X}(ho:o.op=.nilCheck x)(hx:aU P t x=some X)(hq:kZ (st.ev X) k):
  o5 P o a w st g k:=by
 have e:=h.ev_ hx;unfold kZ at hq
 split at hq
 ·next t' d j hv=>
  rw[hv]at e;have e':=e;simp only[ab,aW,D.fits]at e';obtain⟨F,⟨b,off,c,el,fr,F',h1,_⟩,h2,_⟩:=e';rw[aS h2]at h1;have h3:a.eval x=.pointer (some ⟨b,off+j,none⟩):=by simpa using h1
  exact h.still (v:=a.eval x) (by simp[execOp,ho,h3]) e hq
 ·next t' b0 o0 d j hv=>
  rw[hv]at e;have e':=e;simp only[ab,aW,D.fits]at e';obtain⟨F,⟨_,b,off,c,el,fr,F',h1,_⟩,h2,_⟩:=e';rw[aS h2]at h1;have h3:a.eval x=.pointer (some ⟨b,off+j,none⟩):=by simpa using h1
  exact h.still (v:=a.eval x) (by simp[execOp,ho,h3]) e hq
 ·next t' p0 hv=>
  rw[hv]at e;have h3:=c9 e;exact h.still (v:=a.eval x) (by simp[execOp,ho,h3]) e hq
 ·next id el j hv=>
  rw[hv]at e;have e':=e;simp only[ab]at e';obtain⟨ow,nn,sz,es,b,_,_,_,_,h3⟩:=e';exact h.still (v:=a.eval x) (by simp[execOp,ho,h3]) e hq
 ·next id el j isz el' j' hv=>
  rw[hv]at e;have e':=e;simp only[ab]at e';obtain⟨ow,nn,usz,es,b,c,ty,b',off',len',cap',_,_,_,_,_,_,h3⟩:=e';exact h.still (v:=a.eval x) (by simp[execOp,ho,h3]) e hq
 ·next id j hv=>
  rw[hv]at e;have e':=e;simp only[ab]at e';obtain⟨_,_,b,_,_,h3⟩:=e';exact h.still (v:=a.eval x) (by simp[execOp,ho,h3]) e hq
 ·exact hq.elim

theorem MW(h:At n0 S0 M0 w0 st o a w g){t:TypeId}{x:Operand}{X:Ax.X}{i:Nat}(ho:o.op=.extract x i)(hx:aU P t x=some X)
  (hq:rv (st.ev X) i k):o5 P o a w st g k:=by
 have ex:=h.ev_ hx;unfold rv at hq
 split at hq
 ·next vs e1=>
  rw[e1]at ex;simp only[ab]at ex;obtain⟨xs,hv,hl⟩:=ex;obtain⟨hi,hk⟩:=hq;have:∀(vs:List AV)(xs:List Value)(i:Nat),ah w.heap st.us g vs xs→i<vs.length→∃v,xs[i]?=some v∧ab w.heap st.us g (vs.getD i .any) v:=by
   intro vs
   induction vs with
   |nil=>intro xs i _ hi;simp at hi
   |cons y vs ih=>
    intro xs i hl hi;simp only[ah]at hl;obtain⟨v,r,rfl,h1,h2⟩:=hl;cases i with
    |zero=>exact⟨v,rfl,h1⟩
    |succ i=>obtain⟨v',h3,h4⟩:=ih r i h2 (by simpa using hi);exact⟨v',by simpa using h3,by simpa using h4⟩
  obtain⟨v,h1,h2⟩:=this vs xs.toList i hl hi;refine h.still (v:=v) ?_ h2 hk;have h1':xs[i]?=some v:=by simpa using h1
  simp[execOp,ho,hv,Instr.extract,h1']
 ·exact hq.elim

theorem Va(h:At n0 S0 M0 w0 st o a w g){t u:TypeId}{agg:Bool}{sz:Nat}{x:Operand}{X:Ax.X}(ho:o.op=.load t x)(hx:aU P u x=some X)
  (hz:dv P t=some sz) (hg:ke P t=some agg) (h1:agg=false→sz=1)
  (hq:vF (st.ev X) st.unit agg sz k):o5 P o a w st g k:=by
 obtain⟨av,v,h2,h3,h4⟩:=vO (P:=P) h.us hz hg h1 (h.ev_ hx) hq;exact h.still (v:=v) (by simp[execOp,ho,h2]) h3 h4

theorem UW(h:At n0 S0 M0 w0 st o a w g){t u:TypeId}{i off:Nat}{x:Operand}{X:Ax.X}{fs:Array Field}{f:Field}(ho:o.op=.fieldAddr t x i)(hx:aU P u x=some X)
  (ht:P.underlying t=some (.struct fs)) (hf:fs[i]?=some f) (hoff:f.offset=off) {z:Nat} (hz:dv P f.type=some z) (hz0:z≠0)
  (hq:yL (st.ev X) st.unit off k):o5 P o a w st g k:=by
 have ex:=h.ev_ hx;have hrun:∀(b p:Nat),a.eval x=.pointer (some ⟨b,p,none⟩)→(execOp a.eval o).run P w=.ok (.value (.pointer (some ⟨b,p+off,none⟩))) w:=by
  intro b p hv;subst hoff;simp[execOp,ho,hv,Instr.fieldAt,run_underlying ht,hf,Instr.sureAddr,fieldPlace,hZ hz,hz0,jG]
 unfold yL at hq
 split at hq
 ·next t1 d j e1=>
  rw[e1]at ex;obtain⟨b,p,hv,hr⟩:=pX ex;exact h.still (hrun _ _ hv) (by rw[Nat.add_assoc];exact hr _ hq.1) hq.2
 ·next t1 b0 o0 d j e1=>
  rw[e1]at ex;obtain⟨ex',hl⟩:=qS ex rfl;obtain⟨b,p,hv,hr⟩:=pX ex';rw[hv]at hl;simp at hl;obtain⟨rfl,rfl⟩:=hl;exact h.still (hrun _ _ hv) (AN (by rw[Nat.add_assoc];exact hr _ hq.1) rfl) hq.2
 ·next id el j e1=>
  rw[e1]at ex;simp only[ab]at ex;obtain⟨ow,nn,usz,es,b,r1,r2,r3,r4,hv⟩:=ex;unfold FH at hq
  split at hq
  ·next ow' nn' usz' es' hun=>
   have:=h.us.uniq r1 (ay hun);injection this with e1 e2 e3 e4;subst e1;subst e2;subst e3;subst e4;refine h.still (hrun _ _ hv) ?_ hq.2;simp only[ab];exact⟨ow,nn,usz,es,b,r1,r2,hq.1,r4,by rw[Nat.add_assoc]⟩
  ·exact hq.elim
 ·next id el j isz el' j' e1=>
  rw[e1]at ex;simp only[ab]at ex;obtain⟨ow,nn,usz,es,b,c,ty,b',off',len',cap',r1,r2,r3,r4,r5,r6,hv⟩:=ex;refine h.still (hrun _ _ hv) ?_ hq.2;simp only[ab];exact⟨ow,nn,usz,es,b,c,ty,b',off',len',cap',r1,r2,r3,r4,r5,r6,by rw[Nat.add_assoc]⟩
 ·next id j e1=>
  rw[e1]at ex;simp only[ab]at ex;obtain⟨sz,items,b,r1,r2,hv⟩:=ex;refine h.still (hrun _ _ hv) ?_ hq;simp only[ab];exact⟨sz,items,b,r1,r2,rfl⟩
 ·exact hq.elim

theorem Wk(h:At n0 S0 M0 w0 st o a w g){t e u1 u2:TypeId}{sz:Nat}{x i:Operand}{X I:Ax.X}(ho:o.op=.indexAddr t x i)(hx:aU P u1 x=some X)(hi:aU P u2 i=some I)
  (ht:P.underlying t=some (.slice e)) (hz:dv P e=some sz) (hq:xf (st.ev X) (st.ev I) st.unit sz k):o5 P o a w st g k:=by
 have ex:=h.ev_ hx;have ei:=h.ev_ hi;unfold xf at hq
 split at hq
 ·next t1 kd n e1=>
  rw[e1]at ei;have vi:=c9 ei
  split at hq
  ·next id off len e2=>
   rw[e2]at ex;simp only[ab]at ex;obtain⟨ow,nn,usz,es,r1,r2,r3⟩:=ex;obtain⟨⟨q1,q2⟩,hq⟩:=hq;unfold zJ at hq
   split at hq
   ·next ow' nn' usz' es' hun=>
    have:=h.us.uniq r1 (ay hun);injection this with e1 e2 e3 e4;subst e1;subst e2;subst e3;subst e4;obtain⟨⟨rfl,hs0⟩,hk⟩:=hq;rcases r3 with⟨b,r3,r4⟩|⟨_,_,rfl,_⟩
    ·refine h.still (v:=.pointer (some ⟨b,off*sz+n.toNat*sz,none⟩)) ?_ ?_ hk
     ·have:=dX (P:=P) ht hz (b:=b) (off:=off*sz) (len:=len) (cap:=g.cap id-off) (kd:=kd) q1 q2 w;simp[execOp,ho,vi,r4,this]
     ·simp only[ab];refine⟨ow,nn,sz,es,b,r1,by omega,hs0,r3,by rw[Nat.add_mul];rfl⟩
    ·omega
   ·exact hq.elim
  ·next id off len e2=>
   rw[e2]at ex;simp only[ab]at ex;obtain⟨ow,nn,usz,es,r1,r2,r0⟩:=ex;obtain⟨⟨q1,q2⟩,hq⟩:=hq;rcases r0 with⟨b,o,r3,r4,r5⟩|⟨_,rfl,_⟩
   case inr=>omega
   unfold zJ at hq
   split at hq
   ·next ow' nn' usz' es' hun=>
    have:=h.us.uniq r1 (ay hun);injection this with e1 e2 e3 e4;subst e1;subst e2;subst e3;subst e4;obtain⟨⟨rfl,hs0⟩,hk⟩:=hq;have hcap:es.length≤g.cap id:=by
     have ho:=h.us.each _ r1;simp only[cm]at ho;rcases ho.2.2 with⟨h0,_⟩|⟨_,_,_,_,_,_,_,_,_,_,hc,_⟩
     ·rw[r3]at h0;cases h0
     ·exact hc
    obtain rfl:=r4 (by omega);refine h.still (v:=.pointer (some ⟨b,off*sz+n.toNat*sz,none⟩)) ?_ ?_ hk
    ·have:=dX (P:=P) ht hz (b:=b) (off:=off*sz) (len:=len) (cap:=g.cap id-off) (kd:=kd) q1 q2 w;simp[execOp,ho,vi,r5,this]
    ·simp only[ab];refine⟨ow,nn,sz,es,b,r1,by omega,hs0,r3,by rw[Nat.add_mul];rfl⟩
   ·exact hq.elim
  ·next id el j e2=>
   rw[e2]at ex;unfold Gj at hq
   split at hq
   ·next nn usz es hun=>
    unfold GB at hq
    split at hq
    ·next nn' sz' ds hd=>
     obtain⟨⟨rfl,hs0,q1,q2⟩,hk⟩:=hq;have hr:=w8 h.us ex hun;rw[hd]at hr;simp only[ab,aW,D.fits]at hr;obtain⟨F,hrep,hf,hok⟩:=hr;rw[aS hf]at hrep;rcases hrep with⟨_,_,rfl,_⟩|⟨b',off',cap',c',el',fr,F',p1,p2,p3,p4,p5,p6,p7,p8,p9⟩
     ·simp at q2;omega
     ·have hv:a.eval x=.slice (some ⟨b',off',none⟩) ds.length cap':=by simpa using p1
      simp only[ab]at ex;obtain⟨nn0,usz0,es0,b,c,ty,r1,r2,r3,r4,r5,r6,r7,r8,r9⟩:=ex;have:=h.us.uniq r1 (ay hun);injection this with z1 z2 z3 z4;subst z2 z3 z4;refine h.still (v:=.pointer (some ⟨b',off'+n.toNat*sz,none⟩)) ?_ ?_ hk
      ·have:=dX (P:=P) ht hz (b:=b') (off:=off') (len:=ds.length) (cap:=cap') (kd:=kd) q1 q2 w;simp[execOp,ho,vi,hv,this]
      ·simp only[ab];refine⟨true,nn0,usz0,es0,b,c,ty,b',off',ds.length,cap',r1,r2,r3,r4,r5,?_,by simp⟩;rw[aS hf]at r8;have h1:((c.toList.drop (el*usz0+j)).take 1)[0]?=some (a.eval x):=by rw[←r8];simp
       rw[List.getElem?_take_of_lt (by omega),List.getElem?_drop,Nat.add_zero,Array.getElem?_toList]at h1;rw[h1,hv]
    ·exact hq.elim
   ·exact hq.elim
  ·unfold C4 at hq
   split at hq
   ·next t2 nn sz' ds hd=>
    have hr:=gT h.us ex hd;obtain⟨⟨rfl,hs0,q1,q2⟩,hk⟩:=hq;have hr':=hr;simp only[ab,aW,D.fits]at hr;obtain⟨F,hrep,hf,hok⟩:=hr;rw[aS hf]at hrep;rcases hrep with⟨_,_,rfl,_⟩|⟨b,off,cap,c,el,fr,F',p1,p2,p3,p4,p5,p6,p7,p8,p9⟩
    ·simp at q2;omega
    ·have hv:a.eval x=.slice (some ⟨b,off,none⟩) ds.length cap:=by simpa using p1
     have hlt:n.toNat<ds.length:=by omega
     obtain⟨F1,F2,F3,c1,c2,c3,g1,g2,g3,g4,g5⟩:=p9.pick hlt;have hsz:=p8 _ (List.getElem_mem hlt);have l1:c1.length=n.toNat*sz:=by
      rw[g3.length,D.sizeL_const (sz:=sz) fun d hd=>p8 d (List.mem_of_mem_take hd),List.length_take,Nat.min_eq_left (Nat.le_of_lt hlt)]
     have hmul:n.toNat*sz+sz≤ds.length*sz:=by
      have:=Nat.mul_le_mul_right sz (show n.toNat+1≤ds.length by omega);rw[Nat.add_mul]at this;omega
     have hmul2:ds.length*sz≤cap*sz:=Nat.mul_le_mul_right sz p4;refine h.still (v:=.pointer (some ⟨b,off+n.toNat*sz,none⟩)) ?_ ?_ hk
     ·have:=dX (P:=P) ht hz (b:=b) (off:=off) (len:=ds.length) (cap:=cap) (kd:=kd) q1 q2 w;simp[execOp,ho,vi,hv,this]
     ·rw[D.at_eq hlt];simp only[ab];refine⟨b::F2,?_,by simp[D.fits,Value.oneCell'],?_⟩
      ·unfold aW;refine⟨b,off+n.toNat*sz,c,el,fr,F2,by simp[Value.cells],rfl,by omega,p6,by omega,?_⟩;have:(c.toList.drop (off+n.toNat*sz)).take ((ds[n.toNat]).size)=c2:=by
        have e1:=congrArg (fun l=>(l.drop c1.length).take c2.length) g2;simp only[List.drop_left',List.take_left',List.drop_take,List.drop_drop,List.take_take]at e1;rw[l1]at e1;have l2:=g4.length;rw[hsz]at l2;rw[l2,Nat.min_eq_left (by omega)]at e1;rw[hsz];exact e1
       rw[this];exact g4
      ·intro y hy
       apply hok
       rw[p2,g1];rcases List.mem_cons.1 hy with rfl|hy
       ·simp
       ·simp[hy]
   ·next t2 b0 o0 nn sz' ds hd=>
    obtain⟨hr,hl⟩:=qS (gT h.us ex hd) rfl;obtain⟨⟨rfl,hs0,q1,q2⟩,hk⟩:=hq;have hr':=hr;simp only[ab,aW,D.fits]at hr;obtain⟨F,hrep,hf,hok⟩:=hr;rw[aS hf]at hrep;rcases hrep with⟨_,_,rfl,_⟩|⟨b,off,cap,c,el,fr,F',p1,p2,p3,p4,p5,p6,p7,p8,p9⟩
    ·simp at q2;omega
    ·have hv:a.eval x=.slice (some ⟨b,off,none⟩) ds.length cap:=by simpa using p1
     rw[hv]at hl;simp at hl;obtain⟨rfl,rfl⟩:=hl;have hlt:n.toNat<ds.length:=by omega
     obtain⟨F1,F2,F3,c1,c2,c3,g1,g2,g3,g4,g5⟩:=p9.pick hlt;have hsz:=p8 _ (List.getElem_mem hlt);have l1:c1.length=n.toNat*sz:=by
      rw[g3.length,D.sizeL_const (sz:=sz) fun d hd=>p8 d (List.mem_of_mem_take hd),List.length_take,Nat.min_eq_left (Nat.le_of_lt hlt)]
     have hmul:n.toNat*sz+sz≤ds.length*sz:=by
      have:=Nat.mul_le_mul_right sz (show n.toNat+1≤ds.length by omega);rw[Nat.add_mul]at this;omega
     have hmul2:ds.length*sz≤cap*sz:=Nat.mul_le_mul_right sz p4;refine h.still (v:=.pointer (some ⟨b,off+n.toNat*sz,none⟩)) ?_ ?_ hk
     ·have:=dX (P:=P) ht hz (b:=b) (off:=off) (len:=ds.length) (cap:=cap) (kd:=kd) q1 q2 w;simp[execOp,ho,vi,hv,this]
     ·refine AN ?_ rfl;rw[D.at_eq hlt];simp only[ab];refine⟨b::F2,?_,by simp[D.fits,Value.oneCell'],?_⟩
      ·unfold aW;refine⟨b,off+n.toNat*sz,c,el,fr,F2,by simp[Value.cells],rfl,by omega,p6,by omega,?_⟩;have:(c.toList.drop (off+n.toNat*sz)).take ((ds[n.toNat]).size)=c2:=by
        have e1:=congrArg (fun l=>(l.drop c1.length).take c2.length) g2;simp only[List.drop_left',List.take_left',List.drop_take,List.drop_drop,List.take_take]at e1;rw[l1]at e1;have l2:=g4.length;rw[hsz]at l2;rw[l2,Nat.min_eq_left (by omega)]at e1;rw[hsz];exact e1
       rw[this];exact g4
      ·intro y hy
       apply hok
       rw[p2,g1];rcases List.mem_cons.1 hy with rfl|hy
       ·simp
       ·simp[hy]
   ·exact hq.elim
 ·exact hq.elim

theorem OW(h:At n0 S0 M0 w0 st o a w g){t u1 e:TypeId}{c:Call}{x:Operand}{X:Ax.X}(ho:o.op=.call c)(hc:c.callee=.builtin .len)(ha:c.args= #[x])(hta:c.argTypes= #[t])(hx:aU P u1 x=some X)
  (ht:P.underlying t=some (.slice e)) (hq:jP (st.ev X) st.unit k):o5 P o a w st g k:=by
 have ex:=h.ev_ hx;have hrun:∀p len cap,a.eval x=.slice p len cap→(execOp a.eval o).run P w=.ok (.value (.int .i64 len)) w:=by
  intro p len cap hv;simp[execOp,ho,resolve,hc,ha,hta,hv,invoke,builtin,Builtin.len_,run_underlying ht,goInt]
 unfold jP at hq
 split at hq
 ·next id off len e2=>
  rw[e2]at ex;simp only[ab]at ex;obtain⟨ow,nn,usz,es,r1,r2,r3⟩:=ex;rcases r3 with⟨b,r3,r4⟩|⟨_,_,rfl,r4⟩
  ·exact h.still (hrun _ _ _ r4) (dl rfl) hq
  ·exact h.still (hrun _ _ _ r4) (dl rfl) hq
 ·next id off len e2=>
  rw[e2]at ex;simp only[ab]at ex;obtain⟨ow,nn,usz,es,r1,r2,⟨b,o,r3,r4,r5⟩|⟨_,rfl,r5⟩⟩:=ex
  ·exact h.still (hrun _ _ _ r5) (dl rfl) hq
  ·exact h.still (hrun _ _ _ r5) (dl rfl) hq
 ·next nn sz e2=>
  rw[e2]at ex;simp only[ab]at ex;obtain⟨p,r5,_⟩:=ex;exact h.still (hrun _ _ _ r5) (dl rfl) hq
 ·unfold rB at hq
  split at hq
  ·next t2 nn sz' ds hd=>
   have hr:=gT h.us ex hd;obtain⟨p,len,cap,hv,rfl,_,_⟩:=na hr;exact h.still (hrun _ _ _ hv) (dl rfl) hq
  ·next t2 b0 o0 nn sz' ds hd=>
   obtain⟨hr,_⟩:=qS (gT h.us ex hd) rfl;obtain⟨p,len,cap,hv,rfl,_,_⟩:=na hr;exact h.still (hrun _ _ _ hv) (dl rfl) hq
  ·exact hq.elim

def ff.isSt:ff→Bool
 |.mv .. |.ld .. |.fa .. |.fl .. |.ia .. |.len .. |.nck .. |.ext .. =>true
 |_=>false
theorem DT{d:Nat}{e:TypeId}{r:ff}(h:nQ P d e=some r):r.isSt=false:=by
 unfold nQ at h
 split at h
 ·injection h with h;subst h;rfl
 ·simp only[oD,oB,oP,oS]at h;obtain⟨s,hs,z,hz,rfl⟩:=h
  rfl
theorem F5{wv:Wv}{d sz:Nat}{z:D}{l:Nat}{ps:List (Nat×X)}:(uf wv d sz z l ps).isSt=false:=by
 unfold uf
 split<;>rfl
theorem qX{n:Nat}{r:ff}(hres:kc P wv n o=some r)(hQ:r.isSt=true)(h:At n0 S0 M0 w0 st o a w g)(hq:uo P r st.ev st.unit k):o5 P o a w st g k:=by
 unfold kc at hres
 split at hres
 ·next x ho=>
  simp only[oD,oB,oP,oS,ae]at hres;obtain⟨d,hd,_,_,X,hX,rfl⟩:=hres;exact NT h (.inl ho) hX hq
 ·next x ho=>
  simp only[oD,oB,oP,oS,ae]at hres;obtain⟨d,hd,_,_,X,hX,rfl⟩:=hres;exact NT h (.inr ho) hX hq
 ·next c x y ho=>
  simp only[oD,oB,oP,oS,ae]at hres;obtain⟨d,hd,_,_,C,hC,X,hX,Y,hY,rfl⟩:=hres;cases hQ
 ·next e x ho=>
  simp only[oD,oB,oP,oS,ae]at hres;obtain⟨d,hd,_,_,s,hs,X,hX,rfl⟩:=hres;cases hQ
 ·next e ho=>
  simp only[oD,oB,oP,ae]at hres;obtain⟨d,hd,_,_,hres⟩:=hres;rw[DT hres]at hQ;cases hQ
 ·next t x ho=>
  simp only[oD,oB,oP,oS,ae]at hres;obtain⟨d,hd,_,_,s,hs,ag,hag,_,h1,X,hX,rfl⟩:=hres;exact Va h ho hX hs hag (fun e=>by subst e;simpa using h1) hq
 ·next t p x ho=>
  simp only[oD,oB,oP,oS,ae]at hres;obtain⟨_,_,s,_,A,_,X,_,rfl⟩:=hres;cases wv<;>cases hQ
 ·next x ho=>
  simp only[oD,oB,oP,oS,ae]at hres;obtain⟨d,hd,_,_,X,hX,rfl⟩:=hres;exact O2 h ho hX hq
 ·next op t x y u ho=>
  simp only[oD,oB,oP,ae]at hres;obtain⟨d,hd,_,_,hres⟩:=hres
  split at hres<;>(try simp only[oB,oS]at hres)
  ·obtain⟨X,hX,Y,hY,rfl⟩:=hres;cases hQ
  ·obtain⟨X,hX,Y,hY,rfl⟩:=hres;cases hQ
  ·next ht _ _=>obtain⟨X,hX,Y,hY,rfl⟩:=hres;cases hQ
  ·obtain⟨X,hX,Y,hY,rfl⟩:=hres;cases hQ
  ·obtain⟨X,hX,Y,hY,rfl⟩:=hres;cases hQ
  ·obtain⟨X,hX,Y,hY,rfl⟩:=hres;cases hQ
  ·next fs ht=>
   split at hres<;>(try simp only[oB,oS]at hres)
   ·next hok=>obtain⟨X,hX,Y,hY,rfl⟩:=hres;cases hQ
   ·subst hres;cases hQ
  ·next fs ht=>
   split at hres<;>(try simp only[oB,oS]at hres)
   ·next hok=>obtain⟨X,hX,Y,hY,rfl⟩:=hres;cases hQ
   ·subst hres;cases hQ
  ·subst hres;cases hQ
 ·next op t x ho=>
  simp only[oD,oB,oP,oS,ae]at hres;obtain⟨d,hd,_,_,X,hX,rfl⟩:=hres;cases hQ
 ·next s t x ho=>
  simp only[oD,oB,oP,ae]at hres;obtain⟨d,hd,_,_,hres⟩:=hres
  split at hres<;>(try simp only[oB,oS]at hres)
  ·obtain⟨X,hX,rfl⟩:=hres;cases hQ
  ·split at hres<;>simp only[oB,oS]at hres
   ·obtain⟨X,hX,rfl⟩:=hres;cases hQ
   ·subst hres;cases hQ
  ·subst hres;cases hQ
 ·next t l c ho=>
  simp only[oD,oB,oP,oS,ae]at hres;obtain⟨d,hd,_,_,e,he,i,hi,z,hz,L,hL,C,hC,rfl⟩:=hres;have ht:P.underlying t=some (.slice e):=by
   unfold ky at he
   split at he
   ·next e' h'=>injection he with he;subst he;exact h'
   ·cases he
  cases hQ
 ·next t x lo hi ho=>
  simp only[oD,oB,oP,ae]at hres;obtain⟨d,hd,_,_,Lo,hLo,Hi,hHi,hres⟩:=hres;have l1:∀y,lo=some y→∃Y,Lo=some Y∧aU P 0 y=some Y:=by
   rintro y rfl;simp only[Option.map_eq_some_iff]at hLo;obtain⟨Y,h1,rfl⟩:=hLo;exact⟨Y,rfl,h1⟩
  have l2:lo=none→Lo=none:=by rintro rfl;simpa using hLo.symm
  have l3:∀y,hi=some y→∃Y,Hi=some Y∧aU P 0 y=some Y:=by
   rintro y rfl;simp only[Option.map_eq_some_iff]at hHi;obtain⟨Y,h1,rfl⟩:=hHi;exact⟨Y,rfl,h1⟩
  have l4:hi=none→Hi=none:=by rintro rfl;simpa using hHi.symm
  split at hres<;>simp only[oB,oS]at hres
  ·obtain⟨s,hs,X,hX,rfl⟩:=hres;cases hQ
  ·obtain⟨X,hX,rfl⟩:=hres;cases hQ
  ·subst hres;cases hQ
 ·next t x lo hi mx ho=>
  simp only[oD,oB,oP,ae]at hres;obtain⟨d,hd,_,_,hres⟩:=hres
  split at hres
  ·next e ht=>
   split at hres
   ·next hc0=>
    simp only[oB,oS]at hres;obtain⟨s,hs,X,hX,rfl⟩:=hres;simp only[bA]at hc0;cases hi with
    |none=>simp at hc0
    |some hi=>cases hQ
   ·simp only[oS]at hres;subst hres;cases hQ
  ·simp only[oS]at hres;subst hres;cases hQ
 ·next fn first captured ho=>
  simp only[oD,oB,oP,ae]at hres;obtain⟨d,hd,_,_,hres⟩:=hres
  split at hres
  ·next f hf=>
   simp only[oB,oS]at hres;obtain⟨Xs,hXs,rfl⟩:=hres;have hf':first= #[]:=by apply Array.ext';simpa using hf
   subst hf';cases hQ
  ·simp only[oS]at hres;subst hres;cases hQ
 ·next t x i ho=>
  simp only[oD,oB,oP,ae]at hres;obtain⟨d,hd,_,_,hres⟩:=hres
  split at hres
  ·next fs ht=>
   simp only[oB,oS,ae]at hres;obtain⟨f,hf,z,hz,_,hz0,X,hX,rfl⟩:=hres;exact UW h ho hX ht hf rfl hz (by simpa using hz0) hq
  ·cases hres
 ·next t x i ho=>
  simp only[oD,oB,oP,ae]at hres;obtain⟨d,hd,_,_,hres⟩:=hres
  split at hres
  ·next fs ht=>
   simp only[oB,oS,ae]at hres;obtain⟨f,hf,s,hs,ag,hag,_,h1,X,hX,rfl⟩:=hres;exact hq.elim
  ·cases hres
 ·next t x i ho=>
  simp only[oD,oB,oP,ae]at hres;obtain⟨d,hd,_,_,hres⟩:=hres
  split at hres
  ·next e ht=>
   simp only[oB,oS]at hres;obtain⟨s,hs,X,hX,I,hI,rfl⟩:=hres;exact Wk h ho hX hI ht hs hq
  ·simp only[oS]at hres;subst hres;cases hQ
 ·next t x i ho=>
  simp only[oD,oB,oP,ae]at hres;obtain⟨d,hd,_,_,hres⟩:=hres
  split at hres
  ·next ht=>
   simp only[oB,oS]at hres;obtain⟨X,hX,I,hI,rfl⟩:=hres;cases hQ
  ·simp only[oS]at hres;subst hres;cases hQ
 ·next x i ho=>
  simp only[oD,oB,oP,oS,ae]at hres;obtain⟨d,hd,_,_,X,hX,rfl⟩:=hres;exact MW h ho hX hq
 ·next t l ps ho=>
  simp only[oD,oB,oP,oS,ae]at hres;obtain⟨d,hd,_,_,e,he,s,hs,z,hz,L,hL,rfl⟩:=hres;rw[F5]at hQ;cases hQ
 ·next t ps ho=>
  simp only[oD,oB,oP,ae]at hres;obtain⟨d,hd,_,_,hres⟩:=hres
  split at hres
  ·next fs ht=>
   simp only[oB,oS]at hres;obtain⟨places,hpl,z,hz,L,hL,rfl⟩:=hres;cases hQ
  ·simp only[oS]at hres;subst hres;cases hQ
 ·next c ho=>
  split at hres
  ·next f hc=>
   simp only[oD,oB,ae]at hres;obtain⟨_,_,_,hl,Xs,hXs,hres⟩:=hres
   split at hres
   ·split at hres
    ·simp only[oP,oS]at hres;subst hres;cases hQ
    ·cases hres
   split at hres
   ·split at hres
    ·simp only[oP,oS]at hres;subst hres;cases hQ
    ·cases hres
   split at hres
   ·split at hres
    ·simp only[oP,oS]at hres;subst hres;cases hQ
    ·cases hres
   split at hres
   ·split at hres
    ·simp only[oP,oS]at hres;subst hres;cases hQ
    ·cases hres
   split at hres
   ·simp only[oP,oS]at hres;subst hres;cases wv<;>cases hQ
   ·simp only[oP,oS]at hres;subst hres;cases hQ
  ·next x _ hc=>
   simp only[oD,oB,oP,oS,ae]at hres;obtain⟨_,_,_,hl,X,hX,Xs,hXs,rfl⟩:=hres;cases wv<;>cases hQ
  ·next hc=>
   simp only[oD,oB,ae]at hres;obtain⟨d,hd,_,_,hres⟩:=hres
   split at hres
   ·next x t ha hta=>
    have ha':c.args= #[x]:=by apply Array.ext';simpa using ha
    have hta':c.argTypes= #[t]:=by apply Array.ext';simpa using hta
    split at hres<;>simp only[oB,oP,oS]at hres
    ·obtain⟨X,hX,rfl⟩:=hres;cases hQ
    ·obtain⟨X,hX,rfl⟩:=hres;exact OW h ho hc ha' hta' hX (by assumption) hq
    ·subst hres;cases hQ
   ·cases hres
  ·next hc=>
   simp only[oD,oB,ae]at hres;obtain⟨d,hd,_,_,hres⟩:=hres
   split at hres
   ·next x y t u ha hta=>
    have ha':c.args= #[x,y]:=by apply Array.ext';simpa using ha
    simp only[oB,oP,oS]at hres;obtain⟨X,hX,Y,hY,rfl⟩:=hres;cases hQ
   ·cases hres
  ·next hc=>
   simp only[oD,oB,ae]at hres;obtain⟨d,hd,_,_,hres⟩:=hres
   split at hres
   ·next x y t u ha hta=>
    have ha':c.args= #[x,y]:=by apply Array.ext';simpa using ha
    simp only[oB,oP,oS]at hres;obtain⟨X,hX,Y,hY,rfl⟩:=hres;cases hQ
   ·cases hres
  ·next hc=>
   simp only[oD,oB,ae]at hres;obtain⟨d,hd,_,_,hres⟩:=hres
   split at hres
   ·split at hres<;>simp only[oB,oP,oS]at hres
    ·obtain⟨i,hi,_,_,z,hz,X,hX,Y,hY,rfl⟩:=hres;cases wv<;>first|cases hQ|(by_cases h3:i.size=3;(rw[n9,if_pos h3]at hQ;cases hQ);(rw[n9,if_neg h3]at hQ;cases hQ))
    ·subst hres;cases hQ
   ·cases hres
  ·next hc=>
   simp only[oD,oB,ae]at hres;obtain⟨_,_,hres⟩:=hres
   split at hres
   ·next x y t u ha hta=>
    have ha':c.args= #[x,y]:=by apply Array.ext';simpa using ha
    have hta':c.argTypes= #[t,u]:=by apply Array.ext';simpa using hta
    split at hres<;>simp only[oB,oP,oS,ae]at hres
    ·obtain⟨s,hs,_,htu,X,hX,Y,hY,rfl⟩:=hres;cases hQ
    ·subst hres;cases hQ
   ·cases hres
  ·simp only[oP,oS]at hres;subst hres;cases hQ
 ·simp only[oP,oS]at hres;subst hres;cases hQ

end Go.Ax
namespace Go.Ax

variable {P : Program} {wv : Wv} {n0 : Nat} {S0 M0 : Nat → Prop} {w0 : World}
variable {ops : Array Oper} {R : List RO}

theorem zq{s:St}{cs:List ff}:gk P cs s→∀c∈cs,kh P c s:=by
 induction cs with
 |nil=>intro _ c hc;cases hc
 |cons c cs ih=>
  intro h x hx;simp only[gk]at h;obtain⟨h1,h2⟩:=h;rcases List.mem_cons.1 hx with e|hx
  ·rw[e];exact h1
  ·exact ih h2 x hx

def dR(ops:Array Oper)(i:Nat):Option Nat:=(ops[i]?).bind (·.dst)

def gE(ops:Array Oper)(val:Nat→Value):List Nat→Act→Act
 | [],a=>a
 |i::L,a=>(gE ops val L a).put (dR ops i) (val i)

def ru(ops:Array Oper)(e:Nat):List Nat:=(List.range e).reverse.foldl (fun acc i=>if(e::acc).any (fun k=>(aF ops k).contains i)then i::acc else acc) []
theorem EQ{a:Act}{d:Option Nat}{u v:Value}:(a.put d u).put d v=a.put d v:=by
 cases d with
 |none=>rfl
 |some d=>simp[Act.put]

theorem yF{val:Nat→Value}{d:Option Nat}{v:Value}:∀{L:List Nat} {a:Act},(∀j∈L,∀t,d=some t→dR ops j≠some t)→gE ops val L (a.put d v)=(gE ops val L a).put d v
 | [],_,_=>rfl
 |i::L,a,h=>by
  simp only[gE];rw[yF (fun j hj=>h j (by simp[hj]))];exact Act.put_comm _ v (val i) fun t ht=>h i (by simp) t ht

theorem yn{val:Nat→Value}{i:Nat}{v:Value}:∀{L:List Nat} {a:Act},L.Nodup→i∈L→(∀j∈L,j≠i→∀t,dR ops i=some t→dR ops j≠some t)→
  (gE ops val L a).put (dR ops i) v=gE ops val (L.erase i) (a.put (dR ops i) v)
 |j::L,a,hn,hi,h=>by
  rw[List.nodup_cons]at hn
  by_cases e:j=i
  ·subst e;simp only[gE,List.erase_cons_head];rw[EQ,yF];intro k hk t ht;exact h k (by simp[hk]) (fun e=>hn.1 (e▸hk)) t ht
  ·have hi':i∈L:=by rcases List.mem_cons.1 hi with h|h;exact absurd h.symm e;exact h
   rw[List.erase_cons_tail (by simpa using e)];simp only[gE];rw[←yn hn.2 hi' (fun k hk=>h k (by simp[hk]))];exact(Act.put_comm _ v (val j) fun t ht=>h j (by simp) e t ht).symm

theorem ur{val:Nat→Value}{o:Oper}(hs:∀cs b,o.op≠.select cs b):∀{L:List Nat} {a:Act},(∀j∈L,∀d,dR ops j=some d→d∉o.looksAt ops)→execOp (gE ops val L a).eval o=execOp a.eval o
 | [],_,_=>rfl
 |i::L,a,h=>by
  simp only[gE];rw[execOp_put (ops:=ops) o hs _ _ _ (h i (by simp))];exact ur hs fun j hj=>h j (by simp[hj])

theorem vw{Q:Exit→Act→World→Prop}{val:Nat→Value}{j:Nat}{oj:Oper}(hns:Region.noSelect ops=true)(hj:ops[j]?=some oj)(hQ:∀c a w,¬Q (.panic c) a w){w:World}:∀{L:List Nat} {a:Act} {K:Act→World→Prop},
  (∀l∈L,∃ol,ops[l]?=some ol∧ol.apart ops oj=true∧ol.guard=none)→wpOp P ops Q j K (gE ops val L a) w→wpOp P ops Q j (fun a' w'=>K (gE ops val L a') w') a w
 | [],_,_,_,h=>h
 |i::L,a,K,hL,h=>by
  obtain⟨ol,h1,h2,h3⟩:=hL i (by simp);simp only[gE]at h⊢;have hd:dR ops i=ol.dst:=by simp[dR,h1]
  rw[hd]at h⊢;have:=wpOp_putIf (S:=fun _=>False) (oi:=ol) hj h2 (fun cs b=>Region.noSelect_spec hns i ol cs b h1) (fun cs b=>Region.noSelect_spec hns j oj cs b hj) (fun c a w hq=>absurd hq (hQ _ _ _)) (.inl ⟨by simp[Region.wanted,h3],fun _ hf=>hf.elim⟩) h;exact wpOp_mono (fun a' w' hk=>hk.2) (vw hns hj hQ (fun l hl=>hL l (by simp[hl])) this)

theorem Fc{X:List Nat}{e:Nat}(hc:∀i∈X,∀j∈aF ops i,j∈X)(hw:∀j∈aF ops e,j∈X):∀i∈ru ops e,i∈X:=by
 have key:∀(l acc:List Nat),(∀i∈acc,i∈X)→∀i∈l.foldl (fun acc i=>if(e::acc).any (fun k=>(aF ops k).contains i)then i::acc else acc) acc,i∈X:=by
  intro l
  induction l with
  |nil=>intro acc h;exact h
  |cons x l ih=>
   intro acc h;simp only[List.foldl_cons];refine ih _ ?_
   split
   ·next hx=>
    rw[List.any_eq_true]at hx;obtain⟨k,hk,hk2⟩:=hx;rw[List.contains_eq_mem,decide_eq_true_eq]at hk2;intro i hi;rcases List.mem_cons.1 hi with rfl|hi
    ·rcases List.mem_cons.1 hk with rfl|hk
     ·exact hw _ hk2
     ·exact hc k (h k hk) _ hk2
    ·exact h i hi
   ·exact h
 exact key _ [] (by simp)

theorem eo.ready{X:List Nat}{listed:Array Bool}(h:eo P ops R X listed){i:Nat}(hi:i<ops.size)(hm:i∉X)(hw:∀j∈aF ops i,j∈X):i∈Region.ready .any ops listed:=by
 rw[mem_ready];refine⟨?_,ops[i],by simp[hi],fun x hx hb=>?_⟩
 ·cases hc:listed.getD i true with
  |false=>rfl
  |true=>exact absurd ((h.li i hi).1 hc) hm
 ·have hw':x.on∈aF ops i:=by
   simp only[aF,Array.getElem?_eq_getElem hi,ik];exact List.mem_map.2 ⟨x,List.mem_filter.2 ⟨by simpa using hx,hb⟩,rfl⟩
  have hin:=hw _ hw';have:=(h.li x.on (h.lt _ hin)).2 hin;rw[Array.getD_eq_getD_getElem?]at this⊢;have hs:x.on<listed.size:=by rw[h.size];exact h.lt _ hin
  rw[Array.getElem?_eq_getElem hs]at this⊢;exact this

structure wS (ops:Array Oper) (R:List RO) (L:List Nat):Prop where
 op:∀l∈L,∃ol r,ops[l]?=some ol∧R[l]?=some r∧ol.guard=none∧r.g=none∧r.op.isSt=true
 look:∀l∈L,∀ol,ops[l]?=some ol→∀j∈L,j∈aF ops l∨∀d,dR ops j=some d→d∉ol.looksAt ops
 inj:∀i∈L,∀j∈L,j≠i→∀t,dR ops i=some t→dR ops j≠some t

theorem C5{r:ff}(h:r.isSt=true):∃d,r.dst=some d:=by cases r<;>first|exact⟨_,rfl⟩|cases h

def rA(ops:Array Oper)(R:List RO):Nat→List Nat→List Nat→yV
 |0,Lc,_=>.br (Lc.map fun i=>(R.getD i default).op) []
 |m+1,Lc,es=>.br (Lc.map fun i=>(R.getD i default).op) ((es.filter fun e=>es.all fun x=>!(aF ops e).contains x).map fun e=>(R.getD e default,rA ops R m (Lc.filter fun l=>!(ru ops e).contains l) (es.erase e)))
theorem uH{s:St}{K:Exit→St→Prop}{q:Prop}{f:Nat→RO×yV}:∀{l:List Nat},kf P (l.map f) s K q→∀i∈l,a8 P [(f i).1] s (fun _ s'=>jb P (f i).2 s' K)
 | [],_,i,hi=>by cases hi
 |x::l,h,i,hi=>by
  simp only[lC]at h;rw[show f x=((f x).1,(f x).2)from rfl]at h;simp only[kf]at h;rcases List.mem_cons.1 hi with rfl|hi
  ·exact h.1
  ·exact uH h.2 i hi

theorem zG{n:Nat}{K:Exit→St→Prop}{L:List Nat}(hR:∀(i:Nat) (o:Oper),ops[i]?=some o→∃r,R[i]?=some r∧db P wv n ops o=some r)
  (acyc:∀i,∀j∈aF ops i,j<i) (hns:Region.noSelect ops=true) (hL:wS ops R L):∀(fuel:Nat)(es:List Nat)(Pd Lc X:List Nat)(val:Nat→Value)(listed:Array Bool)(s:St)(a:Act)(w:World),
  eo P ops R X listed→fuel+X.length=ops.size→(∀j,j<ops.size→(j∉X↔j∈es∨j∈Pd))→es.Nodup→(∀e∈es,e<ops.size∧e∉Pd)→Pd.Nodup→(∀i∈Pd,i∈Lc)→(∀i∈Lc,i∈L)→
  (∀l∈Lc,∃e∈es,l∈ru ops e)→(∀l∈L,∀e∈es,l∈aF ops e∨∀ol oe,ops[l]?=some ol→ops[e]?=some oe→ol.apart ops oe=true)→
  dH n0 S0 M0 w0 s (gE ops val Pd a) w→s.n=n→jb P (rA ops R es.length Lc es) s K→wpAny P .any ops (fun e a w=>e=.normal∧fX n0 S0 M0 w0 n K e a w) fuel listed a w
 |fuel,[],Pd,Lc,X,val,listed,s,a,w,hc,hf,hrem,_,_,_,hPL,_,hend,_,hs,hn,hq=>by
  have hLc:Lc=[]:=List.eq_nil_iff_forall_not_mem.2 fun i hi=>by obtain⟨e,he,_⟩:=hend i hi;cases he
  have hPd:Pd=[]:=List.eq_nil_iff_forall_not_mem.2 fun i hi=>by have:=hPL i hi;rw[hLc]at this;cases this
  subst hPd;simp only[lZ,rA,jb,kf,true_implies]at hq;refine wpAny_done ?_ ⟨rfl,s,hn,hq.2,hs⟩ fuel;rw[List.eq_nil_iff_forall_not_mem];intro i hi;obtain⟨_,h2,o,ho,_⟩:=hc.next hi;have:=(hrem i (Array.getElem?_eq_some_iff.1 ho).1).1 h2;simp at this
 |0,e::es,Pd,Lc,X,val,listed,s,a,w,hc,hf,hrem,_,hes,_,_,_,_,_,_,_,_=>by
  have he:=(hes e (by simp)).1;have h1:=fw hc.nd hc.lt (by omega) e he;exact absurd h1 ((hrem e he).2 (.inl (by simp)))
 |fuel+1,e::es,Pd,Lc,X,val,listed,s,a,w,hc,hf,hrem,hch,hes,hnd,hPL,hLL,hend,hap,hs,hn,hq=>by
  have hele:=(hes e (by simp)).1;simp only[lK,rA,jb]at hq;refine⟨fun h0=>?_,fun i hi=>?_⟩
  ·exfalso;have hall:∀i,i<ops.size→i∈X:=by
    intro i
    induction i using Nat.strongRecOn with
    |ind i ih=>
     intro hi;refine Classical.byContradiction fun hne=>?_;have:=hc.ready hi hne fun j hj=>ih j (acyc i j hj) (by have:=acyc i j hj;omega);rw[h0]at this;cases this
   exact(hrem e hele).2 (.inl (by simp)) (hall e hele)
  ·obtain⟨h1,h2,o,ho,h3⟩:=hc.next hi;have his:=(Array.getElem?_eq_some_iff.1 ho).1;obtain⟨r,hr,hres⟩:=hR i o ho;have hres0:=hres;unfold db at hres0;simp only[oD,oB,ae]at hres0;obtain⟨op,hop,_,hdst,_,hdn,hres0⟩:=hres0;have hrop:r.op=op:=by
    split at hres0
    ·simp only[oP,oS]at hres0;rw[←hres0]
    ·simp only[oB,oP,oS]at hres0;obtain⟨_,_,_,_,hres0⟩:=hres0;rw[←hres0]
   have hdo:dR ops i=o.dst:=by simp[dR,ho]
   by_cases hiP:i∈Pd
   ·
    have hiL:=hLL i (hPL i hiP);obtain⟨ol,r',e1,e2,hgd,hg,hst⟩:=hL.op i hiL;rw[ho]at e1;injection e1 with e1;subst e1;rw[hr]at e2;injection e2 with e2;subst e2;have hck:kh P r.op s:=by
     have:=zq hq.1 r.op (List.mem_map.2 ⟨i,hPL i hiP,by simp[List.getD_eq_getElem?_getD,hr]⟩);exact this
    rw[hrop]at hck hst;obtain⟨d,hd⟩:=C5 hst;unfold kh at hck;rw[hd]at hck;simp only at hck;have hod:o.dst=some d:=by rw[←hdst];exact hd
    obtain⟨g,hu,hv⟩:=hs.gh;have hdl:∀t,o.dst=some t→t<s.n:=by
     intro t ht;rw[hn];rw[ht]at hdn;simpa using hdn
    obtain⟨av,v,hrun,hrep,⟨hav,_⟩⟩:=qX hop hst ⟨hs,hu,hv,hdl⟩ hck;have hsel:∀cs b,o.op≠.select cs b:=fun cs b=>Region.noSelect_spec hns i o cs b ho;have hex:execOp (gE ops val Pd a).eval o=execOp a.eval o:=ur hsel fun j hj t ht=>by
     rcases hL.look i hiL o ho j (hLL j (hPL j hj))with h4|h4
     ·have hjX:=h3 j h4;exact absurd hjX ((hrem j (hc.lt j hjX)).2 (.inr hj))
     ·exact h4 t ht
    rw[hex]at hrun;have hs':dH n0 S0 M0 w0 s (gE ops val (Pd.erase i) (a.put o.dst v)) w:=by
     have x:=cY hs hu hv hdl hrep;rw[←hdo,yn hnd hiP (fun j hj hne t ht=>hL.inj i hiL j (hLL j (hPL j hj)) hne t ht),hdo]at x;rw[hod]at x;rw[hod];refine x.eqv rfl ?_ (List.Perm.refl _);intro t;simp only[St.setO,St.set,lk]
     split
     ·next h=>subst h;exact hav.symm
     ·rfl
    unfold wpOp;rw[ho];simp only;rw[if_pos (by simp[Region.wanted,hgd])];refine .inl ?_;unfold Oper.wp;rw[hrun];refine zG hR acyc hns hL fuel (e::es) (Pd.erase i) Lc (i::X) val _ s _ w h1 (by simp only[lK];omega) ?_ hch (fun x hx=>⟨(hes x hx).1,fun hm=>(hes x hx).2 (List.mem_of_mem_erase hm)⟩) (hnd.erase i) (fun j hj=>hPL j (List.mem_of_mem_erase hj)) hLL hend hap hs' hn (by simp only[lK,rA,jb];exact hq);intro j hj;rw[hnd.mem_erase_iff];have:=hrem j hj;constructor
    ·intro hx;rcases this.1 (fun h=>hx (List.mem_cons_of_mem _ h))with h4|h4
     ·exact .inl h4
     ·exact .inr ⟨fun e=>hx (by simp[e]),h4⟩
    ·rintro(h4|⟨h4,h5⟩) hx
     ·rcases List.mem_cons.1 hx with rfl|hx
      ·exact(hes _ h4).2 hiP
      ·exact this.2 (.inl h4) hx
     ·rcases List.mem_cons.1 hx with rfl|hx
      ·exact h4 rfl
      ·exact this.2 (.inr h5) hx
   ·
    have hie:i∈e::es:=((hrem i his).1 h2).elim (fun h=>h) fun h4=>absurd h4 hiP;have hget:R.getD i default=r:=by simp[List.getD_eq_getElem?_getD,hr]
    have hq2:=uH (f:=fun e'=>(R.getD e' default,rA ops R es.length (Lc.filter fun l=>!(ru ops e').contains l) ((e::es).erase e'))) hq.2 i (List.mem_filter.2 ⟨hie,by
     rw[List.all_eq_true];intro x hx;simp only[Bool.not_eq_true',List.contains_eq_mem,decide_eq_false_iff_not];intro hm;have hxX:=h3 x hm;exact(hrem x (hc.lt x hxX)).2 (.inl hx) hxX⟩)
    simp only[hget]at hq2;have hq':match r.g with|none=>kr P r.op s (fun s'=>jb P (rA ops R es.length (Lc.filter fun l=>!(ru ops i).contains l) ((e::es).erase i)) s' K)|some (t,b)=>iy (s.get t) b (kr P r.op s (fun s'=>jb P (rA ops R es.length (Lc.filter fun l=>!(ru ops i).contains l) ((e::es).erase i)) s' K)) (jb P (rA ops R es.length (Lc.filter fun l=>!(ru ops i).contains l) ((e::es).erase i)) (s.setO r.op.dst (.tup [])) K):=by
     obtain⟨gg,op'⟩:=r;cases gg with
     |none=>exact hq2
     |some x=>exact hq2
    rw[←hn]at hres;have keyr:=kW (Q':=fun e a w=>e=.normal∧fX n0 S0 M0 w0 n K e a w) hres hs hq';have hap':∀l∈Pd,∃ol,ops[l]?=some ol∧ol.apart ops o=true∧ol.guard=none:=by
     intro l hl;obtain⟨ol,rl,e1,_,hgd,_,_⟩:=hL.op l (hLL l (hPL l hl));rcases hap l (hLL l (hPL l hl)) i hie with h4|h4
     ·have hx:=h3 l h4;exact absurd hx ((hrem l (hc.lt l hx)).2 (.inr hl))
     ·exact⟨ol,e1,h4 ol o e1 ho,hgd⟩
    have step:wpOp P ops (fun e a w=>e=.normal∧fX n0 S0 M0 w0 n K e a w) i (dz n0 S0 M0 w0 s.n (fun s'=>jb P (rA ops R es.length (Lc.filter fun l=>!(ru ops i).contains l) ((e::es).erase i)) s' K)) (gE ops val Pd a) w:=by
     unfold wpOp;rw[ho];simp only
     split
     ·next hw=>exact .inl (keyr.1 hw)
     ·next hw=>exact keyr.2 (by simpa using hw)
    refine wpOp_mono ?_ (vw hns ho (fun c a w h=>by simp at h) hap' step);rintro a' w' ⟨s',hn',hf',hs'⟩;have hnd2:((e::es).erase i).Nodup:=hch.erase i;have hmE:∀j,j∈(e::es).erase i↔j≠i∧j∈e::es:=fun j=>hch.mem_erase_iff;have hlen:es.length=((e::es).erase i).length:=by rw[List.length_erase_of_mem hie];rfl
    refine zG hR acyc hns hL fuel ((e::es).erase i) Pd _ (i::X) val _ s' a' w' h1 (by simp only[lK];omega) ?_ hnd2 (fun x hx=>hes x ((hmE x).1 hx).2) hnd ?_ (fun j hj=>hLL j (List.mem_filter.1 hj).1) ?_ (fun l hl x hx=>hap l hl x ((hmE x).1 hx).2) hs' (hn'.trans hn) (by rw[←hlen];exact hf')
    ·intro j hj;have:=hrem j hj;rw[hmE];constructor
     ·intro hx;rcases this.1 (fun h=>hx (List.mem_cons_of_mem _ h))with h4|h4
      ·exact .inl ⟨fun e=>hx (by simp[e]),h4⟩
      ·exact .inr h4
     ·rintro h4 hx;rcases List.mem_cons.1 hx with rfl|hx
      ·rcases h4 with h4|h4
       ·exact h4.1 rfl
       ·exact hiP h4
      ·exact this.2 (h4.imp (fun h=>h.2) id) hx
    ·intro j hj;refine List.mem_filter.2 ⟨hPL j hj,?_⟩;simp only[Bool.not_eq_true',List.contains_eq_mem,decide_eq_false_iff_not];intro hm;have hx:=Fc hc.closed h3 j hm;exact(hrem j (hc.lt j hx)).2 (.inr hj) hx
    ·intro l hl;obtain⟨hl1,hl2⟩:=List.mem_filter.1 hl;simp only[Bool.not_eq_true',List.contains_eq_mem,decide_eq_false_iff_not]at hl2;obtain⟨e',he',hle⟩:=hend l hl1;exact⟨e',(hmE e').2 ⟨fun h=>hl2 (h▸hle),he'⟩,hle⟩

theorem FL{X:List Nat}(h1:X.Nodup)(h2:∀i∈X,i<ops.size)(h3:∀i∈X,∀j∈aF ops i,j∈X):∃listed,eo P ops R X listed:=
 ⟨Array.ofFn (n:=ops.size) (fun i=>decide (i.1∈X)),h1,h2,h3,by simp,fun j hj=>by simp[Array.getD_eq_getD_getElem?,hj]⟩

theorem qZ{val:Nat→Value}{p:Nat}:∀{L:List Nat} {a:Act},gE ops val (L++[p]) a=gE ops val L (a.put (dR ops p) (val p))
 | [],_=>rfl
 |i::L,a=>by simp only[List.cons_append,gE];rw[qZ]
theorem sy{val val':Nat→Value}:∀{L:List Nat} {a:Act},(∀i∈L,val i=val' i)→gE ops val L a=gE ops val' L a
 | [],_,_=>rfl
 |i::L,a,h=>by simp only[gE];rw[sy fun j hj=>h j (by simp[hj]),h i (by simp)]

theorem GV{st:St}{V:Nat→Rs}{S N L:List Nat}(hd:kJ P wv ops R st V S N)(hL:wS ops R L):∀(ps X:List Nat)(a:Act)(w:World),X.Nodup→(∀i∈X,i∈N)→(∀i∈X,∀j∈aF ops i,j∈X)→ps.Pairwise (· <·)→
  (∀i∈ps,i∈N∧i∈L∧i∉X)→(∀i∈ps,∀j∈aF ops i,j∈X∨j∈ps)→dH n0 S0 M0 w0 (aA st (be R) V X) a w→∃val,dH n0 S0 M0 w0 (aA st (be R) V (ps.reverse++X)) (gE ops val ps.reverse a) w
 | [],X,a,w,_,_,_,_,_,_,hs=>⟨fun _=>undef,hs⟩
 |p::ps,X,a,w,hnd,hXN,hcl,hso,hps,hpw,hs=>by
  obtain⟨hpN,hpL,hpX⟩:=hps p (by simp);rw[List.pairwise_cons]at hso;have hlt:∀i∈X,i<ops.size:=fun i hi=>by rw[←hd.len];exact((hd.mem i).1 (hXN i hi)).1
  obtain⟨listed,hcome⟩:=FL (P:=P) (R:=R) hnd hlt hcl;obtain⟨o,r,ho,hr,hgd,hg,hst⟩:=hL.op p hpL;obtain⟨r',hr',hres⟩:=hd.res p o ho;rw[hr]at hr';injection hr' with hr';subst hr';have hw:∀j∈aF ops p,j∈X:=by
   intro j hj;have h1:=hd.acyc p j hj;rcases hpw p (by simp) j hj with h2|h2
   ·exact h2
   ·rcases List.mem_cons.1 h2 with h3|h3
    ·omega
    ·have:=hso.1 j h3;omega
  obtain⟨op,hop,hrop,hQ,hdst,hdl,⟨g,hat⟩,hget,hqq⟩:=ml hd hcome hXN hpN hr hres hw hpX hs;have hstep:=hd.step p r hpN hr;unfold cZ at hstep;rw[hg]at hstep;have hq':=hqq hstep;rw[hrop]at hq' hst;obtain⟨av,v,hrun,hrep,hav,hu0⟩:=qX hop hst hat hq';have hdR:be R p=op.dst:=by simp[be,hr,hrop]
  have hdo:dR ops p=o.dst:=by simp[dR,ho]
  have hs1:dH n0 S0 M0 w0 (aA st (be R) V (p::X)) (a.put (dR ops p) v) w:=by
   have x:=cY hat.sat hat.us hat.rep hat.dst hrep;have e:aA st (be R) V (p::X)=dp (aA st (be R) V X) op.dst (V p):=by simp only[aA];rw[hdR]
   rw[e,hdo,hdst];unfold dp;rw[←hu0,dL,←hav];exact x
  obtain⟨val,hv⟩:=GV hd hL ps (p::X) (a.put (dR ops p) v) w (List.nodup_cons.2 ⟨hpX,hnd⟩) (fun i hi=>(List.mem_cons.1 hi).elim (fun e=>e▸hpN) (hXN i))
   (fun i hi j hj=>(List.mem_cons.1 hi).elim (fun e=>List.mem_cons_of_mem _ (hw j (e▸hj))) (fun h=>List.mem_cons_of_mem _ (hcl i h j hj))) hso.2
   (fun i hi=>⟨(hps i (by simp[hi])).1,(hps i (by simp[hi])).2.1,fun h=>(List.mem_cons.1 h).elim (fun e=>by have:=hso.1 i hi;omega) (hps i (by simp[hi])).2.2⟩)
   (fun i hi j hj=>(hpw i (by simp[hi]) j hj).elim (fun h=>.inl (List.mem_cons_of_mem _ h)) (fun h=>(List.mem_cons.1 h).elim (fun e=>.inl (by simp[e])) .inr)) hs1
  refine⟨fun i=>if i=p then v else val i,?_⟩;have hpp:∀i∈ps.reverse,i≠p:=fun i hi=>by have:=hso.1 i (List.mem_reverse.1 hi);omega
  simp only[List.reverse_cons,List.append_assoc,List.singleton_append];rw[qZ,if_pos rfl,sy (val':=val) (fun i hi=>by simp[hpp i hi])];exact hv

theorem zn{st:St}{V:Nat→Rs}{K:Exit→St→Prop}{S L:List Nat}{e:Nat}{es:List Nat}(hd:kJ P wv ops R st V S (NL S R))(hE:EL S R=e::es)(hch:∀x∈es,∃y∈e::es,y∈aF ops x)(hns:Region.noSelect ops=true)
  (hL:wS ops R L) (hLN:∀l∈L,l∈NL S R) (hce:∀l∈L,∃x∈e::es,l∈ru ops x) (hap:∀l∈L,∀x∈e::es,l∈aF ops x∨∀ol oe,ops[l]?=some ol→ops[x]?=some oe→ol.apart ops oe=true)
  (hup:∀i∈NL S R,i∉L→∀j∈aF ops i,j∉L)
  (hcov:∀i∈NL S R,i∉L→fW ops R i=true∨i∈aF ops e∨∃k∈NL S R,k∉L∧i<k∧fW ops R k=false∧i∈aF ops k)
  (hend:jb P (rA ops R (e::es).length L (e::es)) (aA st (be R) V (NL S R).reverse) K):∀(fuel:Nat)(X:List Nat)(listed:Array Bool)(a:Act)(w:World),
  eo P ops R X listed→(∀i∈X,i∈NL S R)→fuel+X.length=ops.size→dH n0 S0 M0 w0 (aA st (be R) V X) a w→wpAny P .any ops (fun e a w=>e=.normal∧fX n0 S0 M0 w0 st.n K e a w) fuel listed a w:=by
 have hel:e<ops.size:=by
  have:e∈EL S R:=by rw[hE];simp
  rw[←hd.len];exact(dD.1 this).1
 have heN:e∉NL S R:=by
  have:e∈EL S R:=by rw[hE];simp
  intro h;have h1:=(dD.1 this).2;have h2:=(bj.1 h).2;rw[h1]at h2;cases h2
 have hes:∀x∈e::es,x<ops.size∧x∉NL S R:=by
  intro x hx;rw[←hE]at hx;obtain⟨h1,h2⟩:=dD.1 hx;exact⟨by rw[←hd.len];exact h1,fun h=>by have:=(bj.1 h).2;rw[h2]at this;cases this⟩

 have fin:∀(fuel:Nat)(X:List Nat)(listed:Array Bool)(a:Act)(w:World),eo P ops R X listed→(∀i∈X,i∈NL S R)→fuel+X.length=ops.size→dH n0 S0 M0 w0 (aA st (be R) V X) a w→(∀i∈NL S R,i∉L→i∈X)→
   wpAny P .any ops (fun e a w=>e=.normal∧fX n0 S0 M0 w0 st.n K e a w) fuel listed a w:=by
  intro fuel X listed a w h hX hl hs hall;have hps:((NL S R).filter fun i=>decide (i∉X)).Pairwise (· <·):=List.Pairwise.filter _ (fv S R);have hpm:∀i,i∈((NL S R).filter fun i=>decide (i∉X))↔i∈NL S R∧i∉X:=fun i=>by simp
  generalize hpe:((NL S R).filter fun i=>decide (i∉X))=ps at hps hpm;obtain⟨val,hv⟩:=GV hd hL ps X a w h.nd hX h.closed hps (fun i hi=>by
    obtain⟨h1,h2⟩:=(hpm i).1 hi;exact⟨h1,Classical.byContradiction fun h3=>h2 (hall i h1 h3),h2⟩)
   (fun i hi j hj => by
    by_cases hx:j∈X
    ·exact .inl hx
    ·exact .inr ((hpm j).2 ⟨hd.nw i ((hpm i).1 hi).1 j hj,hx⟩)) hs
  have hpn:=gP hps;have hnd:(ps.reverse++X).Nodup:=by
   rw[List.nodup_append];refine⟨(List.reverse_perm _).nodup_iff.2 hpn,h.nd,fun x hx y hy e=>?_⟩;subst e;exact((hpm x).1 (List.mem_reverse.1 hx)).2 hy
  have hp:(ps.reverse++X).Perm (NL S R).reverse:=(List.perm_ext_iff_of_nodup hnd ((List.reverse_perm _).nodup_iff.2 hd.nnd)).2 fun i=>by
   rw[List.mem_append,List.mem_reverse,List.mem_reverse,hpm];constructor
   ·rintro(h1|h1)
    ·exact h1.1
    ·exact hX i h1
   ·intro h1
    by_cases hx:i∈X
    ·exact .inr hx
    ·exact .inl ⟨h1,hx⟩
  have hs':dH n0 S0 M0 w0 (aA st (be R) V (NL S R).reverse) (gE ops val ps.reverse a) w:=by
   refine hv.eqv (by rw[ce,ce]) ?_ ?_
   ·intro t;have x:=cW (bD:=st) (V:=V) hd.inj (L:=ps.reverse++X) (t:=t);have y:=cW (bD:=st) (V:=V) hd.inj (L:=(NL S R).reverse) (t:=t)
    by_cases he:∃j,j∈ps.reverse++X∧be R j=some t
    ·obtain⟨j,h1,h2⟩:=he;rw[x.1 j h1 h2,y.1 j (hp.mem_iff.1 h1) h2]
    ·rw[x.2 fun k hk e=>he ⟨k,hk,e⟩,y.2 fun k hk e=>he ⟨k,hp.mem_iff.2 hk,e⟩]
   ·rw[cb,cb];exact((hp.flatMap_right _).append_right _).symm
  refine zG hd.res hd.acyc hns hL fuel (e::es) ps.reverse L X val listed _ a w h hl ?_ (by rw[←hE];exact(List.Sublist.nodup List.filter_sublist List.nodup_range)) ?_ ((List.reverse_perm _).nodup_iff.2 hpn) ?_ (fun i hi=>hi) hce hap hs' ce hend
  ·intro j hj;have hjR:j<R.length:=by rw[hd.len];exact hj
   rw[←hE,List.mem_reverse,hpm];constructor
   ·intro hx;cases hq:S.contains j with
    |true=>exact .inr ⟨bj.2 ⟨hjR,hq⟩,hx⟩
    |false=>exact .inl (dD.2 ⟨hjR,hq⟩)
   ·rintro(h1|h1) hx
    ·have h2:=(dD.1 h1).2;have h3:=(bj.1 (hX j hx)).2;rw[h2]at h3;cases h3
    ·exact h1.2 hx
  ·intro x hx;exact⟨(hes x hx).1,fun hm=>(hes x hx).2 ((hpm x).1 (List.mem_reverse.1 hm)).1⟩
  ·intro i hi;obtain⟨h1,h2⟩:=(hpm i).1 (List.mem_reverse.1 hi);exact Classical.byContradiction fun h3=>h2 (hall i h1 h3)
 intro fuel
 induction fuel with
 |zero=>
  intro X listed a w h hX hl hs;have:=fw h.nd h.lt (by omega) e hel;exact absurd (hX e this) heN
 |succ fuel ih=>
  intro X listed a w h hX hl hs
  by_cases hall:∀i∈NL S R,i∉L→i∈X
  ·exact fin (fuel+1) X listed a w h hX hl hs hall
  have ready_of:∀i,i<ops.size→i∉X→(∀j∈aF ops i,j∈X)→i∈Region.ready .any ops listed:=fun i hi hm hw=>h.ready hi hm hw
  by_cases hF:∃f∈NL S R,f∉X∧fW ops R f=true∧∀j∈aF ops f,j∈X
  ·obtain⟨f,hfN,hfX,hfl,hfw⟩:=hF;have hfs:f<ops.size:=by rw[←hd.len];exact(bj.1 hfN).1
   have hrd:=ready_of f hfs hfX hfw;obtain⟨h1,h2,o,ho,h3⟩:=h.next hrd;obtain⟨r,hr,hres⟩:=hd.res f o ho;unfold fW at hfl;rw[ho,hr]at hfl;simp only[bA,Option.isNone_iff_eq_none,List.all_eq_true,List.mem_range]at hfl;obtain⟨⟨hg0,hfl⟩,hap⟩:=hfl;obtain⟨op,hop,hrop,hQ,hdst,hdl,⟨g,hat⟩,hget,hqq⟩:=ml hd h hX hfN hr hres hfw hfX hs;have hstep:=hd.step f r hfN hr;unfold cZ at hstep;rw[hg0]at hstep;have hq':=hqq hstep;rw[hrop]at hq' hfl;obtain⟨v,hv⟩:=jz hop hfl hat hq';have hgo:o.guard=none:=by
    have hres0:=hres;unfold db at hres0;simp only[oD,oB,ae]at hres0;obtain⟨_,_,_,_,_,_,hres0⟩:=hres0
    split at hres0
    ·assumption
    ·simp only[oB,oP,oS]at hres0;obtain⟨_,_,_,_,hres0⟩:=hres0;rw[←hres0]at hg0;cases hg0
   have hwt:Region.wanted o (yielded ops a.tmps)=true:=by simp[Region.wanted,hgo]
   have hnext:dH n0 S0 M0 w0 (aA st (be R) V (f::X)) (a.put o.dst v) w:=by
    have:=jv (Q:=fun _ _ _=>False) hd h hX hfN ho hr hres hfw hfX hs;unfold wpOp at this;rw[ho]at this;simp only[hwt,if_true]at this;rcases this with h4|⟨_,a',w',h4⟩
    ·unfold Oper.wp at h4;rw[hv w]at h4;exact h4
    ·exact h4.elim
   refine wpAny_first ho (Region.noSelect_spec hns) (fun c a w hh=>absurd hh.1 (by simp)) fuel listed a w ?_ hrd (.inl ⟨hwt,hv⟩) (ih (f::X) _ _ w h1 (fun i hi=>(List.mem_cons.1 hi).elim (fun e=>e▸hfN) (hX i)) (by simp only[lK];omega) hnext);intro j oj hj hne hun hno;have hjs:=(Array.getElem?_eq_some_iff.1 hj).1;have:=hap j hjs;rw[hj]at this;simp only[Bool.or_eq_true,beq_iff_eq,hne,false_or,List.contains_eq_mem,decide_eq_true_eq]at this;rcases this with h4|h4|h4
   ·exact absurd ((h.li j hjs).2 (hfw j h4)) (by rw[hun];simp)
   ·simp only[aF,hj,ik]at h4;obtain⟨x,hx,hxe⟩:=List.mem_map.1 h4;obtain⟨hx1,hx2⟩:=List.mem_filter.1 hx;exact absurd hxe (hno x (by simpa using hx1) hx2)
   ·exact h4
  ·have eready:(∀j∈aF ops e,j∈X)→False:=by
    intro hw;have hnf:∀m i,i∈NL S R→i∉L→R.length-i≤m→fW ops R i=false→i∈X:=by
     intro m
     induction m with
     |zero=>intro i hi _ hm _;have:=(bj.1 hi).1;omega
     |succ m ihm=>
      intro i hi hiL hm hfl;rcases hcov i hi hiL with h1|h1|⟨k,hk,hkL,h1,h2,h3⟩
      ·rw[hfl]at h1;cases h1
      ·exact hw i h1
      ·exact h.closed k (ihm k hk hkL (by omega) h2) i h3
    refine hall ?_;intro i
    induction i using Nat.strongRecOn with
    |ind i ihi=>
     intro hi hiL;cases hfl:fW ops R i with
     |false=>exact hnf _ i hi hiL (Nat.le_refl _) hfl
     |true=>
      refine Classical.byContradiction fun hne=>hF ⟨i,hi,hne,hfl,fun j hj=>ihi j (hd.acyc i j hj) (hd.nw i hi j hj) (hup i hi hiL j hj)⟩
   refine⟨fun h0=>?_,fun i hi=>?_⟩
   ·exfalso;refine hall ?_;intro i
    induction i using Nat.strongRecOn with
    |ind i ihi=>
     intro hi hiL;refine Classical.byContradiction fun hne=>?_;have:=ready_of i (by rw[←hd.len];exact(bj.1 hi).1) hne fun j hj=>ihi j (hd.acyc i j hj) (hd.nw i hi j hj) (hup i hi hiL j hj);rw[h0]at this;cases this
   ·obtain⟨h1,h2,o,ho,h3⟩:=h.next hi;have his:=(Array.getElem?_eq_some_iff.1 ho).1;have hiN:i∈NL S R:=by
     have hiR:i<R.length:=by rw[hd.len];exact his
     refine bj.2 ⟨hiR,?_⟩;cases hq:S.contains i with
     |true=>rfl
     |false=>
      exfalso;have hm:i∈e::es:=by rw[←hE];exact dD.2 ⟨hiR,hq⟩
      rcases List.mem_cons.1 hm with rfl|hm
      ·exact eready h3
      ·obtain⟨y,hy,hyw⟩:=hch i hm;have hpre:y∈EL S R:=by rw[hE];exact hy
       have h4:=(bj.1 (hX _ (h3 _ hyw))).2;rw[(dD.1 hpre).2]at h4;cases h4
    obtain⟨r,hr,hres⟩:=hd.res i o ho;refine wpOp_mono ?_ (jv hd h hX hiN ho hr hres h3 h2 hs);intro a' w' hs';exact ih (i::X) _ a' w' h1 (fun j hj=>(List.mem_cons.1 hj).elim (fun e=>e▸hiN) (hX j)) (by simp only[lK];omega) hs'

def Di(ops:Array Oper)(R:List RO)(S:List Nat)(e:Nat):List Nat:=
 let A:=ru ops e
 let B:=(List.range R.length).foldl (fun acc i=>if A.contains i||(fW ops R i&&(aF ops i).all (fun j=>acc.contains j))then i::acc else acc) []
 (NL S R).filter fun i=>!B.contains i
def Bt(ops:Array Oper)(R:List RO)(L es:List Nat)(l:Nat)(ol:Oper)(r:RO):Bool:=
 ol.guard.isNone&&r.g.isNone&&r.op.isSt&&
  (L.all fun j=>(aF ops l).contains j||(match dR ops j with|some d=>!(ol.looksAt ops).contains d|none=>true))&&
  (L.all fun j=>j==l||(match dR ops l with|some d=>dR ops j !=some d|none=>true))&&
  (es.all fun x=>(aF ops x).contains l||(match ops[x]? with|some ox=>ol.apart ops ox|none=>true))
def AX(ops:Array Oper)(R:List RO)(S L es:List Nat):Bool:=
 L.all fun l=>S.contains l&&decide (l<R.length)&&(match ops[l]?,R[l]? with
  |some ol,some r=>Bt ops R L es l ol r
  |_,_=>false)
def I5(ops:Array Oper)(R:List RO):List RO:=(NL (wu ops R) R).map fun i=>R.getD i default
def wT(ops:Array Oper)(R:List RO):Bool:=
 let S:=wu ops R
 ua (R.filterMap (·.op.dst))&&(R.length==ops.size)&&Region.noSelect ops&&
 match EL S R with
 | []=>false
 |e::es=>
  let L:=Di ops R S e
  (es.all fun x => (e :: es).any fun y => (aF ops x).contains y) && (L.all fun l => (e :: es).any fun x => (ru ops x).contains l) && AX ops R S L (e :: es) && (List.range R.length).all fun i =>
   (aF ops i).all (· < i) && (!S.contains i || (mI R i && (aF ops i).all (fun j => S.contains j) && (match R[i]? with | some r => r.slots.all (ir ops R i) | none => true) &&
    (L.contains i||((aF ops i).all (fun j=>!L.contains j)&&(fW ops R i||(aF ops e).contains i||(List.range R.length).any fun k=>decide (i<k)&&S.contains k&& !L.contains k&& !fW ops R k&&(aF ops k).contains i)))))
def Jr(ops:Array Oper)(R:List RO):yV:=
 match EL (wu ops R) R with
 | []=>.br [] []
 |e::es=>rA ops R (e::es).length (Di ops R (wu ops R) e) (e::es)
theorem yz{st:St}{K:Exit→St→Prop}{id:Nat}{a:Act}{w:World}(hm:P.follows .mixedOrders=true)(hd:wT ops R=true)
  (hR:ops.toList.mapM (db P wv st.n ops)=some R) (hs:dH n0 S0 M0 w0 st a w) (hq:a8 P (I5 ops R) st (fun _ s=>jb P (Jr ops R) s K)):(Code.region id ops true).wp P (fX n0 S0 M0 w0 st.n K) a w:=by
 refine wp_mono (Q:=fun e a w=>e=.normal∧fX n0 S0 M0 w0 st.n K e a w) (wp_region_any hm ?_) (fun e a w h=>h.2);unfold wT at hd;unfold I5 Jr at hq;generalize wu ops R=S at hd hq;simp only[bA,beq_iff_eq]at hd;obtain⟨⟨⟨d1,d2⟩,d3⟩,hd⟩:=hd;cases hE:EL S R with
 |nil=>rw[hE]at hd;cases hd
 |cons e es=>
  rw[hE]at hd hq;simp only at hd hq;generalize Di ops R S e=L at hd hq;simp only[bA,List.all_eq_true,List.mem_range,decide_eq_true_eq]at hd;obtain⟨⟨⟨hch0,hce0⟩,hlo⟩,hall⟩:=hd;have hch:∀x∈es,∃y∈e::es,y∈aF ops x:=fun x hx=>by
   have:=hch0 x hx;rw[List.any_eq_true]at this;obtain⟨y,h1,h2⟩:=this;exact⟨y,h1,by simpa using h2⟩
  have hce:∀l∈L,∃x∈e::es,l∈ru ops x:=fun x hx=>by
   have:=hce0 x hx;rw[List.any_eq_true]at this;obtain⟨y,h1,h2⟩:=this;exact⟨y,h1,by simpa using h2⟩
  have hNQ:∀r∈(NL S R).map (fun i=>R.getD i default),r.op.isQ=true:=by
   intro r hr;obtain⟨i,hi,rfl⟩:=List.mem_map.1 hr;obtain⟨h1,h2⟩:=bj.1 hi;have h3:=(hall i h1).2;rw[h2]at h3;simp only[bT,Bool.false_or,bA]at h3;have h4:=h3.1.1.1;simpa[mI,List.getD_eq_getElem?_getD,h1]using h4
  obtain⟨rl,s',hx,hK,hl⟩:=fC hNQ hq;obtain⟨g,hu,hv⟩:=hs.gh;have hnd:=gP (fv S R);have hV:(NL S R).map (fun i=>rl.getD ((NL S R).idxOf i) (.any,[]))=rl:=by
   apply List.ext_getElem
   ·simp at hl;simp[hl]
   ·intro p h1 h2;have hp:p<(NL S R).length:=by simpa using h1
    simp[List.getD_eq_getElem?_getD,List.Nodup.idxOf_getElem hnd p hp,h2]
  generalize hVd:(fun i=>rl.getD ((NL S R).idxOf i) ((.any,[]):Rs))=V at hV;have hD:∀i∈NL S R,be R i=(R.getD i default).op.dst:=by
   intro i hi;have hlt:=(bj.1 hi).1;simp[be,List.getD_eq_getElem?_getD,hlt]
  obtain⟨e1,hst⟩:=Hw (D:=be R) (V:=V) (bD:=st) (L:=[]) hD hx rfl hV;simp only[List.append_nil]at e1 hst;have lt_of:∀{i:Nat} {r:RO},R[i]?=some r→i<R.length:=fun h=>(List.getElem?_eq_some_iff.1 h).1;have hwall:∀i,∀j∈aF ops i,j<i:=by
   intro i j hj
   by_cases hi:i<R.length
   ·exact(hall i hi).1 j hj
   ·have:ops[i]?=none:=by simp;omega
    simp[aF,this]at hj
  have hN:∀i∈NL S R,((mI R i=true∧(aF ops i).all (fun j=>S.contains j)=true)∧(match R[i]? with|some r=>r.slots.all (ir ops R i)|none=>true)=true)∧
    (L.contains i||((aF ops i).all (fun j=>!L.contains j)&&(fW ops R i||(aF ops e).contains i||(List.range R.length).any fun k=>decide (i<k)&&S.contains k&& !L.contains k&& !fW ops R k&&(aF ops k).contains i)))=true:=by
   intro i hi;obtain⟨h1,h2⟩:=bj.1 hi;have:=(hall i h1).2;rw[h2]at this;simpa only[bT,Bool.false_or,bA]using this
  have hDE:kJ P wv ops R st V S (NL S R):=by
   refine⟨d2,?_,oL (ii d1),hwall,fun i=>bj,fun i hi=>(hN i hi).1.1.1,hnd,?_,?_,?_,?_⟩
   ·intro i o ho;exact io hR i o (by simpa using ho)
   ·intro i hi j hj;have h1:=(hN i hi).1.1.2;rw[List.all_eq_true]at h1;have h2:=hwall i j hj;have h3:=(bj.1 hi).1;exact bj.2 ⟨by omega,h1 j hj⟩
   ·intro i r t hi hr ht j hj;have h2:=(hN i hi).1.2;rw[hr]at h2;simp only[List.all_eq_true]at h2;have hs:=h2 t ht;unfold ir at hs;simp only[List.all_eq_true,List.mem_range]at hs;simp only[be,oB]at hj;obtain⟨x,hx,hd⟩:=hj;have:=hs j (lt_of hx);rw[hx]at this;simpa[hd]using this
   ·intro i r hi hr;obtain⟨p,hp,rfl⟩:=List.mem_iff_getElem.1 hi;have:=hst p hp;rw[tj (fv S R) p hp]at this;rw[List.getD_eq_getElem?_getD,hr]at this;exact this
   ·rw[←e1];exact pe hx hu.keys
  have hlo':∀l∈L,l∈NL S R∧∃ol r,ops[l]?=some ol∧R[l]?=some r∧ol.guard=none∧r.g=none∧r.op.isSt=true∧(∀j∈L,j∈aF ops l∨∀d,dR ops j=some d→d∉ol.looksAt ops)∧
    (∀j∈L,j≠l→∀t,dR ops l=some t→dR ops j≠some t)∧(∀x∈e::es,l∈aF ops x∨∀ox,ops[x]?=some ox→ol.apart ops ox=true):=by
   intro l hl;unfold AX at hlo;rw[List.all_eq_true]at hlo;have h:=hlo l hl;simp only[bA,decide_eq_true_eq]at h;obtain⟨⟨h1,h2⟩,h3⟩:=h;refine⟨bj.2 ⟨h2,h1⟩,?_⟩
   split at h3
   ·next ol r ho hr=>
    unfold Bt at h3;simp only[bA,List.all_eq_true,Option.isNone_iff_eq_none]at h3;obtain⟨⟨⟨⟨⟨h4,h5⟩,h6⟩,h7⟩,h8⟩,h9⟩:=h3;refine⟨ol,r,ho,hr,h4,h5,h6,?_,?_,?_⟩
    ·intro j hj;have:=h7 j hj;rw[Bool.or_eq_true]at this;rcases this with h|h
     ·exact .inl (by simpa using h)
     ·refine .inr fun d hd=>?_;rw[hd]at h;simpa using h
    ·intro j hj hne t ht;have:=h8 j hj;rw[Bool.or_eq_true]at this;rcases this with h|h
     ·exact absurd (by simpa using h) hne
     ·rw[ht]at h;simpa using h
    ·intro x hx;have:=h9 x hx;rw[Bool.or_eq_true]at this;rcases this with h|h
     ·exact .inl (by simpa using h)
     ·refine .inr fun ox hox=>?_;rw[hox]at h;exact h
   ·cases h3
  have hLO:wS ops R L:=by
   refine⟨fun l hl=>?_,fun l hl ol ho j hj=>?_,fun i hi j hj hne t ht=>?_⟩
   ·obtain⟨_,ol,r,h1,h2,h3,h4,h5,_⟩:=hlo' l hl;exact⟨ol,r,h1,h2,h3,h4,h5⟩
   ·obtain⟨_,ol',r,h1,_,_,_,_,h6,_⟩:=hlo' l hl;rw[ho]at h1;injection h1 with h1;subst h1;exact h6 j hj
   ·obtain⟨_,ol',r,h1,_,_,_,_,_,h7,_⟩:=hlo' i hi;exact h7 j hj hne t ht
  have hc:eo P ops R [] (Array.replicate ops.size false):=⟨List.nodup_nil,by simp,by simp,by simp,fun j hj=>by simp[Array.getD_eq_getD_getElem?,hj]⟩;refine zn hDE hE hch d3 hLO (fun l hl=>(hlo' l hl).1) hce ?_ ?_ ?_ (by rw[←e1];exact hK) ops.size [] _ a _ hc (by simp) (by simp) ⟨hs.ms,hs.dfr,hs.tm,hs.base,hs.os,hs.tape,hs.output,hs.size,hs.old,hs.gh⟩
  ·intro l hl x hx;obtain⟨_,ol',r,h1,_,_,_,_,_,_,h8⟩:=hlo' l hl;refine(h8 x hx).imp (fun h=>h) fun h ol oe ho hoe=>?_;rw[ho]at h1;injection h1 with h1;subst h1;exact h oe hoe
  ·intro i hi hiL j hj;have:=(hN i hi).2;simp only[Bool.or_eq_true,List.contains_eq_mem,decide_eq_true_eq,hiL,false_or,bA,List.all_eq_true]at this;have:=this.1 j hj;simpa using this
  ·intro i hi hiL;have:=(hN i hi).2;simp only[Bool.or_eq_true,List.contains_eq_mem,decide_eq_true_eq,hiL,false_or,bA]at this;have:=this.2;simp only[List.any_eq_true,List.mem_range,bA,decide_eq_true_eq,Bool.not_eq_true',decide_eq_false_iff_not]at this;rcases this with(h1|h1)|⟨k,hk,⟨⟨⟨h1,h2⟩,h3⟩,h4⟩,h5⟩
   ·exact .inl h1
   ·exact .inr (.inl h1)
   ·exact .inr (.inr ⟨k,bj.2 ⟨hk,by simpa using h2⟩,h3,h1,h4,h5⟩)

theorem yN{L:List RO}{st:St}{K:St→Prop}{q:Prop}{f:Nat→Tr}:∀{l:List Nat},rE P L (l.map fun i=>(i,f i)) st K q→∀i∈l,a8 P [L.getD i default] st (fun _ s=>yY P L (f i) s K)
 | [],_,i,hi=>by cases hi
 |x::l,h,i,hi=>by
  simp only[lC,rE]at h;rcases List.mem_cons.1 hi with rfl|hi
  ·exact h.1
  ·exact yN h.2 i hi
theorem Ej{ops:Array Oper}{R:List RO}{n:Nat}{K:St→Prop}(hlen:R.length=ops.size)(hR:∀(i:Nat) (o:Oper),ops[i]?=some o→∃r,R[i]?=some r∧db P wv n ops o=some r)
  (acyc:∀i,∀j∈aF ops i,j<i):∀(m:Nat)(X:List Nat)(listed:Array Bool)(s:St)(a:Act)(w:World),eo P ops R X listed→m+X.length=ops.size→
  dH n0 S0 M0 w0 s a w→s.n=n→yY P R (D8 (aF ops) R.length m X) s K→wpAny P .any ops (fun e a w=>e=.normal∧fX n0 S0 M0 w0 n (fun _=>K) e a w) m listed a w
 |0,X,listed,s,a,w,hc,hl,hs,hn,hq=>by
  have hfull:=fw hc.nd hc.lt (by omega);refine wpAny_done ?_ ⟨rfl,s,hn,by simpa[D8,yY,rE]using hq,hs⟩ 0;rw[List.eq_nil_iff_forall_not_mem];intro i hi;obtain⟨_,h2,o,ho,_⟩:=hc.next hi;exact h2 (hfull i (Array.getElem?_eq_some_iff.1 ho).1)
 |m+1,X,listed,s,a,w,hc,hl,hs,hn,hq=>by
  refine⟨fun h0=>?_,fun i hi=>?_⟩
  ·exfalso;have hall:=hc.full acyc h0;have hp:=(qz hc.nd hc.lt).length_eq;have:(cu ops.size).filter (fun i=>decide (i∈X))=cu ops.size:=List.filter_eq_self.2 fun i hi=>by simpa using hall i (fB.1 hi)
   rw[this,qc]at hp;omega
  obtain⟨h1,h2,o,ho,h3⟩:=hc.next hi;obtain⟨r,hr,hres⟩:=hR i o ho;have hiR:i<R.length:=(List.getElem?_eq_some_iff.1 hr).1;have hget:R.getD i default=r:=by simp[List.getD_eq_getElem?_getD,hr]
  simp only[D8,yY]at hq;have hq:=yN (f:=fun i=>D8 (aF ops) R.length m (i::X)) hq i (List.mem_filter.2 ⟨List.mem_range.2 hiR,by
   simp only[bA,Bool.not_eq_true',List.all_eq_true,List.contains_eq_mem,decide_eq_true_eq,decide_eq_false_iff_not];exact⟨h2,h3⟩⟩)
  rw[hget]at hq;have hq':match r.g with|none=>kr P r.op s (cV P [] (fun _ s=>yY P R (D8 (aF ops) R.length m (i::X)) s K))|some (t,b)=>iy (s.get t) b (kr P r.op s (cV P [] (fun _ s=>yY P R (D8 (aF ops) R.length m (i::X)) s K))) (cV P [] (fun _ s=>yY P R (D8 (aF ops) R.length m (i::X)) s K) (s.setO r.op.dst (.tup []))):=by
   obtain⟨g,op⟩:=r;cases g with
   |none=>exact hq
   |some x=>exact hq
  rw[←hn]at hres;have keyr:=kW (Q':=fun e a w=>e=.normal∧fX n0 S0 M0 w0 n (fun _=>K) e a w) hres hs hq';have next:∀{a':Act} {w':World},dz n0 S0 M0 w0 s.n (cV P [] (fun _ s=>yY P R (D8 (aF ops) R.length m (i::X)) s K)) a' w'→wpAny P .any ops (fun e a w=>e=.normal∧fX n0 S0 M0 w0 n (fun _=>K) e a w) m (listed.setIfInBounds i true) a' w':=by
   rintro a' w' ⟨s',hn',hf,hs'⟩;exact Ej hlen hR acyc m (i::X) _ s' a' w' h1 (by simp only[lK];omega) hs' (hn'.trans hn) hf
  unfold wpOp;rw[ho];simp only
  split
  ·next hw=>exact .inl (Oper.wp_mono (fun a' w' h=>next h) (keyr.1 hw))
  ·next hw=>exact next (keyr.2 (by simpa using hw))
def vV(ops:Array Oper)(R:List RO):Bool:=decide (R.length≤8)&&(R.length==ops.size)&&(List.range R.length).all fun i=>(aF ops i).all (· <i)
theorem xG{ops:Array Oper}{R:List RO}{st:St}{K:Exit→St→Prop}{id:Nat}{a:Act}{w:World}(hm:P.follows .mixedOrders=true)(hd:vV ops R=true)
  (hR:ops.toList.mapM (db P wv st.n ops)=some R) (hs:dH n0 S0 M0 w0 st a w) (hq:Ry P R (D8 (aF ops) R.length R.length []) st (K .normal)):(Code.region id ops true).wp P (fX n0 S0 M0 w0 st.n K) a w:=by
 obtain⟨st',hq,hk⟩:=hq;unfold vV at hd;simp only[bA,beq_iff_eq,List.all_eq_true,List.mem_range,decide_eq_true_eq]at hd;obtain⟨⟨_,d2⟩,d3⟩:=hd;have acyc:∀i,∀j∈aF ops i,j<i:=by
  intro i j hj
  by_cases hi:i<R.length
  ·exact d3 i hi j hj
  ·have:ops[i]?=none:=by simp;omega
   simp[aF,this]at hj
 refine wp_mono (Q:=fun e a w=>e=.normal∧fX n0 S0 M0 w0 st.n (fun _ s=>bf s st') e a w) (wp_region_any hm ?_) (fun e a w h=>?_)
 ·have hc:eo P ops R [] (Array.replicate ops.size false):=by
   refine⟨List.nodup_nil,by simp,by simp,by simp,fun j hj=>?_⟩;simp[Array.getD_eq_getD_getElem?,hj]
  have:=Ej (P:=P) (wv:=wv) (w0:=w0) (n0:=n0) (S0:=S0) (M0:=M0) (n:=st.n) (K:=fun s=>bf s st') d2 (fun i o ho=>io hR i o (by simpa using ho)) acyc ops.size [] (Array.replicate ops.size false) st a {w with drawn:=w.drawn+1} hc (by simp) ⟨hs.ms,hs.dfr,hs.tm,hs.base,hs.os,hs.tape,hs.output,hs.size,hs.old,hs.gh⟩ rfl (by rw[←d2];rw[←d2]at*;exact hq);exact this
 ·obtain⟨rfl,s,h1,h2,h3⟩:=h;have h4:=h2 _ _ _ _ _ _ h3;exact⟨st',h4.tm.symm.trans (h3.tm.trans h1),hk,h4⟩

end Go.Ax
