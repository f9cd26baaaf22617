/- THE ENGINE, PART 1: a generator of conditions over the register code, and its soundness. No condition. -/
import Derived.WalkKit
set_option linter.unusedSimpArgs false
set_option linter.unusedVariables false
set_option linter.unnecessarySimpa false
set_option linter.unusedSectionVars false
namespace Go.Ax
theorem oB{α β:Type _}{b:β}{o:Option α}{f:α→Option β}:o.bind f=some b↔∃a,o=some a∧f a=some b:=Option.bind_eq_some_iff
theorem oS{α:Type _}(a b:α):(some a=some b)=(a=b):=Option.some.injEq a b
theorem oD.{u} {α β:Type u}:bind=@Option.bind α β:=Option.bind_eq_bind
theorem oP.{u} {α:Type u}:pure=@some α:=Option.pure_def
theorem bA(a b:Bool):((a&&b)=true)=(a=true∧b=true):=Bool.and_eq_true a b
theorem lM{α β:Type _}{l:List α}(f:α→β):(l.map f).length=l.length:=List.length_map f
theorem fq:(false=true)=False:=Bool.false_eq_true
theorem bN:(!false)=true:=Bool.not_false
theorem bT:(!true)=false:=Bool.not_true
theorem bU(b:Bool):(b&&true)=b:=Bool.and_true b
theorem lC{α β:Type _}{f:α→β}{a:α}{l:List α}:(a::l).map f=f a::l.map f:=List.map_cons
theorem lN{α β:Type _}{f:α→β}:[].map f=[]:=List.map_nil
theorem iL{n m:Nat}:(↑n:Int)< ↑m↔n<m:=Int.ofNat_lt
theorem iN(n:Nat):0≤(n:Int):=Int.natCast_nonneg n
theorem bG(b:Bool):(false&&b)=false:=Bool.false_and b
theorem bI(b:Bool):(true&&b)=b:=Bool.true_and b
theorem bJ(b:Bool):(b&&false)=false:=Bool.and_false b
theorem lK{α:Type _}{a:α}{l:List α}:(a::l).length=l.length+1:=List.length_cons
theorem lZ{α:Type _}:([]:List α).length=0:=List.length_nil
theorem lP{α:Type _}{a b:List α}:(a++b).length=a.length+b.length:=List.length_append
theorem bE{α:Type _}[BEq α][ReflBEq α](a:α):(a==a)=true:=beq_self_eq_true a

inductive D where
 |sc (v:Value)
 |ag (ds:List D)
 |ls (nn:Option Bool) (sz:Nat) (ds:List D)
 |pt (d:D) (j:Nat)
 |jk
 |fn (f:Nat) (ds:List D)

 |lc (b o:Nat) (d:D)
 deriving Inhabited

mutual
def D.size:D→Nat
 |.sc _=>1
 |.ag ds=>D.sizeL ds
 |.ls _ _ _=>1
 |.pt _ _=>1
 |.jk=>1
 |.fn _ _=>1
 |.lc _ _ _=>1
def D.sizeL:List D→Nat
 | []=>0
 |d::ds=>D.size d+D.sizeL ds
end

def D.isAg:D→Bool
 |.ag _=>true
 |_=>false

abbrev aE:=Array Obj

def D.fits:D→Value→Prop
 |.ag _,v=>∃c,v=.agg c
 |_,v=>v.oneCell'=true

def aT:Nat:=9223372036854775807

mutual

def aW(h:aE):D→List Nat→List Value→Prop
 |.sc v,F,cs=>F=[]∧cs=[v]∧v.oneCell'=true
 |.ag ds,F,cs=>(∀d∈ds,d.size=1∧d.isAg=false)∧aK h ds F cs
 |.jk,F,cs=>F=[]∧∃v:Value,cs=[v]∧v.oneCell'=true
 | .ls nn sz ds, F, cs =>
   (∃p,cs=[.slice p 0 0]∧ds=[]∧F=[]∧(p=none→nn≠some false)∧(p.isSome=true→nn≠some true))∨
   ∃b off cap c e fr F',cs=[.slice (some ⟨b,off,none⟩) ds.length cap]∧F=b::F'∧nn≠some true∧
    ds.length≤cap∧ds.length≤aT∧h[b]?=some (.cells c e fr)∧off+cap*sz≤c.size∧(∀d∈ds,d.size=sz)∧
    aK h ds F' ((c.toList.drop off).take (ds.length*sz))
 |.pt d j,F,cs=>∃b off c e fr F',cs=[.pointer (some ⟨b,off+j,none⟩)]∧F=b::F'∧j<d.size∧
    h[b]?=some (.cells c e fr)∧off+d.size≤c.size∧aW h d F' ((c.toList.drop off).take d.size)
 |.fn f ds,F,cs=>∃vs,cs=[.func (.func f) #[] ⟨vs⟩]∧fT h ds F vs
 |.lc b o d,F,cs=>((∃l c,cs=[.slice (some ⟨b,o,none⟩) l c])∨cs=[.pointer (some ⟨b,o,none⟩)])∧aW h d F cs
def aK(h:aE):List D→List Nat→List Value→Prop
 | [],F,cs=>F=[]∧cs=[]
 |d::ds,F,cs=>∃F1 F2 c1 c2,F=F1++F2∧cs=c1++c2∧aW h d F1 c1∧aK h ds F2 c2

def fT(h:aE):List D→List Nat→List Value→Prop
 | [],F,vs=>F=[]∧vs=[]
 |d::ds,F,vs=>∃F1 F2 v r,F=F1++F2∧vs=v::r∧aW h d F1 v.cells.toList∧d.fits v∧fT h ds F2 r
end

theorem yp{h:aE}{F vs}:fT h [] F vs↔F=[]∧vs=[]:=by simp[fT]
theorem l9{h:aE}{d ds F vs}:fT h (d::ds) F vs↔∃F1 F2 v r,F=F1++F2∧vs=v::r∧aW h d F1 v.cells.toList∧d.fits v∧fT h ds F2 r:=by simp[fT]
theorem jl{h:aE}{F cs}:aK h [] F cs↔F=[]∧cs=[]:=by simp[aK]
theorem cR{h:aE}{d ds F cs}:aK h (d::ds) F cs↔∃F1 F2 c1 c2,F=F1++F2∧cs=c1++c2∧aW h d F1 c1∧aK h ds F2 c2:=by
 simp[aK]

mutual
theorem aW.length{h:aE}:∀{d F cs},aW h d F cs→cs.length=d.size
 |.sc _,_,_,hr=>by simp[aW]at hr;simp[hr.2.1,D.size]
 |.ag ds,_,_,hr=>by simp only[aW]at hr;simpa[D.size]using aK.length hr.2
 |.jk,_,_,hr=>by simp only[aW]at hr;obtain⟨_,v,rfl,_⟩:=hr;simp[D.size]
 |.ls _ _ _,_,_,hr=>by
  simp only[aW]at hr;rcases hr with⟨p,rfl,_⟩|⟨b,off,cap,c,e,fr,F',rfl,_⟩<;>simp[D.size]
 |.pt _ _,_,_,hr=>by
  simp only[aW]at hr;obtain⟨b,off,c,e,fr,F',rfl,_⟩:=hr;simp[D.size]
 |.fn _ _,_,_,hr=>by
  simp only[aW]at hr;obtain⟨vs,rfl,_⟩:=hr;simp[D.size]
 |.lc _ _ _,_,_,hr=>by
  simp only[aW]at hr;rcases hr.1 with⟨_,_,rfl⟩|rfl<;>simp[D.size]
theorem aK.length{h:aE}:∀{ds F cs},aK h ds F cs→cs.length=D.sizeL ds
 | [],_,_,hr=>by simp[aK]at hr;simp[hr.2,D.sizeL]
 |d::ds,_,_,hr=>by
  simp only[aK]at hr;obtain⟨F1,F2,c1,c2,rfl,rfl,h1,h2⟩:=hr;simp[D.sizeL,aW.length h1,aK.length h2]
end

mutual

theorem aW.frame{h h':aE}:∀{d F cs},aW h d F cs→(∀b∈F,h'[b]?=h[b]?)→aW h' d F cs
 |.sc _,_,_,hr,_=>by simpa[aW]using hr
 |.ag ds,_,_,hr,hf=>by simp only[aW]at hr⊢;exact⟨hr.1,aK.frame hr.2 hf⟩
 |.jk,_,_,hr,_=>by simpa[aW]using hr
 |.ls _ _ _,_,_,hr,hf=>by
  simp only[aW]at hr⊢;rcases hr with hr|⟨b,off,cap,c,e,fr,F',h1,h2,h3,h4,h5,h6,h7,h8,h9⟩
  ·exact .inl hr
  ·subst h2;exact .inr ⟨b,off,cap,c,e,fr,F',h1,rfl,h3,h4,h5,by rw[hf b (by simp)];exact h6,h7,h8,
    aK.frame h9 fun x hx=>hf x (by simp[hx])⟩
 |.pt _ _,_,_,hr,hf=>by
  simp only[aW]at hr⊢;obtain⟨b,off,c,e,fr,F',h1,h2,h3,h4,h5,h6⟩:=hr;subst h2;exact⟨b,off,c,e,fr,F',h1,rfl,h3,by rw[hf b (by simp)];exact h4,h5,aW.frame h6 fun x hx=>hf x (by simp[hx])⟩
 |.fn _ ds,_,_,hr,hf=>by
  simp only[aW]at hr⊢;obtain⟨vs,h1,h2⟩:=hr;exact⟨vs,h1,fT.frame h2 hf⟩
 |.lc _ _ _,_,_,hr,hf=>by
  simp only[aW]at hr⊢;exact⟨hr.1,aW.frame hr.2 hf⟩
theorem aK.frame{h h':aE}:∀{ds F cs},aK h ds F cs→(∀b∈F,h'[b]?=h[b]?)→aK h' ds F cs
 | [],_,_,hr,_=>by simpa[aK]using hr
 |d::ds,_,_,hr,hf=>by
  simp only[aK]at hr⊢;obtain⟨F1,F2,c1,c2,rfl,rfl,h1,h2⟩:=hr;exact⟨F1,F2,c1,c2,rfl,rfl,aW.frame h1 fun x hx=>hf x (by simp[hx]),aK.frame h2 fun x hx=>hf x (by simp[hx])⟩
theorem fT.frame{h h':aE}:∀{ds F vs},fT h ds F vs→(∀b∈F,h'[b]?=h[b]?)→fT h' ds F vs
 | [],_,_,hr,_=>by simpa[fT]using hr
 |d::ds,_,_,hr,hf=>by
  simp only[fT]at hr⊢;obtain⟨F1,F2,v,r,rfl,rfl,h1,h2,h3⟩:=hr;exact⟨F1,F2,v,r,rfl,rfl,aW.frame h1 fun x hx=>hf x (by simp[hx]),h2,fT.frame h3 fun x hx=>hf x (by simp[hx])⟩
end

mutual

theorem aW.lt{h:aE}:∀{d F cs},aW h d F cs→∀b∈F,b<h.size
 |.sc _,_,_,hr=>by simp[aW]at hr;simp[hr.1]
 |.ag ds,_,_,hr=>by simp only[aW]at hr;exact aK.lt hr.2
 |.jk,_,_,hr=>by simp only[aW]at hr;simp[hr.1]
 |.ls _ _ _,_,_,hr=>by
  simp only[aW]at hr;rcases hr with⟨_,_,_,rfl,_⟩|⟨b,off,cap,c,e,fr,F',h1,rfl,h3,h4,h5,h6,h7,h8,h9⟩
  ·simp
  ·intro x hx;rcases List.mem_cons.1 hx with rfl|hx
   ·exact(Array.getElem?_eq_some_iff.1 h6).1
   ·exact aK.lt h9 x hx
 |.pt _ _,_,_,hr=>by
  simp only[aW]at hr;obtain⟨b,off,c,e,fr,F',h1,rfl,h3,h4,h5,h6⟩:=hr;intro x hx;rcases List.mem_cons.1 hx with rfl|hx
  ·exact(Array.getElem?_eq_some_iff.1 h4).1
  ·exact aW.lt h6 x hx
 |.fn _ ds,_,_,hr=>by
  simp only[aW]at hr;obtain⟨vs,h1,h2⟩:=hr;exact fT.lt h2
 |.lc _ _ _,_,_,hr=>by
  simp only[aW]at hr;exact aW.lt hr.2
theorem aK.lt{h:aE}:∀{ds F cs},aK h ds F cs→∀b∈F,b<h.size
 | [],_,_,hr=>by simp[aK]at hr;simp[hr.1]
 |d::ds,_,_,hr=>by
  simp only[aK]at hr;obtain⟨F1,F2,c1,c2,rfl,rfl,h1,h2⟩:=hr;intro x hx;rcases List.mem_append.1 hx with hx|hx
  ·exact aW.lt h1 x hx
  ·exact aK.lt h2 x hx
theorem fT.lt{h:aE}:∀{ds F vs},fT h ds F vs→∀b∈F,b<h.size
 | [],_,_,hr=>by simp[fT]at hr;simp[hr.1]
 |d::ds,_,_,hr=>by
  simp only[fT]at hr;obtain⟨F1,F2,v,r,rfl,rfl,h1,_,h2⟩:=hr;intro x hx;rcases List.mem_append.1 hx with hx|hx
  ·exact aW.lt h1 x hx
  ·exact fT.lt h2 x hx
end

theorem aK.append{h:aE}{ds' F' cs'}:∀{ds F cs},aK h ds F cs→aK h ds' F' cs'→aK h (ds++ds') (F++F') (cs++cs')
 | [],_,_,hr,h'=>by simp[aK]at hr;simpa[hr]using h'
 |d::ds,_,_,hr,h'=>by
  simp only[aK]at hr;obtain⟨F1,F2,c1,c2,rfl,rfl,h1,h2⟩:=hr;simp only[List.cons_append,aK];exact⟨F1,F2++F',c1,c2++cs',by simp,by simp,h1,aK.append h2 h'⟩

theorem aK.split{h:aE}{ds'}:∀{ds F cs},aK h (ds++ds') F cs→∃F1 F2 c1 c2,F=F1++F2∧cs=c1++c2∧aK h ds F1 c1∧aK h ds' F2 c2
 | [],F,cs,hr=>⟨[],F,[],cs,by simp,by simp,by simp[aK],by simpa using hr⟩
 |d::ds,_,_,hr=>by
  simp only[List.cons_append,aK]at hr;obtain⟨F1,F2,c1,c2,rfl,rfl,h1,h2⟩:=hr;obtain⟨G1,G2,e1,e2,rfl,rfl,g1,g2⟩:=aK.split h2;exact⟨F1++G1,G2,c1++e1,e2,by simp,by simp,by simp only[aK];exact⟨F1,G1,c1,e1,rfl,rfl,h1,g1⟩,g2⟩

theorem aK.pick{h:aE}{ds F cs}(hr:aK h ds F cs){i:Nat}(hi:i<ds.length):
  ∃F1 F2 F3 c1 c2 c3,F=F1++(F2++F3)∧cs=c1++(c2++c3)∧aK h (ds.take i) F1 c1∧aW h ds[i] F2 c2∧aK h (ds.drop (i+1)) F3 c3:=by
 have e:ds=ds.take i++(ds[i]::ds.drop (i+1)):=by
  rw[List.getElem_cons_drop,List.take_append_drop]
 have hr':=hr;rw[e]at hr';obtain⟨F1,F2,c1,c2,rfl,rfl,h1,h2⟩:=hr'.split;simp only[aK]at h2;obtain⟨F3,F4,c3,c4,rfl,rfl,h3,h4⟩:=h2;exact⟨F1,F3,F4,c1,c3,c4,rfl,rfl,h1,h3,h4⟩

theorem D.sizeL_append(a b:List D):D.sizeL (a++b)=D.sizeL a+D.sizeL b:=by
 induction a with
 |nil=>simp[D.sizeL]
 |cons x a ih=>simp[D.sizeL,ih];omega

theorem D.sizeL_const{sz:Nat}{ds:List D}(hs:∀d∈ds,d.size=sz):D.sizeL ds=ds.length*sz:=by
 induction ds with
 |nil=>simp[D.sizeL]
 |cons x a ih=>
  have h1:=hs x (by simp);have h2:=ih fun d hd=>hs d (by simp[hd]);simp[D.sizeL,h1,h2,Nat.succ_mul];omega

mutual
theorem aW.one{h:aE}:∀{d F cs},aW h d F cs→∀v∈cs,v.oneCell'=true
 |.sc _,_,_,hr=>by simp only[aW]at hr;obtain⟨_,rfl,h1⟩:=hr;simpa using h1
 |.ag ds,_,_,hr=>by simp only[aW]at hr;exact aK.one hr.2
 |.jk,_,_,hr=>by simp only[aW]at hr;obtain⟨_,v,rfl,h1⟩:=hr;simpa using h1
 |.ls _ _ _,_,_,hr=>by
  simp only[aW]at hr;rcases hr with⟨p,rfl,_⟩|⟨b,off,cap,c,e,fr,F',rfl,_⟩<;>simp[Value.oneCell']
 |.pt _ _,_,_,hr=>by
  simp only[aW]at hr;obtain⟨b,off,c,e,fr,F',rfl,_⟩:=hr;simp[Value.oneCell']
 |.fn _ _,_,_,hr=>by
  simp only[aW]at hr;obtain⟨vs,rfl,_⟩:=hr;simp[Value.oneCell']
 |.lc _ _ _,_,_,hr=>by
  simp only[aW]at hr;rcases hr.1 with⟨_,_,rfl⟩|rfl<;>simp[Value.oneCell']
theorem aK.one{h:aE}:∀{ds F cs},aK h ds F cs→∀v∈cs,v.oneCell'=true
 | [],_,_,hr=>by simp[aK]at hr;simp[hr.2]
 |d::ds,_,_,hr=>by
  simp only[aK]at hr;obtain⟨F1,F2,c1,c2,rfl,rfl,h1,h2⟩:=hr;intro v hv;rcases List.mem_append.1 hv with hv|hv
  ·exact aW.one h1 v hv
  ·exact aK.one h2 v hv
end

end Go.Ax
namespace Go.Ax
open Go.RowKit (Below)

inductive AV where
 |im (tok:Option Nat) (d:D)
 |tr (k:Nat)
 |pw (id el j:Nat)
 |cw (id el j sz:Nat) (agg:Bool)
 |sm (id off len:Nat)
 |vb (id len:Nat)
 |sg (vs:List AV)
 |tup (vs:List AV)
 |any
 |cl (f:Nat) (vs:List AV)
 |pq (id el j isz el' j':Nat)
 |qs (id el j isz off len:Nat)
 |ss (id off len:Nat)
 |z0 (nn:Option Bool) (sz:Nat)
 |pb (id j:Nat)
 |ps (id:Nat)
 deriving Inhabited

inductive U where
 |own (d:D)
 |ar (ow:Bool) (nn:Option Bool) (sz:Nat) (es:List D)
 |bx (sz:Nat) (items:List AV)

 |sb (T E:Nat) (s:ByteArray)
 deriving Inhabited

structure St where
 n:Nat
 env:List (Nat×AV)
 us:List (Nat×U)

def D.at(ds:List D)(i:Nat):D:=ds.getD i default
def D.sub(d:D)(j sz:Nat)(agg:Bool):D:=
 match d with
 |.ag ds=>if agg then .ag ((ds.drop j).take sz)else ds.getD j default
 |d=>d
def D.cells:D→List D
 |.ag ds=>ds
 |d=>[d]

def D.put(usz:Nat)(d:D)(j sz:Nat)(v:D):D:=
 if j=0∧sz=usz then v else
 match d with
 |.ag ds=>.ag (ds.take j++v.cells++ds.drop (j+sz))
 |d=>d
def lk:List (Nat×AV)→Nat→AV
 | [],_=>.any
 |(k,v)::r,t=>if k=t then v else lk r t

structure Gh where
 β:Nat→Option Nat
 φ:Nat→List Nat
 root:Nat→Value
 cap:Nat→Nat
 Sh:Nat→Prop

def Gh.ok(g:Gh)(tok:Option Nat)(b:Nat):Prop:=g.Sh b∨∃k,tok=some k∧b∈g.φ k∧g.β k≠some b

def FS(s:ByteArray):List Value:=s.data.toList.map fun c=>Value.int .u8 c.toNat
def vj(h:aE)(E:Nat)(s:ByteArray)(F:List Nat)(bv:Value):Prop:=
 (bv=.slice none 0 0∧s.size=0∧F=[])∨∃g cap cur,bv=.slice (some ⟨g,0,none⟩) s.size cap∧F=[g]∧h[g]?=some (.cells cur E (0,0))∧s.size≤cap∧cap≤aT∧cur.size=cap∧cur.toList.take s.size=FS s

def wB(h:aE)(T E:Nat)(s:ByteArray)(b:Nat)(F:List Nat):Prop:=
 ∃ad bv,h[b]?=some (.cells #[ad,bv] T (0,0))∧(ad=.pointer none∨ad=.pointer (some ⟨b,0,none⟩))∧vj h E s F bv
theorem vj.frame{h h':aE}{E:Nat}{s:ByteArray}{F:List Nat}{bv:Value}(hr:vj h E s F bv)(hf:∀x∈F,h'[x]?=h[x]?):vj h' E s F bv:=by
 rcases hr with hr|⟨g,cap,cur,h1,rfl,h3,h4⟩
 ·exact .inl hr
 ·exact .inr ⟨g,cap,cur,h1,rfl,by rw[hf g (by simp)];exact h3,h4⟩
theorem wB.frame{h h':aE}{T E:Nat}{s:ByteArray}{b:Nat}{F:List Nat}(hr:wB h T E s b F)(hf:∀x∈b::F,h'[x]?=h[x]?):wB h' T E s b F:=by
 obtain⟨ad,bv,h1,h2,h3⟩:=hr;exact⟨ad,bv,by rw[hf b (by simp)];exact h1,h2,h3.frame fun x hx=>hf x (by simp[hx])⟩
theorem wB.lt{h:aE}{T E:Nat}{s:ByteArray}{b:Nat}{F:List Nat}(hr:wB h T E s b F):∀x∈b::F,x<h.size:=by
 obtain⟨ad,bv,h1,h2,h3⟩:=hr;intro x hx;rcases List.mem_cons.1 hx with rfl|hx
 ·exact(Array.getElem?_eq_some_iff.1 h1).1
 ·rcases h3 with⟨_,_,rfl⟩|⟨g,cap,cur,_,rfl,h3,_⟩
  ·cases hx
  ·simp only[List.mem_singleton]at hx;subst hx;exact(Array.getElem?_eq_some_iff.1 h3).1
theorem vj.nd{h:aE}{E:Nat}{s:ByteArray}{F:List Nat}{bv:Value}(hr:vj h E s F bv):F.Nodup:=by
 rcases hr with⟨_,_,rfl⟩|⟨g,cap,cur,_,rfl,_⟩<;>simp
theorem wB.nd{h:aE}{T E:Nat}{s:ByteArray}{b:Nat}{F:List Nat}(hr:wB h T E s b F):F.Nodup:=by
 obtain⟨_,_,_,_,h3⟩:=hr;exact h3.nd

mutual
def ab(h:aE)(us:List (Nat×U))(g:Gh):AV→Value→Prop
 |.im tok d,v=>∃F,aW h d F v.cells.toList∧d.fits v∧∀b∈F,g.ok tok b
 |.tr k,v=>(∃d,(k,.own d)∈us)∧v=g.root k
 |.pw id el j,v=>∃ow nn sz es b,(id,.ar ow nn sz es)∈us∧el<es.length∧j<sz∧g.β id=some b∧v=.pointer (some ⟨b,el*sz+j,none⟩)
 | .cw id el j sz agg, v => ∃ nn usz es b c e, (id, .ar true nn usz es) ∈ us ∧ el < es.length ∧ j + sz ≤ usz ∧ g.β id = some b ∧ h[b]? = some (.cells c e (0, 0)) ∧ (agg = true → (D.at es el).isAg = true) ∧
   (agg=false→sz=1)∧v.cells.toList=(c.toList.drop (el*usz+j)).take sz∧(if agg then v=.agg v.cells else v.oneCell'=true)
 | .sm id off len, v => ∃ ow nn sz es, (id, .ar ow nn sz es) ∈ us ∧ off + len ≤ es.length ∧
   ((∃b,g.β id=some b∧v=.slice (some ⟨b,off*sz,none⟩) len (g.cap id-off))∨(g.β id=none∧off=0∧len=0∧v=.slice none 0 0))
 |.vb id len,v=>∃sz items b,(id,.bx sz items)∈us∧items.length=len∧g.β id=some b∧v=.slice (some ⟨b,0,none⟩) len len
 |.sg vs,v=>∃xs,ah h us g vs xs∧v=.agg (xs.map (·.cells.toList)).flatten.toArray
 |.tup vs,v=>∃xs,v=.tuple xs∧ah h us g vs xs.toList
 |.any,_=>True
 |.cl f vs,v=>∃xs,ah h us g vs xs∧v=.func (.func f) #[] ⟨xs⟩
 | .pq id el j isz el' j', v => ∃ ow nn usz es b c e b' off' len' cap', (id, .ar ow nn usz es) ∈ us ∧ el < es.length ∧ j + 1 ≤ usz ∧ g.β id = some b ∧ h[b]? = some (.cells c e (0, 0)) ∧
   c[el*usz+j]?=some (.slice (some ⟨b',off',none⟩) len' cap')∧v=.pointer (some ⟨b',off'+el'*isz+j',none⟩)
 | .qs id el j isz off len, v => ∃ ow nn usz es b c e p len' cap', (id, .ar ow nn usz es) ∈ us ∧ el < es.length ∧ j + 1 ≤ usz ∧ g.β id = some b ∧ h[b]? = some (.cells c e (0, 0)) ∧
   c[el*usz+j]?=some (.slice p len' cap')∧off+len≤len'∧off≤cap'∧v=.slice (p.map fun a=>a.add (if off=cap' then 0 else off*isz)) len (cap'-off)
 | .ss id off len, v => ∃ ow nn sz es, (id, .ar ow nn sz es) ∈ us ∧ off + len ≤ es.length ∧
   ((∃b o,g.β id=some b∧(off<g.cap id→o=off*sz)∧v=.slice (some ⟨b,o,none⟩) len (g.cap id-off))∨(g.β id=none∧len=0∧v=.slice none 0 0))
 |.pb id j,v=>∃sz items b,(id,.bx sz items)∈us∧g.β id=some b∧v=.pointer (some ⟨b,j,none⟩)
 |.ps id,v=>∃T E s b,(id,.sb T E s)∈us∧g.β id=some b∧v=.pointer (some ⟨b,0,none⟩)
 |.z0 nn _,v=>∃p,v=.slice p 0 0∧(p=none→nn≠some false)∧(p.isSome=true→nn≠some true)
def ah(h:aE)(us:List (Nat×U))(g:Gh):List AV→List Value→Prop
 | [],vs=>vs=[]
 |a::as,vs=>∃v r,vs=v::r∧ab h us g a v∧ah h us g as r
end

def cm(h:aE)(us:List (Nat×U))(g:Gh)(id:Nat):U→Prop
  |.own d=>g.β id=none∧aW h d (g.φ id) (g.root id).cells.toList∧d.fits (g.root id)
  |.ar ow nn sz es=>es.length≤aT∧(∀d∈es,d.size=sz)∧
     ((g.β id = none ∧ es = [] ∧ g.φ id = [] ∧ nn ≠ some false) ∨
      ∃b c e G cs rest,g.β id=some b∧h[b]?=some (.cells c e (0,0))∧c.toList=cs++rest∧c.size=g.cap id*sz∧es.length≤g.cap id∧
        aK h es G cs∧nn≠some true∧(if ow then g.φ id=b::G else g.φ id=[b]∧∀x∈G,g.Sh x))
  |.bx sz items=>items.length≤aT∧∃b c e vs rest,g.β id=some b∧h[b]?=some (.cells c e (0,0))∧g.φ id=[b]∧ah h us g items vs∧
      (0<sz→∀v∈vs,v.cells.size=sz)∧c.toList=(vs.map (·.cells.toList)).flatten++rest
  |.sb T E s=>∃b F,g.β id=some b∧g.φ id=b::F∧wB h T E s b F

def fp(g:Gh)(us:List (Nat×U)):List Nat:=us.flatMap fun x=>g.φ x.1

def kp(h:aE)(b:Nat):Prop:=∃c e,h[b]?=some (.cells c e (0,0))

def U.isPin:U→Bool
 |.ar _ none _ _=>true
 |.bx _ _=>true
 |.sb _ _ _=>true
 |_=>false
theorem U.isPin_ar{ow:Bool}{nn:Option Bool}{sz:Nat}{es:List D}:(U.ar ow nn sz es).isPin=true↔nn=none:=by cases nn<;>simp[U.isPin]

def e8(n0:Nat)(M0:Nat→Prop)(us:List (Nat×U))(g:Gh):Prop:=
 ∀k v,k<8→(∃u:U,(3000000000+k,u)∈us∧u.isPin=true)→
  (M0 (n0+(16*v+k))→g.β (3000000000+k)=some v)∧(M0 (n0+(16*v+(8+k)))→g.β (3000000000+k)≠none→g.cap (3000000000+k)=v)
theorem e8.mono{n0:Nat}{M0:Nat→Prop}{us us':List (Nat×U)}{g g':Gh}(h:e8 n0 M0 us g)
  (H:∀i (u:U),(i,u)∈us'→u.isPin=true→(∃u:U,(i,u)∈us∧u.isPin=true)∧g'.β i=g.β i∧g'.cap i=g.cap i):e8 n0 M0 us' g':=by
 intro k v hk ⟨u,hm,hp⟩;obtain⟨h1,h2,h3⟩:=H _ _ hm hp;rw[h2,h3];exact h k v hk h1

def kl(n0:Nat)(M0:Nat→Prop)(n:Nat)(β:Option Nat)(cap:Nat):Prop:=
 ∀k v,k<8→n=3000000000+k→(M0 (n0+(16*v+k))→β=some v)∧(M0 (n0+(16*v+(8+k)))→β≠none→cap=v)
theorem kl.low{n0:Nat}{M0:Nat→Prop}{n:Nat}{β:Option Nat}{cap:Nat}(h:n<3000000000):kl n0 M0 n β cap:=fun k v _ e=>by omega
theorem e8.at{n0:Nat}{M0:Nat→Prop}{us:List (Nat×U)}{g:Gh}{n:Nat}{u:U}(h:e8 n0 M0 us g)(hm:(n,u)∈us)(hp:u.isPin=true):kl n0 M0 n (g.β n) (g.cap n):=by
 rintro k v hk rfl;exact h k v hk ⟨u,hm,hp⟩
theorem e8.app{n0:Nat}{M0:Nat→Prop}{us nus:List (Nat×U)}{g g':Gh}(h:e8 n0 M0 us g)(hn:∀x∈nus,x.2.isPin=true→x.1<3000000000)(hg:∀x∈us,g'.β x.1=g.β x.1∧g'.cap x.1=g.cap x.1):e8 n0 M0 (nus++us) g':=by
 rintro k v hk ⟨u,hm,hp⟩;rcases List.mem_append.1 hm with hm|hm
 ·have:=hn _ hm hp;simp only at this;omega
 ·have:=hg _ hm;simp only at this;rw[this.1,this.2];exact h k v hk ⟨u,hm,hp⟩
theorem e8.cons{n0:Nat}{M0:Nat→Prop}{us:List (Nat×U)}{g g':Gh}{n:Nat}{u:U}(h:e8 n0 M0 us g)(hn:n∉us.map (·.1))
  (hg:∀i,i≠n→g'.β i=g.β i∧g'.cap i=g.cap i) (hp:u.isPin=true→kl n0 M0 n (g'.β n) (g'.cap n)):e8 n0 M0 ((n,u)::us) g':=by
 intro k v hk ⟨u',hm,hpu⟩;rcases List.mem_cons.1 hm with e|hm
 ·injection e with e1 e2;rw[e1];exact hp (e2▸hpu) k v hk e1.symm
 ·have hne:3000000000+k≠n:=fun e=>hn (e▸List.mem_map.2 ⟨_,hm,rfl⟩);rw[(hg _ hne).1,(hg _ hne).2];exact h k v hk ⟨u',hm,hpu⟩

structure aZ (h:aE) (n0:Nat) (S0 M0:Nat→Prop) (us:List (Nat×U)) (g:Gh):Prop where
 keys:(us.map (·.1)).Nodup
 nodup:(fp g us).Nodup
 lt:∀b∈fp g us,b<h.size
 low:∀b∈fp g us,b<n0→M0 b
 dead:∀k,k∉us.map (·.1)→g.φ k=[]
 sh:∀b,g.Sh b→b<h.size∧(b<n0→S0 b)∧b∉fp g us
 each:∀x∈us,cm h us g x.1 x.2
 fz:∀b∈fp g us,kp h b
 pin:e8 n0 M0 us g

structure dH (n0:Nat) (S0 M0:Nat→Prop) (w0:World) (st:St) (a:Act) (w:World):Prop where
 ms:∀b,b<n0→M0 b→S0 b
 dfr:a.defers=[]
 tm:a.tmps.size=st.n
 base:n0=w0.heap.size
 os:w.os=w0.os
 tape:w.tape=w0.tape
 output:w.output=w0.output
 size:w0.heap.size≤w.heap.size
 old:∀b,b<n0→¬M0 b→w.heap[b]?=w0.heap[b]?
 gh:∃g,aZ w.heap n0 S0 M0 st.us g∧∀t,ab w.heap st.us g (lk st.env t) (a.tmps.getD t undef)

theorem aH{g:Gh}{us:List (Nat×U)}{b:Nat}:b∈fp g us↔∃x∈us,b∈g.φ x.1:=by simp[fp]

theorem bF{g:Gh}{us:List (Nat×U)}(hk:(us.map (·.1)).Nodup)(hn:(fp g us).Nodup){x y:Nat×U}(hx:x∈us)(hy:y∈us){b:Nat}
  (bx:b∈g.φ x.1) (by_:b∈g.φ y.1):x.1=y.1:=by
 induction us with
 |nil=>cases hx
 |cons z us ih=>
  simp only[lC,List.nodup_cons]at hk;simp only[fp,List.flatMap_cons,List.nodup_append]at hn;obtain⟨_,hn2,hn3⟩:=hn;rcases List.mem_cons.1 hx with e1|hx<;>rcases List.mem_cons.1 hy with e2|hy
  ·rw[e1,e2]
  ·exact absurd rfl (hn3 b (e1▸bx) b (aH.2 ⟨_,hy,by_⟩))
  ·exact absurd rfl (hn3 b (e2▸by_) b (aH.2 ⟨_,hx,bx⟩))
  ·exact ih hk.2 hn2 hx hy

theorem cm.block_mem{h:aE}{us:List (Nat×U)}{g:Gh}{id:Nat}{u:U}(hu:cm h us g id u){b:Nat}(hb:g.β id=some b):b∈g.φ id:=by
 cases u with
 |own d=>simp[cm,hb]at hu
 |ar ow nn sz es=>
  simp only[cm]at hu;rcases hu.2.2 with⟨h0,_⟩|⟨b',c,e,G,cs,rest,h1,_,_,_,_,_,_,h7⟩
  ·simp[hb]at h0
  ·rw[hb]at h1;obtain rfl:=Option.some.inj h1
   split at h7
   ·simp[h7]
   ·simp[h7.1]
 |bx sz items=>
  simp only[cm]at hu;obtain⟨_,b',c,e,vs,rest,h1,_,h3,_⟩:=hu;rw[hb]at h1;obtain rfl:=Option.some.inj h1;simp[h3]
 |sb T E s=>
  simp only[cm]at hu;obtain⟨b',F,h1,h3,_⟩:=hu;rw[hb]at h1;obtain rfl:=Option.some.inj h1;simp[h3]

theorem aZ.uniq{h:aE}{n0 S0 M0 us g}(hu:aZ h n0 S0 M0 us g){id:Nat}{u v:U}(h1:(id,u)∈us)(h2:(id,v)∈us):u=v:=by
 have hk:=hu.keys;clear hu
 induction us with
 |nil=>cases h1
 |cons z us ih=>
  simp only[lC,List.nodup_cons]at hk;rcases List.mem_cons.1 h1 with e1|h1<;>rcases List.mem_cons.1 h2 with e2|h2
  ·rw[←e1]at e2;injection e2 with _ e2;exact e2.symm
  ·exact absurd (List.mem_map.2 ⟨_,h2,rfl⟩) (by rw[←e1]at hk;exact hk.1)
  ·exact absurd (List.mem_map.2 ⟨_,h1,rfl⟩) (by rw[←e2]at hk;exact hk.1)
  ·exact ih h1 h2 hk.2

theorem aZ.live{h:aE}{n0 S0 M0 us g}(hu:aZ h n0 S0 M0 us g){k b:Nat}(hb:b∈g.φ k):∃u,(k,u)∈us:=by
 rcases Classical.em (k∈us.map (·.1))with h1|h1
 ·obtain⟨x,hx,rfl⟩:=List.mem_map.1 h1;exact⟨x.2,hx⟩
 ·rw[hu.dead k h1]at hb;cases hb
theorem aZ.ok_ne{h:aE}{n0 S0 M0 us g}(hu:aZ h n0 S0 M0 us g){tok:Option Nat}{b:Nat}(hb:g.ok tok b)
  {id:Nat} {u:U} (hid:(id,u)∈us) {b0:Nat} (h0:g.β id=some b0):b≠b0:=by
 rintro rfl;have hm:=(hu.each _ hid).block_mem h0;rcases hb with hb|⟨k,rfl,hk,hne⟩
 ·exact(hu.sh b hb).2.2 (aH.2 ⟨_,hid,hm⟩)
 ·obtain⟨u',hu'⟩:=hu.live hk;have:=bF hu.keys hu.nodup hu' hid hk hm;simp only at this;subst this;exact hne h0

mutual
theorem ab.mono{h h':aE}{us us':List (Nat×U)}{g g':Gh}(hu:∀x∈us,x∈us')(hh:∀b,b<h.size→h'[b]?=h[b]?)
  (hβ:∀x∈us,g'.β x.1=g.β x.1∧g'.root x.1=g.root x.1∧g'.cap x.1=g.cap x.1) (hok:∀t b,b<h.size→g.ok t b→g'.ok t b):
  ∀{a:AV} {v:Value},ab h us g a v→ab h' us' g' a v
 |.im t d,v,hr=>by
  simp only[ab]at hr⊢;obtain⟨F,h1,h2,h3⟩:=hr;exact⟨F,h1.frame fun b hb=>hh b (h1.lt b hb),h2,fun b hb=>hok t b (h1.lt b hb) (h3 b hb)⟩
 |.tr k,v,hr=>by
  simp only[ab]at hr⊢;obtain⟨⟨d,hd⟩,hv⟩:=hr;exact⟨⟨d,hu _ hd⟩,by rw[(hβ _ hd).2.1];exact hv⟩
 |.pw id el j,v,hr=>by
  simp only[ab]at hr⊢;obtain⟨ow,nn,sz,es,b,h1,h2,h3,h4,h5⟩:=hr;exact⟨ow,nn,sz,es,b,hu _ h1,h2,h3,by rw[(hβ _ h1).1];exact h4,h5⟩
 |.cw id el j sz agg,v,hr=>by
  simp only[ab]at hr⊢;obtain⟨nn,usz,es,b,c,e,h1,h2,h3,h4,h5,h6⟩:=hr;exact⟨nn,usz,es,b,c,e,hu _ h1,h2,h3,by rw[(hβ _ h1).1];exact h4,by rw[hh b (Array.getElem?_eq_some_iff.1 h5).1];exact h5,h6⟩
 |.sm id off len,v,hr=>by
  simp only[ab]at hr⊢;obtain⟨ow,nn,sz,es,h1,h2,h3⟩:=hr;refine⟨ow,nn,sz,es,hu _ h1,h2,?_⟩;rw[(hβ _ h1).1,(hβ _ h1).2.2];exact h3
 |.vb id len,v,hr=>by
  simp only[ab]at hr⊢;obtain⟨sz,items,b,h1,h2,h3,h4⟩:=hr;exact⟨sz,items,b,hu _ h1,h2,by rw[(hβ _ h1).1];exact h3,h4⟩
 |.sg vs,v,hr=>by
  simp only[ab]at hr⊢;obtain⟨xs,h1,h2⟩:=hr;exact⟨xs,ah.mono hu hh hβ hok h1,h2⟩
 |.tup vs,v,hr=>by
  simp only[ab]at hr⊢;obtain⟨xs,h1,h2⟩:=hr;exact⟨xs,h1,ah.mono hu hh hβ hok h2⟩
 |.any,_,_=>by simp[ab]
 |.cl f vs,v,hr=>by
  simp only[ab]at hr⊢;obtain⟨xs,h1,h2⟩:=hr;exact⟨xs,ah.mono hu hh hβ hok h1,h2⟩
 |.pq id el j isz el' j',v,hr=>by
  simp only[ab]at hr⊢;obtain⟨ow,nn,usz,es,b,c,e,b',off',len',cap',h1,h2,h3,h4,h5,h6⟩:=hr;exact⟨ow,nn,usz,es,b,c,e,b',off',len',cap',hu _ h1,h2,h3,by rw[(hβ _ h1).1];exact h4,by rw[hh b (Array.getElem?_eq_some_iff.1 h5).1];exact h5,h6⟩
 |.qs id el j isz off len,v,hr=>by
  simp only[ab]at hr⊢;obtain⟨ow,nn,usz,es,b,c,e,p,len',cap',h1,h2,h3,h4,h5,h6⟩:=hr;exact⟨ow,nn,usz,es,b,c,e,p,len',cap',hu _ h1,h2,h3,by rw[(hβ _ h1).1];exact h4,by rw[hh b (Array.getElem?_eq_some_iff.1 h5).1];exact h5,h6⟩
 |.ss id off len,v,hr=>by
  simp only[ab]at hr⊢;obtain⟨ow,nn,sz,es,h1,h2,h3⟩:=hr;refine⟨ow,nn,sz,es,hu _ h1,h2,?_⟩;rw[(hβ _ h1).1,(hβ _ h1).2.2];exact h3
 |.z0 nn _,v,hr=>by simpa[ab]using hr
 |.pb id j,v,hr=>by
  simp only[ab]at hr⊢;obtain⟨sz,items,b,h1,h3,h4⟩:=hr;exact⟨sz,items,b,hu _ h1,by rw[(hβ _ h1).1];exact h3,h4⟩
 |.ps id,v,hr=>by
  simp only[ab]at hr⊢;obtain⟨T,E,s,b,h1,h3,h4⟩:=hr;exact⟨T,E,s,b,hu _ h1,by rw[(hβ _ h1).1];exact h3,h4⟩
theorem ah.mono{h h':aE}{us us':List (Nat×U)}{g g':Gh}(hu:∀x∈us,x∈us')(hh:∀b,b<h.size→h'[b]?=h[b]?)
  (hβ:∀x∈us,g'.β x.1=g.β x.1∧g'.root x.1=g.root x.1∧g'.cap x.1=g.cap x.1) (hok:∀t b,b<h.size→g.ok t b→g'.ok t b):
  ∀{as:List AV} {vs:List Value},ah h us g as vs→ah h' us' g' as vs
 | [],_,hr=>by simpa[ah]using hr
 |a::as,vs,hr=>by
  simp only[ah]at hr⊢;obtain⟨v,r,h1,h2,h3⟩:=hr;exact⟨v,r,h1,ab.mono hu hh hβ hok h2,ah.mono hu hh hβ hok h3⟩
end

theorem cm.mono{h h':aE}{us us':List (Nat×U)}{g g':Gh}{id:Nat}{u:U}(hm:(id,u)∈us)(hu:∀x∈us,x∈us')(hh:∀b,b<h.size→h'[b]?=h[b]?)
  (hβ:∀x∈us,g'.β x.1=g.β x.1∧g'.root x.1=g.root x.1∧g'.cap x.1=g.cap x.1) (hφ:g'.φ id=g.φ id) (hS:∀b,b<h.size→g.Sh b→g'.Sh b)
  (hok:∀t b,b<h.size→g.ok t b→g'.ok t b) (ho:cm h us g id u):cm h' us' g' id u:=by
 obtain⟨e1,e2,e3⟩:=hβ _ hm;simp only at e1 e2 e3;cases u with
 |own d=>
  simp only[cm]at ho⊢;obtain⟨h1,h2,h3⟩:=ho;rw[e1,e2,hφ];exact⟨h1,h2.frame fun b hb=>hh b (h2.lt b hb),h3⟩
 |ar ow nn sz es=>
  simp only[cm]at ho⊢;rw[e1,e3,hφ];obtain⟨h1,h2,h3⟩:=ho;refine⟨h1,h2,?_⟩;rcases h3 with h3|⟨b,c,e,G,cs,rest,k1,k2,k3,k4,k5,k6,k7,k8⟩
  ·exact .inl h3
  ·refine .inr ⟨b,c,e,G,cs,rest,k1,by rw[hh b (Array.getElem?_eq_some_iff.1 k2).1];exact k2,k3,k4,k5,k6.frame fun x hx=>hh x (k6.lt x hx),k7,?_⟩;cases ow
   ·simp only[fq,if_false]at k8⊢;exact⟨k8.1,fun x hx=>hS x (k6.lt x hx) (k8.2 x hx)⟩
   ·simpa using k8
 |bx sz items=>
  simp only[cm]at ho⊢;rw[e1,hφ];obtain⟨h1,b,c,e,vs,rest,k1,k2,k3,k4,k5⟩:=ho;exact⟨h1,b,c,e,vs,rest,k1,by rw[hh b (Array.getElem?_eq_some_iff.1 k2).1];exact k2,k3,ah.mono hu hh hβ hok k4,k5⟩
 |sb T E s=>
  simp only[cm]at ho⊢;rw[e1,hφ];obtain⟨b,F,k1,k2,k3⟩:=ho;exact⟨b,F,k1,k2,k3.frame fun x hx=>hh x (k3.lt x hx)⟩

end Go.Ax
namespace Go.Ax

inductive X where
 |t (n:Nat)
 |c (d:D)
 deriving Inhabited

inductive ff where
 |mv (d:Nat) (x:X)
 |pick (d:Nat) (c a b:X)
 |box (d sz:Nat) (x:X)
 |zer (d sz:Nat) (z:D)
 |ld (d:Nat) (agg:Bool) (sz:Nat) (a:X)
 |st (sz:Nat) (a x:X)
 |nck (d:Nat) (x:X)
 |bin (d:Nat) (op:BinOp) (x y:X)
 |beq (d:Nat) (neg:Bool) (x y:X)
 |snil (d:Nat) (neg:Bool) (x y:X)
 |ceq (d:Nat) (neg:Bool) (n:Nat) (x y:X)
 |un (d:Nat) (op:UnOp) (x:X)
 |cvt (d:Nat) (k:IntKind) (x:X)
 |mk (d sz bytes:Nat) (z:D) (l c:X)
 |slc (d sz:Nat) (x:X) (lo hi:Option X)
 |fa (d off:Nat) (x:X)
 |fl (d off sz:Nat) (agg:Bool) (x:X)
 |ia (d sz:Nat) (x i:X)
 |ix (d:Nat) (x i:X)
 |len (d:Nat) (x:X)
 |slen (d:Nat) (x:X)
 |sls (d:Nat) (x:X) (lo hi:Option X)
 |app (d sz bytes:Nat) (x y:X)
 |call (d:Option Nat) (f:Nat) (args:List X)
 |calv (d:Option Nat) (f:X) (args:List X)
 |ext (d:Nat) (x:X) (i:Nat)
 |bs (d sz:Nat) (z:D) (len:Nat) (parts:List (Nat×X))
 |bld (d:Nat) (z:D) (parts:List (Nat×Nat×X))
 |mcl (d f:Nat) (x y:X)
 |cls (d f:Nat) (x:X) (args:List X)
 |mkf (d f:Nat) (args:List X)
 |s30 (d sz:Nat) (x:X)
 |cpy (d:Option Nat) (sz:Nat) (x y:X)
 |wcl (d:Option Nat) (f:Nat) (args:List X)
 |calw (d:Option Nat) (f:X) (args:List X)
 |mxm (d:Nat) (mx:Bool) (x y:X)

 |bse (d sz:Nat)

 |ape (d sz bytes:Nat) (x y:X)

 |zsb (d T E:Nat)

 |bwr (d:Option Nat) (f:Nat) (x:X) (args:List X)
 |bst (d f:Nat) (x:X)

 |cvs (d:Nat) (x:X)

 |aps (d sz bytes:Nat) (x y:X)
 |stp (sz:Nat) (a x:X)
 |lcl (d:Option Nat) (f:Nat) (args:List X)

 |bss (d sz len:Nat) (ps:List (Nat×X))
 |other (o:Oper)
 deriving Inhabited

def ff.dst:ff→Option Nat
 |.mv d _|.pick d _ _ _|.box d _ _|.zer d _ _|.ld d _ _ _|.nck d _|.bin d _ _ _|.beq d _ _ _|.snil d _ _ _|.ceq d _ _ _ _|.un d _ _|.cvt d _ _|.mk d _ _ _ _ _|.slc d _ _ _ _
 |.fa d _ _|.fl d _ _ _ _|.ia d _ _ _|.ix d _ _|.len d _|.slen d _|.sls d _ _ _|.app d _ _ _ _|.ext d _ _|.bs d _ _ _ _|.bld d _ _|.mcl d _ _ _|.cls d _ _ _|.mkf d _ _|.s30 d _ _|.mxm d _ _ _|.bse d _|.ape d _ _ _ _|.cvs d _|.zsb d _ _|.bst d _ _|.aps d _ _ _ _|.bss d _ _ _=>some d
 |.call d _ _|.calv d _ _|.cpy d _ _ _|.wcl d _ _|.calw d _ _|.bwr d _ _ _=>d
 |.lcl d _ _=>d
 |.st .. |.stp .. =>none
 |.other o=>o.dst
structure RO where
 g:Option (Nat×Bool)
 op:ff
 deriving Inhabited

inductive Tr where
 |br (l:List (Nat×Tr))
 deriving Inhabited

inductive yV where
 |br (cs:List ff) (l:List (RO×yV))
 deriving Inhabited

def D8(W:Nat→List Nat)(m:Nat):Nat→List Nat→Tr
 |0,_=>.br []
 |n+1,X=>.br (((List.range m).filter fun i=>!X.contains i&&(W i).all X.contains).map fun i=>(i,D8 W m n (i::X)))

inductive PO where
 |q (r:RO)
 |a (d sz bytes x y:Nat)
 deriving Inhabited
inductive RC where
 |skip
 |reg (draw:Bool) (ops:List RO)

 |regL (N:List RO) (E:List (List ff×RO))

 |regA (R:List RO) (T:Tr)

 |regT (N:List RO) (T:yV)

 |regP (N:List PO) (E:List RO)
 |seq (a b:RC)
 |cond (x:X) (a b:RC)
 |blk (id:Nat) (c:RC)
 |loop (c:RC)
 |exit (id:Nat)
 |ret
 |other (c:Code)
 deriving Inhabited

def oK(P:Program):Nat→TypeId→List Nat
 |0,_=>[]
 |n+1,t=>
  match P.underlying t with
  |some (.struct fs)=>(fs.toList.map fun f=>oK P n f.type).flatten
  |some (.array k e)=>(List.replicate k (oK P n e)).flatten
  |some (.slice e)=>[((P.info? e).map (·.size)).getD 0]
  |_=>[0]

def mE(v:Value)(sz:Nat):D:=
 match v with
 |.slice none 0 0=>.ls (some true) sz []
 |v=>.sc v

def vP(P:Program)(t:TypeId)(v:Value):Option D:=
 let s:=oK P 20 t
 match v with
 |.agg cs=>if s.length=cs.size&&cs.all (·.oneCell')then some (.ag (List.zipWith mE cs.toList s))else none
 |v=>if v.oneCell' then some (mE v (s.headD 0))else none

def aU(P:Program)(t:TypeId):Operand→Option X
 |.tmp n=>some (.t n)
 |.const v=>(vP P t v).map .c
 |.global g=>some (.c (.sc (.pointer (some ⟨g,0,none⟩))))
 |.func f=>some (.c (.sc (.func (.func f) #[] #[])))

def ke(P:Program)(t:TypeId):Option Bool:=
 match P.underlying t with
 |some (.struct _)|some (.array _ _)=>some true
 |some _=>some false
 |none=>none

def dv(P:Program)(t:TypeId):Option Nat:=(P.info? t).map (·.size)

def dE(P:Program)(t:TypeId):Option D:=
 match P.info? t with
 |some i=>match i.zero with
  |some z=>if z.cells.size=i.size then vP P t z else none
  |none=>none
 |none=>none

def ky(P:Program)(t:TypeId):Option TypeId:=
 match P.underlying t with
 |some (.slice e)=>some e
 |_=>none

def oQ(P:Program):Nat→List Field→Bool
 |_,[]=>true
 | i, f :: fs => f.name != "_" && f.offset == i && dv P f.type == some 1 && ke P f.type == some false && (match P.underlying f.type with | some (.int _) => true | _ => false) && oQ P (i + 1) fs
def Bn(P:Program)(t:TypeId)(fs:Array Field):Bool:=!P.stoodInHeld t&& !P.eqGuardType P.depth t&&oQ P 0 fs.toList

def BQ : List String := ["loop.example/g01101/laws.markAutomaton", "loop.example/g01101/laws.markBoolS", "loop.example/g01101/laws.markBoolSS", "loop.example/g01101/laws.markBoolSSS", "loop.example/g01101/laws.markCosts", "loop.example/g01101/laws.markEquation", "loop.example/g01101/laws.markExpr", "loop.example/g01101/laws.markExprS", "loop.example/g01101/laws.markFlow", "loop.example/g01101/laws.markInt64S", "loop.example/g01101/laws.markInt64SS", "loop.example/g01101/laws.markInt64SSS", "loop.example/g01101/laws.markModel", "loop.example/g01101/laws.markProg", "loop.example/g01101/laws.markProgS", "loop.example/g01101/laws.markSpotS", "loop.example/g01101/laws.markWord", "loop.example/g01101/laws.markPair", "loop.example/g01101/laws.markPairS", "loop.example/g01101/laws.markProof", "loop.example/g01101/laws.markClaim", "loop.example/g01101/laws.markClaimS", "loop.example/g01101/laws.markProofStepS", "loop.example/g01101/laws.markWordS", "loop.example/g01101/laws.markWorld", "loop.example/g01101/laws.markWorldS", "loop.example/g01101/laws.markSpot"]
def Ja(P:Program)(f:Nat):Bool:=match P.funcs[f]? with|some fn=>BQ.any (fun s=>s==fn.name)|none=>false

def C8 : List String := ["loop.example/g01101/spec.l04At"]
def MZ(P:Program)(f:Nat):Bool:=match P.funcs[f]? with|some fn=>C8.any (fun s=>s==fn.name)|none=>false

def Es : List String := ["loop.example/g01101/spec.l06Add", "loop.example/g01101/spec.l06Make", "loop.example/g01101/spec.l06Sites", "loop.example/g01101/impl.sites", "loop.example/g01101/spec.l04Put", "loop.example/g01101/spec.l04Top", "loop.example/g01101/spec.l04Bind", "loop.example/g01101/spec.l01DrawSig", "loop.example/g01101/spec.l01Drawn", "loop.example/g01101/spec.l01Put", "loop.example/g01101/spec.l01List", "loop.example/g01101/spec.l01Spoil", "loop.example/g01101/spec.l01DrawWord", "loop.example/g01101/spec.l01Fitting", "loop.example/g01101/spec.l02Summands", "loop.example/g01101/spec.l02Random", "loop.example/g01101/spec.l03Varied", "loop.example/g01101/spec.l05Draw", "loop.example/g01101/spec.l05DrawCosts", "loop.example/g01101/spec.l05Order", "loop.example/g01101/spec.l05DrawPoints", "loop.example/g01101/spec.l05For", "(*loop.example/g01101/spec.l00Src).next", "(*loop.example/g01101/spec.l00Src).pick", "(*loop.example/g01101/spec.l00Src).one", "(*loop.example/g01101/spec.l00Src).among", "(*loop.example/g01101/spec.l00Src).text", "(*loop.example/g01101/spec.l00Src).word", "(*loop.example/g01101/spec.l01Gen).leaf", "(*loop.example/g01101/spec.l01Gen).expr", "(*loop.example/g01101/spec.l04Fit).fit", "(*loop.example/g01101/impl.Flow).add", "(*loop.example/g01101/impl.Flow).make", "slices.Sort[[]int64,int64]"]

def EW : List String := ["loop.example/g01101/impl.writeExpr", "(*strings.Builder).WriteString"]
def EO : List String := ["(*strings.Builder).String"]
def M6(P:Program)(f:Nat):Bool:=match P.funcs[f]? with|some fn=>EW.any (fun s=>s==fn.name)|none=>false
def LD(P:Program)(f:Nat):Bool:=match P.funcs[f]? with|some fn=>EO.any (fun s=>s==fn.name)|none=>false

def Gc : List String := ["loop.example/g01101/impl.table[bool]"]

inductive Wv where
 |no
 |yes
 |ap

 |sh
 |sb
 deriving Inhabited
def Wv.cl:Wv→Bool
 |.yes=>true
 |_=>false
def n9:Wv→Nat→Nat→Nat→X→X→ff
 |.ap,d,s,b,x,y=>.ape d s b x y
 |.sh,d,s,b,x,y=>.aps d s b x y
 |.sb,d,s,b,x,y=>if s=3 then .aps d s b x y else .app d s b x y
 |.no,d,s,b,x,y=>.app d s b x y
 |.yes,d,s,b,x,y=>.app d s b x y
def VH:Wv→Nat→X→X→ff
 |.sh=>.stp
 |.sb=>.stp
 |_=>.st
def ML:Wv→Option Nat→Nat→List X→ff
 |.sh=>.lcl
 |.sb=>.lcl
 |_=>.wcl
def Wv.sh?:Wv→Bool
 |.sh=>true
 |.sb=>true
 |_=>false

def Fm : List String := ["loop.example/g01101/spec.l02Sorted", "loop.example/g01101/spec.l02Step"]
def Od:Wv→Option Nat→X→List X→ff
 |.yes=>.calw
 |_=>.calv
def uf:Wv→Nat→Nat→D→Nat→List (Nat×X)→ff
 |.ap,d,sz,_,0,[]=>.bse d sz
 |.sb,d,3,_,l,ps=>.bss d 3 l ps
 |_,d,sz,z,l,ps=>.bs d sz z l ps
def EK(P:Program)(e:TypeId):Bool:=match P.underlying e with
 |some (.int k)=>k==.u8
 |_=>false
def O5(P:Program)(wv:Wv)(f:Nat):Bool:=match P.funcs[f]? with|some fn=>Es.any (fun s=>s==fn.name)||(wv.cl&&Gc.any (fun s=>s==fn.name))||(wv.sh?&&Fm.any (fun s=>s==fn.name))|none=>false

def N2:Operand→Bool
 |.const (.int .i64 n)=>n==0
 |_=>false

def vu:Option Value→Bool
 |some (.agg cs)=>(match cs.toList with
  | [.pointer none,.slice none l c]=>l==0&&c==0
  |_=>false)
 |_=>false
def Jt(P:Program)(e:TypeId):Option TypeId:=
 match P.underlying e,P.info? e with
 |some (.struct fs),some i=>(match fs.toList with
  | [f0,f1]=>(match P.underlying f0.type,P.underlying f1.type with
   |some (.pointer t),some (.slice E)=>if(t==e&&EK P E&&vu i.zero)=true then some E else none
   |_,_=>none)
  |_=>none)
 |_,_=>none
def nQ(P:Program)(d:Nat)(e:TypeId):Option ff:=
 match Jt P e with
 |some E=>some (.zsb d e E)
 |none=>do pure (.zer d (←dv P e) (←dE P e))

def kc(P:Program)(wv:Wv)(n:Nat)(o:Oper):Option ff:=do
  match o.op with
  |.move x|.assign x=>let d←o.dst;guard (d<n);pure (.mv d (←aU P o.type x))
  |.pick c a b=>let d←o.dst;guard (d<n);pure (.pick d (←aU P 0 c) (←aU P o.type a) (←aU P o.type b))
  |.box e x=>let d←o.dst;guard (d<n);pure (.box d (←dv P e) (←aU P e x))
  |.alloc e=>let d←o.dst;guard (d<n);nQ P d e
  |.load t a=>let d←o.dst;guard (d<n);let s←dv P t;let g←ke P t;guard (g||s==1);pure (.ld d g s (←aU P 0 a))
  |.store t a x=>guard o.dst.isNone;pure (VH wv (←dv P t) (←aU P 0 a) (←aU P t x))
  |.nilCheck x=>let d←o.dst;guard (d<n);pure (.nck d (←aU P o.type x))
  | .binOp op t x y u => let d ← o.dst; guard (d < n)
                         match op,P.underlying t with
                         |_,some (.int _)|_,some .string=>pure (.bin d op (←aU P t x) (←aU P u y))
                         |.eql,some .bool=>pure (.beq d false (←aU P t x) (←aU P u y))
                         |.neq,some .bool=>pure (.beq d true (←aU P t x) (←aU P u y))
                         |.eql,some (.slice _)=>pure (.snil d false (←aU P t x) (←aU P u y))
                         |.neq,some (.slice _)=>pure (.snil d true (←aU P t x) (←aU P u y))
                         |.eql,some (.struct fs)=>if Bn P t fs then pure (.ceq d false fs.size (←aU P t x) (←aU P u y))else pure (.other o)
                         |.neq,some (.struct fs)=>if Bn P t fs then pure (.ceq d true fs.size (←aU P t x) (←aU P u y))else pure (.other o)
                         |_,_=>pure (.other o)
  |.unOp op t x=>let d←o.dst;guard (d<n);pure (.un d op (←aU P t x))
  | .convert s t x => let d ← o.dst; guard (d < n)
                      match P.underlying s,P.underlying t with
                      |some (.int _),some (.int k)=>pure (.cvt d k (←aU P s x))
                      |some (.slice e),some .string=>if EK P e then pure (.cvs d (←aU P s x))else pure (.other o)
                      |_,_=>pure (.other o)
  |.makeSlice t l c=>let d←o.dst;guard (d<n);let e←ky P t;let i←P.info? e;pure (.mk d i.size i.bytes (←dE P e) (←aU P 0 l) (←aU P 0 c))
  | .slice t x lo hi none => let d ← o.dst; guard (d < n)
                             let lo←(match lo with|some y=>(aU P 0 y).map some|none=>some none)
                             let hi←(match hi with|some y=>(aU P 0 y).map some|none=>some none)
                             match P.underlying t with
                             |some (.slice e)=>pure (.slc d (←dv P e) (←aU P t x) lo hi)
                             |some .string=>pure (.sls d (←aU P t x) lo hi)
                             |_=>pure (.other o)
  | .slice t x lo hi (some mx) =>
    let d←o.dst;guard (d<n)
    match P.underlying t,lo with
    |some (.slice e),none=>if(hi.map N2).getD false&&N2 mx then pure (.s30 d (←dv P e) (←aU P t x))else pure (.other o)
    |_,_=>pure (.other o)
  | .makeFunc fn first captured =>
    let d←o.dst;guard (d<n)
    match fn,first.toList with
    |.func f,[]=>pure (.mkf d f (←captured.toList.mapM fun x=>aU P 0 x))
    |_,_=>pure (.other o)
  | .fieldAddr t x k => let d ← o.dst; guard (d < n)
                        match P.underlying t with
                        |some (.struct fs)=>let f←fs[k]?;guard ((←dv P f.type) !=0);pure (.fa d f.offset (←aU P 0 x))
                        |_=>none
  | .field t x k => let d ← o.dst; guard (d < n)
                    match P.underlying t with
                    |some (.struct fs)=>let f←fs[k]?;let s←dv P f.type;let g←ke P f.type;guard (g||s==1);pure (.fl d f.offset s g (←aU P t x))
                    |_=>none
  | .indexAddr t x i => let d ← o.dst; guard (d < n)
                        match P.underlying t with
                        |some (.slice e)=>pure (.ia d (←dv P e) (←aU P t x) (←aU P 0 i))
                        |_=>pure (.other o)
  | .index t x i => let d ← o.dst; guard (d < n)
                    match P.underlying t with
                    |some .string=>pure (.ix d (←aU P t x) (←aU P 0 i))
                    |_=>pure (.other o)
  |.extract x i=>let d←o.dst;guard (d<n);pure (.ext d (←aU P 0 x) i)
  | .buildSlice t l ps => let d ← o.dst; guard (d < n); let e ← ky P t; let s ← dv P e
                          pure (uf wv d s (←dE P e) l (←ps.toList.mapM fun(i,x)=>do pure (i,←aU P e x)))
  | .build t ps => let d ← o.dst; guard (d < n)
                   match P.underlying t with
                   | some (.struct fs) =>
                     let _←fs.toList.mapM fun f=>(P.info? f.type).map fun i=>(f.offset,i.size)
                     pure (.bld d (←dE P t) (←ps.toList.mapM fun(i,x)=>do let f←fs[i]?;pure (f.offset,←dv P f.type,←aU P f.type x)))
                   |_=>pure (.other o)
  | .call c =>
    match c.callee with
    | .value (.func f) =>
      guard (o.dst.all (· <n));guard (c.args.size==c.argTypes.size)
      let xs←(c.args.toList.zip c.argTypes.toList).mapM fun(x,t)=>aU P t x
      if Ja P f then(match o.dst,xs with
        |some d,[x,y]=>pure (.mcl d f x y)
        |_,_=>none)
      else if MZ P f then(match o.dst,xs with
        |some d,x::r=>pure (.cls d f x r)
        |_,_=>none)
      else if M6 P f then(match xs with
        |x::r=>pure (.bwr o.dst f x r)
        |_=>none)
      else if LD P f then(match o.dst,xs with
        |some d,[x]=>pure (.bst d f x)
        |_,_=>none)
      else if O5 P wv f then pure (ML wv o.dst f xs)
      else pure (.call o.dst f xs)
    |.value x=>guard (o.dst.all (· <n));guard (c.args.size==c.argTypes.size);pure (Od wv o.dst (←aU P 0 x) (←(c.args.toList.zip c.argTypes.toList).mapM fun(x,t)=>aU P t x))
    | .builtin .len =>
      let d←o.dst;guard (d<n)
      match c.args.toList,c.argTypes.toList with
      | [x],[t]=>(match P.underlying t with|some .string=>do pure (.slen d (←aU P t x))|some (.slice _)=>do pure (.len d (←aU P t x))|_=>pure (.other o))
      |_,_=>none
    | .builtin .max =>
      let d←o.dst;guard (d<n)
      match c.args.toList,c.argTypes.toList with
      | [x,y],[t,u]=>pure (.mxm d true (←aU P t x) (←aU P u y))
      |_,_=>none
    | .builtin .min =>
      let d←o.dst;guard (d<n)
      match c.args.toList,c.argTypes.toList with
      | [x,y],[t,u]=>pure (.mxm d false (←aU P t x) (←aU P u y))
      |_,_=>none
    | .builtin .append =>
      let d←o.dst;guard (d<n)
      match c.args.toList,c.argTypes.toList with
      | [x, y], [t, u] => (match P.underlying t, P.underlying u with
        |some (.slice e),some (.slice _)=>do let i←P.info? e;guard (t==u);let _←dE P e;pure (n9 wv d i.size i.bytes (←aU P t x) (←aU P u y))
        |_,_=>pure (.other o))
      |_,_=>none
    | .builtin .copy =>
      guard (o.dst.all (· <n))
      match c.args.toList,c.argTypes.toList with
      | [x, y], [t, u] => (match P.underlying t, P.underlying u with
        |some (.slice e),some (.slice _)=>do let s←dv P e;guard (t==u);pure (.cpy o.dst s (←aU P t x) (←aU P u y))
        |_,_=>pure (.other o))
      |_,_=>none
    |_=>pure (.other o)
  |_=>pure (.other o)

def db(P:Program)(wv:Wv)(n:Nat)(ops:Array Oper)(o:Oper):Option RO:=do
 let r←kc P wv n o
 guard (r.dst=o.dst)
 guard (o.dst.all (· <n)=true)
 match o.guard with
 |none=>pure ⟨none,r⟩
 |some (j,b)=>let p←ops[j]?;let d←p.dst;pure ⟨some (d,b),r⟩

end Go.Ax
namespace Go.Ax

def nj(sz:Nat):List AV→Option (List D)
 | []=>some []
 |.im none d::r=>if d.size=sz then(match nj sz r with|some ds=>some (d::ds)|none=>none)else none
 |_::_=>none

mutual

def D.noPtr:D→Bool
 |.sc _=>true
 |.ag ds=>D.noPtrL ds
 |.ls nn _ ds=>nn==some true&&ds.isEmpty
 |.pt _ _=>false
 |.jk=>true
 |.fn _ _=>false
 |.lc _ _ _=>false
def D.noPtrL:List D→Bool
 | []=>true
 |d::ds=>d.noPtr&&D.noPtrL ds
end

mutual

def D.flat:D→Bool
 |.sc _=>true
 |.ag ds=>D.flatL ds
 |.ls _ _ _=>false
 |.pt _ _=>false
 |.jk=>true
 |.fn _ _=>false
 |.lc _ _ _=>false
def D.flatL:List D→Bool
 | []=>true
 |d::ds=>d.flat&&D.flatL ds
end
mutual
theorem D.flat_noPtr:∀{d:D},d.flat=true→d.noPtr=true
 |.sc _,_=>rfl
 |.ag ds,h=>by simp only[D.flat]at h;simp only[D.noPtr];exact D.flatL_noPtr h
 |.ls _ _ _,h=>by simp[D.flat]at h
 |.pt _ _,h=>by simp[D.flat]at h
 |.jk,_=>rfl
 |.fn _ _,h=>by simp[D.flat]at h
 |.lc _ _ _,h=>by simp[D.flat]at h
theorem D.flatL_noPtr:∀{ds:List D},D.flatL ds=true→D.noPtrL ds=true
 | [],_=>rfl
 |d::ds,h=>by
  simp only[D.flatL,bA]at h;simp only[D.noPtrL,D.flat_noPtr h.1,D.flatL_noPtr h.2,Bool.and_self]
end

def zI:Nat:=4000000000
def jc(d:D):AV:=if d.flat then .im none d else .im (some zI) d

def St.get(st:St)(t:Nat):AV:=lk st.env t
def St.ev(st:St):X→AV
 |.t n=>st.get n
 |.c d=>jc d
def lu:List (Nat×U)→Nat→Option U
 | [],_=>none
 |(k,v)::r,t=>if k=t then some v else lu r t
def St.unit(st:St)(k:Nat):Option U:=lu st.us k

mutual

def AV.refs(k:Nat):AV→Bool
 |.im t _=>t==some k
 |.tr i=>i==k
 |.pw i _ _=>i==k
 |.cw i _ _ _ _=>i==k
 |.sm i _ _=>i==k
 |.vb i _=>i==k
 |.sg vs=>AV.refsL k vs
 |.tup vs=>AV.refsL k vs
 |.any=>false
 |.cl _ vs=>AV.refsL k vs
 |.pq i _ _ _ _ _=>i==k
 |.qs i _ _ _ _ _=>i==k
 |.ss i _ _=>i==k
 |.z0 _ _=>false
 |.pb i _=>i==k
 |.ps i=>i==k
def AV.refsL(k:Nat):List AV→Bool
 | []=>false
 |v::vs=>v.refs k||AV.refsL k vs
end
mutual

def AV.soft(k:Nat):AV→Bool
 |.cw i _ _ _ _=>i==k
 |.im t _=>t==some k
 |.sg vs=>AV.softL k vs
 |.tup vs=>AV.softL k vs
 |.cl _ vs=>AV.softL k vs
 |.pq i _ _ _ _ _=>i==k
 |.qs i _ _ _ _ _=>i==k
 |_=>false
def AV.softL(k:Nat):List AV→Bool
 | []=>false
 |v::vs=>v.soft k||AV.softL k vs
end

def St.set(st:St)(d:Nat)(v:AV):St:={st with env:=(d,v)::st.env}
def St.setO(st:St)(d:Option Nat)(v:AV):St:=match d with|some d=>st.set d v|none=>st
def St.addUs(st:St)(us:List (Nat×U)):St:={st with us:=us++st.us}
def jJ(k:Nat):List (Nat×U)→Bool
 | []=>true
 |(i,_)::r=>i !=k&&jJ k r
def St.fresh(st:St):List (Nat×U)→Bool
 | []=>true
 |x::r=>jJ x.1 st.us&&jJ x.1 r&&st.fresh r
def ch(f:AV→Bool):List (Nat×AV)→List (Nat×AV)
 | []=>[]
 |(k,v)::r=>(k,if f v then .any else v)::ch f r
def gI(f:AV→Bool):List AV→List AV
 | []=>[]
 |v::r=>(if f v then .any else v)::gI f r
def U.kill(f:AV→Bool):U→U
 |.bx sz items=>.bx sz (gI f items)
 |u=>u
def aL(k:Nat)(f:AV→Bool):List (Nat×U)→List (Nat×U)
 | []=>[]
 |(i,u)::r=>if i=k then aL k f r else(i,u.kill f)::aL k f r

def St.del(st:St)(k:Nat):St:=⟨st.n,ch (AV.refs k) st.env,aL k (AV.refs k) st.us⟩

def St.upd(st:St)(k:Nat)(u:U):St:=⟨st.n,ch (AV.soft k) st.env,(k,u)::aL k (AV.soft k) st.us⟩

def AV.softC(k el:Nat):AV→Bool
 |.cw i el' _ _ _=>i==k&&el'==el
 |.im t _=>t==some k
 |.sg vs=>AV.softL k vs
 |.tup vs=>AV.softL k vs
 |.cl _ vs=>AV.softL k vs
 |.pq i _ _ _ _ _=>i==k
 |.qs i _ _ _ _ _=>i==k
 |.tr _=>false
 |.pw _ _ _=>false
 |.sm _ _ _=>false
 |.vb _ _=>false
 |.any=>false
 |.ss _ _ _=>false
 |.z0 _ _=>false
 |.pb _ _=>false
 |.ps _=>false

def St.updC(st:St)(k el:Nat)(u:U):St:=⟨st.n,ch (AV.softC k el) st.env,(k,u)::aL k (AV.softC k el) st.us⟩

def St.upr(st:St)(k:Nat)(u:U):St:=⟨st.n,ch (AV.refs k) st.env,(k,u)::aL k (AV.refs k) st.us⟩

def D3(ow:Bool)(id el j sz:Nat)(agg:Bool)(d:D):AV:=
 if ow then(if d.flat then .im none d else .cw id el j sz agg)else .im none d

def tA(off len isz:Nat):D→Option D
 |.ls nn sz ds=>if sz=isz then some (.ls (if off=0∧len=ds.length then nn else none) sz ((ds.drop off).take len))else none
 |_=>none
def AV.den(un:Nat→Option U):AV→Option (Option Nat×D)
 |.im t d=>some (t,d)
 |.tr k=>match un k with|some (.own d)=>some (some k,d)|_=>none
 |.cw id el j sz agg=>match un id with|some (.ar true _ _ es)=>some (some id,D.sub (D.at es el) j sz agg)|_=>none
 |.qs id el j isz off len=>match un id with|some (.ar true _ _ es)=>(tA off len isz (D.sub (D.at es el) j 1 false)).map (some id,·)|_=>none
 |_=>none

def xU(op:BinOp)(x y:Value)(k:Value→Prop):Prop:=
 match x,y with
 |.int a m,.int b n=>
  match op with
  |.shl=>0≤n∧k (.int a (a.wrap (m*2 ^ (min n.toNat a.bits))))
  |.shr=>0≤n∧k (.int a (m.fdiv (2 ^ (min n.toNat a.bits))))
  |.add=>a=b∧k (.int a (a.wrap (m+n)))
  |.sub=>a=b∧k (.int a (a.wrap (m-n)))
  |.mul=>a=b∧k (.int a (a.wrap (m*n)))
  |.quo=>a=b∧n≠0∧k (.int a (a.wrap (m.tdiv n)))
  |.rem=>a=b∧n≠0∧k (.int a (m.tmod n))
  |.and=>a=b∧k (.int a (a.wrap (BitVec.ofInt a.bits m&&&BitVec.ofInt a.bits n).toNat))
  |.or=>a=b∧k (.int a (a.wrap (BitVec.ofInt a.bits m|||BitVec.ofInt a.bits n).toNat))
  |.xor=>a=b∧k (.int a (a.wrap (BitVec.ofInt a.bits m ^^^ BitVec.ofInt a.bits n).toNat))
  |.andNot=>a=b∧k (.int a (a.wrap (BitVec.ofInt a.bits m&&& ~~~BitVec.ofInt a.bits n).toNat))
  |.eql=>a=b∧k (.bool (m==n))
  |.neq=>a=b∧k (.bool (m !=n))
  |.lss=>a=b∧k (.bool (m<n))
  |.leq=>a=b∧k (.bool (m≤n))
  |.gtr=>a=b∧k (.bool (m>n))
  |.geq=>a=b∧k (.bool (m≥n))
 |.string a,.string b=>
  match op with
  |.eql=>k (.bool (a.toList==b.toList))
  |.neq=>k (.bool !(a.toList==b.toList))
  |.add=>a.size+b.size≤9223372036854775807∧k (.string (a++b))
  |.lss=>k (.bool (Op.bytesLess a.toList b.toList))
  |_=>False
 |_,_=>False

def Fi(op:BinOp)(x y:AV)(k:Value→Prop):Prop:=
 match x,y with
 |.im _ (.sc a),.im _ (.sc b)=>xU op a b k
 |_,_=>False

def Px(isz el' j':Nat):D→Option D
 |.ls _ sz ds=>if sz=isz∧el'<ds.length∧j'<isz then some (.pt (D.at ds el') j')else none
 |_=>none

def GH(ds:List D):Option D:=if ds.all (fun d=>d.size==1&& !d.isAg)=true then some (.ag ds)else none
mutual
def AV.arg(un:Nat→Option U):AV→Option D
 |.im _ d=>some d
 |.tr k=>match un k with|some (.own d)=>some d|_=>none
 |.cw id el j sz agg=>match un id with|some (.ar true _ _ es)=>some (D.sub (D.at es el) j sz agg)|_=>none
 |.pw id el j=>match un id with|some (.ar _ _ _ es)=>some (.pt (D.at es el) j)|_=>none
 |.sm id off len=>match un id with|some (.ar _ nn sz es)=>some (.ls (if off=0∧len=es.length then nn else none) sz ((es.drop off).take len))|_=>none
 |.ss id off len=>match un id with|some (.ar _ _ sz es)=>some (.ls none sz ((es.drop off).take len))|_=>none
 |.vb id len=>match un id with|some (.bx sz items)=>if len=items.length then(match nj sz items with|some ds=>some (.ls (some false) sz ds)|none=>none)else none|_=>none
 |.qs id el j isz off len=>match un id with|some (.ar true _ _ es)=>tA off len isz (D.sub (D.at es el) j 1 false)|_=>none
 |.pq id el j isz el' j'=>match un id with|some (.ar true _ _ es)=>Px isz el' j' (D.sub (D.at es el) j 1 false)|_=>none
 |.cl f vs=>match dm un vs with|some ds=>some (.fn f ds)|none=>none
 |.z0 nn sz=>some (.ls nn sz [])
 |.sg vs=>match dm un vs with|some ds=>GH ds|none=>none
 |.tup _=>none
 |.any=>none
 |.pb _ _=>none
 |.ps _=>none
def dm(un:Nat→Option U):List AV→Option (List D)
 | []=>some []
 |a::as=>match a.arg un,dm un as with|some d,some ds=>some (d::ds)|_,_=>none
end
mutual
def AV.shared:AV→Bool
 |.im none _=>true
 |.im (some t) d=>t==zI&&d.noPtr
 |.cl _ vs=>AV.sharedL vs
 |_=>false
def AV.sharedL:List AV→Bool
 | []=>true
 |v::vs=>v.shared&&AV.sharedL vs
end

inductive gz where
 |own (d:D)
 |sh (d:D)
 |tup (rs:List gz)

 |arr (sz:Nat) (es:List D)

 |bxs (d:D)

def D.Le(d e:D):Prop:=(∀(h:aE) F cs,aW h d F cs→aW h e F cs)∧(∀v:Value,d.fits v→e.fits v)

def D.LeA(d e:D):Prop:=(∀(h:aE) F cs,aW h d F cs→∃F',aW h e F' cs∧∀b∈F',b∈F)∧(∀v:Value,d.fits v→e.fits v)
def D.LeL:List D→List D→Prop
 | [],[]=>True
 |d::ds,e::es=>d.LeA e∧D.LeL ds es
 |_,_=>False

def bY(h:aE)(old:Nat→Prop):List D→List Value→Prop
 | [],vs=>vs=[]
 |d::ds,vs=>∃v r F,vs=v::r∧aW h d F v.cells.toList∧d.fits v∧(∀b∈F,old b)∧bY h old ds r
mutual
def co(h:aE):gz→List Nat→List Nat→Value→Prop
 |.own d,F,G,v=>G=[]∧aW h d F v.cells.toList∧d.fits v
 |.sh d,F,G,v=>F=[]∧aW h d G v.cells.toList∧d.fits v
 |.tup rs,F,G,v=>∃vs,v=.tuple vs∧da h rs F G vs.toList
 | .arr sz es, F, G, v => G = [] ∧ es.length ≤ aT ∧ (∀ d ∈ es, d.size = sz) ∧ ∃ b c e F' cs rest cap, v = .slice (some ⟨b, 0, none⟩) es.length cap ∧ F = b :: F' ∧ h[b]? = some (.cells c e (0, 0)) ∧
   c.toList=cs++rest∧c.size=cap*sz∧es.length≤cap∧aK h es F' cs
 |.bxs d,F,G,v=>0<d.size∧∃b c e cs rest cap,v=.pointer (some ⟨b,0,none⟩)∧F=[b]∧h[b]?=some (.cells c e (0,0))∧c.toList=cs++rest∧c.size=cap*d.size∧1≤cap∧aW h d G cs
def da(h:aE):List gz→List Nat→List Nat→List Value→Prop
 | [],F,G,vs=>F=[]∧G=[]∧vs=[]
 |r::rs,F,G,vs=>∃F1 F2 G1 G2 v ws,F=F1++F2∧G=G1++G2∧vs=v::ws∧co h r F1 G1 v∧da h rs F2 G2 ws
end
def eZ(P : Program)(f : Nat) : Prop := ∃ fn, P.funcs[f]? = some fn ∧ fn.body.isSome = true ∧ (fn.name == "runtime.NumGoroutine") = false
def AF(P:Program)(f:Nat)(ds:List D)(r:gz):Prop:=eZ P f∧
 ∀(w:World)(vs:List Value)(old:Nat→Prop),bY w.heap old ds vs→
  Calls P f vs.toArray w fun e w'=>∃v F G,e=.returned v∧Go.RowKit.Below w.heap.size w w'∧co w'.heap r F G v∧
   F.Nodup∧(∀b∈F,w.heap.size≤b∧b∉G∧kp w'.heap b)∧∀b∈G,(w.heap.size≤b∧b<w'.heap.size)∨old b

def bW(n:Nat)(allsh:Bool):gz→AV×List (Nat×U)
 |.own d=>if d.flat then(.im none d,[])else(.tr n,[(n,.own d)])
 |.sh d=>(if allsh then .im none d else .any,[])
 |.arr sz es=>(.sm n 0 es.length,[(n,.ar true (some false) sz es)])
 |.bxs d=>if allsh then(.pw n 0 0,[(n,.ar false (some false) d.size [d])])else(.any,[])
 |.tup rs=>let l:=bindL (n+1000) rs;(.tup (l.map (·.1)),(l.map (·.2)).flatten)
where bindL (n:Nat):List gz→List (AV×List (Nat×U))
 | []=>[]
 | r :: rs => (match r with
   |.own d=>if d.flat then(.im none d,[])else(.tr n,[(n,.own d)])
   |.sh d=>(if allsh then .im none d else .any,[])
   |.arr sz es=>(.sm n 0 es.length,[(n,.ar true (some false) sz es)])
   |.bxs d=>if allsh then(.pw n 0 0,[(n,.ar false (some false) d.size [d])])else(.any,[])
   |.tup _=>(.any,[]))::bindL (n+1000) rs

def AV.sh1:AV→D→Bool
 |.cw _ _ _ _ _,d=>d.noPtr
 |.sg _,d=>d.noPtr
 |a,_=>a.shared
def As:List AV→List D→Bool
 |a::as,d::ds=>a.sh1 d&&As as ds
 |_,_=>true
def GI(P:Program)(dst:Option Nat)(f:Nat)(args:List AV)(un:Nat→Option U)(k:AV→List (Nat×U)→Prop):Prop:=
 ∃ds es r,dm un args=some ds∧D.LeL ds es∧AF P f es r∧(let b:=bW (dst.getD 0) (As args ds) r;k b.1 b.2)

def AV.one(un:Nat→Option U):AV→Bool
 |.im _ d=>d.size==1&& !d.isAg
 |.tr k=>match un k with|some (.own d)=>d.size==1&& !d.isAg|_=>false
 |.sm _ _ _=>true
 |.vb _ _=>true
 |.cw _ _ _ sz agg=>sz==1&& !agg
 |.pw _ _ _=>true
 |.pb _ _=>true
 |.cl _ _=>true
 |_=>false
def tp(z:List D):Nat→List (Nat×Nat×AV)→List AV
 |o,[]=>(z.drop o).map jc
 |o,(p,s,v)::r=>((z.drop o).take (p-o)).map jc++v::tp z (p+s) r

def jx(n:Nat):Nat→List (Nat×Nat)→Bool
 |_,[]=>true
 |o,(p,s)::r=>decide (o≤p)&&decide (p+s≤n)&&jx n (p+s) r
def AV.size(un:Nat→Option U):AV→Nat
 |.im _ d=>d.size
 |.tr k=>match un k with|some (.own d)=>d.size|_=>0
 |.cw _ _ _ s _=>s
 |.any=>0
 |.sg _=>0
 |.tup _=>0
 |_=>1
def bi(un:Nat→Option U)(sz:Nat):AV→Bool
 |.im none d=>d.size==sz
 |.im (some _) d=>d.noPtr&&d.size==sz
 |.cw _ _ _ s _=>s==sz
 |.tr k=>match un k with|some (.own d)=>d.size==sz|_=>false
 |.sm _ _ _=>sz==1
 |.pw _ _ _=>sz==1
 |.pb _ _=>sz==1
 |.cl _ _=>sz==1
 |.sg vs=>vs.all (fun a=>AV.size un a !=0)&&(vs.map (AV.size un)).sum==sz
 |_=>false

def u7:List AV→Option (List D)
 | []=>some []
 |.im none d::r=>match u7 r with|some ds=>some (d.cells++ds)|none=>none
 |_::_=>none
def Cl(vs:List AV):AV:=match u7 vs with|some ds=>.im none (.ag ds)|none=>.sg vs

def Gz(P:Program)(f:Nat):Prop:=eZ P f∧∀(k:Int)(a b:Array Value)(w:World),a.size=3→b.size=3→
 Calls P f #[.int .i64 k,.agg a,.agg b] w fun e w'=>(∃x t,e=.returned (.agg #[.int .i64 k,.int .i64 0,.slice (some ⟨x,0,none⟩) 2 2])∧w.heap.size≤x∧w'.heap[x]?=some (.cells (a++b) t (0,0)))∧Go.RowKit.Below w.heap.size w w'
def AV.aggV(un:Nat→Option U):AV→Bool
 |.im none d=>d.isAg
 |.tr k=>match un k with|some (.own d)=>d.isAg|_=>false
 |.cw _ _ _ _ agg=>agg
 |.sg _=>true
 |_=>false
def GO(P:Program)(dst:Option Nat)(f:Nat)(args:List AV)(un:Nat→Option U)(k:AV→List (Nat×U)→Prop):Prop:=
 dst.getD 0<3000000000∧∃t kk B C,args=[.im t (.sc (.int .i64 kk)),B,C]∧Gz P f∧(AV.aggV un B&&bi un 3 B)=true∧(AV.aggV un C&&bi un 3 C)=true∧
  k (.sg [.im none (.sc (.int .i64 kk)),.im none (.sc (.int .i64 0)),.vb (dst.getD 0) 2]) [(dst.getD 0,.bx 3 [B,C])]
def gK(P:Program)(dst:Option Nat)(f:Nat)(args:List AV)(un:Nat→Option U)(k:AV→List (Nat×U)→Prop):Prop:=
 GI P dst f args un k∨GO P dst f args un k

abbrev KQ:=AV→List (Nat×U)→Prop
def jn(c:AV)(a b:AV)(k:KQ):Prop:=
 match c with
 |.im _ (.sc (.bool t))=>(t=true→k a [])∧(t=false→k b [])
 |_=>False

def AV.isRef:AV→Bool
 |.pw _ _ _=>true
 |.pb _ _=>true
 |.cl _ _=>true
 |.sg vs=>hasRefL vs
 |_=>false
where hasRefL:List AV→Bool
 | []=>false
 |.pw _ _ _::_=>true
 |.pb _ _::_=>true
 |.cl _ _::_=>true
 |_::r=>hasRefL r

def AV.one0:AV→Bool
 |.im _ d=>d.size==1&& !d.isAg
 |.pw _ _ _=>true
 |.pb _ _=>true
 |.cl _ _=>true
 |.sm _ _ _=>true
 |_=>false
def di:List AV→List AV
 | []=>[]
 |.im t (.ag ds)::r=>ds.map (.im t)++di r
 |v::r=>v::di r
def dP:AV→AV
 |.sg vs=>.sg (di vs)
 |v=>v
def pJ(x:AV)(un:Nat→Option U)(d sz:Nat)(k:KQ):Prop:=
 match x with
 |.im none e=>(0<sz∧e.size=sz)∧k (.pw d 0 0) [(d,.ar false (some false) sz [e])]
 |x=>(d<3000000000∧0<sz∧bi un sz (dP x)=true)∧k (.pb d 0) [(d,.bx sz [dP x])]
def G7(u:Option U)(id el j:Nat)(agg:Bool)(sz:Nat)(k:KQ):Prop:=
 match u with
 |some (.ar ow _ usz es)=>(j+sz≤usz∧(agg=true→(D.at es el).isAg=true))∧k (D3 ow id el j sz agg (D.sub (D.at es el) j sz agg)) []
 |_=>False
def D.isSc:D→Bool
 |.sc _=>true
 |_=>false
def ly(agg:Bool)(id:Nat)(d:D):Option Nat:=if agg=false∧d.isSc=true then none else some id

def zQ(isz el' j' sz:Nat)(agg:Bool)(id:Nat)(d:D)(k:KQ):Prop:=
 match d with
 |.ls _ sz' ds=>(sz'=isz∧el'<ds.length∧j'<isz∧j'+sz≤isz∧(agg=true→(D.at ds el').isAg=true))∧k (.im (ly agg id (D.sub (D.at ds el') j' sz agg)) (D.sub (D.at ds el') j' sz agg)) []
 |_=>False
def Hc(u:Option U)(id el j isz el' j':Nat)(agg:Bool)(sz:Nat)(k:KQ):Prop:=
 match u with
 |some (.ar true _ _ es)=>zQ isz el' j' sz agg id (D.sub (D.at es el) j 1 false) k
 |_=>False

def C0(x:AV)(j sz:Nat)(agg:Bool)(k:KQ):Prop:=
 match x with
 |.sg vs=>(vs.all AV.one0=true∧j+sz≤vs.length)∧(if agg then k (Cl ((vs.drop j).take sz)) []else k (vs.getD j .any) [])
 |_=>False
def cL(agg:Bool)(x:AV):Bool:=
 match agg,x with
 |true,.sg _=>true
 |false,x=>x.one0
 |_,_=>false
def rb(x:AV)(usz j sz:Nat)(agg:Bool)(k:KQ):Prop:=
 if j=0∧sz=usz∧cL agg x=true then k x []else C0 x j sz agg k
def Hd(u:Option U)(j sz:Nat)(agg:Bool)(k:KQ):Prop:=
 match u with
 |some (.bx usz [x])=>(0<usz∧(agg=false→sz=1))∧rb x usz j sz agg k
 |_=>False
def vF(a:AV)(un:Nat→Option U)(agg:Bool)(sz:Nat)(k:KQ):Prop:=
 match a with
 |.im t (.pt d j)=>(j+sz≤d.size∧(agg=true→d.isAg=true))∧k (.im t (D.sub d j sz agg)) []
 |.im t (.lc _ _ (.pt d j))=>(j+sz≤d.size∧(agg=true→d.isAg=true))∧k (.im t (D.sub d j sz agg)) []
 |.pw id el j=>G7 (un id) id el j agg sz k
 |.pq id el j isz el' j'=>Hc (un id) id el j isz el' j' agg sz k
 |.pb id j=>Hd (un id) j sz agg k
 |_=>False
def kZ(x:AV)(k:KQ):Prop:=
 match x with
 |.im t (.pt d j)=>k (.im t (.pt d j)) []
 |.im t (.lc b o (.pt d j))=>k (.im t (.lc b o (.pt d j))) []
 |.im t (.sc (.pointer (some p)))=>k (.im t (.sc (.pointer (some p)))) []
 |.pw id el j=>k (.pw id el j) []
 |.pq id el j isz el' j'=>k (.pq id el j isz el' j') []
 |.pb id j=>k (.pb id j) []
 |_=>False
def xT(op:BinOp)(x y:AV)(k:KQ):Prop:=Fi op x y fun v=>k (.im none (.sc v)) []
def xI(neg:Bool)(x y:AV)(k:KQ):Prop:=
 match x,y with
 |.im _ (.sc (.bool a)),.im _ (.sc (.bool b))=>k (.im none (.sc (.bool (if neg then !(a==b)else a==b)))) []
 |_,_=>False

def o4:List D→List D→(Bool→Prop)→Prop
 | [],[],f=>f true
 |.sc (.int a m)::ds,.sc (.int b n)::es,f=>a=b∧o4 ds es fun r=>f ((m==n)&&r)
 |_,_,_=>False
def xO(neg:Bool)(x y:AV)(n:Nat)(k:KQ):Prop:=
 match x,y with
 |.im _ (.ag ds),.im _ (.ag es)=>ds.length=n∧o4 ds es fun r=>k (.im none (.sc (.bool (if neg then !r else r)))) []
 |_,_=>False
def qU(neg:Bool)(x y:AV)(k:KQ):Prop:=
 match x,y with
 |.im _ (.ls (some p) _ _),.im _ (.ls (some true) _ [])=>k (.im none (.sc (.bool (if neg then !p else p)))) []
 |_,_=>False
def Fl(op:UnOp)(x:AV)(k:KQ):Prop:=
 match op,x with
 |.not,.im _ (.sc (.bool b))=>k (.im none (.sc (.bool (!b)))) []
 |.neg,.im _ (.sc (.int a n))=>k (.im none (.sc (.int a (a.wrap (-n))))) []
 |_,_=>False
def xz(kd:IntKind)(x:AV)(k:KQ):Prop:=
 match x with
 |.im _ (.sc (.int _ n))=>k (.im none (.sc (.int kd (kd.wrap n)))) []
 |_=>False
def G8(l c:AV)(d sz bytes:Nat)(z:D)(k:KQ):Prop:=
 match l,c with
 |.im _ (.sc (.int _ m)),.im _ (.sc (.int _ n))=>
  (0≤m∧m≤n∧bytes*n≤140737488355328∧n≤140737488355328∧0<sz∧z.size=sz∧z.noPtr=true)∧k (.sm d 0 m.toNat) [(d,.ar true (some false) sz (List.replicate m.toNat z))]
 |_,_=>False
def AA(t:Option Nat)(nn:Option Bool)(sz:Nat)(ds:List D)(l h:AV)(k:KQ):Prop:=
 match l,h with
 |.im _ (.sc (.int _ l)),.im _ (.sc (.int _ h))=>(0≤l∧l≤h∧h≤ds.length)∧k (.im t (.ls nn sz ((ds.take h.toNat).drop l.toNat))) []
 |_,_=>False
def rC(l h:AV)(n:Nat)(k:Nat→Nat→Prop):Prop:=
 match l,h with
 |.im _ (.sc (.int _ l)),.im _ (.sc (.int _ h))=>(0≤l∧l≤h∧h≤n)∧k l.toNat h.toNat
 |_,_=>False
def wO(u:Option U)(id off len sz:Nat)(lo:Bool)(l h:AV)(k:KQ):Prop:=
 match u with
 |some (.ar _ _ usz _)=>usz=sz∧rC l h len fun l h=>k (if lo then .ss id (off+l) (h-l)else .sm id off h) []
 |_=>False
def zh(d:D)(id el j sz:Nat)(l:AV)(h:Option AV)(k:KQ):Prop:=
 match d with
 |.ls _ isz ds=>isz=sz∧rC l (h.getD (.im none (.sc (.int .i64 ds.length)))) ds.length fun l h=>k (.qs id el j sz l (h-l)) []
 |_=>False
def xb(u:Option U)(id el j sz:Nat)(l:AV)(h:Option AV)(k:KQ):Prop:=
 match u with
 |some (.ar true _ _ es)=>zh (D.sub (D.at es el) j 1 false) id el j sz l h k
 |_=>False
def sZ(x:AV)(ev:X→AV)(un:Nat→Option U)(sz:Nat)(lo hi:Option X)(k:KQ):Prop:=
 match x with
 |.im t (.ls nn sz' ds)=>sz=sz'∧AA t nn sz ds ((lo.map ev).getD (.im none (.sc (.int .i64 0)))) ((hi.map ev).getD (.im none (.sc (.int .i64 ds.length)))) k
 |.sm id off len=>wO (un id) id off len sz lo.isSome ((lo.map ev).getD (.im none (.sc (.int .i64 0)))) ((hi.map ev).getD (.im none (.sc (.int .i64 len)))) k
 |.cw id el j 1 false=>xb (un id) id el j sz ((lo.map ev).getD (.im none (.sc (.int .i64 0)))) (hi.map ev) k
 |_=>False
def FH(u:Option U)(id el j off:Nat)(k:KQ):Prop:=
 match u with
 |some (.ar _ _ usz _)=>j+off<usz∧k (.pw id el (j+off)) []
 |_=>False
def yL(x:AV)(un:Nat→Option U)(off:Nat)(k:KQ):Prop:=
 match x with
 |.im t (.pt d j)=>j+off<d.size∧k (.im t (.pt d (j+off))) []
 |.im t (.lc b o (.pt d j))=>j+off<d.size∧k (.im t (.lc b (o+off) (.pt d (j+off)))) []
 |.pw id el j=>FH (un id) id el j off k
 |.pq id el j isz el' j'=>j'+off<isz∧k (.pq id el j isz el' (j'+off)) []
 |.pb id j=>k (.pb id (j+off)) []
 |_=>False
def C4(q:Option (Option Nat×D))(sz:Nat)(n:Int)(k:KQ):Prop:=
 match q with
 |some (t,.ls _ sz' ds)=>(sz=sz'∧0<sz∧0≤n∧n<ds.length)∧k (.im t (.pt (D.at ds n.toNat) 0)) []
 |some (t,.lc b o (.ls _ sz' ds))=>(sz=sz'∧0<sz∧0≤n∧n<ds.length)∧k (.im t (.lc b (o+n.toNat*sz) (.pt (D.at ds n.toNat) 0))) []
 |_=>False
def zJ(u:Option U)(id sz p:Nat)(k:KQ):Prop:=
 match u with
 |some (.ar _ _ usz _)=>(sz=usz∧0<sz)∧k (.pw id p 0) []
 |_=>False
def GB(id el j sz:Nat)(n:Int)(d:D)(k:KQ):Prop:=
 match d with
 |.ls _ sz' ds=>(sz=sz'∧0<sz∧0≤n∧n<ds.length)∧k (.pq id el j sz n.toNat 0) []
 |_=>False
def Gj(u:Option U)(id el j sz:Nat)(n:Int)(k:KQ):Prop:=
 match u with
 |some (.ar true _ _ es)=>GB id el j sz n (D.sub (D.at es el) j 1 false) k
 |_=>False
def xf(x i:AV)(un:Nat→Option U)(sz:Nat)(k:KQ):Prop:=
 match i with
 |.im _ (.sc (.int _ n))=>match x with
  |.sm id off len=>(0≤n∧n<len)∧zJ (un id) id sz (off+n.toNat) k
  |.ss id off len=>(0≤n∧n<len)∧zJ (un id) id sz (off+n.toNat) k
  |.cw id el j 1 false=>Gj (un id) id el j sz n k
  |x=>C4 (x.den un) sz n k
 |_=>False
def rB(q:Option (Option Nat×D))(k:KQ):Prop:=
 match q with
 |some (_,.ls _ _ ds)=>k (.im none (.sc (.int .i64 ds.length))) []
 |some (_,.lc _ _ (.ls _ _ ds))=>k (.im none (.sc (.int .i64 ds.length))) []
 |_=>False
def jP(x:AV)(un:Nat→Option U)(k:KQ):Prop:=
 match x with
 |.sm _ _ len=>k (.im none (.sc (.int .i64 len))) []
 |.ss _ _ len=>k (.im none (.sc (.int .i64 len))) []
 |.z0 _ _=>k (.im none (.sc (.int .i64 0))) []
 |x=>rB (x.den un) k
def kD(x:AV)(P:Program)(d:Option Nat)(args:List AV)(un:Nat→Option U)(k:KQ):Prop:=
 match x with
 |.im _ (.sc (.func (.func f) ⟨[]⟩ ⟨[]⟩))=>gK P d f args un k
 |.im t (.fn f ds)=>gK P d f (args++ds.map (.im t)) un k
 |.cl f vs=>gK P d f (args++vs) un k
 |_=>False
def rv(x:AV)(i:Nat)(k:KQ):Prop:=
 match x with
 |.tup vs=>i<vs.length∧k (vs.getD i .any) []
 |_=>False

def EE:AV→Bool
 |.im none d=>!d.flat
 |_=>false

def Rk(sz:Nat)(as:List AV):Option (List D):=if as.any EE=true then nj sz as else none
def Gv(ps:List (Nat×AV))(un:Nat→Option U)(d sz len:Nat)(k:KQ):Prop:=
 if len=0 then(0<sz∧ps=[])∧k (.sm d 0 0) [(d,.ar true (some false) sz [])]
 else match Rk sz (ps.map (·.2))with
  |some ds=>(ps.map (·.1)=List.range len∧0<sz∧len*sz≤16777216)∧k (.im none (.ls (some false) sz ds)) []
  |none=>(d<3000000000∧ps.map (·.1)=List.range len∧0<sz∧len*sz≤16777216∧(ps.map (·.2)).all (bi un sz)=true)∧k (.vb d len) [(d,.bx sz (ps.map (·.2)))]

def DJ:AV→Option UInt8
 |.im _ (.sc (.int .u8 n))=>some (UInt8.ofNat n.toNat)
 |_=>none
def il:List AV→Option (List UInt8)
 | []=>some []
 |a::r=>match DJ a,il r with|some b,some bs=>some (b::bs)|_,_=>none
def Ar(q:Option (List UInt8))(k:KQ):Prop:=
 match q with
 |some bs=>k (.im none (.sc (.string ⟨bs.toArray⟩))) []
 |none=>False
def yb(u:Option U)(len:Nat)(k:KQ):Prop:=
 match u with
 |some (.bx sz items)=>(sz=1∧len=items.length)∧Ar (il items) k
 |_=>False
def vU(x:AV)(un:Nat→Option U)(k:KQ):Prop:=
 match x with
 |.vb id len=>yb (un id) len k
 |_=>False
def vR(ps:List (Nat×Nat×AV))(un:Nat→Option U)(z:D)(k:KQ):Prop:=
 match z with
 |.ag zs=>(ps.all (fun p=>p.2.2.size un==p.2.1&&p.2.1 !=0)=true∧jx zs.length 0 (ps.map fun p=>(p.1,p.2.1))=true∧z.noPtr=true)∧k (Cl (tp zs 0 ps)) []
 |_=>False

def uo(P:Program)(r:ff)(ev:X→AV)(un:Nat→Option U)(k:KQ):Prop:=
 match r with
 |.mv _ x=>k (ev x) []
 |.pick _ c a b=>jn (ev c) (ev a) (ev b) k
 |.box d sz x=>pJ (ev x) un d sz k
 |.zer d sz z=>(0<sz∧z.size=sz∧z.noPtr=true)∧k (.pw d 0 0) [(d,.ar true (some false) sz [z])]
 |.ld _ agg sz a=>vF (ev a) un agg sz k
 |.nck _ x=>kZ (ev x) k
 |.bin _ op x y=>xT op (ev x) (ev y) k
 |.beq _ neg x y=>xI neg (ev x) (ev y) k
 |.snil _ neg x y=>qU neg (ev x) (ev y) k
 |.ceq _ neg n x y=>xO neg (ev x) (ev y) n k
 |.un _ op x=>Fl op (ev x) k
 |.cvt _ kd x=>xz kd (ev x) k
 |.mk d sz bytes z l c=>G8 (ev l) (ev c) d sz bytes z k
 |.slc _ sz x lo hi=>sZ (ev x) ev un sz lo hi k
 |.fa _ off x=>yL (ev x) un off k
 |.fl .. =>False
 |.ia _ sz x i=>xf (ev x) (ev i) un sz k
 |.ix .. =>False
 |.len _ x=>jP (ev x) un k
 |.slen .. =>False
 |.sls .. =>False
 |.call d f args=>gK P d f (args.map ev) un k
 |.calv d x args=>kD (ev x) P d (args.map ev) un k
 |.ext _ x i=>rv (ev x) i k
 |.bs d sz _ len ps=>Gv (ps.map fun p=>(p.1,ev p.2)) un d sz len k
 |.bld _ z ps=>vR (ps.map fun p=>(p.1,p.2.1,ev p.2.2)) un z k
 |.mkf _ f xs=>k (.cl f (xs.map ev)) []
 |.s30 .. =>False
 |.mxm .. =>False
 |.bse _ sz=>0<sz∧k (.z0 (some false) sz) []
 |.zsb d T E=>d<3000000000∧k (.ps d) [(d,.sb T E ⟨#[]⟩)]
 |.ape .. =>False
 |.cvs _ x=>vU (ev x) un k
 |.st .. |.app .. |.mcl .. |.cls .. |.cpy .. |.wcl .. |.calw .. |.bwr .. |.bst .. |.aps .. |.stp .. |.lcl .. |.bss .. |.other .. =>False

def ff.isQ:ff→Bool
 |.st .. |.app .. |.mcl .. |.cls .. |.cpy .. |.wcl .. |.calw .. |.bwr .. |.bst .. |.aps .. |.stp .. |.lcl .. |.bss .. |.other .. =>false
 |_=>true

def af:List D→Bool
 | []=>true
 |d::ds=>d.noPtr&&af ds
abbrev KT:=Bool→D→St→Prop
abbrev KL:=Bool→List D→St→Prop
def mP(u:Option U)(i:Nat)(st:St)(k:KT):Prop:=
 match u with
 |some (.own d)=>k true d (st.del i)
 |_=>False
def pn(u:Option U)(i off len:Nat)(st:St)(k:KT):Prop:=
 match u with
 |some (.ar true nn sz es)=>(off=0∧len=es.length)∧k true (.ls nn sz es) (st.del i)
 |_=>False
def CZ(sz:Nat)(agg:Bool):D:=if agg then .ag (List.replicate sz .jk)else .jk
def pC(u:Option U)(i el j sz:Nat)(agg:Bool)(st:St)(k:KT):Prop:=
 match u with
 |some (.ar true nn usz es)=>(agg=true→(D.at es el).isAg=true)∧k true (D.sub (D.at es el) j sz agg) (st.updC i el (.ar true nn usz (es.set el (D.put usz (D.at es el) j sz (CZ sz agg)))))
 |_=>False
def Ik(k:KT)(b:Bool)(ds:List D)(st:St):Prop:=k b (.ag (ds.map D.cells).flatten) st
def xr(b bq c cq:Bool):Bool:=(b||bq)&&(c||cq)
def ui(b:Bool)(d:D)(k:KL)(c:Bool)(ds:List D)(st:St):Prop:=
 (b=true∨c=false∨af ds=true)∧(c=true∨b=false∨d.noPtr=true)∧k (xr b d.noPtr c (af ds)) (d::ds) st
mutual
def bo(st:St):AV→KT→Prop
 |.im none d,k=>k d.noPtr d st
 |.im (some _) d,k=>d.noPtr=true∧k true d st
 |.tr i,k=>mP (st.unit i) i st k
 |.sm i off len,k=>pn (st.unit i) i off len st k
 |.cw i el j sz agg,k=>pC (st.unit i) i el j sz agg st k
 |.sg vs,k=>iH st vs (Ik k)
 |_,_=>False
def iH(st:St):List AV→KL→Prop
 | [],k=>k true [] st
 |v::vs,k=>bo st v fun b d st=>iH st vs (ui b d k)
end
def FD(vs:List AV)(k:KL)(b:Bool)(d:D)(st:St):Prop:=iH st vs (ui b d k)

def eF(f:St→AV→KT→Prop):St→List AV→KL→Prop
 |st,[],k=>k true [] st
 |st,v::vs,k=>f st v fun b d st=>eF f st vs (ui b d k)
def LT(sz:Nat)(k:KT)(b:Bool)(ds:List D)(st:St):Prop:=(0<sz∧b=true∧∀d∈ds,d.size=sz)∧k true (.ls (some false) sz ds) st
def nF(f:St→AV→KT→Prop)(u:Option U)(i len:Nat)(st:St)(k:KT):Prop:=
 match u with
 |some (.bx sz items)=>len=items.length∧eF f (st.del i) items (LT sz k)
 |_=>False
def cp:Nat→St→AV→KT→Prop
 |n+1,st,.vb i len,k=>nF (cp n) (st.unit i) i len st k
 |n+1,st,.sg vs,k=>eF (cp n) st vs (Ik k)
 |_,st,.im none d,k=>k d.flat d st
 |_,st,v,k=>bo st v k
def Gl(f:St→AV→KT→Prop)(vs:List AV)(k:KL)(b:Bool)(d:D)(st:St):Prop:=eF f st vs (ui b d k)

def tc(u:Option U)(i len sz:Nat)(st:St)(k:KL):Prop:=
 match u with
 |some (.bx oC items)=>(oC=sz∧len=items.length)∧eF (cp 12) (st.del i) items k
 |_=>False
def mC(q:Option D)(sz:Nat)(st:St)(k:KL):Prop:=
 match q with
 |some (.ls _ sz' ds)=>(sz=sz'∧af ds=true)∧k true ds st
 |_=>False
def iE(st:St)(sz:Nat)(v:AV)(k:KL):Prop:=
 match v with
 |.vb i len=>tc (st.unit i) i len sz st k
 |.im none (.ls _ sz' ds)=>sz=sz'∧k (af ds) ds st
 |v=>mC (v.arg st.unit) sz st k

def ba(nn:Option Bool)(ds:List D):Option Bool:=
 match ds with
 |_::_=>some false
 | []=>nn

def aq(own ow fl eq:Bool):Bool:=if own=ow then ow else if fl then ow else if eq then own else ow
def K1(u:Option U)(id el j sz:Nat)(own:Bool)(d:D)(st':St)(f:St→Prop):Prop:=
 match u with
 |some (.ar ow nn usz es)=>(d.size=sz∧j+sz≤usz∧el<es.length∧(j=0∧sz=usz∨(D.at es el).isAg=true)∧
    (own=ow∨d.noPtr=true∨af es=true))∧
    f (st'.upd id (.ar (aq own ow d.flat (af es)) nn usz (es.set el (D.put usz (D.at es el) j sz d))))
 |_=>False
def H2(id el j sz:Nat)(f:St→Prop)(own:Bool)(d:D)(st':St):Prop:=K1 (st'.unit id) id el j sz own d st' f

def gL(es:List D)(usz el j:Nat)(d:D):List D:=es.set el (D.put usz (D.at es el) j 1 d)
def K5(nn:Option Bool)(usz:Nat)(es:List D)(id el j isz el' j' sz:Nat)(own:Bool)(d:D)(st':St)(f:St→Prop)(q:D):Prop:=
 match q with
 | .ls nn' sz' ds => (sz' = isz ∧ d.size = sz ∧ j' < isz ∧ j' + sz ≤ isz ∧ el < es.length ∧ el' < ds.length ∧ (j = 0 ∧ usz = 1 ∧ (D.at es el).isAg = false ∨ (D.at es el).isAg = true ∧ usz ≠ 1) ∧ (j' = 0 ∧ sz = isz ∨ (D.at ds el').isAg = true) ∧ d.noPtr = true) ∧
   f (st'.upd id (.ar true nn usz (gL es usz el j (.ls nn' sz' (ds.set el' (D.put sz' (D.at ds el') j' sz d))))))
 |_=>False
def KE(u:Option U)(id el j isz el' j' sz:Nat)(own:Bool)(d:D)(st':St)(f:St→Prop):Prop:=
 match u with
 |some (.ar true nn usz es)=>K5 nn usz es id el j isz el' j' sz own d st' f (D.sub (D.at es el) j 1 false)
 |_=>False
def HM(id el j isz el' j' sz:Nat)(f:St→Prop)(own:Bool)(d:D)(st':St):Prop:=KE (st'.unit id) id el j isz el' j' sz own d st' f

def qH(id:Nat)(v:AV):AV:=
 match v with
 |.pw i el j=>if i=id then(if el=0 then .pb id j else .any)else .pw i el j
 |v=>if v.refs id then .any else v
def yr(id:Nat):List (Nat×AV)→List (Nat×AV)
 | []=>[]
 |(k,v)::r=>(k,qH id v)::yr id r
def iA:AV→Bool
 |.sg vs=>vs.all AV.one0
 |v=>v.one0
def St.cvt(st:St)(id:Nat)(u:U):St:=⟨st.n,yr id st.env,(id,u)::aL id (AV.refs id) st.us⟩
def Fb(u:Option U)(id el j sz:Nat)(x:AV)(st:St)(f:St→Prop):Prop:=
 match u with
 |some (.ar _ nn usz [d])=>((nn=none∨id<3000000000)∧0<sz∧el=0∧j=0∧sz=usz∧d.noPtr=true∧bi st.unit sz (dP x)=true∧iA (dP x)=true∧(dP x).refs id=false)∧f (st.cvt id (.bx sz [dP x]))
 |_=>False
def xN(y x:AV)(usz j sz:Nat)(k:AV→Prop):Prop:=
 if j=0∧sz=usz then k x else
 match y with
 |.sg vs=>(vs.all AV.one0=true∧j<vs.length∧sz=1∧x.one0=true)∧k (.sg (vs.set j x))
 |_=>False
def FT(u:Option U)(id j sz:Nat)(x:AV)(st:St)(f:St→Prop):Prop:=
 match u with
 |some (.bx usz [y])=>(0<usz∧0<sz∧bi st.unit sz x=true∧iA x=true∧x.refs id=false∧y.refs id=false)∧xN y x usz j sz fun z=>f (st.upd id (.bx usz [z]))
 |_=>False

def wC:AV→Bool
 |.sg [.im _ (.sc (.pointer none)),.im _ (.ls (some true) _ [])]=>true
 |_=>false
def HB(u:Option U)(id sz:Nat)(x:AV)(st:St)(f:St→Prop):Prop:=
 match u with
 |some (.sb T E _)=>(sz=2∧wC x=true)∧f (st.upd id (.sb T E ⟨#[]⟩))
 |_=>False

def yW(a x:AV)(st:St)(sz:Nat)(f:St→Prop):Prop:=
 match a with
 |.pw id el j=>if x.isRef=true then Fb (st.unit id) id el j sz x st f else cp 12 st x (H2 id el j sz f)
 |.pq id el j isz el' j'=>cp 12 st x (HM id el j isz el' j' sz f)
 |.pb id j=>FT (st.unit id) id j sz x st f
 |.ps id=>HB (st.unit id) id sz x st f
 |_=>False

def Fh(a x:AV)(st:St)(sz:Nat)(f:St→Prop):Prop:=
 match a with
 |.pw id el j=>cp 12 st x (H2 id el j sz f)
 |.pq id el j isz el' j'=>cp 12 st x (HM id el j isz el' j' sz f)
 |_=>False

def mr(len:Nat)(es:List D):List D:=if len=es.length then es else es.take len
def tP(len:Nat)(es:List D):Prop:=if len=es.length then True else len<es.length
def CA(u:Option U)(id off len:Nat)(own:Bool)(ds:List D)(st':St)(d sz bytes:Nat)(f:St→Prop):Prop:=
 match u with
 |some (.ar ow nn usz es)=>(usz=sz∧0<sz∧off=0∧tP len es∧(len+ds.length)*bytes≤140737488355328∧len+ds.length≤aT∧(∀e∈ds,e.size=sz)∧
    (own=ow∨af ds=true∨af (mr len es)=true))∧
    f ((st'.upr id (.ar (aq own ow (D.flatL ds) (af (mr len es))) (ba nn ds) sz (mr len es++ds))).set d (.sm id 0 (len+ds.length)))
 |_=>False
def ym(own:Bool)(ds:List D)(d sz bytes:Nat)(f:St→Prop)(own':Bool)(e:D)(st'':St):Prop:=
 match e with
 |.ls nn sz' es=>(sz'=sz∧own=true∧own'=true∧(es.length+ds.length)*bytes≤140737488355328∧es.length+ds.length≤aT∧(∀e∈ds,e.size=sz)∧0<sz∧
    st''.fresh [(d,.own .jk)]=true)∧
    f ((st''.addUs [(d,.own (.ls (ba nn ds) sz (es++ds)))]).set d (.tr d))
 |_=>False
def sI(x:AV)(own:Bool)(ds:List D)(st':St)(d sz bytes:Nat)(f:St→Prop):Prop:=
 match x with
 | .im _ (.ls (some true) _ []) => (ds.length * bytes ≤ 140737488355328 ∧ ds.length ≤ aT ∧ 0 < sz ∧ (∀ e ∈ ds, e.size = sz) ∧ st'.fresh [(d, .own .jk)] = true) ∧
   f ((st'.addUs [(d,.ar own (ba (some true) ds) sz ds)]).set d (.sm d 0 ds.length))
 |.sm id off len=>CA (st'.unit id) id off len own ds st' d sz bytes f
 | .z0 nn _ => (ds.length * bytes ≤ 140737488355328 ∧ ds.length ≤ aT ∧ 0 < sz ∧ own = true ∧ (∀ e ∈ ds, e.size = sz) ∧ st'.fresh [(d, .own .jk)] = true) ∧
   f ((st'.addUs [(d,.own (.ls (ba nn ds) sz ds))]).set d (.tr d))
 |x=>bo st' x (ym own ds d sz bytes f)
def xi(x:X)(d sz bytes:Nat)(f:St→Prop)(own:Bool)(ds:List D)(st':St):Prop:=sI (st'.ev x) own ds st' d sz bytes f

def AFM(P:Program)(f:Nat)(d:D)(n:Int)(d':D)(n':Int):Prop:=eZ P f∧
 ∀(w:World)(v:Value)(F:List Nat),aW w.heap d F v.cells.toList→d.fits v→F.Nodup→(∀b∈F,kp w.heap b)→
  Calls P f #[v,.int .i64 n] w fun e w'=>e=.returned (.int .i64 n')∧w'.os=w.os∧w'.tape=w.tape∧w'.output=w.output∧w.heap.size≤w'.heap.size∧
   (∀b,b<w.heap.size→b∉F→w'.heap[b]?=w.heap[b]?)∧∃F',aW w'.heap d' F' v.cells.toList∧F'.Nodup∧∀b∈F',b∈F∧kp w'.heap b
def bX:Nat→List U→List (Nat×U)
 |_,[]=>[]
 |i,u::r=>(3000000000+i,u)::bX (i+1) r

structure CS (h:aE) (old:Nat→Prop) (us:List U) (g:Gh):Prop where
 nodup:(fp g (bX 0 us)).Nodup
 lt:∀b∈fp g (bX 0 us),b<h.size
 fz:∀b∈fp g (bX 0 us),kp h b
 dead:∀k,k∉(bX 0 us).map (·.1)→g.φ k=[]
 sh:∀b,g.Sh b→b<h.size∧old b∧b∉fp g (bX 0 us)
 each:∀x∈bX 0 us,cm h (bX 0 us) g x.1 x.2
 blk:∀x∈bX 0 us,x.2.isPin=true→g.β x.1≠none

structure Gr (h:aE) (n0:Nat) (old:Nat→Prop) (us us':List U) (g g':Gh) (F:List Nat):Prop where
 each:∀x∈bX 0 us',cm h (bX 0 us') g' x.1 x.2
 pin:∀x∈bX 0 us',g'.β x.1=g.β x.1∧g'.cap x.1=g.cap x.1
 nodup:(F++fp g' (bX 0 us')).Nodup
 all:∀b∈F++fp g' (bX 0 us'),b<h.size∧kp h b∧(b<n0→b∈fp g (bX 0 us))∧¬g'.Sh b
 sh:∀b,g'.Sh b→b<h.size∧(b<n0→old b∨b∈fp g (bX 0 us))

def AE(P:Program)(f:Nat)(us:List U)(as:List AV)(us':List U)(r:gz):Prop:=eZ P f∧us.length≤8∧
 ∀(w:World)(vs:List Value)(old:Nat→Prop)(g:Gh),CS w.heap old us g→ah w.heap (bX 0 us) g as vs→
  Calls P f vs.toArray w fun e w'=>∃v F g',e=.returned v∧w'.os=w.os∧w'.tape=w.tape∧w'.output=w.output∧w.heap.size≤w'.heap.size∧
   (∀b,b<w.heap.size→b∉fp g (bX 0 us)→w'.heap[b]?=w.heap[b]?)∧Gr w'.heap w.heap.size old us us' g g' F∧co w'.heap r F [] v
def bb:List Nat→Nat→Nat→Option Nat
 | [],_,_=>none
 |i::r,n,k=>if i=k then some n else bb r (n+1) k
def Nm(ids:List Nat):Option Nat→Bool
 |none=>true
 |some k=>(bb ids 0 k).isNone

def If(u:Option U)(id el j:Nat):Option (Option Nat×D):=match u with|some (.ar _ _ _ es)=>some (some id,.pt (D.at es el) j)|_=>none
def H4(u:Option U)(id off len:Nat):Option (Option Nat×D):=match u with|some (.ar _ nn sz es)=>some (some id,.ls (if off=0∧len=es.length then nn else none) sz ((es.drop off).take len))|_=>none
def LG(u:Option U)(id len:Nat):Option (Option Nat×D):=match u with|some (.bx sz items)=>(match nj sz items with|some ds=>if len=items.length∧D.flatL ds=true then some (some id,.ls (some false) sz ds)else none|none=>none)|_=>none
def AV.rd(un:Nat→Option U):AV→Option (Option Nat×D)
 |.pw id el j=>If (un id) id el j
 |.sm id off len=>H4 (un id) id off len
 |.vb id len=>LG (un id) id len
 |.z0 nn sz=>some (none,.ls nn sz [])
 |av=>av.den un
def Cz(ids:List Nat)(q:Option (Option Nat×D)):Option AV:=match q with|some (t,d)=>if Nm ids t=true then some (.im none d)else none|none=>none
def pwW(q:Option Nat)(el j:Nat)(r:Option AV):Option AV:=match q with|some k=>some (.pw (3000000000+k) el j)|none=>r
def smW(q:Option Nat)(off len:Nat)(r:Option AV):Option AV:=match q with|some k=>some (.sm (3000000000+k) off len)|none=>r
def trW(q:Option Nat)(r:Option AV):Option AV:=match q with|some k=>some (.tr (3000000000+k))|none=>r
def pbW(q:Option Nat)(j:Nat):Option AV:=match q with|some k=>some (.pb (3000000000+k) j)|none=>none
mutual
def AV.argW(ids:List Nat)(un:Nat→Option U):AV→Option AV
 |.pw id el j=>pwW (bb ids 0 id) el j (Cz ids (AV.rd un (.pw id el j)))
 |.sm id off len=>smW (bb ids 0 id) off len (Cz ids (AV.rd un (.sm id off len)))
 |.tr k=>trW (bb ids 0 k) (Cz ids (AV.rd un (.tr k)))
 |.pb id j=>pbW (bb ids 0 id) j
 |.cl f vs=>match iZ ids un vs with|some as=>some (.cl f as)|none=>none
 |.sg vs=>match iZ ids un vs with|some as=>some (.sg as)|none=>none
 |av=>Cz ids (av.rd un)
def iZ(ids:List Nat)(un:Nat→Option U):List AV→Option (List AV)
 | []=>some []
 |a::as=>match a.argW ids un,iZ ids un as with|some b,some bs=>some (b::bs)|_,_=>none
end
mutual

def AV.shW(ids:List Nat):AV→Bool
 |.im none _=>true
 |.im (some _) d=>d.noPtr
 |.pw id _ _=>(bb ids 0 id).isSome
 |.sm id _ _=>(bb ids 0 id).isSome
 |.tr id=>(bb ids 0 id).isSome
 |.pb _ _=>true
 |.cl _ vs=>bm ids vs
 |.sg vs=>bm ids vs
 |_=>false
def bm(ids:List Nat):List AV→Bool
 | []=>true
 |v::vs=>v.shW ids&&bm ids vs
end

def U.shW(ids:List Nat):Option U→Bool
 |some (.bx _ items)=>bm ids items
 |_=>true
def bC(ids:List Nat)(un:Nat→Option U):List Nat→Bool
 | []=>true
 |i::r=>U.shW ids (un i)&&bC ids un r
def wU(ids:List Nat)(un:Nat→Option U)(u:Option U):Option U:=
 match u with
 |some (.ar ow nn sz es)=>if(nn==some false|| !es.isEmpty)=true then some (.ar ow none sz es)else none
 |some (.own d)=>some (.own d)
 |some (.bx sz items)=>(match iZ ids un items with|some as=>some (.bx sz as)|none=>none)
 |some (.sb _ _ _)=>none
 |none=>none
def Gs(ids:List Nat)(un:Nat→Option U):List Nat→Option (List U)
 | []=>some []
 |i::r=>match wU ids un (un i),Gs ids un r with|some u,some r=>some (u::r)|_,_=>none
mutual

def AV.unW(ids:List Nat):AV→AV
 |.pw k el j=>.pw (ids.getD (k-3000000000) 0) el j
 |.pb k j=>.pb (ids.getD (k-3000000000) 0) j
 |.cl f vs=>.cl f (ku ids vs)
 |.sg vs=>.sg (ku ids vs)
 |v=>v
def ku(ids:List Nat):List AV→List AV
 | []=>[]
 |v::vs=>v.unW ids::ku ids vs
end
mutual

def AV.okW(m:Nat):AV→Bool
 |.im none d=>d.flat
 |.pw k _ _=>decide (3000000000≤k)&&decide (k<3000000000+m)
 |.pb k _=>decide (3000000000≤k)&&decide (k<3000000000+m)
 |.cl _ vs=>eL m vs
 |.sg vs=>eL m vs
 |_=>false
def eL(m:Nat):List AV→Bool
 | []=>true
 |v::vs=>v.okW m&&eL m vs
end
def bp(m:Nat)(allsh:Bool)(u u':U):Prop:=
 match u,u' with
 |.ar _ _ sz es,.ar ow' nn' sz' es'=>nn'=none∧sz'=sz∧es'.length=es.length∧(allsh=true∨ow'=true∨af es'=true)
 |.bx sz items,.bx sz' items'=>sz'=sz∧items'.length=items.length∧eL m items'=true
 |_,_=>False

def bH(m:Nat)(allsh:Bool):List U→List U→Prop
 |_,[]=>True
 |u::r,u'::r'=>bp m allsh u u'∧bH m allsh r r'
 |_,_=>False
def re:List Nat→AV→Bool
 | [],_=>false
 |i::r,v=>v.soft i||re r v
def rm:List Nat→AV→Bool
 | [],_=>false
 |i::r,v=>v.refs i||rm r v
def iD(k1 k2:List Nat)(v:AV):Bool:=re k1 v||rm k2 v
def o8(ids:List Nat)(u u':U):U:=
 match u,u' with
 |.ar _ nn _ _,.ar ow' _ sz' es'=>.ar ow' nn sz' es'
 |.bx _ _,.bx sz' items'=>.bx sz' (ku ids items')
 |u,_=>u
def nP(q:Option Nat)(ids k1 k2:List Nat)(us':List U)(u:U):U:=match q with|some k=>o8 ids u (us'.getD k default)|none=>u.kill (iD k1 k2)
def gt(ids k1 k2:List Nat)(us':List U):List (Nat×U)→List (Nat×U)
 | []=>[]
 |(i,u)::r=>if(bb k2 0 i).isSome=true then gt ids k1 k2 us' r else(i,nP (bb k1 0 i) ids k1 k2 us' u)::gt ids k1 k2 us' r
def St.updW(st:St)(k1 k2:List Nat)(us':List U):St:=⟨st.n,ch (iD k1 k2) st.env,gt (k1++k2) k1 k2 us' st.us⟩
def se:List Nat→Bool
 | []=>true
 |x::l=>!l.contains x&&se l

def kq(f:St→Prop)(st:St)(d:Option Nat)(v:AV):List (Nat×U)→Prop
 | []=>f (st.setO d v)
 |us=>st.fresh us=true∧f ((st.addUs us).setO d v)

def x8(P:Program)(dst:Option Nat)(f:Nat)(args:List AV)(st:St)(kk:St→Prop):Prop:=
 ∃k1 k2 us as us' r,se (k1++k2)=true∧Gs (k1++k2) st.unit (k1++k2)=some us∧iZ (k1++k2) st.unit args=some as∧AE P f us as us' r∧us'.length=k1.length∧
  bH k1.length (bm (k1++k2) args&&bC (k1++k2) st.unit (k1++k2)) us us'∧kq kk (st.updW k1 k2 us') dst (bW (dst.getD 0) false r).1 (bW (dst.getD 0) false r).2
def eOp(P:Program)(r:ff)(st:St)(f:St→Prop):Prop:=
 match r with
 |.mcl .. =>False
 |.st sz a x=>yW (st.ev a) (st.ev x) st sz f
 |.app d sz bytes x y=>iE st sz (st.ev y) (xi x d sz bytes f)
 |_=>False

def bf(st st':St):Prop:=∀n0 S0 M0 w0 a w,dH n0 S0 M0 w0 st a w→dH n0 S0 M0 w0 st' a w

def E2(k:D→St→Prop)(_own:Bool)(d:D)(st:St):Prop:=k d st
def CX(u:Option U)(i off len:Nat)(st:St)(k:D→St→Prop):Prop:=
 match u with
 |some (.ar _ nn sz es)=>(off=0∧len=es.length)∧k (.ls nn sz es) (st.del i)
 |_=>False
def J0(k:D→St→Prop)(ds:List D)(st:St):Prop:=k (.ag (ds.map D.cells).flatten) st
def JF(d:D)(k:List D→St→Prop)(ds:List D)(st:St):Prop:=k (d::ds) st
mutual
def nx(st:St):AV→(D→St→Prop)→Prop
 |.sm i off len,k=>CX (st.unit i) i off len st k
 |.sg vs,k=>kt st vs (J0 k)
 |.im t d,k=>bo st (.im t d) (E2 k)
 |.tr i,k=>bo st (.tr i) (E2 k)
 |.cw i el j sz agg,k=>bo st (.cw i el j sz agg) (E2 k)
 |_,_=>False
def kt(st:St):List AV→(List D→St→Prop)→Prop
 | [],k=>k [] st
 |v::vs,k=>nx st v fun d st=>kt st vs (JF d k)
end
def Rh(vs:List AV)(k:List D→St→Prop)(d:D)(st:St):Prop:=kt st vs (JF d k)
def Kb(u:Option U)(i len sz:Nat)(st:St)(k:List D→St→Prop):Prop:=
 match u with
 |some (.bx oC items)=>(oC=sz∧len=items.length)∧kt (st.del i) items k
 |_=>False
def vQ(u:Option U)(off len sz:Nat)(st:St)(k:List D→St→Prop):Prop:=
 match u with
 |some (.ar false _ usz es)=>usz=sz∧k ((es.drop off).take len) st
 |_=>False

def D1(st:St)(sz:Nat)(v:AV)(k:List D→St→Prop):Prop:=
 match v with
 |.vb i len=>Kb (st.unit i) i len sz st k
 |.im none (.ls _ sz' ds)=>sz'=sz∧k ds st
 |.sm i off len=>vQ (st.unit i) off len sz st k
 |.ss i off len=>vQ (st.unit i) off len sz st k
 |_=>False
def D2(d sz len:Nat)(f:St→Prop)(ds:List D)(st':St):Prop:=((∀e∈ds,e.size=sz)∧st'.fresh [(d,.own .jk)]=true)∧f ((st'.addUs [(d,.ar false (some false) sz ds)]).set d (.sm d 0 len))
def CN(ps:List (Nat×AV))(st:St)(d sz len:Nat)(f:St→Prop):Prop:=(ps.map (·.1)=List.range len∧0<sz∧len*sz≤16777216)∧kt st (ps.map (·.2)) (D2 d sz len f)
def Ct(u:Option U)(id off len:Nat)(ds:List D)(st':St)(d sz bytes:Nat)(f:St→Prop):Prop:=
 match u with
 |some (.ar ow nn usz es)=>(usz=sz∧0<sz∧off=0∧tP len es∧(ow=false∨mr len es=[])∧(len+ds.length)*bytes≤140737488355328∧len+ds.length≤aT∧(∀e∈ds,e.size=sz))∧
    f ((st'.upr id (.ar false (ba nn ds) sz (mr len es++ds))).set d (.sm id 0 (len+ds.length)))
 |_=>False
def Cv(x:AV)(d sz bytes:Nat)(f:St→Prop)(ds:List D)(st':St):Prop:=
 match x with
 |.sm id off len=>Ct (st'.unit id) id off len ds st' d sz bytes f
 |_=>False
def zm(x:X)(d sz bytes:Nat)(f:St→Prop)(ds:List D)(st':St):Prop:=Cv (st'.ev x) d sz bytes f ds st'

def qi(a x:AV)(st:St)(sz:Nat)(f:St→Prop):Prop:=
 match x with
 |.sm i off len=>(match a with
  |.pw id el j=>Fb (st.unit id) id el j sz (.sm i off len) st f
  |.pb id j=>FT (st.unit id) id j sz (.sm i off len) st f
  |_=>False)
 |x=>yW a x st sz f

def Gm(h:aE)(sh:Nat→Prop)(ow:Bool)(sz:Nat)(es:List D)(b:Nat)(F:List Nat):Prop:=
 es.length≤aT∧(∀d∈es,d.size=sz)∧∃c e rest b2 c2 e2 G cs r2 cap,h[b]?=some (.cells c e (0,0))∧c.toList=Value.slice (some ⟨b2,0,none⟩) es.length cap::rest∧
  h[b2]?=some (.cells c2 e2 (0,0))∧c2.toList=cs++r2∧c2.size=cap*sz∧es.length≤cap∧aK h es G cs∧(if ow then F=b2::G else F=[b2]∧∀x∈G,sh x)

def Fj(P:Program)(f:Nat)(ow:Bool)(sz:Nat)(ds:List D)(es es':List D):Prop:=eZ P f∧
 ∀(w:World)(vs:List Value)(old:Nat→Prop)(b:Nat)(F:List Nat),Gm w.heap old ow sz es b F→(b::F).Nodup→(∀x∈b::F,kp w.heap x∧¬old x)→bY w.heap old ds vs→
  Calls P f (vs++[Value.pointer (some ⟨b,0,none⟩)]).toArray w fun e w'=>(∃v,e=.returned v)∧w'.os=w.os∧w'.tape=w.tape∧w'.output=w.output∧w.heap.size≤w'.heap.size∧
   (∀ x, x < w.heap.size → x ∉ b :: F → w'.heap[x]? = w.heap[x]?) ∧ ∃ F' sh', Gm w'.heap sh' ow sz es' b F' ∧ (b :: F').Nodup ∧ (∀ x ∈ b :: F', kp w'.heap x ∧ (x < w.heap.size → x ∈ b :: F) ∧ ¬ sh' x) ∧
    ∀x,sh' x→x<w'.heap.size∧(x<w.heap.size→old x∨x∈b::F)
mutual

def AV.rds(un:Nat→Option U):AV→Option (List Nat×D)
 |.sg vs=>match yO un vs with|some (ts,ds)=>(GH ds).map (ts,·)|none=>none
 |.im t d=>some (if d.noPtr=true then[]else t.toList,d)
 |av=>(av.rd un).map fun p=>(p.1.toList,p.2)
def yO(un:Nat→Option U):List AV→Option (List Nat×List D)
 | []=>some ([],[])
 |a::as=>match a.rds un,yO un as with|some (t,d),some (ts,ds)=>some (t++ts,d::ds)|_,_=>none
end
def fu(k id:Nat)(v:AV):Bool:=v.refs k||v.soft id
def St.updL(st:St)(id k:Nat)(es:List D)(ow:Bool)(sz:Nat):St:=
 ⟨st.n,ch (fu k id) st.env,(id,.bx 1 [.sm k 0 es.length])::(k,.ar ow (some false) sz es)::aL id (fu k id) (aL k (fu k id) st.us)⟩
def Hz(u v:Option U)(P:Program)(dst:Option Nat)(f id:Nat)(k:Nat)(ys:List AV)(st:St)(kk:St→Prop):Prop:=
 match u,v with
 | some (.bx 1 [.sm k' 0 n]), some (.ar ow nn sz es) => (k' = k ∧ k ≠ id ∧ n = es.length ∧ (nn = some false ∨ es ≠ [])) ∧ ∃ ts ds es', yO st.unit ys = some (ts, ds) ∧ (ts.contains k || ts.contains id || (!ow && !ts.isEmpty)) = false ∧
   Fj P f ow sz ds es es'∧kk ((st.updL id k es' ow sz).setO dst .any)
 |_,_=>False

def yC(P:Program)(dst:Option Nat)(f:Nat)(xs:List X)(bD:St)(kk:St→Prop):Prop:=
 ∃st,bf bD st∧(x8 P dst f (xs.map st.ev) st kk∨(∃ys id k,xs.map st.ev=ys++[.pb id 0]∧Hz (st.unit id) (st.unit k) P dst f id k ys st kk)∨gK P dst f (xs.map st.ev) st.unit (kq kk st dst))
def Ff(P:Program)(r:ff)(st:St)(f:St→Prop):Prop:=
 match r with
 |.cls .. =>False
 |.cpy .. =>False
 |.wcl d g xs=>x8 P d g (xs.map st.ev) st f
 |.calw .. =>False
 |.bwr .. =>False
 |.bst .. =>False
 |.aps d sz bytes x y=>D1 st sz (st.ev y) (zm x d sz bytes f)
 |.stp sz a x=>qi (st.ev a) (st.ev x) st sz f
 |.lcl d g xs=>yC P d g xs st f
 |.bss d sz len ps=>CN (ps.map fun p=>(p.1,st.ev p.2)) st d sz len f
 |r=>eOp P r st f

def kr(P:Program)(r:ff)(st:St)(f:St→Prop):Prop:=
 if r.isQ then uo P r st.ev st.unit (kq f st r.dst)else Ff P r st f

def iy(g:AV)(b:Bool)(p q:Prop):Prop:=
 match g with
 |.im _ (.sc (.bool c))=>(c=b→p)∧(c=!b→q)
 |.tup []=>q
 |_=>False

def a8(P:Program):List RO→St→(Exit→St→Prop)→Prop
 | [],st,K=>K .normal st
 |⟨none,r⟩::rest,st,K=>kr P r st fun st=>a8 P rest st K
 |⟨some (t,b),r⟩::rest,st,K=>iy (st.get t) b (kr P r st fun st=>a8 P rest st K) (a8 P rest (st.setO r.dst (.tup [])) K)

def kC(s:St)(d:Nat)(v:AV)(us:List (Nat×U)):Prop:=v=s.get d∧us=[]
def kh(P:Program)(r:ff)(s:St):Prop:=match r.dst with|some d=>uo P r s.ev s.unit (kC s d)|none=>True
def gk(P:Program):List ff→St→Prop
 | [],_=>True
 |c::cs,s=>kh P c s∧gk P cs s
def Ac(P:Program):List (List ff×RO)→St→(Exit→St→Prop)→Prop
 | [],s,K=>K .normal s
 |(cs,r)::l,s,K=>gk P cs s∧a8 P [r] s (fun _ s'=>Ac P l s' K)
def kE(P:Program)(l:List (List ff×RO))(K:Exit→St→Prop)(_:Exit)(s:St):Prop:=Ac P l s K

def w7(k:Nat):List (Nat×U)→List (Nat×U)
 | []=>[]
 |(i,u)::r=>(i,if i=k then .own .jk else u)::w7 k r
def St.apJ(st:St)(d sz x y:Nat)(es:List D):St:=⟨st.n,(d,.tr d)::(y,.any)::(x,.any)::st.env,(d,.own (.ls (some false) sz es))::w7 x (w7 y st.us)⟩
def Po(u v:Option U)(d sz bytes x y:Nat)(st:St)(k:St→Prop):Prop:=
 match u,v with
 |some (.own (.ls _ sz' es)),some (.bx oC [.im none d0])=>(x≠y∧sz'=sz∧oC=sz∧0<sz∧d0.flat=true∧d0.size=sz∧(es.length+1)*bytes≤140737488355328∧es.length+1≤aT∧st.fresh [(d,.own .jk)]=true)∧k (st.apJ d sz x y (es++[d0]))
 |_,_=>False
def HW(a b:AV)(u v:Option U)(d sz bytes x y:Nat)(st:St)(k:St→Prop):Prop:=
 match a,b with
 |.tr x',.vb y' 1=>(x'=x∧y'=y)∧Po u v d sz bytes x y st k
 |_,_=>False
def nJ(P:Program):List PO→St→(St→Prop)→Prop
 | [],st,K=>K st
 |.q r::l,st,K=>a8 P [r] st (fun _ s=>nJ P l s K)
 |.a d sz b x y::l,st,K=>HW (st.get x) (st.get y) (st.unit x) (st.unit y) d sz b x y st (fun s=>nJ P l s K)

def ra:List PO→List Nat
 | []=>[]
 |.q _::l=>ra l
 |.a _ _ _ x y::l=>x::y::ra l

def pN(C:List Nat):List (Nat×AV)→Bool
 | []=>true
 |(t,v)::r=>C.all (fun k=>k==t|| !v.refs k)&&pN C r
def tW(C:List Nat):List AV→Bool
 | []=>true
 |v::r=>C.all (fun k=>!v.refs k)&&tW C r
def kO(C:List Nat):List (Nat×U)→Bool
 | []=>true
 |(_,.bx _ items)::r=>tW C items&&kO C r
 |_::r=>kO C r
def kP(P:Program)(C:List Nat)(E:List RO)(K:Exit→St→Prop)(s:St):Prop:=(pN C s.env=true∧kO C s.us=true)∧a8 P E s K

def qe(f:St→Prop)(K:Exit→St→Prop)(e:Exit)(st:St):Prop:=
 match e with
 |.normal=>f st
 |e=>K e st
def xy(id:Nat)(K:Exit→St→Prop)(e:Exit)(st:St):Prop:=
 match e with
 |.exit i=>if i=id then K .normal st else K (.exit i) st
 |e=>K e st
def mD(c:AV)(p q:Prop):Prop:=
 match c with
 |.im _ (.sc (.bool t))=>(t=true→p)∧(t=false→q)
 |_=>False
mutual
def yY(P:Program)(L:List RO):Tr→St→(St→Prop)→Prop
 |.br l,st,K=>rE P L l st K (l=[]→K st)
def rE(P:Program)(L:List RO):List (Nat×Tr)→St→(St→Prop)→Prop→Prop
 | [],_,_,q=>q
 |(i,t)::l,st,K,q=>a8 P [L.getD i default] st (fun _ s=>yY P L t s K)∧rE P L l st K q
end

def Ry(P:Program)(R:List RO)(T:Tr)(st:St)(k:St→Prop):Prop:=∃st',yY P R T st (fun s=>bf s st')∧k st'
mutual
def jb(P:Program):yV→St→(Exit→St→Prop)→Prop
 |.br cs l,st,K=>gk P cs st∧kf P l st K (l=[]→K .normal st)
def kf(P:Program):List (RO×yV)→St→(Exit→St→Prop)→Prop→Prop
 | [],_,_,q=>q
 |(r,t)::l,st,K,q=>a8 P [r] st (fun _ s=>jb P t s K)∧kf P l st K q
end
def kT(P:Program)(T:yV)(K:Exit→St→Prop)(_:Exit)(s:St):Prop:=jb P T s K
def jD(P:Program):RC→St→(Exit→St→Prop)→Prop
 |.skip,st,K=>K .normal st
 |.reg _ ops,st,K=>a8 P ops st K
 |.regL _ _,_,_=>False
 |.regA R T,st,K=>Ry P R T st (K .normal)
 |.regT N T,st,K=>a8 P N st (kT P T K)
 |.regP N E,st,K=>nJ P N st (kP P (ra N) E K)
 |.seq a b,st,K=>jD P a st (qe (fun st=>jD P b st K) K)
 |.cond x a b,st,K=>mD (st.ev x) (jD P a st K) (jD P b st K)
 |.blk id c,st,K=>jD P c st (xy id K)
 |.loop c,st,K=>∃(I:Nat→St→Prop),(∃n s,bf st s∧I n s)∧∀n s,I n s→jD P c s (qe (fun s'=>∃n' s'',bf s' s''∧I n' s''∧n'<n) K)
 |.exit id,st,K=>K (.exit id) st
 |.ret,st,K=>K .ret st
 |.other _,_,_=>False

def cV(P:Program)(rest:List RO)(K:Exit→St→Prop)(st:St):Prop:=a8 P rest st K
def kR(P:Program)(c:RC)(K:Exit→St→Prop)(st:St):Prop:=jD P c st K

end Go.Ax
