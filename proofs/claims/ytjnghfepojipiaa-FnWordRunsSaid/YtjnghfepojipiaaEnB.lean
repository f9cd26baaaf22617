/- THE ENGINE, PART 2: a generator of conditions over the register code, and its soundness. No condition. -/
import Derived.Test.YtjnghfepojipiaaEnA
set_option linter.unusedSimpArgs false
set_option linter.unusedVariables false
set_option linter.unnecessarySimpa false
set_option linter.unusedSectionVars false
namespace Go.Ax

section
variable {P : Program} {st : St} {K : Exit → St → Prop} {n : Nat} {env : List (Nat × AV)} {us : List (Nat × U)}

@[congr] theorem UK{c:RC}{st st':St}(h:st=st'):jD P c st K=jD P c st' K:=by rw[h]
@[congr] theorem Mh{l:List RO}{st st':St}(h:st=st'):a8 P l st K=a8 P l st' K:=by rw[h]
@[congr] theorem Qx{l:List RO}{st st':St}(h:st=st'):cV P l K st=cV P l K st':=by rw[h]
@[congr] theorem kR_cg{c:RC}{st st':St}(h:st=st'):kR P c K st=kR P c K st':=by rw[h]
@[congr] theorem Qd{f:St→Prop}{e e':Exit}{st st':St}(h:e=e')(h':st=st'):qe f K e st=qe f K e' st':=by rw[h,h']
@[congr] theorem Sg{i:Nat}{e e':Exit}{st st':St}(h:e=e')(h':st=st'):xy i K e st=xy i K e' st':=by rw[h,h']
@[congr] theorem kq_cg{f:St→Prop}{st st':St}{d:Option Nat}{v v':AV}{us us':List (Nat×U)}(h:st=st')(hv:v=v')(hu:us=us'):kq f st d v us=kq f st' d v' us':=by rw[h,hv,hu]
@[congr] theorem OH{c c':AV}{p q:Prop}(h:c=c'):mD c p q=mD c' p q:=by rw[h]
@[congr] theorem R2{c c':AV}{b:Bool}{p q:Prop}(h:c=c'):iy c b p q=iy c' b p q:=by rw[h]

@[go_sem ↓] theorem OV:jD P .skip st K=K .normal st:=rfl
@[go_sem ↓] theorem QT{b:Bool}{ops:List RO}:jD P (.reg b ops) st K=a8 P ops st K:=rfl
@[congr] theorem Qy{l:List (List ff×RO)}{st st':St}(h:st=st'):Ac P l st K=Ac P l st' K:=by rw[h]
@[congr] theorem kE_cg{l:List (List ff×RO)}{e:Exit}{st st':St}(h:st=st'):kE P l K e st=kE P l K e st':=by rw[h]
@[congr] theorem KR{l:List ff}{st st':St}(h:st=st'):gk P l st=gk P l st':=by rw[h]
@[congr] theorem kC_cg{st st':St}{d:Nat}{v v':AV}{us:List (Nat×U)}(h:st=st')(hv:v=v'):kC st d v us=kC st' d v' us:=by rw[h,hv]
@[go_sem ↓] theorem PG{R:List RO}{T:Tr}:jD P (.regA R T) st K=Ry P R T st (K .normal):=rfl
@[go_sem ↓] theorem Q6{R:List RO}{k:St→Prop}:yY P R (.br []) st k=k st:=by simp[yY,rE]
@[go_sem ↓] theorem Uk{R:List RO}{k:St→Prop}{x:Nat×Tr}{l:List (Nat×Tr)}:yY P R (.br (x::l)) st k=rE P R (x::l) st k True:=by
 simp only[yY,reduceCtorEq,false_implies]
@[go_sem ↓] theorem MP{R:List RO}{k:St→Prop}{q:Prop}:rE P R [] st k q=q:=by simp only[rE]
@[go_sem ↓] theorem JZ{R:List RO}{k:St→Prop}{q:Prop}{i:Nat}{t:Tr}{l:List (Nat×Tr)}:rE P R ((i,t)::l) st k q=(a8 P [R.getD i default] st (fun _ s=>yY P R t s k)∧rE P R l st k q):=by simp only[rE]
@[congr] theorem Td{T:yV}{st st':St}(h:st=st'):jb P T st K=jb P T st' K:=by rw[h]
@[congr] theorem kT_cg{T:yV}{e:Exit}{st st':St}(h:st=st'):kT P T K e st=kT P T K e st':=by rw[h]
@[go_sem ↓] theorem Ll{N:List RO}{T:yV}:jD P (.regT N T) st K=a8 P N st (kT P T K):=rfl
@[go_sem ↓] theorem O7{N:List PO}{E:List RO}:jD P (.regP N E) st K=nJ P N st (kP P (ra N) E K):=rfl
@[congr] theorem PU{l:List PO}{st st':St}{KK:St→Prop}(h:st=st'):nJ P l st KK=nJ P l st' KK:=by rw[h]
@[congr] theorem kP_cg{C:List Nat}{E:List RO}{st st':St}(h:st=st'):kP P C E K st=kP P C E K st':=by rw[h]
@[go_sem ↓] theorem ND{KK:St→Prop}:nJ P [] st KK=KK st:=rfl
@[go_sem ↓] theorem Ud{r:RO}{l:List PO}{KK:St→Prop}:nJ P (.q r::l) st KK=a8 P [r] st (fun _ s=>nJ P l s KK):=rfl
@[go_sem ↓] theorem Ui{d sz b x y:Nat}{l:List PO}{KK:St→Prop}:nJ P (.a d sz b x y::l) st KK=HW (st.get x) (st.get y) (st.unit x) (st.unit y) d sz b x y st (fun s=>nJ P l s KK):=rfl
@[go_sem] theorem kP_eq{C:List Nat}{E:List RO}:kP P C E K st=((pN C st.env=true∧kO C st.us=true)∧a8 P E st K):=rfl
@[congr] theorem Wp{a a' b b':AV}{u u' v v':Option U}{d sz bytes x y:Nat}{k:St→Prop}(h1:a=a')(h2:b=b')(h3:u=u')(h4:v=v'):HW a b u v d sz bytes x y st k=HW a' b' u' v' d sz bytes x y st k:=by rw[h1,h2,h3,h4]
@[go_sem] theorem Vk{x' y' d sz bytes x y oC sz':Nat}{nn:Option Bool}{es:List D}{d0:D}{k:St→Prop}:HW (.tr x') (.vb y' 1) (some (.own (.ls nn sz' es))) (some (.bx oC [.im none d0])) d sz bytes x y st k=
 ((x'=x∧y'=y)∧(x≠y∧sz'=sz∧oC=sz∧0<sz∧d0.flat=true∧d0.size=sz∧(es.length+1)*bytes≤140737488355328∧es.length+1≤aT∧st.fresh [(d,.own .jk)]=true)∧k (st.apJ d sz x y (es++[d0]))):=rfl
attribute [go_sem] St.apJ w7 ra pN tW kO
@[go_sem ↓] theorem kT_ap{T:yV}{e:Exit}:kT P T K e st=jb P T st K:=rfl
@[go_sem ↓] theorem L3{cs:List ff}:jb P (.br cs []) st K=(gk P cs st∧K .normal st):=by simp[jb,kf]
@[go_sem ↓] theorem P5{cs:List ff}{x:RO×yV}{l:List (RO×yV)}:jb P (.br cs (x::l)) st K=(gk P cs st∧kf P (x::l) st K True):=by
 simp only[jb,reduceCtorEq,false_implies]
@[go_sem ↓] theorem Kg{q:Prop}:kf P [] st K q=q:=by simp only[kf]
@[go_sem ↓] theorem I9{q:Prop}{r:RO}{t:yV}{l:List (RO×yV)}:kf P ((r,t)::l) st K q=(a8 P [r] st (kT P t K)∧kf P l st K q):=by simp only[kf];rfl
@[go_sem ↓] theorem kE_ap{l:List (List ff×RO)}{e:Exit}:kE P l K e st=Ac P l st K:=rfl
@[go_sem ↓] theorem MT:Ac P [] st K=K .normal st:=rfl
@[go_sem ↓] theorem J8{cs:List ff}{r:RO}{l:List (List ff×RO)}:Ac P ((cs,r)::l) st K=(gk P cs st∧a8 P [r] st (kE P l K)):=rfl
@[go_sem ↓] theorem I7:gk P [] st=True:=rfl
@[go_sem ↓] theorem G5{c:ff}{cs:List ff}:gk P (c::cs) st=(kh P c st∧gk P cs st):=rfl
@[go_sem] theorem US{d:Nat}{v:AV}:kC st d v []=(v=st.get d):=by simp[kC]
@[go_sem ↓] theorem UO{d:Nat}{x:X}:kh P (.mv d x) st=kC st d (st.ev x) []:=rfl
@[go_sem ↓] theorem T0{d sz:Nat}{agg:Bool}{a:X}:kh P (.ld d agg sz a) st=vF (st.ev a) st.unit agg sz (kC st d):=rfl
@[go_sem ↓] theorem UD{d off:Nat}{x:X}:kh P (.fa d off x) st=yL (st.ev x) st.unit off (kC st d):=rfl
@[go_sem ↓] theorem Wa{d sz:Nat}{x i:X}:kh P (.ia d sz x i) st=xf (st.ev x) (st.ev i) st.unit sz (kC st d):=rfl
@[go_sem ↓] theorem Tf{d:Nat}{x:X}:kh P (.len d x) st=jP (st.ev x) st.unit (kC st d):=rfl
@[go_sem ↓] theorem QV{d:Nat}{x:X}:kh P (.nck d x) st=kZ (st.ev x) (kC st d):=rfl
@[go_sem ↓] theorem Q0{d i:Nat}{x:X}:kh P (.ext d x i) st=rv (st.ev x) i (kC st d):=rfl
@[go_sem ↓] theorem QR{a b:RC}:jD P (.seq a b) st K=jD P a st (qe (kR P b K) K):=rfl
@[go_sem ↓] theorem Pe{x:X}{a b:RC}:jD P (.cond x a b) st K=mD (st.ev x) (jD P a st K) (jD P b st K):=rfl
@[go_sem ↓] theorem Sj{i:Nat}{c:RC}:jD P (.blk i c) st K=jD P c st (xy i K):=rfl
@[go_sem ↓] theorem L0{i:Nat}:jD P (.exit i) st K=K (.exit i) st:=rfl
@[go_sem ↓] theorem QA:jD P .ret st K=K .ret st:=rfl
@[go_sem ↓] theorem kR_ap{c:RC}:kR P c K st=jD P c st K:=rfl
@[go_sem ↓] theorem QF{l:List RO}:cV P l K st=a8 P l st K:=rfl
@[go_sem ↓] theorem Hj{f:St→Prop}:qe f K .normal st=f st:=rfl
@[go_sem ↓] theorem OS{f:St→Prop}:qe f K .ret st=K .ret st:=rfl
@[go_sem ↓] theorem J1{f:St→Prop}{i:Nat}:qe f K (.exit i) st=K (.exit i) st:=rfl
@[go_sem ↓] theorem GP{i:Nat}:xy i K .normal st=K .normal st:=rfl
@[go_sem ↓] theorem Nd{i:Nat}:xy i K .ret st=K .ret st:=rfl
@[go_sem] theorem Kq{i j:Nat}:xy i K (.exit j) st=if j=i then K .normal st else K (.exit j) st:=rfl
@[go_sem] theorem PR{t:Option Nat}{b:Bool}{p q:Prop}:mD (.im t (.sc (.bool b))) p q=((b=true→p)∧(b=false→q)):=rfl
@[go_sem] theorem TT{b:Bool}{p q:Prop}:iy (.tup []) b p q=q:=rfl
@[go_sem] theorem V3{t:Option Nat}{c b:Bool}{p q:Prop}:iy (.im t (.sc (.bool c))) b p q=((c=b→p)∧(c=!b→q)):=rfl
@[go_sem ↓] theorem Kz:a8 P [] st K=K .normal st:=rfl
@[go_sem] theorem Kc{t:Nat}{b:Bool}{r:ff}{l:List RO}:a8 P (⟨some (t,b),r⟩::l) st K=iy (st.get t) b (a8 P (⟨none,r⟩::l) st K) (a8 P l (st.setO r.dst (.tup [])) K):=rfl

@[go_sem] theorem VP{f:St→Prop}{d:Option Nat}{v:AV}:kq f st d v []=f (st.setO d v):=rfl
@[go_sem] theorem Sv{f:St→Prop}{d:Option Nat}{v:AV}{x:Nat×U}{us:List (Nat×U)}:kq f st d v (x::us)=(st.fresh (x::us)=true∧f ((st.addUs (x::us)).setO d v)):=rfl
@[go_sem] theorem KB{d:Nat}{v:AV}:St.setO ⟨n,env,us⟩ (some d) v=⟨n,(d,v)::env,us⟩:=rfl
@[go_sem] theorem JV{v:AV}:St.setO ⟨n,env,us⟩ none v=⟨n,env,us⟩:=rfl
@[go_sem] theorem Ty{d:Nat}{v:AV}:St.set ⟨n,env,us⟩ d v=⟨n,(d,v)::env,us⟩:=rfl
@[go_sem] theorem Kr{vs:List (Nat×U)}:St.addUs ⟨n,env,us⟩ vs=⟨n,env,vs++us⟩:=rfl
@[go_sem] theorem ev_t{i:Nat}:St.ev ⟨n,env,us⟩ (.t i)=lk env i:=rfl
@[go_sem] theorem ev_c{d:D}:st.ev (.c d)=jc d:=rfl
@[go_sem] theorem Su{i:Nat}:St.get ⟨n,env,us⟩ i=lk env i:=rfl
@[go_sem] theorem Ni{i:Nat}:St.unit ⟨n,env,us⟩ i=lu us i:=rfl
@[go_sem] theorem QP{k t:Nat}{v:AV}{r:List (Nat×AV)}:lk ((k,v)::r) t=if k=t then v else lk r t:=rfl
@[go_sem] theorem T6{t:Nat}:lk [] t=.any:=rfl
@[go_sem] theorem Q7{k t:Nat}{v:U}{r:List (Nat×U)}:lu ((k,v)::r) t=if k=t then some v else lu r t:=rfl
@[go_sem] theorem VC{t:Nat}:lu [] t=none:=rfl
attribute [go_sem] ch aL gI U.kill AV.refs AV.refsL AV.soft AV.softL AV.softC jJ
@[go_sem] theorem Sc{k:Nat}:St.del ⟨n,env,us⟩ k=⟨n,ch (AV.refs k) env,aL k (AV.refs k) us⟩:=rfl
@[go_sem] theorem Ov{k el:Nat}{u:U}:St.updC ⟨n,env,us⟩ k el u=⟨n,ch (AV.softC k el) env,(k,u)::aL k (AV.softC k el) us⟩:=rfl
@[go_sem] theorem Ss{k:Nat}{u:U}:St.upd ⟨n,env,us⟩ k u=⟨n,ch (AV.soft k) env,(k,u)::aL k (AV.soft k) us⟩:=rfl
@[go_sem] theorem Qs{k:Nat}{u:U}:St.upr ⟨n,env,us⟩ k u=⟨n,ch (AV.refs k) env,(k,u)::aL k (AV.refs k) us⟩:=rfl
@[go_sem] theorem JL:st.fresh []=true:=rfl
@[go_sem] theorem Jf{x:Nat×U}{r:List (Nat×U)}:St.fresh ⟨n,env,us⟩ (x::r)=(jJ x.1 us&&jJ x.1 r&&St.fresh ⟨n,env,us⟩ r):=rfl
@[go_sem ↓] theorem NF{d:Nat}{x:X}{l:List RO}:a8 P (⟨none,.mv d x⟩::l) st K=kq (cV P l K) st (some d) (st.ev x) []:=rfl
@[go_sem ↓] theorem Iu{d:Nat}{c a b:X}{l:List RO}:a8 P (⟨none,.pick d c a b⟩::l) st K=jn (st.ev c) (st.ev a) (st.ev b) (kq (cV P l K) st (some d)):=rfl
@[go_sem ↓] theorem Ks{d sz:Nat}{x:X}{l:List RO}:a8 P (⟨none,.box d sz x⟩::l) st K=pJ (st.ev x) st.unit d sz (kq (cV P l K) st (some d)):=rfl
@[go_sem ↓] theorem KW{d sz:Nat}{z:D}{l:List RO}:a8 P (⟨none,.zer d sz z⟩::l) st K=((0<sz∧z.size=sz∧z.noPtr=true)∧kq (cV P l K) st (some d) (.pw d 0 0) [(d,.ar true (some false) sz [z])]):=rfl
@[go_sem ↓] theorem OR{d sz:Nat}{g:Bool}{a:X}{l:List RO}:a8 P (⟨none,.ld d g sz a⟩::l) st K=vF (st.ev a) st.unit g sz (kq (cV P l K) st (some d)):=rfl
@[go_sem ↓] theorem Kp{d:Nat}{x:X}{l:List RO}:a8 P (⟨none,.nck d x⟩::l) st K=kZ (st.ev x) (kq (cV P l K) st (some d)):=rfl
@[go_sem ↓] theorem Lg{d:Nat}{op:BinOp}{x y:X}{l:List RO}:a8 P (⟨none,.bin d op x y⟩::l) st K=xT op (st.ev x) (st.ev y) (kq (cV P l K) st (some d)):=rfl
@[go_sem ↓] theorem Ke{d:Nat}{neg:Bool}{x y:X}{l:List RO}:a8 P (⟨none,.beq d neg x y⟩::l) st K=xI neg (st.ev x) (st.ev y) (kq (cV P l K) st (some d)):=rfl
@[go_sem ↓] theorem Ib{d:Nat}{neg:Bool}{x y:X}{l:List RO}:a8 P (⟨none,.snil d neg x y⟩::l) st K=qU neg (st.ev x) (st.ev y) (kq (cV P l K) st (some d)):=rfl
@[go_sem ↓] theorem JW{d n:Nat}{neg:Bool}{x y:X}{l:List RO}:a8 P (⟨none,.ceq d neg n x y⟩::l) st K=xO neg (st.ev x) (st.ev y) n (kq (cV P l K) st (some d)):=rfl
@[go_sem ↓] theorem Oe{d:Nat}{op:UnOp}{x:X}{l:List RO}:a8 P (⟨none,.un d op x⟩::l) st K=Fl op (st.ev x) (kq (cV P l K) st (some d)):=rfl
@[go_sem ↓] theorem KH{d:Nat}{kd:IntKind}{x:X}{l:List RO}:a8 P (⟨none,.cvt d kd x⟩::l) st K=xz kd (st.ev x) (kq (cV P l K) st (some d)):=rfl
@[go_sem ↓] theorem Nu{d sz bytes:Nat}{z:D}{q c:X}{l:List RO}:a8 P (⟨none,.mk d sz bytes z q c⟩::l) st K=G8 (st.ev q) (st.ev c) d sz bytes z (kq (cV P l K) st (some d)):=rfl
@[go_sem ↓] theorem KC{d sz:Nat}{x:X}{lo hi:Option X}{l:List RO}:a8 P (⟨none,.slc d sz x lo hi⟩::l) st K=sZ (st.ev x) st.ev st.unit sz lo hi (kq (cV P l K) st (some d)):=rfl
@[go_sem ↓] theorem M8{d off:Nat}{x:X}{l:List RO}:a8 P (⟨none,.fa d off x⟩::l) st K=yL (st.ev x) st.unit off (kq (cV P l K) st (some d)):=rfl
@[go_sem ↓] theorem Lj{d f:Nat}{xs:List X}{l:List RO}:a8 P (⟨none,.mkf d f xs⟩::l) st K=kq (cV P l K) st (some d) (.cl f (xs.map st.ev)) []:=rfl
@[go_sem ↓] theorem Kf{d sz:Nat}{l:List RO}:a8 P (⟨none,.bse d sz⟩::l) st K=(0<sz∧kq (cV P l K) st (some d) (.z0 (some false) sz) []):=rfl
@[go_sem ↓] theorem JT{d:Nat}{x:X}{l:List RO}:a8 P (⟨none,.cvs d x⟩::l) st K=vU (st.ev x) st.unit (kq (cV P l K) st (some d)):=rfl
@[congr] theorem Sp{x x':AV}{un:Nat→Option U}{k:KQ}(h0:x=x'):vU x un k=vU x' un k:=by rw[h0]
@[go_sem] theorem Rx{id len:Nat}{un:Nat→Option U}{k:KQ}:vU (.vb id len) un k=yb (un id) len k:=rfl
@[congr] theorem RS{u u':Option U}{len:Nat}{k:KQ}(h0:u=u'):yb u len k=yb u' len k:=by rw[h0]
@[go_sem] theorem Sd{sz len:Nat}{items:List AV}{k:KQ}:yb (some (.bx sz items)) len k=((sz=1∧len=items.length)∧Ar (il items) k):=rfl
@[congr] theorem QG{q q':Option (List UInt8)}{k:KQ}(h0:q=q'):Ar q k=Ar q' k:=by rw[h0]
@[go_sem] theorem Lf{bs:List UInt8}{k:KQ}:Ar (some bs) k=k (.im none (.sc (.string ⟨bs.toArray⟩))) []:=rfl
@[go_sem] theorem In:il []=some []:=rfl
@[go_sem] theorem GR{t:Option Nat}{n:Int}{r:List AV}:il (.im t (.sc (.int .u8 n))::r)=(match il r with|some bs=>some (UInt8.ofNat n.toNat::bs)|none=>none):=by
 simp only[il,DJ];cases il r<;>rfl
@[go_sem ↓] theorem La{d T E:Nat}{l:List RO}:a8 P (⟨none,.zsb d T E⟩::l) st K=(d<3000000000∧kq (cV P l K) st (some d) (.ps d) [(d,.sb T E ⟨#[]⟩)]):=rfl
@[go_sem ↓] theorem KN{d:Option Nat}{g:Nat}{xs:List X}{l:List RO}:a8 P (⟨none,.wcl d g xs⟩::l) st K=x8 P d g (xs.map st.ev) st (cV P l K):=rfl
@[congr] theorem Qw{args args':List AV}{d:Option Nat}{g:Nat}{st st':St}{k:St→Prop}(h2:args=args')(h3:st=st'):x8 P d g args st k=x8 P d g args' st' k:=by rw[h2,h3]
@[go_sem] theorem N7{n k:Nat}:bb [] n k=none:=rfl
@[go_sem] theorem Kl{i n k:Nat}{r:List Nat}:bb (i::r) n k=if i=k then some n else bb r (n+1) k:=rfl
@[go_sem] theorem N9{k1 k2:List Nat}:iD k1 k2=fun v=>re k1 v||rm k2 v:=rfl
@[go_sem] theorem J9{v:AV}:re [] v=false:=rfl
@[go_sem] theorem H8{i:Nat}{r:List Nat}{v:AV}:re (i::r) v=(v.soft i||re r v):=rfl
@[go_sem] theorem Ka{v:AV}:rm [] v=false:=rfl
@[go_sem] theorem IQ{i:Nat}{r:List Nat}{v:AV}:rm (i::r) v=(v.refs i||rm r v):=rfl
@[go_sem] theorem MC{ids k1 k2:List Nat}{us':List U}:gt ids k1 k2 us' []=[]:=rfl
@[go_sem] theorem J7{ids k1 k2:List Nat}{us':List U}{i:Nat}{u:U}{r:List (Nat×U)}:gt ids k1 k2 us' ((i,u)::r)=if(bb k2 0 i).isSome=true then gt ids k1 k2 us' r else(i,nP (bb k1 0 i) ids k1 k2 us' u)::gt ids k1 k2 us' r:=rfl
@[go_sem] theorem I0{ids k1 k2:List Nat}{us':List U}{u:U}:nP none ids k1 k2 us' u=u.kill (iD k1 k2):=rfl
@[go_sem] theorem JB{q:Nat}{ids k1 k2:List Nat}{us':List U}{u:U}:nP (some q) ids k1 k2 us' u=o8 ids u (us'.getD q default):=rfl
@[congr] theorem Pf{q q':Option Nat}{ids k1 k2:List Nat}{us':List U}{u:U}(h:q=q'):nP q ids k1 k2 us' u=nP q' ids k1 k2 us' u:=by rw[h]
@[go_sem] theorem QW{ids:List Nat}{ow:Bool}{nn:Option Bool}{sz:Nat}{es:List D}{ow':Bool}{nn':Option Bool}{sz':Nat}{es':List D}:o8 ids (.ar ow nn sz es) (.ar ow' nn' sz' es')=.ar ow' nn sz' es':=rfl
@[go_sem] theorem Tn{ids:List Nat}{sz:Nat}{items:List AV}{sz':Nat}{items':List AV}:o8 ids (.bx sz items) (.bx sz' items')=.bx sz' (ku ids items'):=rfl
@[go_sem] theorem M9{ids:List Nat}:ku ids []=[]:=by simp[ku]
@[go_sem] theorem KJ{ids:List Nat}{v:AV}{vs:List AV}:ku ids (v::vs)=v.unW ids::ku ids vs:=by simp[ku]
@[go_sem] theorem Vb{ids:List Nat}{k el j:Nat}:AV.unW ids (.pw k el j)=.pw (ids.getD (k-3000000000) 0) el j:=by simp[AV.unW]
@[go_sem] theorem UT{ids:List Nat}{k j:Nat}:AV.unW ids (.pb k j)=.pb (ids.getD (k-3000000000) 0) j:=by simp[AV.unW]
@[go_sem] theorem UQ{ids:List Nat}{f:Nat}{vs:List AV}:AV.unW ids (.cl f vs)=.cl f (ku ids vs):=by simp[AV.unW]
@[go_sem] theorem Uf{ids:List Nat}{vs:List AV}:AV.unW ids (.sg vs)=.sg (ku ids vs):=by simp[AV.unW]
@[go_sem] theorem U4{ids:List Nat}{t:Option Nat}{d:D}:AV.unW ids (.im t d)=.im t d:=by simp[AV.unW]
@[go_sem] theorem JP{x d:Nat}{r:List Nat}:(x::r).getD 0 d=x:=rfl
@[go_sem] theorem Oy{x y d:Nat}{r:List Nat}:(x::y::r).getD 1 d=y:=rfl
@[go_sem] theorem J5{x:U}{r:List U}:(x::r).getD 0 default=x:=rfl
@[go_sem] theorem NV{x y:U}{r:List U}:(x::y::r).getD 1 default=y:=rfl
@[go_sem] theorem OP{x y z:U}{r:List U}:(x::y::z::r).getD 2 default=z:=rfl
@[go_sem] theorem LM{k1 k2:List Nat}{us':List U}:St.updW ⟨n,env,us⟩ k1 k2 us'=⟨n,ch (iD k1 k2) env,gt (k1++k2) k1 k2 us' us⟩:=rfl
@[go_sem] theorem OJ{m:Nat}{b:Bool}{r:List U}:bH m b r []=True:=by cases r<;>rfl
@[go_sem] theorem K8{m:Nat}{b:Bool}{u u':U}{r r':List U}:bH m b (u::r) (u'::r')=(bp m b u u'∧bH m b r r'):=rfl
@[go_sem] theorem RF{m:Nat}{b:Bool}{ow:Bool}{nn:Option Bool}{sz:Nat}{es:List D}{ow':Bool}{nn':Option Bool}{sz':Nat}{es':List D}:bp m b (.ar ow nn sz es) (.ar ow' nn' sz' es')=(nn'=none∧sz'=sz∧es'.length=es.length∧(b=true∨ow'=true∨af es'=true)):=rfl
@[go_sem] theorem RG{m:Nat}{b:Bool}{sz:Nat}{items:List AV}{sz':Nat}{items':List AV}:bp m b (.bx sz items) (.bx sz' items')=(sz'=sz∧items'.length=items.length∧eL m items'=true):=rfl
@[go_sem] theorem NJ{m:Nat}:eL m []=true:=by simp[eL]
@[go_sem] theorem Kx{m:Nat}{v:AV}{vs:List AV}:eL m (v::vs)=(v.okW m&&eL m vs):=by simp[eL]
@[go_sem] theorem VY{m:Nat}{d:D}:AV.okW m (.im none d)=d.flat:=by simp[AV.okW]
@[go_sem] theorem Tz{m k el j:Nat}:AV.okW m (.pw k el j)=(decide (3000000000≤k)&&decide (k<3000000000+m)):=by simp[AV.okW]
@[go_sem] theorem VG{m k j:Nat}:AV.okW m (.pb k j)=(decide (3000000000≤k)&&decide (k<3000000000+m)):=by simp[AV.okW]
@[go_sem] theorem TL{m f:Nat}{vs:List AV}:AV.okW m (.cl f vs)=eL m vs:=by simp[AV.okW]
@[go_sem] theorem T3{m:Nat}{vs:List AV}:AV.okW m (.sg vs)=eL m vs:=by simp[AV.okW]
@[go_sem] theorem Ol{ids:List Nat}:bm ids []=true:=by simp[bm]
@[go_sem] theorem K9{ids:List Nat}{v:AV}{r:List AV}:bm ids (v::r)=(v.shW ids&&bm ids r):=by simp[bm]
@[go_sem] theorem Ml{ids:List Nat}{un:Nat→Option U}:bC ids un []=true:=rfl
@[go_sem] theorem KM{ids:List Nat}{un:Nat→Option U}{i:Nat}{r:List Nat}:bC ids un (i::r)=(U.shW ids (un i)&&bC ids un r):=rfl
@[go_sem] theorem S1{ids:List Nat}{ow:Bool}{nn:Option Bool}{sz:Nat}{es:List D}:U.shW ids (some (.ar ow nn sz es))=true:=rfl
@[go_sem] theorem NC{ids:List Nat}{d:D}:U.shW ids (some (.own d))=true:=rfl
@[go_sem] theorem Rt{ids:List Nat}{sz:Nat}{items:List AV}:U.shW ids (some (.bx sz items))=bm ids items:=rfl
@[go_sem] theorem V9{ids:List Nat}{d:D}:(AV.im none d).shW ids=true:=by simp[AV.shW]
@[go_sem] theorem RB{ids:List Nat}{d:D}{t:Nat}:(AV.im (some t) d).shW ids=d.noPtr:=by simp[AV.shW]
@[go_sem] theorem Ua{ids:List Nat}{id el j:Nat}:(AV.pw id el j).shW ids=(bb ids 0 id).isSome:=by simp[AV.shW]
@[go_sem] theorem UF{ids:List Nat}{id off len:Nat}:(AV.sm id off len).shW ids=(bb ids 0 id).isSome:=by simp[AV.shW]
@[go_sem] theorem TP{ids:List Nat}{f:Nat}{vs:List AV}:(AV.cl f vs).shW ids=bm ids vs:=by simp[AV.shW]
@[go_sem] theorem U8{ids:List Nat}{vs:List AV}:(AV.sg vs).shW ids=bm ids vs:=by simp[AV.shW]
@[go_sem] theorem Vr{ids:List Nat}{i:Nat}:(AV.tr i).shW ids=(bb ids 0 i).isSome:=by simp[AV.shW]
@[go_sem] theorem Vj{ids:List Nat}{i j:Nat}:(AV.pb i j).shW ids=true:=by simp[AV.shW]
@[go_sem] theorem Uv{ids:List Nat}{id el j sz:Nat}{agg:Bool}:(AV.cw id el j sz agg).shW ids=false:=by simp[AV.shW]
@[go_sem] theorem TV{ids:List Nat}{id len:Nat}:(AV.vb id len).shW ids=false:=by simp[AV.shW]
@[go_sem ↓] theorem LH{d sz:Nat}{x i:X}{l:List RO}:a8 P (⟨none,.ia d sz x i⟩::l) st K=xf (st.ev x) (st.ev i) st.unit sz (kq (cV P l K) st (some d)):=rfl
@[go_sem ↓] theorem KA{d:Nat}{x:X}{l:List RO}:a8 P (⟨none,.len d x⟩::l) st K=jP (st.ev x) st.unit (kq (cV P l K) st (some d)):=rfl
@[go_sem ↓] theorem IX{d:Option Nat}{f:Nat}{args:List X}{l:List RO}:a8 P (⟨none,.call d f args⟩::l) st K=gK P d f (args.map st.ev) st.unit (kq (cV P l K) st d):=rfl
@[go_sem ↓] theorem Jq{d:Option Nat}{x:X}{args:List X}{l:List RO}:a8 P (⟨none,.calv d x args⟩::l) st K=kD (st.ev x) P d (args.map st.ev) st.unit (kq (cV P l K) st d):=rfl
@[go_sem ↓] theorem J3{d i:Nat}{x:X}{l:List RO}:a8 P (⟨none,.ext d x i⟩::l) st K=rv (st.ev x) i (kq (cV P l K) st (some d)):=rfl
@[go_sem ↓] theorem M4{d sz len:Nat}{z:D}{ps:List (Nat×X)}{l:List RO}:a8 P (⟨none,.bs d sz z len ps⟩::l) st K=Gv (ps.map fun p=>(p.1,st.ev p.2)) st.unit d sz len (kq (cV P l K) st (some d)):=rfl
@[go_sem ↓] theorem Li{d:Nat}{z:D}{ps:List (Nat×Nat×X)}{l:List RO}:a8 P (⟨none,.bld d z ps⟩::l) st K=vR (ps.map fun p=>(p.1,p.2.1,st.ev p.2.2)) st.unit z (kq (cV P l K) st (some d)):=rfl
@[go_sem ↓] theorem Lh{d sz bytes:Nat}{x y:X}{l:List RO}:a8 P (⟨none,.app d sz bytes x y⟩::l) st K=iE st sz (st.ev y) (xi x d sz bytes (cV P l K)):=rfl
@[go_sem ↓] theorem KS{d sz bytes:Nat}{x y:X}{l:List RO}:a8 P (⟨none,.aps d sz bytes x y⟩::l) st K=D1 st sz (st.ev y) (zm x d sz bytes (cV P l K)):=rfl
@[go_sem ↓] theorem JR{sz:Nat}{a x:X}{l:List RO}:a8 P (⟨none,.stp sz a x⟩::l) st K=qi (st.ev a) (st.ev x) st sz (cV P l K):=rfl
@[go_sem ↓] theorem Kh{d:Option Nat}{g:Nat}{xs:List X}{l:List RO}:a8 P (⟨none,.lcl d g xs⟩::l) st K=yC P d g xs st (cV P l K):=rfl
@[go_sem ↓] theorem KV{d sz len:Nat}{ps:List (Nat×X)}{l:List RO}:a8 P (⟨none,.bss d sz len ps⟩::l) st K=CN (ps.map fun p=>(p.1,st.ev p.2)) st d sz len (cV P l K):=rfl
@[congr] theorem Tt{ps ps':List (Nat×AV)}{st st':St}{d sz len:Nat}{f:St→Prop}(h:ps=ps')(h':st=st'):CN ps st d sz len f=CN ps' st' d sz len f:=by rw[h,h']
@[go_sem] theorem Tc{ps:List (Nat×AV)}{st:St}{d sz len:Nat}{f:St→Prop}:CN ps st d sz len f=((ps.map (·.1)=List.range len∧0<sz∧len*sz≤16777216)∧kt st (ps.map (·.2)) (D2 d sz len f)):=rfl
@[congr] theorem P1{d sz len:Nat}{f:St→Prop}{ds ds':List D}{st st':St}(h:ds=ds')(h':st=st'):D2 d sz len f ds st=D2 d sz len f ds' st':=by rw[h,h']
@[go_sem] theorem SR{d sz len:Nat}{f:St→Prop}{ds:List D}{st':St}:D2 d sz len f ds st'=(((∀e∈ds,e.size=sz)∧st'.fresh [(d,.own .jk)]=true)∧f ((st'.addUs [(d,.ar false (some false) sz ds)]).set d (.sm d 0 len))):=rfl
@[congr] theorem U9{st st':St}{sz:Nat}{v v':AV}{k:List D→St→Prop}(h:st=st')(h':v=v'):D1 st sz v k=D1 st' sz v' k:=by rw[h,h']
@[congr] theorem TG{u u':Option U}{i len sz:Nat}{st:St}{k:List D→St→Prop}(h:u=u'):Kb u i len sz st k=Kb u' i len sz st k:=by rw[h]
@[congr] theorem PP{u u':Option U}{off len sz:Nat}{st:St}{k:List D→St→Prop}(h:u=u'):vQ u off len sz st k=vQ u' off len sz st k:=by rw[h]
@[congr] theorem Rm{x:X}{d sz bytes:Nat}{f:St→Prop}{ds ds':List D}{st st':St}(h2:ds=ds')(h3:st=st'):zm x d sz bytes f ds st=zm x d sz bytes f ds' st':=by rw[h2,h3]
@[congr] theorem Rr{x x':AV}{d sz bytes:Nat}{f:St→Prop}{ds ds':List D}{st st':St}(h1:x=x')(h2:ds=ds')(h3:st=st'):Cv x d sz bytes f ds st=Cv x' d sz bytes f ds' st':=by rw[h1,h2,h3]
@[congr] theorem QK{u u':Option U}{id off len:Nat}{ds ds':List D}{st st':St}{d sz bytes:Nat}{f:St→Prop}(h1:u=u')(h2:ds=ds')(h3:st=st'):Ct u id off len ds st d sz bytes f=Ct u' id off len ds' st' d sz bytes f:=by rw[h1,h2,h3]
@[congr] theorem S7{a a' x x':AV}{st:St}{sz:Nat}{f:St→Prop}(h0:a=a')(h1:x=x'):qi a x st sz f=qi a' x' st sz f:=by rw[h0,h1]
@[congr] theorem Tp{d:Option Nat}{g:Nat}{xs:List X}{st st':St}{k:St→Prop}(h:st=st'):yC P d g xs st k=yC P d g xs st' k:=by rw[h]
@[go_sem] theorem Wr{st:St}{sz i len:Nat}{k:List D→St→Prop}:D1 st sz (.vb i len) k=Kb (st.unit i) i len sz st k:=rfl
@[go_sem] theorem Us{st:St}{sz sz':Nat}{nn:Option Bool}{ds:List D}{k:List D→St→Prop}:D1 st sz (.im none (.ls nn sz' ds)) k=(sz'=sz∧k ds st):=rfl
@[go_sem] theorem UP{st:St}{sz i off len:Nat}{k:List D→St→Prop}:D1 st sz (.sm i off len) k=vQ (st.unit i) off len sz st k:=rfl
@[go_sem] theorem U0{st:St}{sz i off len:Nat}{k:List D→St→Prop}:D1 st sz (.ss i off len) k=vQ (st.unit i) off len sz st k:=rfl
@[go_sem] theorem TE{oC:Nat}{items:List AV}{i len sz:Nat}{st:St}{k:List D→St→Prop}:Kb (some (.bx oC items)) i len sz st k=((oC=sz∧len=items.length)∧kt (st.del i) items k):=rfl
@[go_sem] theorem Rc{nn:Option Bool}{usz:Nat}{es:List D}{off len sz:Nat}{st:St}{k:List D→St→Prop}:vQ (some (.ar false nn usz es)) off len sz st k=(usz=sz∧k ((es.drop off).take len) st):=rfl
@[go_sem] theorem QN{x:X}{d sz bytes:Nat}{f:St→Prop}{ds:List D}{st':St}:zm x d sz bytes f ds st'=Cv (st'.ev x) d sz bytes f ds st':=rfl
@[go_sem] theorem Q3{id off len:Nat}{d sz bytes:Nat}{f:St→Prop}{ds:List D}{st':St}:Cv (.sm id off len) d sz bytes f ds st'=Ct (st'.unit id) id off len ds st' d sz bytes f:=rfl
@[go_sem] theorem Sf{ow:Bool}{nn:Option Bool}{usz:Nat}{es:List D}{id off len:Nat}{ds:List D}{st':St}{d sz bytes:Nat}{f:St→Prop}:Ct (some (.ar ow nn usz es)) id off len ds st' d sz bytes f=
  ((usz = sz ∧ 0 < sz ∧ off = 0 ∧ tP len es ∧ (ow = false ∨ mr len es = []) ∧ (len + ds.length) * bytes ≤ 140737488355328 ∧ len + ds.length ≤ aT ∧ (∀ e ∈ ds, e.size = sz)) ∧
    f ((st'.upr id (.ar false (ba nn ds) sz (mr len es++ds))).set d (.sm id 0 (len+ds.length)))):=rfl
@[go_sem] theorem SU{i off len id el j:Nat}{st:St}{sz:Nat}{f:St→Prop}:qi (.pw id el j) (.sm i off len) st sz f=Fb (st.unit id) id el j sz (.sm i off len) st f:=rfl
@[go_sem] theorem SS{i off len id j:Nat}{st:St}{sz:Nat}{f:St→Prop}:qi (.pb id j) (.sm i off len) st sz f=FT (st.unit id) id j sz (.sm i off len) st f:=rfl
@[go_sem] theorem QJ{a:AV}{t:Option Nat}{e:D}{st:St}{sz:Nat}{f:St→Prop}:qi a (.im t e) st sz f=yW a (.im t e) st sz f:=rfl
@[go_sem] theorem S2{a:AV}{i:Nat}{st:St}{sz:Nat}{f:St→Prop}:qi a (.tr i) st sz f=yW a (.tr i) st sz f:=rfl
@[go_sem] theorem Rn{a:AV}{vs:List AV}{st:St}{sz:Nat}{f:St→Prop}:qi a (.sg vs) st sz f=yW a (.sg vs) st sz f:=rfl
@[go_sem] theorem PV{a:AV}{i el j cz:Nat}{cg:Bool}{st:St}{sz:Nat}{f:St→Prop}:qi a (.cw i el j cz cg) st sz f=yW a (.cw i el j cz cg) st sz f:=rfl
@[go_sem] theorem Rz{a:AV}{i el j:Nat}{st:St}{sz:Nat}{f:St→Prop}:qi a (.pw i el j) st sz f=yW a (.pw i el j) st sz f:=rfl
@[go_sem] theorem TI{i off len:Nat}{usz j sz:Nat}{k:KQ}:rb (.sm i off len) usz j sz false k=if j=0∧sz=usz then k (.sm i off len) []else False:=by simp[rb,cL,AV.one0,C0]
@[go_sem] theorem Qk{i off len:Nat}{x:AV}{usz j sz:Nat}{k:AV→Prop}:xN (.sm i off len) x usz j sz k=if j=0∧sz=usz then k x else False:=rfl
@[go_sem] theorem N6{x:AV}{usz j sz:Nat}{k:AV→Prop}:xN .any x usz j sz k=if j=0∧sz=usz then k x else False:=rfl
@[go_sem] theorem vn{ds:List D}:ba (some false) ds=some false:=by cases ds<;>rfl
attribute [go_sem] fu
@[congr] theorem TK{st st':St}{v v':AV}{k:D→St→Prop}(h:st=st')(h':v=v'):nx st v k=nx st' v' k:=by rw[h,h']
@[congr] theorem SP{st st':St}{v v':List AV}{k:List D→St→Prop}(h:st=st')(h':v=v'):kt st v k=kt st' v' k:=by rw[h,h']
@[congr] theorem RN{u u':Option U}{i off len:Nat}{st:St}{k:D→St→Prop}(h:u=u'):CX u i off len st k=CX u' i off len st k:=by rw[h]
@[congr] theorem Vc{k:D→St→Prop}{o o':Bool}{d d':D}{st st':St}(h1:o=o')(h2:d=d')(h3:st=st'):E2 k o d st=E2 k o' d' st':=by rw[h1,h2,h3]
@[congr] theorem Vw{k:D→St→Prop}{d d':List D}{st st':St}(h2:d=d')(h3:st=st'):J0 k d st=J0 k d' st':=by rw[h2,h3]
@[congr] theorem Vz{d d':D}{k:List D→St→Prop}{ds ds':List D}{st st':St}(h1:d=d')(h2:ds=ds')(h3:st=st'):JF d k ds st=JF d' k ds' st':=by rw[h1,h2,h3]
@[congr] theorem UB{vs vs':List AV}{k:List D→St→Prop}{d d':D}{st st':St}(h1:vs=vs')(h2:d=d')(h3:st=st'):Rh vs k d st=Rh vs' k d' st':=by rw[h1,h2,h3]
@[go_sem] theorem VZ{st:St}{i off len:Nat}{k:D→St→Prop}:nx st (.sm i off len) k=CX (st.unit i) i off len st k:=by simp only[nx]
@[go_sem] theorem UU{st:St}{vs:List AV}{k:D→St→Prop}:nx st (.sg vs) k=kt st vs (J0 k):=by simp only[nx]
@[go_sem] theorem Uj{st:St}{t:Option Nat}{d:D}{k:D→St→Prop}:nx st (.im t d) k=bo st (.im t d) (E2 k):=by simp only[nx]
@[go_sem] theorem Wz{st:St}{i:Nat}{k:D→St→Prop}:nx st (.tr i) k=bo st (.tr i) (E2 k):=by simp only[nx]
@[go_sem] theorem Wl{st:St}{i el j sz:Nat}{agg:Bool}{k:D→St→Prop}:nx st (.cw i el j sz agg) k=bo st (.cw i el j sz agg) (E2 k):=by simp only[nx]
@[go_sem] theorem PI{st:St}{k:List D→St→Prop}:kt st [] k=k [] st:=by simp only[kt]
@[go_sem] theorem KF{st:St}{v:AV}{vs:List AV}{k:List D→St→Prop}:kt st (v::vs) k=nx st v (Rh vs k):=by simp only[kt];rfl
@[go_sem] theorem Rq{ow:Bool}{nn:Option Bool}{sz:Nat}{es:List D}{i off len:Nat}{st:St}{k:D→St→Prop}:CX (some (.ar ow nn sz es)) i off len st k=((off=0∧len=es.length)∧k (.ls nn sz es) (st.del i)):=rfl
@[go_sem] theorem TC{k:D→St→Prop}{o:Bool}{d:D}{st:St}:E2 k o d st=k d st:=rfl
@[go_sem] theorem TW{k:D→St→Prop}{ds:List D}{st:St}:J0 k ds st=k (.ag (ds.map D.cells).flatten) st:=rfl
@[go_sem] theorem We{d:D}{k:List D→St→Prop}{ds:List D}{st:St}:JF d k ds st=k (d::ds) st:=rfl
@[go_sem] theorem V1{vs:List AV}{k:List D→St→Prop}{d:D}{st:St}:Rh vs k d st=kt st vs (JF d k):=rfl
@[go_sem ↓] theorem Nb{sz:Nat}{a x:X}{l:List RO}:a8 P (⟨none,.st sz a x⟩::l) st K=yW (st.ev a) (st.ev x) st sz (cV P l K):=rfl
@[congr] theorem Lp{c c':AV}{a a':AV}{b b':AV}{k:KQ}(h0:c=c')(h1:a=a')(h2:b=b'):jn c a b k=jn c' a' b' k:=by rw[h0,h1,h2]
@[congr] theorem RI{x x':AV}{un:Nat→Option U}{d:Nat}{sz:Nat}{k:KQ}(h0:x=x'):pJ x un d sz k=pJ x' un d sz k:=by rw[h0]
@[congr] theorem Uy{u u':Option U}{id:Nat}{el:Nat}{j:Nat}{agg:Bool}{sz:Nat}{k:KQ}(h0:u=u'):G7 u id el j agg sz k=G7 u' id el j agg sz k:=by rw[h0]
@[congr] theorem U6{a a':AV}{un:Nat→Option U}{agg:Bool}{sz:Nat}{k:KQ}(h0:a=a'):vF a un agg sz k=vF a' un agg sz k:=by rw[h0]
@[congr] theorem Th{x x':AV}{k:KQ}(h0:x=x'):kZ x k=kZ x' k:=by rw[h0]
@[congr] theorem SG{op:BinOp}{x x':AV}{y y':AV}{k:KQ}(h0:x=x')(h1:y=y'):xT op x y k=xT op x' y' k:=by rw[h0,h1]
@[congr] theorem RY{neg:Bool}{x x' y y':AV}{k:KQ}(h0:x=x')(h1:y=y'):xI neg x y k=xI neg x' y' k:=by rw[h0,h1]
@[congr] theorem PE{neg:Bool}{x x' y y':AV}{k:KQ}(h0:x=x')(h1:y=y'):qU neg x y k=qU neg x' y' k:=by rw[h0,h1]
@[congr] theorem QX{neg:Bool}{x x' y y':AV}{n:Nat}{k:KQ}(h0:x=x')(h1:y=y'):xO neg x y n k=xO neg x' y' n k:=by rw[h0,h1]
@[go_sem] theorem Vy{neg:Bool}{t u:Option Nat}{p q:Bool}{k:KQ}:xI neg (.im t (.sc (.bool p))) (.im u (.sc (.bool q))) k=k (.im none (.sc (.bool (if neg then !(p==q)else p==q)))) []:=rfl
@[go_sem] theorem Qq{neg:Bool}{t u:Option Nat}{p:Bool}{z1 z2:Nat}{ds:List D}{k:KQ}:qU neg (.im t (.ls (some p) z1 ds)) (.im u (.ls (some true) z2 [])) k=k (.im none (.sc (.bool (if neg then !p else p)))) []:=rfl
@[go_sem] theorem UJ{neg:Bool}{t u:Option Nat}{ds es:List D}{n:Nat}{k:KQ}:xO neg (.im t (.ag ds)) (.im u (.ag es)) n k=(ds.length=n∧o4 ds es fun r=>k (.im none (.sc (.bool (if neg then !r else r)))) []):=rfl
@[go_sem] theorem Mr{f:Bool→Prop}:o4 [] [] f=f true:=rfl
@[go_sem] theorem JY{a b:IntKind}{m n:Int}{ds es:List D}{f:Bool→Prop}:o4 (.sc (.int a m)::ds) (.sc (.int b n)::es) f=(a=b∧o4 ds es fun r=>f ((m==n)&&r)):=rfl
@[congr] theorem Ub{op:UnOp}{x x':AV}{k:KQ}(h0:x=x'):Fl op x k=Fl op x' k:=by rw[h0]
@[congr] theorem Sk{kd:IntKind}{x x':AV}{k:KQ}(h0:x=x'):xz kd x k=xz kd x' k:=by rw[h0]
@[congr] theorem VT{l l':AV}{c c':AV}{d:Nat}{sz:Nat}{bytes:Nat}{z:D}{k:KQ}(h0:l=l')(h1:c=c'):G8 l c d sz bytes z k=G8 l' c' d sz bytes z k:=by rw[h0,h1]
@[congr] theorem RD{t:Option Nat}{nn:Option Bool}{sz:Nat}{ds:List D}{l l':AV}{h h':AV}{k:KQ}(h0:l=l')(h1:h=h'):AA t nn sz ds l h k=AA t nn sz ds l' h' k:=by rw[h0,h1]
@[congr] theorem RH{x x':AV}{ev:X→AV}{un:Nat→Option U}{sz:Nat}{lo:Option X}{hi:Option X}{k:KQ}(h0:x=x'):sZ x ev un sz lo hi k=sZ x' ev un sz lo hi k:=by rw[h0]
@[congr] theorem UM{u u':Option U}{id:Nat}{el:Nat}{j:Nat}{off:Nat}{k:KQ}(h0:u=u'):FH u id el j off k=FH u' id el j off k:=by rw[h0]
@[congr] theorem Wj{x x':AV}{un:Nat→Option U}{off:Nat}{k:KQ}(h0:x=x'):yL x un off k=yL x' un off k:=by rw[h0]
@[congr] theorem TM{q q':Option (Option Nat×D)}{sz:Nat}{n:Int}{k:KQ}(h0:q=q'):C4 q sz n k=C4 q' sz n k:=by rw[h0]
@[congr] theorem TN{u u':Option U}{id:Nat}{sz:Nat}{p:Nat}{k:KQ}(h0:u=u'):zJ u id sz p k=zJ u' id sz p k:=by rw[h0]
@[congr] theorem V7{x x':AV}{i i':AV}{un:Nat→Option U}{sz:Nat}{k:KQ}(h0:x=x')(h1:i=i'):xf x i un sz k=xf x' i' un sz k:=by rw[h0,h1]
@[congr] theorem Tl{q q':Option (Option Nat×D)}{k:KQ}(h0:q=q'):rB q k=rB q' k:=by rw[h0]
@[congr] theorem Tw{x x':AV}{un:Nat→Option U}{k:KQ}(h0:x=x'):jP x un k=jP x' un k:=by rw[h0]
@[congr] theorem NU{x x':AV}{Q:Program}{d:Option Nat}{args:List AV}{un:Nat→Option U}{k:KQ}(h0:x=x'):kD x Q d args un k=kD x' Q d args un k:=by rw[h0]
@[congr] theorem QZ{x x':AV}{i:Nat}{k:KQ}(h0:x=x'):rv x i k=rv x' i k:=by rw[h0]
@[congr] theorem Ul{ps ps':List (Nat×AV)}{un:Nat→Option U}{d:Nat}{sz:Nat}{len:Nat}{k:KQ}(h0:ps=ps'):Gv ps un d sz len k=Gv ps' un d sz len k:=by rw[h0]
@[congr] theorem RW{ps ps':List (Nat×Nat×AV)}{un:Nat→Option U}{z:D}{k:KQ}(h0:ps=ps'):vR ps un z k=vR ps' un z k:=by rw[h0]
@[congr] theorem Kk{u u':Option U}{i:Nat}{st:St}{k:KT}(h0:u=u'):mP u i st k=mP u' i st k:=by rw[h0]
@[congr] theorem KU{u u':Option U}{i:Nat}{off:Nat}{len:Nat}{st:St}{k:KT}(h0:u=u'):pn u i off len st k=pn u' i off len st k:=by rw[h0]
@[congr] theorem Pl{u u':Option U}{i:Nat}{len:Nat}{sz:Nat}{st:St}{k:KL}(h0:u=u'):tc u i len sz st k=tc u' i len sz st k:=by rw[h0]
@[congr] theorem Oj{q q':Option D}{sz:Nat}{st:St}{k:KL}(h0:q=q'):mC q sz st k=mC q' sz st k:=by rw[h0]
@[congr] theorem UR{u u':Option U}{id:Nat}{el:Nat}{j:Nat}{sz:Nat}{own:Bool}{d:D}{st':St}{f:St→Prop}(h0:u=u'):K1 u id el j sz own d st' f=K1 u' id el j sz own d st' f:=by rw[h0]
@[congr] theorem TA{a a':AV}{x x':AV}{st:St}{sz:Nat}{f:St→Prop}(h0:a=a')(h1:x=x'):yW a x st sz f=yW a' x' st sz f:=by rw[h0,h1]
@[congr] theorem SM{u u':Option U}{id:Nat}{off:Nat}{len:Nat}{own:Bool}{ds:List D}{st':St}{d:Nat}{sz:Nat}{bytes:Nat}{f:St→Prop}(h0:u=u'):CA u id off len own ds st' d sz bytes f=CA u' id off len own ds st' d sz bytes f:=by rw[h0]
@[congr] theorem Sz{x x':AV}{own:Bool}{ds:List D}{st':St}{d:Nat}{sz:Nat}{bytes:Nat}{f:St→Prop}(h0:x=x'):sI x own ds st' d sz bytes f=sI x' own ds st' d sz bytes f:=by rw[h0]

@[go_sem] theorem SQ{t:Option Nat}{b:Bool}{x y:AV}{k:KQ}:jn (.im t (.sc (.bool b))) x y k=((b=true→k x [])∧(b=false→k y [])):=rfl
@[go_sem] theorem Tu{e:D}{un:Nat→Option U}{d sz:Nat}{k:KQ}:pJ (.im none e) un d sz k=((0<sz∧e.size=sz)∧k (.pw d 0 0) [(d,.ar false (some false) sz [e])]):=rfl
@[go_sem] theorem U7{ow:Bool}{nn:Option Bool}{usz:Nat}{es:List D}{id el j:Nat}{agg:Bool}{sz:Nat}{k:KQ}:G7 (some (.ar ow nn usz es)) id el j agg sz k=((j+sz≤usz∧(agg=true→(D.at es el).isAg=true))∧k (D3 ow id el j sz agg (D.sub (D.at es el) j sz agg)) []):=rfl
@[go_sem] theorem SC{vs:List AV}{un:Nat→Option U}{d sz:Nat}{k:KQ}:pJ (.sg vs) un d sz k=((d<3000000000∧0<sz∧bi un sz (.sg (di vs))=true)∧k (.pb d 0) [(d,.bx sz [.sg (di vs)])]):=rfl
@[go_sem] theorem PQ{f:Nat}{vs:List AV}{un:Nat→Option U}{d sz:Nat}{k:KQ}:pJ (.cl f vs) un d sz k=((d<3000000000∧0<sz∧bi un sz (.cl f vs)=true)∧k (.pb d 0) [(d,.bx sz [.cl f vs])]):=rfl
@[go_sem] theorem P7{i el j:Nat}{un:Nat→Option U}{d sz:Nat}{k:KQ}:pJ (.pw i el j) un d sz k=((d<3000000000∧0<sz∧bi un sz (.pw i el j)=true)∧k (.pb d 0) [(d,.bx sz [.pw i el j])]):=rfl
@[go_sem] theorem Rj{i:Nat}{un:Nat→Option U}{d sz:Nat}{k:KQ}:pJ (.tr i) un d sz k=((d<3000000000∧0<sz∧bi un sz (.tr i)=true)∧k (.pb d 0) [(d,.bx sz [.tr i])]):=rfl
@[go_sem] theorem VK{id j:Nat}{un:Nat→Option U}{agg:Bool}{sz:Nat}{k:KQ}:vF (.pb id j) un agg sz k=Hd (un id) j sz agg k:=rfl
@[congr] theorem Vt{u u':Option U}{j sz:Nat}{agg:Bool}{k:KQ}(h:u=u'):Hd u j sz agg k=Hd u' j sz agg k:=by rw[h]
@[go_sem] theorem T9{usz:Nat}{x:AV}{j sz:Nat}{agg:Bool}{k:KQ}:Hd (some (.bx usz [x])) j sz agg k=((0<usz∧(agg=false→sz=1))∧rb x usz j sz agg k):=rfl
@[go_sem] theorem Wc{vs:List AV}{usz j sz:Nat}{k:KQ}:rb (.sg vs) usz j sz true k=if j=0∧sz=usz then k (.sg vs) []else C0 (.sg vs) j sz true k:=by simp[rb,cL]
@[go_sem] theorem R7{vs:List AV}{usz j sz:Nat}{k:KQ}:rb (.sg vs) usz j sz false k=C0 (.sg vs) j sz false k:=by simp[rb,cL,AV.one0]
@[go_sem] theorem T7{f:Nat}{vs:List AV}{usz j sz:Nat}{k:KQ}:rb (.cl f vs) usz j sz false k=if j=0∧sz=usz then k (.cl f vs) []else False:=by simp[rb,cL,AV.one0,C0]
@[go_sem] theorem Vg{i el j0:Nat}{usz j sz:Nat}{k:KQ}:rb (.pw i el j0) usz j sz false k=if j=0∧sz=usz then k (.pw i el j0) []else False:=by simp[rb,cL,AV.one0,C0]
@[go_sem] theorem R6{vs:List AV}{j sz:Nat}{k:KQ}:C0 (.sg vs) j sz true k=((vs.all AV.one0=true∧j+sz≤vs.length)∧k (Cl ((vs.drop j).take sz)) []):=by simp[C0]
@[go_sem] theorem SW{vs:List AV}{j sz:Nat}{k:KQ}:C0 (.sg vs) j sz false k=((vs.all AV.one0=true∧j+sz≤vs.length)∧k (vs.getD j .any) []):=by simp[C0]
@[go_sem] theorem Q1{id j:Nat}{k:KQ}:kZ (.pb id j) k=k (.pb id j) []:=rfl
@[go_sem] theorem VB{id j off:Nat}{un:Nat→Option U}{k:KQ}:yL (.pb id j) un off k=k (.pb id (j+off)) []:=rfl
@[go_sem] theorem TU{id sz:Nat}{x:AV}{st:St}{f:St→Prop}:yW (.ps id) x st sz f=HB (st.unit id) id sz x st f:=rfl
@[congr] theorem VD{u u':Option U}{id sz:Nat}{x x':AV}{st st':St}{f:St→Prop}(h0:u=u')(h1:x=x')(h2:st=st'):HB u id sz x st f=HB u' id sz x' st' f:=by rw[h0,h1,h2]
@[go_sem] theorem VR{T E:Nat}{s:ByteArray}{id sz:Nat}{x:AV}{st:St}{f:St→Prop}:HB (some (.sb T E s)) id sz x st f=((sz=2∧wC x=true)∧f (st.upd id (.sb T E ⟨#[]⟩))):=rfl
@[go_sem] theorem KY{t t':Option Nat}{q:Nat}:wC (.sg [.im t (.sc (.pointer none)),.im t' (.ls (some true) q [])])=true:=rfl
@[go_sem] theorem Uz{id j sz:Nat}{x:AV}{st:St}{f:St→Prop}:yW (.pb id j) x st sz f=FT (st.unit id) id j sz x st f:=rfl
@[congr] theorem VF{u u':Option U}{id j sz:Nat}{x:AV}{st:St}{f:St→Prop}(h:u=u'):FT u id j sz x st f=FT u' id j sz x st f:=by rw[h]
@[go_sem] theorem UY{usz:Nat}{y:AV}{id j sz:Nat}{x:AV}{st:St}{f:St→Prop}:FT (some (.bx usz [y])) id j sz x st f=((0<usz∧0<sz∧bi st.unit sz x=true∧iA x=true∧x.refs id=false∧y.refs id=false)∧xN y x usz j sz fun z=>f (st.upd id (.bx usz [z]))):=rfl
@[go_sem] theorem P3{vs:List AV}{x:AV}{usz j sz:Nat}{k:AV→Prop}:xN (.sg vs) x usz j sz k=if j=0∧sz=usz then k x else((vs.all AV.one0=true∧j<vs.length∧sz=1∧x.one0=true)∧k (.sg (vs.set j x))):=rfl
@[congr] theorem Vs{u u':Option U}{id el j sz:Nat}{x:AV}{st:St}{f:St→Prop}(h:u=u'):Fb u id el j sz x st f=Fb u' id el j sz x st f:=by rw[h]
@[go_sem] theorem T5{ow:Bool}{nn:Option Bool}{usz:Nat}{d:D}{id el j sz:Nat}{x:AV}{st:St}{f:St→Prop}:Fb (some (.ar ow nn usz [d])) id el j sz x st f=(((nn=none∨id<3000000000)∧0<sz∧el=0∧j=0∧sz=usz∧d.noPtr=true∧bi st.unit sz (dP x)=true∧iA (dP x)=true∧(dP x).refs id=false)∧f (st.cvt id (.bx sz [dP x]))):=rfl
@[go_sem] theorem Ru{id:Nat}{u:U}:St.cvt ⟨n,env,us⟩ id u=⟨n,yr id env,(id,u)::aL id (AV.refs id) us⟩:=rfl
attribute [go_sem] yr
@[go_sem] theorem Tq{id i el j:Nat}:qH id (.pw i el j)=if i=id then(if el=0 then .pb id j else .any)else .pw i el j:=rfl
@[go_sem] theorem QL{id:Nat}{t:Option Nat}{d:D}:qH id (.im t d)=if(t==some id)=true then .any else .im t d:=rfl
@[go_sem] theorem QO{id i:Nat}:qH id (.tr i)=if(i==id)=true then .any else .tr i:=rfl
@[go_sem] theorem RQ{id i el j sz:Nat}{agg:Bool}:qH id (.cw i el j sz agg)=if(i==id)=true then .any else .cw i el j sz agg:=rfl
@[go_sem] theorem Sy{id i off len:Nat}:qH id (.sm i off len)=if(i==id)=true then .any else .sm i off len:=rfl
@[go_sem] theorem Se{id i len:Nat}:qH id (.vb i len)=if(i==id)=true then .any else .vb i len:=rfl
@[go_sem] theorem SN{id i j:Nat}:qH id (.pb i j)=if(i==id)=true then .any else .pb i j:=rfl
@[go_sem] theorem Pn{id:Nat}:qH id .any=.any:=rfl
@[go_sem] theorem Sb{id f:Nat}{vs:List AV}:qH id (.cl f vs)=if AV.refsL id vs=true then .any else .cl f vs:=rfl
@[go_sem] theorem Qj{id:Nat}{vs:List AV}:qH id (.sg vs)=if AV.refsL id vs=true then .any else .sg vs:=rfl
@[go_sem] theorem Mm{id:Nat}{vs:List AV}:qH id (.tup vs)=if AV.refsL id vs=true then .any else .tup vs:=rfl
attribute [go_sem] AV.isRef AV.isRef.hasRefL AV.one0 di dP iA
@[go_sem] theorem V2{t:Option Nat}{d:D}{j:Nat}{un:Nat→Option U}{agg:Bool}{sz:Nat}{k:KQ}:vF (.im t (.pt d j)) un agg sz k=((j+sz≤d.size∧(agg=true→d.isAg=true))∧k (.im t (D.sub d j sz agg)) []):=rfl
@[go_sem] theorem Wb{t:Option Nat}{b o:Nat}{d:D}{j:Nat}{un:Nat→Option U}{agg:Bool}{sz:Nat}{k:KQ}:vF (.im t (.lc b o (.pt d j))) un agg sz k=((j+sz≤d.size∧(agg=true→d.isAg=true))∧k (.im t (D.sub d j sz agg)) []):=rfl
@[go_sem] theorem V6{id el j:Nat}{un:Nat→Option U}{agg:Bool}{sz:Nat}{k:KQ}:vF (.pw id el j) un agg sz k=G7 (un id) id el j agg sz k:=rfl
@[go_sem] theorem PK{t:Option Nat}{d:D}{j:Nat}{k:KQ}:kZ (.im t (.pt d j)) k=k (.im t (.pt d j)) []:=rfl
@[go_sem] theorem SD{t:Option Nat}{b o:Nat}{d:D}{j:Nat}{k:KQ}:kZ (.im t (.lc b o (.pt d j))) k=k (.im t (.lc b o (.pt d j))) []:=rfl
@[go_sem] theorem Q9{t:Option Nat}{p:Addr}{k:KQ}:kZ (.im t (.sc (.pointer (some p)))) k=k (.im t (.sc (.pointer (some p)))) []:=rfl
@[go_sem] theorem RL{id el j:Nat}{k:KQ}:kZ (.pw id el j) k=k (.pw id el j) []:=rfl
@[go_sem] theorem Sl{t:Option Nat}{b:Bool}{k:KQ}:Fl .not (.im t (.sc (.bool b))) k=k (.im none (.sc (.bool (!b)))) []:=rfl
@[go_sem] theorem Rp{t:Option Nat}{a:IntKind}{m:Int}{k:KQ}:Fl .neg (.im t (.sc (.int a m))) k=k (.im none (.sc (.int a (a.wrap (-m))))) []:=rfl
@[go_sem] theorem TF{t:Option Nat}{a b:IntKind}{m:Int}{k:KQ}:xz b (.im t (.sc (.int a m))) k=k (.im none (.sc (.int b (b.wrap m)))) []:=rfl
@[go_sem] theorem mkK_i{t u:Option Nat}{a b:IntKind}{m q:Int}{d sz bytes:Nat}{z:D}{k:KQ}:G8 (.im t (.sc (.int a m))) (.im u (.sc (.int b q))) d sz bytes z k=
  ((0≤m∧m≤q∧bytes*q≤140737488355328∧q≤140737488355328∧0<sz∧z.size=sz∧z.noPtr=true)∧k (.sm d 0 m.toNat) [(d,.ar true (some false) sz (List.replicate m.toNat z))]):=rfl
@[go_sem] theorem Wf{t0:Option Nat}{nn:Option Bool}{sz:Nat}{ds:List D}{t u:Option Nat}{a b:IntKind}{l h:Int}{k:KQ}:AA t0 nn sz ds (.im t (.sc (.int a l))) (.im u (.sc (.int b h))) k=((0≤l∧l≤h∧h≤ds.length)∧k (.im t0 (.ls nn sz ((ds.take h.toNat).drop l.toNat))) []):=rfl
@[go_sem] theorem Tv{t:Option Nat}{nn:Option Bool}{sz sz':Nat}{ds:List D}{ev:X→AV}{un:Nat→Option U}{lo hi:Option X}{k:KQ}:sZ (.im t (.ls nn sz' ds)) ev un sz lo hi k=
  (sz=sz'∧AA t nn sz ds ((lo.map ev).getD (.im none (.sc (.int .i64 0)))) ((hi.map ev).getD (.im none (.sc (.int .i64 ds.length)))) k):=rfl
@[go_sem] theorem Un{ow:Bool}{nn:Option Bool}{usz:Nat}{es:List D}{id el j off:Nat}{k:KQ}:FH (some (.ar ow nn usz es)) id el j off k=(j+off<usz∧k (.pw id el (j+off)) []):=rfl
@[go_sem] theorem UL{t:Option Nat}{d:D}{j off:Nat}{un:Nat→Option U}{k:KQ}:yL (.im t (.pt d j)) un off k=(j+off<d.size∧k (.im t (.pt d (j+off))) []):=rfl
@[go_sem] theorem VJ{t:Option Nat}{b o:Nat}{d:D}{j off:Nat}{un:Nat→Option U}{k:KQ}:yL (.im t (.lc b o (.pt d j))) un off k=(j+off<d.size∧k (.im t (.lc b (o+off) (.pt d (j+off)))) []):=rfl
@[go_sem] theorem TR{id el j off:Nat}{un:Nat→Option U}{k:KQ}:yL (.pw id el j) un off k=FH (un id) id el j off k:=rfl
@[go_sem] theorem V5{t:Option Nat}{nn:Option Bool}{sz sz':Nat}{ds:List D}{m:Int}{k:KQ}:C4 (some (t,.ls nn sz' ds)) sz m k=((sz=sz'∧0<sz∧0≤m∧m<ds.length)∧k (.im t (.pt (D.at ds m.toNat) 0)) []):=rfl
@[go_sem] theorem Vm{ow:Bool}{nn:Option Bool}{usz:Nat}{es:List D}{id sz p:Nat}{k:KQ}:zJ (some (.ar ow nn usz es)) id sz p k=((sz=usz∧0<sz)∧k (.pw id p 0) []):=rfl
@[go_sem] theorem Vn{id off len:Nat}{t:Option Nat}{a:IntKind}{m:Int}{un:Nat→Option U}{sz:Nat}{k:KQ}:xf (.sm id off len) (.im t (.sc (.int a m))) un sz k=((0≤m∧m<len)∧zJ (un id) id sz (off+m.toNat) k):=rfl
@[go_sem] theorem V4{t:Option Nat}{b o:Nat}{nn:Option Bool}{sz sz':Nat}{ds:List D}{m:Int}{k:KQ}:C4 (some (t,.lc b o (.ls nn sz' ds))) sz m k=((sz=sz'∧0<sz∧0≤m∧m<ds.length)∧k (.im t (.lc b (o+m.toNat*sz) (.pt (D.at ds m.toNat) 0))) []):=rfl
@[go_sem] theorem Wt{t u:Option Nat}{d:D}{a:IntKind}{m:Int}{un:Nat→Option U}{sz:Nat}{k:KQ}:xf (.im u d) (.im t (.sc (.int a m))) un sz k=C4 (some (u,d)) sz m k:=rfl
@[go_sem] theorem Wx{i:Nat}{t:Option Nat}{a:IntKind}{m:Int}{un:Nat→Option U}{sz:Nat}{k:KQ}:xf (.tr i) (.im t (.sc (.int a m))) un sz k=C4 (AV.den un (.tr i)) sz m k:=rfl
@[go_sem] theorem TS{i el j:Nat}{t:Option Nat}{a:IntKind}{m:Int}{un:Nat→Option U}{sz:Nat}{k:KQ}:xf (.cw i el j 1 false) (.im t (.sc (.int a m))) un sz k=Gj (un i) i el j sz m k:=rfl
@[go_sem] theorem Uc{id off len:Nat}{t:Option Nat}{a:IntKind}{m:Int}{un:Nat→Option U}{sz:Nat}{k:KQ}:xf (.ss id off len) (.im t (.sc (.int a m))) un sz k=((0≤m∧m<len)∧zJ (un id) id sz (off+m.toNat) k):=rfl
@[go_sem] theorem Vh{i el j isz off len:Nat}{t:Option Nat}{a:IntKind}{m:Int}{un:Nat→Option U}{sz:Nat}{k:KQ}:xf (.qs i el j isz off len) (.im t (.sc (.int a m))) un sz k=C4 (AV.den un (.qs i el j isz off len)) sz m k:=rfl
@[congr] theorem T8{u u':Option U}{id el j sz:Nat}{n:Int}{k:KQ}(h0:u=u'):Gj u id el j sz n k=Gj u' id el j sz n k:=by rw[h0]
@[go_sem] theorem VX{nn:Option Bool}{usz:Nat}{es:List D}{id el j sz:Nat}{n:Int}{k:KQ}:Gj (some (.ar true nn usz es)) id el j sz n k=GB id el j sz n (D.sub (D.at es el) j 1 false) k:=rfl
@[congr] theorem Wh{id el j sz:Nat}{n:Int}{d d':D}{k:KQ}(h0:d=d'):GB id el j sz n d k=GB id el j sz n d' k:=by rw[h0]
@[go_sem] theorem TZ{id el j sz:Nat}{n:Int}{nn:Option Bool}{sz':Nat}{ds:List D}{k:KQ}:GB id el j sz n (.ls nn sz' ds) k=((sz=sz'∧0<sz∧0≤n∧n<ds.length)∧k (.pq id el j sz n.toNat 0) []):=rfl
@[go_sem] theorem VW{id el j isz el' j' off:Nat}{un:Nat→Option U}{k:KQ}:yL (.pq id el j isz el' j') un off k=(j'+off<isz∧k (.pq id el j isz el' (j'+off)) []):=rfl
@[go_sem] theorem Sn{id el j isz el' j':Nat}{k:KQ}:kZ (.pq id el j isz el' j') k=k (.pq id el j isz el' j') []:=rfl
@[go_sem] theorem VU{id el j isz el' j':Nat}{un:Nat→Option U}{agg:Bool}{sz:Nat}{k:KQ}:vF (.pq id el j isz el' j') un agg sz k=Hc (un id) id el j isz el' j' agg sz k:=rfl
@[congr] theorem VI{u u':Option U}{id el j isz el' j':Nat}{agg:Bool}{sz:Nat}{k:KQ}(h0:u=u'):Hc u id el j isz el' j' agg sz k=Hc u' id el j isz el' j' agg sz k:=by rw[h0]
@[go_sem] theorem Wm{nn:Option Bool}{usz:Nat}{es:List D}{id el j isz el' j':Nat}{agg:Bool}{sz:Nat}{k:KQ}:Hc (some (.ar true nn usz es)) id el j isz el' j' agg sz k=zQ isz el' j' sz agg id (D.sub (D.at es el) j 1 false) k:=rfl
@[congr] theorem Qn{isz el' j' sz:Nat}{agg:Bool}{id:Nat}{d d':D}{k:KQ}(h0:d=d'):zQ isz el' j' sz agg id d k=zQ isz el' j' sz agg id d' k:=by rw[h0]
@[go_sem] theorem Sr{isz el' j' sz:Nat}{agg:Bool}{id:Nat}{nn:Option Bool}{sz':Nat}{ds:List D}{k:KQ}:zQ isz el' j' sz agg id (.ls nn sz' ds) k=
  ((sz'=isz∧el'<ds.length∧j'<isz∧j'+sz≤isz∧(agg=true→(D.at ds el').isAg=true))∧k (.im (ly agg id (D.sub (D.at ds el') j' sz agg)) (D.sub (D.at ds el') j' sz agg)) []):=rfl
@[go_sem] theorem SI{id:Nat}{d:D}:ly true id d=some id:=by simp[ly]
@[go_sem] theorem L5{id:Nat}{v:Value}:ly false id (.sc v)=none:=by simp[ly,D.isSc]
@[go_sem] theorem NZ{id:Nat}{nn:Option Bool}{sz:Nat}{ds:List D}:ly false id (.ls nn sz ds)=some id:=by simp[ly,D.isSc]
@[go_sem] theorem M7{id:Nat}{ds:List D}:ly false id (.ag ds)=some id:=by simp[ly,D.isSc]
@[congr] theorem SJ{l l' h h':AV}{n:Nat}{k:Nat→Nat→Prop}(h0:l=l')(h1:h=h'):rC l h n k=rC l' h' n k:=by rw[h0,h1]
@[go_sem] theorem TD{t u:Option Nat}{a b:IntKind}{l h:Int}{n:Nat}{k:Nat→Nat→Prop}:rC (.im t (.sc (.int a l))) (.im u (.sc (.int b h))) n k=((0≤l∧l≤h∧h≤n)∧k l.toNat h.toNat):=rfl
@[go_sem] theorem P8{id off len:Nat}{ev:X→AV}{un:Nat→Option U}{sz:Nat}{lo hi:Option X}{k:KQ}:sZ (.sm id off len) ev un sz lo hi k=
  wO (un id) id off len sz lo.isSome ((lo.map ev).getD (.im none (.sc (.int .i64 0)))) ((hi.map ev).getD (.im none (.sc (.int .i64 len)))) k:=rfl
@[congr] theorem Rb{u u':Option U}{id off len sz:Nat}{lo:Bool}{l l' h h':AV}{k:KQ}(h0:u=u')(h1:l=l')(h2:h=h'):wO u id off len sz lo l h k=wO u' id off len sz lo l' h' k:=by rw[h0,h1,h2]
@[go_sem] theorem Wn{ow:Bool}{nn:Option Bool}{usz:Nat}{es:List D}{id off len sz:Nat}{l h:AV}{k:KQ}:wO (some (.ar ow nn usz es)) id off len sz true l h k=(usz=sz∧rC l h len fun l h=>k (.ss id (off+l) (h-l)) []):=rfl
@[go_sem] theorem Vo{ow:Bool}{nn:Option Bool}{usz:Nat}{es:List D}{id off len sz:Nat}{l h:AV}{k:KQ}:wO (some (.ar ow nn usz es)) id off len sz false l h k=(usz=sz∧rC l h len fun _ h=>k (.sm id off h) []):=rfl
@[go_sem] theorem Qv{id el j:Nat}{ev:X→AV}{un:Nat→Option U}{sz:Nat}{lo hi:Option X}{k:KQ}:sZ (.cw id el j 1 false) ev un sz lo hi k=xb (un id) id el j sz ((lo.map ev).getD (.im none (.sc (.int .i64 0)))) (hi.map ev) k:=rfl
@[congr] theorem Qf{u u':Option U}{id el j sz:Nat}{l l':AV}{h h':Option AV}{k:KQ}(h0:u=u')(h1:l=l')(h2:h=h'):xb u id el j sz l h k=xb u' id el j sz l' h' k:=by rw[h0,h1,h2]
@[go_sem] theorem Qp{nn:Option Bool}{usz:Nat}{es:List D}{id el j sz:Nat}{l:AV}{h:Option AV}{k:KQ}:xb (some (.ar true nn usz es)) id el j sz l h k=zh (D.sub (D.at es el) j 1 false) id el j sz l h k:=rfl
@[congr] theorem S6{d d':D}{id el j sz:Nat}{l:AV}{h:Option AV}{k:KQ}(h0:d=d'):zh d id el j sz l h k=zh d' id el j sz l h k:=by rw[h0]
@[go_sem] theorem PT{nn:Option Bool}{isz:Nat}{ds:List D}{id el j sz:Nat}{l:AV}{h:Option AV}{k:KQ}:zh (.ls nn isz ds) id el j sz l h k=
  (isz=sz∧rC l (h.getD (.im none (.sc (.int .i64 ds.length)))) ds.length fun l h=>k (.qs id el j sz l (h-l)) []):=rfl
@[go_sem] theorem Pz{t:Option Nat}{f:Nat}{ds:List D}{Q:Program}{d:Option Nat}{args:List AV}{un:Nat→Option U}{k:KQ}:kD (.im t (.fn f ds)) Q d args un k=gK Q d f (args++ds.map (.im t)) un k:=rfl
@[go_sem] theorem Pi{f:Nat}{vs:List AV}{Q:Program}{d:Option Nat}{args:List AV}{un:Nat→Option U}{k:KQ}:kD (.cl f vs) Q d args un k=gK Q d f (args++vs) un k:=rfl
@[go_sem] theorem Ri{i off len:Nat}{un:Nat→Option U}{k:KQ}:jP (.ss i off len) un k=k (.im none (.sc (.int .i64 len))) []:=rfl
@[go_sem] theorem Rg{nn:Option Bool}{sz:Nat}{un:Nat→Option U}{k:KQ}:jP (.z0 nn sz) un k=k (.im none (.sc (.int .i64 0))) []:=rfl
@[go_sem] theorem PL{i el j isz off len:Nat}{un:Nat→Option U}{k:KQ}:jP (.qs i el j isz off len) un k=rB (AV.den un (.qs i el j isz off len)) k:=rfl
def MA(u:Option U)(id el j isz off len:Nat):Option (Option Nat×D):=match u with|some (.ar true _ _ es)=>(tA off len isz (D.sub (D.at es el) j 1 false)).map (some id,·)|_=>none
@[go_sem] theorem TQ{id el j isz off len:Nat}{un:Nat→Option U}:AV.den un (.qs id el j isz off len)=MA (un id) id el j isz off len:=rfl
@[go_sem] theorem PS{nn:Option Bool}{sz:Nat}{es:List D}{id el j isz off len:Nat}:MA (some (.ar true nn sz es)) id el j isz off len=(tA off len isz (D.sub (D.at es el) j 1 false)).map (some id,·):=rfl
@[go_sem] theorem M3{off len isz:Nat}{nn:Option Bool}{sz:Nat}{ds:List D}:tA off len isz (.ls nn sz ds)=if sz=isz then some (.ls (if off=0∧len=ds.length then nn else none) sz ((ds.drop off).take len))else none:=rfl
@[go_sem] theorem Vx{id el j isz el' j' sz:Nat}{x:AV}{st:St}{f:St→Prop}:yW (.pq id el j isz el' j') x st sz f=cp 12 st x (HM id el j isz el' j' sz f):=rfl
@[congr] theorem Uq{id el j isz el' j' sz:Nat}{f:St→Prop}{own own':Bool}{d d':D}{st st':St}(h1:own=own')(h2:d=d')(h3:st=st'):HM id el j isz el' j' sz f own d st=HM id el j isz el' j' sz f own' d' st':=by rw[h1,h2,h3]
@[go_sem] theorem VN{id el j isz el' j' sz:Nat}{f:St→Prop}{own:Bool}{d:D}{st:St}:HM id el j isz el' j' sz f own d st=KE (st.unit id) id el j isz el' j' sz own d st f:=rfl
@[congr] theorem TO{u u':Option U}{id el j isz el' j' sz:Nat}{own:Bool}{d:D}{st':St}{f:St→Prop}(h0:u=u'):KE u id el j isz el' j' sz own d st' f=KE u' id el j isz el' j' sz own d st' f:=by rw[h0]
@[go_sem] theorem Wu{nn:Option Bool}{usz:Nat}{es:List D}{id el j isz el' j' sz:Nat}{own:Bool}{d:D}{st':St}{f:St→Prop}:KE (some (.ar true nn usz es)) id el j isz el' j' sz own d st' f=K5 nn usz es id el j isz el' j' sz own d st' f (D.sub (D.at es el) j 1 false):=rfl
@[congr] theorem VE{nn:Option Bool}{usz:Nat}{es:List D}{id el j isz el' j' sz:Nat}{own:Bool}{d:D}{st':St}{f:St→Prop}{q q':D}(h0:q=q'):K5 nn usz es id el j isz el' j' sz own d st' f q=K5 nn usz es id el j isz el' j' sz own d st' f q':=by rw[h0]
@[go_sem] theorem Wy{nn:Option Bool}{usz:Nat}{es:List D}{id el j isz el' j' sz:Nat}{own:Bool}{d:D}{st':St}{f:St→Prop}{nn':Option Bool}{sz':Nat}{ds:List D}:K5 nn usz es id el j isz el' j' sz own d st' f (.ls nn' sz' ds)=
  ((sz' = isz ∧ d.size = sz ∧ j' < isz ∧ j' + sz ≤ isz ∧ el < es.length ∧ el' < ds.length ∧ (j = 0 ∧ usz = 1 ∧ (D.at es el).isAg = false ∨ (D.at es el).isAg = true ∧ usz ≠ 1) ∧ (j' = 0 ∧ sz = isz ∨ (D.at ds el').isAg = true) ∧ d.noPtr = true) ∧
   f (st'.upd id (.ar true nn usz (gL es usz el j (.ls nn' sz' (ds.set el' (D.put sz' (D.at ds el') j' sz d))))))):=rfl
@[go_sem] theorem SH{nn:Option Bool}{q:Nat}{own:Bool}{ds:List D}{st':St}{d sz bytes:Nat}{f:St→Prop}:sI (.z0 nn q) own ds st' d sz bytes f=
  ((ds.length*bytes≤140737488355328∧ds.length≤aT∧0<sz∧own=true∧(∀e∈ds,e.size=sz)∧st'.fresh [(d,.own .jk)]=true)∧f ((st'.addUs [(d,.own (.ls (ba nn ds) sz ds))]).set d (.tr d))):=rfl
@[go_sem] theorem S3{t:Option Nat}{nn:Option Bool}{sz:Nat}{ds:List D}{k:KQ}:rB (some (t,.ls nn sz ds)) k=k (.im none (.sc (.int .i64 ds.length))) []:=rfl
@[go_sem] theorem RZ{t:Option Nat}{nn:Option Bool}{sz:Nat}{ds:List D}{un:Nat→Option U}{k:KQ}:jP (.im t (.ls nn sz ds)) un k=k (.im none (.sc (.int .i64 ds.length))) []:=rfl
@[go_sem] theorem P4{t:Option Nat}{b o:Nat}{nn:Option Bool}{sz:Nat}{ds:List D}{un:Nat→Option U}{k:KQ}:jP (.im t (.lc b o (.ls nn sz ds))) un k=k (.im none (.sc (.int .i64 ds.length))) []:=rfl
@[go_sem] theorem Sw{i off len:Nat}{un:Nat→Option U}{k:KQ}:jP (.sm i off len) un k=k (.im none (.sc (.int .i64 len))) []:=rfl
@[go_sem] theorem Tx{t:Option Nat}{b o:Nat}{nn:Option Bool}{sz:Nat}{ds:List D}{k:KQ}:rB (some (t,.lc b o (.ls nn sz ds))) k=k (.im none (.sc (.int .i64 ds.length))) []:=rfl
@[go_sem] theorem Tj{i:Nat}{un:Nat→Option U}{k:KQ}:jP (.tr i) un k=rB (AV.den un (.tr i)) k:=rfl
@[go_sem] theorem PN{i el j cz:Nat}{cg:Bool}{un:Nat→Option U}{k:KQ}:jP (.cw i el j cz cg) un k=rB (AV.den un (.cw i el j cz cg)) k:=rfl
def NN(u:Option U)(id el j cz:Nat)(cg:Bool):Option (Option Nat×D):=match u with|some (.ar true _ _ es)=>some (some id,D.sub (D.at es el) j cz cg)|_=>none
def NX(u:Option U)(k:Nat):Option (Option Nat×D):=match u with|some (.own d)=>some (some k,d)|_=>none
@[go_sem] theorem Ux{t:Option Nat}{d:D}{un:Nat→Option U}:AV.den un (.im t d)=some (t,d):=rfl
@[go_sem] theorem Vv{k:Nat}{un:Nat→Option U}:AV.den un (.tr k)=NX (un k) k:=rfl
@[go_sem] theorem Wg{id el j cz:Nat}{cg:Bool}{un:Nat→Option U}:AV.den un (.cw id el j cz cg)=NN (un id) id el j cz cg:=rfl
@[go_sem] theorem Rf{nn:Option Bool}{sz:Nat}{es:List D}{id el j cz:Nat}{cg:Bool}:NN (some (.ar true nn sz es)) id el j cz cg=some (some id,D.sub (D.at es el) j cz cg):=rfl
@[go_sem] theorem Mi{d:D}{k:Nat}:NX (some (.own d)) k=some (some k,d):=rfl
@[go_sem] theorem SE{t:Option Nat}{f:Nat}{Q:Program}{d:Option Nat}{args:List AV}{un:Nat→Option U}{k:KQ}:kD (.im t (.sc (.func (.func f) ⟨[]⟩ ⟨[]⟩))) Q d args un k=gK Q d f args un k:=rfl
@[go_sem] theorem Vf{vs:List AV}{i:Nat}{k:KQ}:rv (.tup vs) i k=(i<vs.length∧k (vs.getD i .any) []):=rfl
@[go_sem] theorem Ny{d:D}{i:Nat}{st:St}{k:KT}:mP (some (.own d)) i st k=k true d (st.del i):=rfl
@[go_sem] theorem O0{nn:Option Bool}{sz:Nat}{es:List D}{i off len:Nat}{st:St}{k:KT}:pn (some (.ar true nn sz es)) i off len st k=((off=0∧len=es.length)∧k true (.ls nn sz es) (st.del i)):=rfl
@[congr] theorem Km{u u':Option U}{i el j sz:Nat}{agg:Bool}{st:St}{k:KT}(h0:u=u'):pC u i el j sz agg st k=pC u' i el j sz agg st k:=by rw[h0]
@[go_sem] theorem Nn{nn:Option Bool}{usz:Nat}{es:List D}{i el j sz:Nat}{agg:Bool}{st:St}{k:KT}:pC (some (.ar true nn usz es)) i el j sz agg st k=((agg=true→(D.at es el).isAg=true)∧k true (D.sub (D.at es el) j sz agg) (st.updC i el (.ar true nn usz (es.set el (D.put usz (D.at es el) j sz (CZ sz agg)))))):=rfl
@[go_sem] theorem Jn{i:Nat}{d:D}{st:St}{k:KT}:bo st (.im (some i) d) k=(d.noPtr=true∧k true d st):=by simp only[bo]
@[go_sem] theorem Lz{i el j sz:Nat}{agg:Bool}{st:St}{k:KT}:bo st (.cw i el j sz agg) k=pC (st.unit i) i el j sz agg st k:=by simp only[bo]
@[go_sem] theorem Mf{i el j cz sz:Nat}{cg:Bool}{st:St}{k:KL}:iE st sz (.cw i el j cz cg) k=mC (AV.arg st.unit (.cw i el j cz cg)) sz st k:=rfl
@[go_sem] theorem PY{i el j cz:Nat}{cg:Bool}{own:Bool}{ds:List D}{st':St}{d sz bytes:Nat}{f:St→Prop}:sI (.cw i el j cz cg) own ds st' d sz bytes f=bo st' (.cw i el j cz cg) (ym own ds d sz bytes f):=rfl
@[go_sem] theorem HD{d:D}{st:St}{k:KT}:bo st (.im none d) k=k d.noPtr d st:=by simp only[bo]
@[go_sem] theorem Nk{i:Nat}{st:St}{k:KT}:bo st (.tr i) k=mP (st.unit i) i st k:=by simp only[bo]
@[go_sem] theorem Mw{i off len:Nat}{st:St}{k:KT}:bo st (.sm i off len) k=pn (st.unit i) i off len st k:=by simp only[bo]
@[go_sem] theorem N8{vs:List AV}{st:St}{k:KT}:bo st (.sg vs) k=iH st vs (Ik k):=by simp only[bo]
@[go_sem] theorem JO{st:St}{k:KL}:iH st [] k=k true [] st:=by simp only[iH]
@[go_sem] theorem HT{v:AV}{vs:List AV}{st:St}{k:KL}:iH st (v::vs) k=bo st v (FD vs k):=by simp only[iH];rfl
@[congr] theorem Oq{st st':St}{v v':AV}{k:KT}(h:st=st')(h':v=v'):bo st v k=bo st' v' k:=by rw[h,h']
@[go_sem] theorem NE{n:Nat}{d:D}{st:St}{k:KT}:cp n st (.im none d) k=k d.flat d st:=by cases n<;>simp only[cp]
@[go_sem] theorem Kt{n:Nat}{t:Nat}{d:D}{st:St}{k:KT}:cp n st (.im (some t) d) k=bo st (.im (some t) d) k:=by cases n<;>simp only[cp]
@[go_sem] theorem OF{n:Nat}{i:Nat}{st:St}{k:KT}:cp n st (.tr i) k=bo st (.tr i) k:=by cases n<;>simp only[cp]
@[go_sem] theorem PA{n:Nat}{i off len:Nat}{st:St}{k:KT}:cp n st (.sm i off len) k=bo st (.sm i off len) k:=by cases n<;>simp only[cp]
@[go_sem] theorem LW{n:Nat}{i el j sz:Nat}{agg:Bool}{st:St}{k:KT}:cp n st (.cw i el j sz agg) k=bo st (.cw i el j sz agg) k:=by cases n<;>simp only[cp]
@[go_sem] theorem Lu{n:Nat}{vs:List AV}{st:St}{k:KT}:cp (n+1) st (.sg vs) k=eF (cp n) st vs (Ik k):=by simp only[cp]
@[go_sem] theorem LP{n:Nat}{i len:Nat}{st:St}{k:KT}:cp (n+1) st (.vb i len) k=nF (cp n) (st.unit i) i len st k:=by simp only[cp]
@[congr] theorem OG{n:Nat}{st st':St}{v v':AV}{k:KT}(h:st=st')(h':v=v'):cp n st v k=cp n st' v' k:=by rw[h,h']
@[congr] theorem Ld{f:St→AV→KT→Prop}{u u':Option U}{i len:Nat}{st:St}{k:KT}(h:u=u'):nF f u i len st k=nF f u' i len st k:=by rw[h]
@[go_sem] theorem M2{f:St→AV→KT→Prop}{sz:Nat}{items:List AV}{i len:Nat}{st:St}{k:KT}:nF f (some (.bx sz items)) i len st k=(len=items.length∧eF f (st.del i) items (LT sz k)):=rfl
@[go_sem] theorem JC{f:St→AV→KT→Prop}{st:St}{k:KL}:eF f st [] k=k true [] st:=rfl
@[go_sem] theorem GD{f:St→AV→KT→Prop}{v:AV}{vs:List AV}{st:St}{k:KL}:eF f st (v::vs) k=f st v (Gl f vs k):=rfl
@[congr] theorem KD{f:St→AV→KT→Prop}{st st':St}{v v':List AV}{k:KL}(h:st=st')(h':v=v'):eF f st v k=eF f st' v' k:=by rw[h,h']
@[congr] theorem P2{f:St→AV→KT→Prop}{vs vs':List AV}{k:KL}{b b':Bool}{d d':D}{st st':St}(h1:vs=vs')(h2:b=b')(h3:d=d')(h4:st=st'):Gl f vs k b d st=Gl f vs' k b' d' st':=by rw[h1,h2,h3,h4]
@[go_sem] theorem RK{f:St→AV→KT→Prop}{vs:List AV}{k:KL}{b:Bool}{d:D}{st:St}:Gl f vs k b d st=eF f st vs (ui b d k):=rfl
@[congr] theorem TX{sz:Nat}{k:KT}{b b':Bool}{ds ds':List D}{st st':St}(h2:b=b')(h3:ds=ds')(h4:st=st'):LT sz k b ds st=LT sz k b' ds' st':=by rw[h2,h3,h4]
@[go_sem] theorem UZ{sz:Nat}{k:KT}{b:Bool}{ds:List D}{st:St}:LT sz k b ds st=((0<sz∧b=true∧∀d∈ds,d.size=sz)∧k true (.ls (some false) sz ds) st):=rfl
@[congr] theorem MY{st st':St}{v v':List AV}{k:KL}(h:st=st')(h':v=v'):iH st v k=iH st' v' k:=by rw[h,h']
@[congr] theorem Na{st st':St}{sz:Nat}{v v':AV}{k:KL}(h:st=st')(h':v=v'):iE st sz v k=iE st' sz v' k:=by rw[h,h']
@[congr] theorem RJ{vs vs':List AV}{k:KL}{b b':Bool}{d d':D}{st st':St}(h1:vs=vs')(h2:b=b')(h3:d=d')(h4:st=st'):FD vs k b d st=FD vs' k b' d' st':=by rw[h1,h2,h3,h4]
@[go_sem] theorem Ts{vs:List AV}{k:KL}{b:Bool}{d:D}{st:St}:FD vs k b d st=iH st vs (ui b d k):=rfl
@[congr] theorem Re{k:KL}{b b' c c':Bool}{d d':D}{ds ds':List D}{st st':St}(h2:b=b')(h3:d=d')(h5:c=c')(h6:ds=ds')(h4:st=st'):ui b d k c ds st=ui b' d' k c' ds' st':=by rw[h2,h3,h4,h5,h6]
@[go_sem] theorem ST{k:KL}{b c:Bool}{d:D}{ds:List D}{st:St}:ui b d k c ds st=((b=true∨c=false∨af ds=true)∧(c=true∨b=false∨d.noPtr=true)∧k (xr b d.noPtr c (af ds)) (d::ds) st):=rfl
@[congr] theorem TB{k:KT}{b b':Bool}{ds ds':List D}{st st':St}(h1:b=b')(h2:ds=ds')(h3:st=st'):Ik k b ds st=Ik k b' ds' st':=by rw[h1,h2,h3]
@[go_sem] theorem TH{k:KT}{b:Bool}{ds:List D}{st:St}:Ik k b ds st=k b (.ag (ds.map D.cells).flatten) st:=rfl
@[go_sem] theorem Qu{oC:Nat}{items:List AV}{i len sz:Nat}{st:St}{k:KL}:tc (some (.bx oC items)) i len sz st k=((oC=sz∧len=items.length)∧eF (cp 12) (st.del i) items k):=rfl
@[go_sem] theorem Tk{nn:Option Bool}{sz sz':Nat}{ds:List D}{st:St}{k:KL}:mC (some (.ls nn sz' ds)) sz st k=((sz=sz'∧af ds=true)∧k true ds st):=rfl
@[go_sem] theorem Ps{i len sz:Nat}{st:St}{k:KL}:iE st sz (.vb i len) k=tc (st.unit i) i len sz st k:=rfl
@[go_sem] theorem OC{nn:Option Bool}{sz sz':Nat}{ds:List D}{st:St}{k:KL}:iE st sz (.im none (.ls nn sz' ds)) k=(sz=sz'∧k (af ds) ds st):=rfl
@[go_sem] theorem NM{i:Nat}{d:D}{sz:Nat}{st:St}{k:KL}:iE st sz (.im (some i) d) k=mC (some d) sz st k:=rfl
@[go_sem] theorem OQ{i sz:Nat}{st:St}{k:KL}:iE st sz (.tr i) k=mC (AV.arg st.unit (.tr i)) sz st k:=rfl
@[go_sem] theorem Pw{i off len sz:Nat}{st:St}{k:KL}:iE st sz (.sm i off len) k=mC (AV.arg st.unit (.sm i off len)) sz st k:=rfl
@[go_sem] theorem TJ{id el j sz:Nat}{x:AV}{st:St}{f:St→Prop}:yW (.pw id el j) x st sz f=if x.isRef=true then Fb (st.unit id) id el j sz x st f else cp 12 st x (H2 id el j sz f):=rfl
@[congr] theorem Vd{id el j sz:Nat}{f:St→Prop}{own own':Bool}{d d':D}{st st':St}(h1:own=own')(h2:d=d')(h3:st=st'):H2 id el j sz f own d st=H2 id el j sz f own' d' st':=by rw[h1,h2,h3]
@[go_sem] theorem Vi{id el j sz:Nat}{f:St→Prop}{own:Bool}{d:D}{st:St}:H2 id el j sz f own d st=K1 (st.unit id) id el j sz own d st f:=rfl
@[go_sem] theorem UX{ow:Bool}{nn:Option Bool}{usz:Nat}{es:List D}{id el j sz:Nat}{own:Bool}{d:D}{st':St}{f:St→Prop}:K1 (some (.ar ow nn usz es)) id el j sz own d st' f=
  ((d.size = sz ∧ j + sz ≤ usz ∧ el < es.length ∧ (j = 0 ∧ sz = usz ∨ (D.at es el).isAg = true) ∧ (own = ow ∨ d.noPtr = true ∨ af es = true)) ∧
    f (st'.upd id (.ar (aq own ow d.flat (af es)) nn usz (es.set el (D.put usz (D.at es el) j sz d))))):=rfl
@[congr] theorem S4{x:X}{d sz bytes:Nat}{f:St→Prop}{own own':Bool}{ds ds':List D}{st st':St}(h1:own=own')(h2:ds=ds')(h3:st=st'):xi x d sz bytes f own ds st=xi x d sz bytes f own' ds' st':=by rw[h1,h2,h3]
@[go_sem] theorem S5{x:X}{d sz bytes:Nat}{f:St→Prop}{own:Bool}{ds:List D}{st':St}:xi x d sz bytes f own ds st'=sI (st'.ev x) own ds st' d sz bytes f:=rfl
@[go_sem] theorem Mg{t:Option Nat}{q:Nat}{own:Bool}{ds:List D}{st':St}{d sz bytes:Nat}{f:St→Prop}:sI (.im t (.ls (some true) q [])) own ds st' d sz bytes f=
  ((ds.length*bytes≤140737488355328∧ds.length≤aT∧0<sz∧(∀e∈ds,e.size=sz)∧st'.fresh [(d,.own .jk)]=true)∧f ((st'.addUs [(d,.ar own (ba (some true) ds) sz ds)]).set d (.sm d 0 ds.length))):=rfl
@[go_sem] theorem Qh{id off len:Nat}{own:Bool}{ds:List D}{st':St}{d sz bytes:Nat}{f:St→Prop}:sI (.sm id off len) own ds st' d sz bytes f=CA (st'.unit id) id off len own ds st' d sz bytes f:=rfl
@[go_sem] theorem S9{i:Nat}{own:Bool}{ds:List D}{st':St}{d sz bytes:Nat}{f:St→Prop}:sI (.tr i) own ds st' d sz bytes f=bo st' (.tr i) (ym own ds d sz bytes f):=rfl
@[congr] theorem PW{own:Bool}{ds:List D}{d sz bytes:Nat}{f:St→Prop}{o o':Bool}{e e':D}{st st':St}(h1:o=o')(h2:e=e')(h3:st=st'):ym own ds d sz bytes f o e st=ym own ds d sz bytes f o' e' st':=by rw[h1,h2,h3]
@[go_sem] theorem Te{own:Bool}{ds:List D}{d sz bytes:Nat}{f:St→Prop}{own':Bool}{nn:Option Bool}{sz':Nat}{es:List D}{st'':St}:ym own ds d sz bytes f own' (.ls nn sz' es) st''=
  ((sz' = sz ∧ own = true ∧ own' = true ∧ (es.length + ds.length) * bytes ≤ 140737488355328 ∧ es.length + ds.length ≤ aT ∧ (∀ e ∈ ds, e.size = sz) ∧ 0 < sz ∧ st''.fresh [(d, .own .jk)] = true) ∧
    f ((st''.addUs [(d,.own (.ls (ba nn ds) sz (es++ds)))]).set d (.tr d))):=rfl
@[go_sem] theorem P9{ow:Bool}{nn:Option Bool}{usz:Nat}{es:List D}{id off len:Nat}{own:Bool}{ds:List D}{st':St}{d sz bytes:Nat}{f:St→Prop}:CA (some (.ar ow nn usz es)) id off len own ds st' d sz bytes f=
  ((usz = sz ∧ 0 < sz ∧ off = 0 ∧ tP len es ∧ (len + ds.length) * bytes ≤ 140737488355328 ∧ len + ds.length ≤ aT ∧ (∀ e ∈ ds, e.size = sz) ∧ (own = ow ∨ af ds = true ∨ af (mr len es) = true)) ∧
    f ((st'.upr id (.ar (aq own ow (D.flatL ds) (af (mr len es))) (ba nn ds) sz (mr len es++ds))).set d (.sm id 0 (len+ds.length)))):=rfl
attribute [go_sem] tP mr
end

attribute [go_sem] D.flat D.flatL jc zI CZ List.replicate_succ List.replicate_zero xT Fi xU D3 ba aq Gv Rk EE As AV.sh1 vR bi jx tp Cl u7 AV.size xr nj AV.arg AV.shared dm bW bW.bindL D.noPtr D.noPtrL D.size D.sizeL D.put af ff.dst
attribute [go_sem] if_true if_false ite_true ite_false reduceCtorEq true_and and_true true_implies List.map_nil List.map_cons List.length_nil List.length_cons List.length_map List.nil_append List.cons_append
 Option.map_some Option.map_none Option.getD_some Option.getD_none List.append_nil or_true true_or or_false false_or Bool.not_true Bool.not_false false_implies List.flatten_cons List.flatten_nil List.all_cons List.all_nil
 bne_self_eq_false beq_self_eq_true Bool.true_and Bool.and_true Bool.false_and Bool.and_false Bool.or_true Bool.or_false Bool.true_or Bool.false_or List.getD_cons_zero List.getD_cons_succ List.set_cons_zero List.set_cons_succ
 Int.toNat_natCast Int.toNat_zero Nat.zero_add Nat.add_zero List.isEmpty_nil List.isEmpty_cons List.drop_zero List.take_zero List.drop_succ_cons List.take_succ_cons List.drop_nil List.take_nil
 Bool.not_eq_true Bool.not_eq_false decide_eq_true_eq decide_eq_false_iff_not
@[go_sem] theorem MJ(d:D)(ds:List D):D.at (d::ds) 0=d:=rfl

@[go_sem] theorem U3{ds:List D}{j sz:Nat}{agg:Bool}:D.sub (.ag ds) j sz agg=if agg then .ag ((ds.drop j).take sz)else ds.getD j default:=rfl
@[go_sem] theorem f9{v:Value}{j sz:Nat}{agg:Bool}:D.sub (.sc v) j sz agg=.sc v:=rfl
@[go_sem] theorem iv{nn:Option Bool}{z:Nat}{ds:List D}{j sz:Nat}{agg:Bool}:D.sub (.ls nn z ds) j sz agg=.ls nn z ds:=rfl
@[go_sem] theorem Vq{b o:Nat}{d:D}{j sz:Nat}{agg:Bool}:D.sub (.lc b o d) j sz agg=.lc b o d:=rfl
@[go_sem] theorem Sm{b o:Nat}{d:D}:D.isAg (.lc b o d)=false:=rfl
@[go_sem] theorem Mu{b o:Nat}{d:D}:D.cells (.lc b o d)=[.lc b o d]:=rfl
@[go_sem] theorem Ww{d:D}{i j sz:Nat}{agg:Bool}:D.sub (.pt d i) j sz agg=.pt d i:=rfl
@[go_sem] theorem Uo{j sz:Nat}{agg:Bool}:D.sub .jk j sz agg=.jk:=rfl
@[go_sem] theorem ak{ds:List D}:D.isAg (.ag ds)=true:=rfl
@[go_sem] theorem eJ{v:Value}:D.isAg (.sc v)=false:=rfl
@[go_sem] theorem ed{nn:Option Bool}{z:Nat}{ds:List D}:D.isAg (.ls nn z ds)=false:=rfl
@[go_sem] theorem Ql{d:D}{i:Nat}:D.isAg (.pt d i)=false:=rfl
@[go_sem] theorem Qm:D.isAg .jk=false:=rfl
@[go_sem] theorem Nl{ds:List D}:D.cells (.ag ds)=ds:=rfl
@[go_sem] theorem Mp{v:Value}:D.cells (.sc v)=[.sc v]:=rfl
@[go_sem] theorem Pv{nn:Option Bool}{z:Nat}{ds:List D}:D.cells (.ls nn z ds)=[.ls nn z ds]:=rfl
@[go_sem] theorem N1{d:D}{i:Nat}:D.cells (.pt d i)=[.pt d i]:=rfl
@[go_sem] theorem N3:D.cells .jk=[.jk]:=rfl

@[go_sem high] theorem Ra{t:Option Nat}{p q:Prop}:iy (.im t (.sc (.bool true))) true p q=p:=by simp[iy]
@[go_sem high] theorem R3{t:Option Nat}{p q:Prop}:iy (.im t (.sc (.bool true))) false p q=q:=by simp[iy]
@[go_sem high] theorem So{t:Option Nat}{p q:Prop}:iy (.im t (.sc (.bool false))) true p q=q:=by simp[iy]
@[go_sem high] theorem SY{t:Option Nat}{p q:Prop}:iy (.im t (.sc (.bool false))) false p q=p:=by simp[iy]
@[go_sem high] theorem QS{t:Option Nat}{p q:Prop}:mD (.im t (.sc (.bool true))) p q=p:=by simp[mD]
@[go_sem high] theorem P0{t:Option Nat}{p q:Prop}:mD (.im t (.sc (.bool false))) p q=q:=by simp[mD]
@[go_sem high] theorem Si{t:Option Nat}{a b:AV}{k:KQ}:jn (.im t (.sc (.bool true))) a b k=k a []:=by simp[jn]
@[go_sem high] theorem Rv{t:Option Nat}{a b:AV}{k:KQ}:jn (.im t (.sc (.bool false))) a b k=k b []:=by simp[jn]
attribute [go_sem] Bool.not_true Bool.not_false

end Go.Ax
namespace Go.Ax

def ff.xs:ff→List X
 |.mv _ x|.box _ _ x|.ld _ _ _ x|.nck _ x|.un _ _ x|.cvt _ _ x|.fa _ _ x|.fl _ _ _ _ x|.len _ x|.slen _ x|.ext _ x _=>[x]
 |.pick _ c a b=>[c,a,b]
 |.zer .. =>[]
 |.st _ a x=>[a,x]
 |.bin _ _ x y|.beq _ _ x y|.snil _ _ x y|.ceq _ _ _ x y|.ia _ _ x y|.ix _ x y|.app _ _ _ x y=>[x,y]
 |.mk _ _ _ _ l c=>[l,c]
 |.slc _ _ x lo hi|.sls _ x lo hi=>x::(lo.toList++hi.toList)
 |.call _ _ args=>args
 |.calv _ x args=>x::args
 |.bs _ _ _ _ ps=>ps.map (·.2)
 |.bld _ _ ps=>ps.map (·.2.2)
 |.mcl _ _ x y=>[x,y]
 |.cls _ _ x args=>x::args
 |.mkf _ _ args=>args
 |.s30 _ _ x=>[x]
 |.mxm _ _ x y=>[x,y]
 |.bse _ _=>[]
 |.zsb _ _ _=>[]
 |.bwr _ _ x args=>x::args
 |.bst _ _ x=>[x]
 |.ape _ _ _ x y=>[x,y]
 |.cvs _ x=>[x]
 |.cpy _ _ x y=>[x,y]
 |.wcl _ _ args=>args
 |.aps _ _ _ x y=>[x,y]
 |.stp _ a x=>[a,x]
 |.lcl _ _ args=>args
 |.bss _ _ _ ps=>ps.map (·.2)
 |.calw _ x args=>x::args
 |.other _=>[]

def X.slot:X→Option Nat
 |.t n=>some n
 |.c _=>none
def RO.slots(r:RO):List Nat:=r.op.xs.filterMap X.slot++(match r.g with|some (t,_)=>[t]|none=>[])

def ik(o:Oper):List Nat:=(o.after.toList.filter (fun e=>Region.binds .any e)).map (·.on)
def aF(ops:Array Oper)(i:Nat):List Nat:=match ops[i]? with|some o=>ik o|none=>[]

def ua:List Nat→Bool
 | []=>true
 |x::l=>!l.contains x&&ua l

def ir(ops:Array Oper)(R:List RO)(i:Nat)(t:Nat):Bool:=
 (List.range R.length).all fun j =>
  match R[j]? with
  |some r=>r.op.dst !=some t||(j<i&&(aF ops i).contains j)||(i<j&&(aF ops j).contains i)
  |none=>true
def mN(ops:Array Oper)(R:List RO):Bool:=
 ua (R.filterMap (·.op.dst))&&(R.length==ops.size)&&
 (List.range R.length).all fun i =>
  (aF ops i).all (· <i)&&
  match R[i]? with
  |some r=>r.op.isQ&&r.slots.all (ir ops R i)
  |none=>true

end Go.Ax
namespace Go.Ax

theorem ay{us:List (Nat×U)}{k:Nat}{u:U}(h:lu us k=some u):(k,u)∈us:=by
 induction us with
 |nil=>simp[lu]at h
 |cons x us ih=>
  obtain⟨i,v⟩:=x;simp only[lu]at h
  split at h
  ·next e=>obtain rfl:=Option.some.inj h;subst e;simp
  ·exact List.mem_cons_of_mem _ (ih h)

theorem D.sizeL_one{ds:List D}(h:∀d∈ds,d.size=1∧d.isAg=false):D.sizeL ds=ds.length:=by
 rw[D.sizeL_const (sz:=1) fun d hd=>(h d hd).1];omega

theorem fx{d:D}{v:Value}(hd:d.isAg=false)(hv:v.oneCell'=true):d.fits v:=by
 cases d<;>simp_all [D.fits,D.isAg]

theorem aS{v:Value}(hv:v.oneCell'=true):v.cells= #[v]:=by
 cases v<;>simp_all [Value.cells,Value.oneCell']

theorem aW.sub{h:aE}{d:D}{F:List Nat}{cs:List Value}(hr:aW h d F cs){j sz:Nat}{agg:Bool}(hj:j+sz≤d.size)(ha:agg=true→d.isAg=true)(h1:agg=false→sz=1):
  ∃F1 F2 F3 c1 c2 c3,F=F1++(F2++F3)∧cs=c1++(c2++c3)∧c1.length=j∧c2.length=sz∧aW h (D.sub d j sz agg) F2 c2∧(D.sub d j sz agg).isAg=agg:=by
 by_cases hd:d.isAg=true
 ·cases d with
  |ag ds=>
   simp only[aW]at hr;obtain⟨hs,hr⟩:=hr;simp only[D.size,D.sizeL_one hs]at hj;have e:ds=ds.take j++((ds.drop j).take sz++(ds.drop j).drop sz):=by rw[List.take_append_drop,List.take_append_drop]
   rw[e]at hr;obtain⟨F1,F23,c1,c23,rfl,rfl,r1,r23⟩:=hr.split;obtain⟨F2,F3,c2,c3,rfl,rfl,r2,r3⟩:=r23.split;have l1:c1.length=j:=by
    rw[r1.length,D.sizeL_one fun d hd=>hs d (List.mem_of_mem_take hd)];simp;omega
   have hs2:∀d∈(ds.drop j).take sz,d.size=1∧d.isAg=false:=fun d hd=>hs d (List.mem_of_mem_drop (List.mem_of_mem_take hd));have l2:c2.length=sz:=by
    rw[r2.length,D.sizeL_one hs2];simp;omega
   refine⟨F1,F2,F3,c1,c2,c3,rfl,rfl,l1,l2,?_,?_⟩
   ·cases agg with
    |true=>simp only[D.sub,if_true,aW];exact⟨hs2,r2⟩
    |false=>
     obtain rfl:=h1 rfl;simp only[D.sub,fq,if_false];have hlt:j<ds.length:=by omega
     have e2:(ds.drop j).take 1=[ds[j]]:=by
      rw[List.drop_eq_getElem_cons hlt];simp only[List.take_succ_cons,List.take_zero]
     rw[e2]at r2;rw[cR]at r2;obtain⟨G1,G2,e1,e3,rfl,rfl,q1,q2⟩:=r2;obtain⟨rfl,rfl⟩:=jl.1 q2;have:ds.getD j default=ds[j]:=by simp[List.getD,List.getElem?_eq_getElem hlt]
     rw[this];simpa using q1
   ·cases agg with
    |true=>simp[D.sub,D.isAg]
    |false=>
     have hlt:j<ds.length:=by have:=h1 rfl;omega
     have:ds.getD j default=ds[j]:=by simp[List.getD,List.getElem?_eq_getElem hlt]
     simp only[D.sub,fq,if_false,this];exact(hs _ (List.getElem_mem hlt)).2
  |_=>simp[D.isAg]at hd
 ·have hagg:agg=false:=by cases agg<;>simp_all
  subst hagg;obtain rfl:=h1 rfl;have hsz:d.size=1:=by cases d<;>simp_all [D.size,D.isAg]
  have hsub:D.sub d j 1 false=d:=by cases d<;>simp_all [D.sub,D.isAg]
  have hl:=hr.length;refine⟨[],F,[],[],cs,[],by simp,by simp,by simp;omega,by omega,by rw[hsub];exact hr,by rw[hsub];simpa using hd⟩

theorem D.at_eq{ds:List D}{i:Nat}(h:i<ds.length):D.at ds i=ds[i]:=by simp[D.at,List.getD,List.getElem?_eq_getElem h]

theorem getElem?_mid{α:Type}{a b c:List α}{i:Nat}{v:α}(h:b[i]?=some v):(a++(b++c))[a.length+i]?=some v:=by
 have hi:i<b.length:=(List.getElem?_eq_some_iff.1 h).1;rw[List.getElem?_append_right (by omega),List.getElem?_append_left (by omega)];simpa using h

theorem w3{c:Array Value}{o sz:Nat}{c2:List Value}(hl:c2.length=sz)(hp:∀i v,c2[i]?=some v→c[o+i]?=some v):(c.toList.drop o).take sz=c2:=by
 apply List.ext_getElem?
 intro i;rw[List.getElem?_take]
 split
 ·next hi=>
  have hi2:i<c2.length:=by omega
  have h1:c2[i]?=some c2[i]:=List.getElem?_eq_getElem hi2;have h2:=hp i _ h1;rw[←Array.getElem?_toList]at h2;rw[List.getElem?_drop,h2,h1]
 ·rw[List.getElem?_eq_none (by omega)]

theorem lp{h:aE}{us:List (Nat×U)}{g:Gh}{n0:Nat}{S0 M0:Nat→Prop}(hu:aZ h n0 S0 M0 us g){id:Nat}{ow:Bool}{nn:Option Bool}{usz:Nat}{es:List D}
  (hm:(id,U.ar ow nn usz es)∈us) {el j sz b:Nat} {agg:Bool} (hel:el<es.length) (hb:g.β id=some b) (hj:j+sz≤usz) (ha:agg=true→(D.at es el).isAg=true) (h1:agg=false→sz=1):
  ∃c e F2 c2,h[b]?=some (.cells c e (0,0))∧(∀i v,c2[i]?=some v→c[el*usz+j+i]?=some v)∧c2.length=sz∧aW h (D.sub (D.at es el) j sz agg) F2 c2∧
   (D.sub (D.at es el) j sz agg).isAg=agg∧el*usz+usz≤c.size∧(if ow then ∀x∈F2,x∈g.φ id∧g.β id≠some x else ∀x∈F2,g.Sh x):=by
 have ho:=hu.each _ hm;simp only[cm]at ho;obtain⟨_,hs,ho⟩:=ho;rcases ho with⟨h0,_⟩|⟨b',c,e,G,cs,rest,k1,k2,k3,k4,k5,k6,k7,k8⟩
 ·rw[hb]at h0;cases h0
 rw[hb]at k1;obtain rfl:=Option.some.inj k1;obtain⟨F1,F2,F3,c1,c2,c3,rfl,rfl,r1,r2,r3⟩:=k6.pick hel;have hsz:(es[el]).size=usz:=hs _ (List.getElem_mem hel);rw[D.at_eq hel]at ha⊢;obtain⟨A1,A2,A3,d1,d2,d3,rfl,rfl,q1,q2,q3,q4⟩:=r2.sub (agg:=agg) (by rw[hsz];exact hj) ha h1;have l1:c1.length=el*usz:=by
  rw[r1.length,D.sizeL_const (sz:=usz) fun d hd=>hs d (List.mem_of_mem_take hd)];rw[List.length_take,Nat.min_eq_left (Nat.le_of_lt hel)]
 have l2:=r2.length;refine⟨c,e,A2,d2,k2,?_,q2,q3,q4,?_,?_⟩
 ·intro i v hv;have:=getElem?_mid (a:=c1++d1) (c:=d3++c3++rest) hv;rw[←Array.getElem?_toList,k3];simp only[lP,l1,q1,List.append_assoc]at this⊢;exact this
 ·have:c.toList.length=c.size:=by simp
  rw[k3]at this;simp only[lP,l1]at this;simp only[lP]at l2;rw[hsz]at l2;omega
 ·cases ow with
  |true=>
   simp only[if_true]at k8⊢;intro x hx;have hmem:x∈F1++(A1++(A2++A3)++F3):=by simp[hx]
   refine⟨by rw[k8];exact List.mem_cons_of_mem _ hmem,?_⟩;rw[hb];intro e0;obtain rfl:=Option.some.inj e0;have hn:(g.φ id).Nodup:=by
    have:=hu.nodup;clear k8;generalize hus:us=us' at this hm;clear hus hu
    induction us' with
    |nil=>cases hm
    |cons y ys ih=>
     simp only[fp,List.flatMap_cons,List.nodup_append]at this;rcases List.mem_cons.1 hm with rfl|hm
     ·exact this.1
     ·exact ih this.2.1 hm
   rw[k8]at hn;exact(List.nodup_cons.1 hn).1 hmem
  |false=>
   simp only[fq,if_false]at k8⊢;exact fun x hx=>k8.2 x (by simp[hx])

end Go.Ax
namespace Go.Ax

variable {P : Program} {n0 : Nat} {S0 M0 : Nat → Prop} {w0 : World}

theorem dL(st:St):st.addUs []=st:=by cases st;simp[St.addUs]

def cQ(n0:Nat)(S0 M0:Nat→Prop)(w0:World)(st:St)(dst:Option Nat)(k:KQ)(a':Act)(w':World):Prop:=
 ∃av us,k av us∧((us=[]∨st.fresh us=true)→dH n0 S0 M0 w0 ((st.addUs us).setO dst av) a' w')

theorem Gw{a:Act}{d t:Nat}{v:Value}(hd:d<a.tmps.size):(a.put (some d) v).tmps.getD t undef=if d=t then v else a.tmps.getD t undef:=by
 simp only[Act.put,Array.getD_eq_getD_getElem?,Array.getElem?_setIfInBounds]
 split
 ·next h=>subst h;simp
 ·rfl

theorem cY{st:St}{a:Act}{w:World}(hs:dH n0 S0 M0 w0 st a w){g:Gh}(hu:aZ w.heap n0 S0 M0 st.us g)
  (hv:∀t,ab w.heap st.us g (lk st.env t) (a.tmps.getD t undef)) {d:Option Nat} (hd:∀i,d=some i→i<st.n) {av:AV} {v:Value} (hr:ab w.heap st.us g av v):
  dH n0 S0 M0 w0 (st.setO d av) (a.put d v) w:=by
 cases d with
 |none=>exact hs
 |some d=>
  have hd':=hd d rfl;refine⟨hs.ms,hs.dfr,by simp[Act.put,St.setO,St.set,hs.tm],hs.base,hs.os,hs.tape,hs.output,hs.size,hs.old,g,hu,fun t=>?_⟩;rw[Gw (by rw[hs.tm];exact hd')];simp only[St.setO,St.set,lk]
  split
  ·exact hr
  ·exact hv t

theorem Cx{st:St}{o:Oper}{a:Act}{w:World}{k:KQ}{Q':Exit→Act→World→Prop}(hs:dH n0 S0 M0 w0 st a w){g:Gh}(hu:aZ w.heap n0 S0 M0 st.us g)
  (hv:∀t,ab w.heap st.us g (lk st.env t) (a.tmps.getD t undef)) (hd:∀i,o.dst=some i→i<st.n) {av:AV} {v:Value}
  (hrun:(execOp a.eval o).run P w=.ok (.value v) w) (hr:ab w.heap st.us g av v) (hk:k av []):
  o.wp P a w (cQ n0 S0 M0 w0 st o.dst k) Q':=by
 unfold Oper.wp;rw[hrun];exact⟨av,[],hk,fun _=>by rw[dL];exact cY hs hu hv hd hr⟩

mutual
theorem cC{h:aE}:∀{d:D} {F cs},d.noPtr=true→aW h d F cs→F=[]
 |.sc _,_,_,_,hr=>by simp only[aW]at hr;exact hr.1
 |.ag ds,_,_,hn,hr=>by simp only[aW]at hr;simp only[D.noPtr]at hn;exact xR hn hr.2
 |.ls nn sz ds,_,_,hn,hr=>by
  simp only[aW]at hr;simp only[D.noPtr,bA,beq_iff_eq]at hn;rcases hr with⟨_,_,_,h3,_⟩|⟨b,off,cap,c,e,fr,F',_,_,h3,_⟩
  ·exact h3
  ·exact absurd hn.1 h3
 |.pt _ _,_,_,hn,_=>by simp[D.noPtr]at hn
 |.lc _ _ _,_,_,hn,_=>by simp[D.noPtr]at hn
 |.jk,_,_,_,hr=>by simp only[aW]at hr;exact hr.1
theorem xR{h:aE}:∀{ds:List D} {F cs},D.noPtrL ds=true→aK h ds F cs→F=[]
 | [],_,_,_,hr=>by simp only[aK]at hr;exact hr.1
 |d::ds,_,_,hn,hr=>by
  simp only[aK]at hr;simp only[D.noPtrL,bA]at hn;obtain⟨F1,F2,c1,c2,rfl,rfl,h1,h2⟩:=hr;rw[cC hn.1 h1,xR hn.2 h2]
  rfl
end

theorem uX(h:aE)(v:Value)(sz:Nat)(hv:v.oneCell'=true):aW h (mE v sz) [] [v]∧(mE v sz).size=1∧(mE v sz).isAg=false∧(mE v sz).noPtr=true:=by
 unfold mE
 split
 ·simp[aW,D.size,D.isAg,D.noPtr]
 ·simp[aW,D.size,D.isAg,D.noPtr,hv]

theorem sk(h:aE):∀(cs:List Value)(s:List Nat),s.length=cs.length→(∀v∈cs,v.oneCell'=true)→
  aK h (List.zipWith mE cs s) [] cs∧(∀d∈List.zipWith mE cs s,d.size=1∧d.isAg=false)∧D.noPtrL (List.zipWith mE cs s)=true
 | [],s,_,_=>by cases s<;>simp[aK,D.noPtrL]
 |v::cs,[],h1,_=>by simp at h1
 |v::cs,z::s,h1,h2=>by
  have ih:=sk h cs s (by simpa using h1) fun x hx=>h2 x (by simp[hx]);have c:=uX h v z (h2 v (by simp));refine⟨?_,?_,?_⟩
  ·simp only[List.zipWith_cons_cons,aK];exact⟨[],[],[v],cs,rfl,rfl,c.1,ih.1⟩
  ·simp only[List.zipWith_cons_cons,List.mem_cons];rintro d (rfl|hd)
   ·exact⟨c.2.1,c.2.2.1⟩
   ·exact ih.2.1 d hd
  ·simp only[List.zipWith_cons_cons,D.noPtrL,c.2.2.2,ih.2.2,Bool.and_self]

theorem jZ{t:TypeId}{v:Value}{d:D}(hc:vP P t v=some d)(h:aE):aW h d [] v.cells.toList∧d.fits v∧d.noPtr=true:=by
 unfold vP at hc
 dsimp only at hc
 split at hc
 ·next cs=>
  split at hc
  ·next hq=>
   simp only[bA,decide_eq_true_eq]at hq;obtain rfl:=Option.some.inj hc;have:=sk h cs.toList (oK P 20 t) (by simpa using hq.1) (by simpa using Array.all_eq_true_iff_forall_mem.1 hq.2);exact⟨by simp only[aW,Value.cells];exact⟨this.2.1,this.1⟩,by simp[D.fits],by simpa[D.noPtr]using this.2.2⟩
  ·cases hc
 ·split at hc
  ·next hq=>
   obtain rfl:=Option.some.inj hc;have:=uX h v ((oK P 20 t).headD 0) hq;rw[aS hq];exact⟨this.1,fx this.2.2.1 hq,this.2.2.2⟩
  ·cases hc

theorem xv{st:St}{a:Act}{h:aE}{us:List (Nat×U)}{g:Gh}(hv:∀t,ab h us g (lk st.env t) (a.tmps.getD t undef)){t:TypeId}{x:Operand}{X:X}
  (hx:aU P t x=some X):ab h us g (st.ev X) (a.eval x):=by
 cases x with
 |tmp n=>
  simp only[aU,oS]at hx;subst hx;exact hv n
 |const v=>
  simp only[aU,Option.map_eq_some_iff]at hx;obtain⟨d,hd,rfl⟩:=hx;have:=jZ hd h;simp only[St.ev,jc]
  split<;>simp only[ab]<;>exact⟨[],this.1,this.2.1,by simp⟩
 |global i=>
  simp only[aU,oS]at hx;subst hx;simp only[St.ev,jc,D.flat,if_true,ab];exact⟨[],by simp[aW,Act.eval,Value.cells,Value.oneCell'],by simp[D.fits,Act.eval,Value.oneCell'],by simp⟩
 |func f=>
  simp only[aU,oS]at hx;subst hx;simp only[St.ev,jc,D.flat,if_true,ab];exact⟨[],by simp[aW,Act.eval,Value.cells,Value.oneCell'],by simp[D.fits,Act.eval,Value.oneCell'],by simp⟩

theorem c9{h:aE}{us:List (Nat×U)}{g:Gh}{t:Option Nat}{x v:Value}(hr:ab h us g (.im t (.sc x)) v):v=x:=by
 simp only[ab,aW,D.fits]at hr;obtain⟨F,⟨_,h1,_⟩,h2,_⟩:=hr;rw[aS h2]at h1;simpa using h1

theorem dl{h:aE}{us:List (Nat×U)}{g:Gh}{t:Option Nat}{v:Value}(hv:v.oneCell'=true):ab h us g (.im t (.sc v)) v:=by
 simp only[ab];exact⟨[],by simp[aW,aS hv,hv],by simp[D.fits,hv],by simp⟩

theorem qS{h:aE}{us:List (Nat×U)}{g:Gh}{t:Option Nat}{b o:Nat}{d:D}{v:Value}(hr:ab h us g (.im t (.lc b o d)) v)(hd:d.isAg=false):
  ab h us g (.im t d) v∧((∃l c,v=.slice (some ⟨b,o,none⟩) l c)∨v=.pointer (some ⟨b,o,none⟩)):=by
 simp only[ab,aW]at hr⊢;obtain⟨F,⟨h1,h2⟩,h3,h4⟩:=hr;have h3':v.oneCell'=true:=by simpa[D.fits]using h3
 have h5:d.fits v:=by cases d<;>simp_all [D.fits,D.isAg]
 refine⟨⟨F,h2,h5,h4⟩,?_⟩;rw[aS h3']at h1;simpa using h1
theorem AN{h:aE}{us:List (Nat×U)}{g:Gh}{t:Option Nat}{b o:Nat}{d:D}{v:Value}(hr:ab h us g (.im t d) v)(hv:v=.pointer (some ⟨b,o,none⟩)):
  ab h us g (.im t (.lc b o d)) v:=by
 subst hv;simp only[ab,aW]at hr⊢;obtain⟨F,h1,h2,h3⟩:=hr;exact⟨F,⟨.inr (by simp[Value.cells]),h1⟩,by simp[D.fits,Value.oneCell'],h3⟩

end Go.Ax
namespace Go.Ax

variable {P : Program} {n0 : Nat} {S0 M0 : Nat → Prop} {w0 : World}
variable {st : St} {o : Oper} {a : Act} {w : World} {k : KQ} {Q' : Exit → Act → World → Prop} {g : Gh}

structure At (n0:Nat) (S0 M0:Nat→Prop) (w0:World) (st:St) (o:Oper) (a:Act) (w:World) (g:Gh):Prop where
 sat:dH n0 S0 M0 w0 st a w
 us:aZ w.heap n0 S0 M0 st.us g
 rep:∀t,ab w.heap st.us g (lk st.env t) (a.tmps.getD t undef)
 dst:∀i,o.dst=some i→i<st.n

theorem At.pure_(h:At n0 S0 M0 w0 st o a w g){av:AV}{v:Value}(hrun:(execOp a.eval o).run P w=.ok (.value v) w)(hr:ab w.heap st.us g av v)(hk:k av []):
  o.wp P a w (cQ n0 S0 M0 w0 st o.dst k) Q':=Cx h.sat h.us h.rep h.dst hrun hr hk

theorem At.ev_(h:At n0 S0 M0 w0 st o a w g){t:TypeId}{x:Operand}{X:Ax.X}(hx:aU P t x=some X):ab w.heap st.us g (st.ev X) (a.eval x):=xv h.rep hx

theorem Ls(h:At n0 S0 M0 w0 st o a w g){t:TypeId}{x:Operand}{X:Ax.X}(ho:o.op=.move x∨o.op=.assign x)(hx:aU P t x=some X)(hq:k (st.ev X) []):
  o.wp P a w (cQ n0 S0 M0 w0 st o.dst k) Q':=by
 refine h.pure_ (v:=a.eval x) ?_ (h.ev_ hx) hq;rcases ho with ho|ho<;>simp[execOp,ho]

theorem HC(h:At n0 S0 M0 w0 st o a w g){t u:TypeId}{c x y:Operand}{C X Y:Ax.X}(ho:o.op=.pick c x y)(hc:aU P u c=some C)(hx:aU P t x=some X)(hy:aU P t y=some Y)
  (hq:jn (st.ev C) (st.ev X) (st.ev Y) k):o.wp P a w (cQ n0 S0 M0 w0 st o.dst k) Q':=by
 have e:=h.ev_ hc;unfold jn at hq
 split at hq
 ·next t' b hcv=>
  rw[hcv]at e;have ec:=c9 e;cases b with
  |true=>exact h.pure_ (v:=a.eval x) (by simp[execOp,ho,ec,asBool]) (h.ev_ hx) (hq.1 rfl)
  |false=>exact h.pure_ (v:=a.eval y) (by simp[execOp,ho,ec,asBool]) (h.ev_ hy) (hq.2 rfl)
 ·exact hq.elim

theorem Nw(h:At n0 S0 M0 w0 st o a w g){t:TypeId}{x:Operand}{X:Ax.X}(ho:o.op=.nilCheck x)(hx:aU P t x=some X)(hq:kZ (st.ev X) k):
  o.wp P a w (cQ n0 S0 M0 w0 st o.dst k) Q':=by
 have e:=h.ev_ hx;unfold kZ at hq
 split at hq
 ·next t' d j hv=>
  rw[hv]at e;have e':=e;simp only[ab,aW,D.fits]at e';obtain⟨F,⟨b,off,c,el,fr,F',h1,_⟩,h2,_⟩:=e';rw[aS h2]at h1;have h3:a.eval x=.pointer (some ⟨b,off+j,none⟩):=by simpa using h1
  exact h.pure_ (v:=a.eval x) (by simp[execOp,ho,h3]) e hq
 ·next t' b0 o0 d j hv=>
  rw[hv]at e;have e':=e;simp only[ab,aW,D.fits]at e';obtain⟨F,⟨_,b,off,c,el,fr,F',h1,_⟩,h2,_⟩:=e';rw[aS h2]at h1;have h3:a.eval x=.pointer (some ⟨b,off+j,none⟩):=by simpa using h1
  exact h.pure_ (v:=a.eval x) (by simp[execOp,ho,h3]) e hq
 ·next t' p0 hv=>
  rw[hv]at e;have h3:=c9 e;exact h.pure_ (v:=a.eval x) (by simp[execOp,ho,h3]) e hq
 ·next id el j hv=>
  rw[hv]at e;have e':=e;simp only[ab]at e';obtain⟨ow,nn,sz,es,b,_,_,_,_,h3⟩:=e';exact h.pure_ (v:=a.eval x) (by simp[execOp,ho,h3]) e hq
 ·next id el j isz el' j' hv=>
  rw[hv]at e;have e':=e;simp only[ab]at e';obtain⟨ow,nn,usz,es,b,c,ty,b',off',len',cap',_,_,_,_,_,_,h3⟩:=e';exact h.pure_ (v:=a.eval x) (by simp[execOp,ho,h3]) e hq
 ·next id j hv=>
  rw[hv]at e;have e':=e;simp only[ab]at e';obtain⟨_,_,b,_,_,h3⟩:=e';exact h.pure_ (v:=a.eval x) (by simp[execOp,ho,h3]) e hq
 ·exact hq.elim

theorem Dz{op:BinOp}{t:TypeId}{x y:Value}{kk:Value→Prop}(h:xU op x y kk)(w:World):
    ∃v,(binOp op t x y).run P w=.ok v w∧kk v∧v.oneCell'=true:=by
  unfold xU at h
  split at h
  · next k1 m k2 n =>
    cases op<;>simp only at h<;>
      (try simp only[binOp])<;>
      first
      |(obtain⟨rfl,h1,h⟩:=h;refine⟨_,?_,h,rfl⟩;simp[Op.intDiv,h1])
      | (obtain ⟨h1, h⟩ := h; refine ⟨_, ?_, h, rfl⟩; have h2 : ¬ n < 0 := by omega
         simp[Op.shift,h2])
      |(obtain⟨rfl,h⟩:=h;refine⟨_,?_,h,rfl⟩;simp[Op.intArith,Op.intBits,Op.intCmp])
  · next s1 s2 =>
    cases op<;>simp only at h<;>first
      |exact h.elim
      | (obtain ⟨h1, h⟩ := h
         have h2:¬(((s1.size+s2.size:Nat):Int)>IntKind.i64.max):=by simp[IntKind.max,IntKind.signed,IntKind.bits];omega
         exact⟨_,by simp only[binOp,Op.stringOp];rw[if_neg h2];rfl,h,rfl⟩)
      |exact⟨_,rfl,h,rfl⟩
  · exact h.elim

theorem kY{op:BinOp}{t:TypeId}{x y:Operand}{u v:Value}(hu:u.oneCell'=true)(hn:u≠.nilIface)(w:World):(eqGuard op t x y u v).run P w=.ok () w:=by
 unfold eqGuard;cases op<;>first|rfl|(cases u<;>first|rfl|exact absurd rfl hn|cases hu)

theorem Fq(t:TypeId)(ht:P.underlying t=some .bool)(p q:Bool)(w:World):(Op.equal t (.bool p) (.bool q)).run P w=.ok (p==q) w:=by
 show(Op.equalIn (9999+1) t (.bool p) (.bool q)).run P w=_
 rw[Op.equalIn,Sem.run_bind,run_underlying ht]
 rfl

theorem Ie(t e:TypeId)(ht:P.underlying t=some (.slice e))(p:Option Addr)(l c l' c':Nat)(w:World):(Op.equal t (.slice p l c) (.slice none l' c')).run P w=.ok p.isNone w:=by
 show(Op.equalIn (9999+1) t (.slice p l c) (.slice none l' c')).run P w=_
 rw[Op.equalIn,Sem.run_bind,run_underlying ht];cases p<;>rfl

theorem GY(h:At n0 S0 M0 w0 st o a w g){op:BinOp}{t u:TypeId}{x y:Operand}{X Y:Ax.X}(ho:o.op=.binOp op t x y u)(hx:aU P t x=some X)(hy:aU P u y=some Y)
  (hq:xT op (st.ev X) (st.ev Y) k):o.wp P a w (cQ n0 S0 M0 w0 st o.dst k) Q':=by
 have ex:=h.ev_ hx;have ey:=h.ev_ hy;unfold xT Fi at hq
 split at hq
 ·next t1 p t2 q e1 e2=>
  rw[e1]at ex;rw[e2]at ey;have vx:=c9 ex;have vy:=c9 ey;obtain⟨v,hr,hk,h1⟩:=Dz (P:=P) (t:=t) hq w;have hp:p.oneCell'=true∧p≠.nilIface:=by
   unfold xU at hq
   split at hq<;>simp_all [Value.oneCell']
  refine h.pure_ (v:=v) ?_ (dl h1) hk;simp[execOp,ho,vx,vy,kY hp.1 hp.2,hr]
 ·exact hq.elim

theorem GA(h:At n0 S0 M0 w0 st o a w g){op:BinOp}{neg:Bool}{t u:TypeId}{x y:Operand}{X Y:Ax.X}(ho:o.op=.binOp op t x y u)(hx:aU P t x=some X)(hy:aU P u y=some Y)
  (ht:P.underlying t=some .bool) (hn:op=.eql∧neg=false∨op=.neq∧neg=true)
  (hq:xI neg (st.ev X) (st.ev Y) k):o.wp P a w (cQ n0 S0 M0 w0 st o.dst k) Q':=by
 have ex:=h.ev_ hx;have ey:=h.ev_ hy;unfold xI at hq
 split at hq
 ·next t1 p t2 q e1 e2=>
  rw[e1]at ex;rw[e2]at ey;have vx:=c9 ex;have vy:=c9 ey;have eg:∀op,(eqGuard op t x y (.bool p) (.bool q)).run P w=.ok () w:=fun op=>kY rfl (by simp) w;refine h.pure_ (v:=.bool (if neg then !(p==q)else p==q)) ?_ (dl rfl) hq;rcases hn with⟨rfl,rfl⟩|⟨rfl,rfl⟩<;>
  simp[execOp,ho,vx,vy,eg,binOp,Fq t ht]
 ·exact hq.elim

theorem na{h:aE}{us:List (Nat×U)}{g:Gh}{t:Option Nat}{nn:Option Bool}{sz:Nat}{ds:List D}{v:Value}(hr:ab h us g (.im t (.ls nn sz ds)) v):
  ∃p len cap,v=.slice p len cap∧len=ds.length∧(p=none→ds=[]∧cap=0∧nn≠some false)∧(p.isSome→nn≠some true):=by
 simp only[ab,aW,D.fits]at hr;obtain⟨F,h1,h2,_⟩:=hr;rw[aS h2]at h1;rcases h1 with⟨p,h1,rfl,_,h3,h4⟩|⟨b,off,cap,c,e,fr,F',h1,_,h3,_⟩
 ·have:v=.slice p 0 0:=by simpa using h1
  exact⟨p,0,0,this,rfl,fun hp=>⟨rfl,rfl,h3 hp⟩,h4⟩
 ·have:v=.slice (some ⟨b,off,none⟩) ds.length cap:=by simpa using h1
  exact⟨_,_,_,this,rfl,by simp,fun _=>h3⟩

theorem D5(h:At n0 S0 M0 w0 st o a w g){op:BinOp}{neg:Bool}{t u e:TypeId}{x y:Operand}{X Y:Ax.X}(ho:o.op=.binOp op t x y u)(hx:aU P t x=some X)(hy:aU P u y=some Y)
  (ht:P.underlying t=some (.slice e)) (hn:op=.eql∧neg=false∨op=.neq∧neg=true)
  (hq:qU neg (st.ev X) (st.ev Y) k):o.wp P a w (cQ n0 S0 M0 w0 st o.dst k) Q':=by
 have ex:=h.ev_ hx;have ey:=h.ev_ hy;unfold qU at hq
 split at hq
 ·next t1 p z1 d1 t2 z2 e1 e2=>
  rw[e1]at ex;rw[e2]at ey;obtain⟨p1,l1,c1,v1,_,h2,h3⟩:=na ex;obtain⟨p2,l2,c2,v2,_,h4,h5⟩:=na ey;have q2:p2=none:=by
   cases p2 with
   |none=>rfl
   |some z=>exact absurd rfl (h5 rfl)
  have q1:p1.isNone=p:=by
   cases p1 with
   |none=>cases p with
    |true=>rfl
    |false=>exact absurd rfl (h2 rfl).2.2
   |some z=>cases p with
    |true=>exact absurd rfl (h3 rfl)
    |false=>rfl
  subst q2;subst q1;have eg:∀op,(eqGuard op t x y (.slice p1 l1 c1) (.slice none l2 c2)).run P w=.ok () w:=fun op=>kY rfl (by simp) w;refine h.pure_ (v:=.bool (if neg then !p1.isNone else p1.isNone)) ?_ (dl rfl) hq;rcases hn with⟨rfl,rfl⟩|⟨rfl,rfl⟩<;>
  simp[execOp,ho,v1,v2,eg,binOp,Ie t e ht]
 ·exact hq.elim

theorem UG(h:At n0 S0 M0 w0 st o a w g){op:UnOp}{t u:TypeId}{x:Operand}{X:Ax.X}(ho:o.op=.unOp op t x)(hx:aU P u x=some X)
  (hq:Fl op (st.ev X) k):o.wp P a w (cQ n0 S0 M0 w0 st o.dst k) Q':=by
 have ex:=h.ev_ hx;unfold Fl at hq
 split at hq
 ·next t1 b e1=>
  rw[e1]at ex;exact h.pure_ (v:=.bool (!b)) (by simp[execOp,ho,c9 ex,Op.unary]) (dl rfl) hq
 ·next t1 ki n e1=>
  rw[e1]at ex;exact h.pure_ (v:=.int ki (ki.wrap (-n))) (by simp[execOp,ho,c9 ex,Op.unary,Op.intArith]) (dl rfl) hq
 ·exact hq.elim

theorem Lv(h:At n0 S0 M0 w0 st o a w g){s t:TypeId}{kd ks:IntKind}{x:Operand}{X:Ax.X}(ho:o.op=.convert s t x)(hx:aU P s x=some X)(hs:P.underlying s=some (.int ks))(ht:P.underlying t=some (.int kd))
  (hq:xz kd (st.ev X) k):o.wp P a w (cQ n0 S0 M0 w0 st o.dst k) Q':=by
 have ex:=h.ev_ hx;unfold xz at hq
 split at hq
 ·next t1 ki n e1=>
  rw[e1]at ex;exact h.pure_ (v:=.int kd (kd.wrap n)) (by simp[execOp,ho,c9 ex,convert,run_underlying hs,run_underlying ht,Conv.intToInt]) (dl rfl) hq
 ·exact hq.elim

theorem NI(h:At n0 S0 M0 w0 st o a w g){t:TypeId}{x:Operand}{X:Ax.X}{i:Nat}(ho:o.op=.extract x i)(hx:aU P t x=some X)
  (hq:rv (st.ev X) i k):o.wp P a w (cQ n0 S0 M0 w0 st o.dst k) Q':=by
 have ex:=h.ev_ hx;unfold rv at hq
 split at hq
 ·next vs e1=>
  rw[e1]at ex;simp only[ab]at ex;obtain⟨xs,hv,hl⟩:=ex;obtain⟨hi,hk⟩:=hq;have:∀(vs:List AV)(xs:List Value)(i:Nat),ah w.heap st.us g vs xs→i<vs.length→∃v,xs[i]?=some v∧ab w.heap st.us g (vs.getD i .any) v:=by
   intro vs
   induction vs with
   |nil=>intro xs i _ hi;simp at hi
   |cons y vs ih=>
    intro xs i hl hi;simp only[ah]at hl;obtain⟨v,r,rfl,h1,h2⟩:=hl;cases i with
    |zero=>exact⟨v,rfl,h1⟩
    |succ i=>obtain⟨v',h3,h4⟩:=ih r i h2 (by simpa using hi);exact⟨v',by simpa using h3,by simpa using h4⟩
  obtain⟨v,h1,h2⟩:=this vs xs.toList i hl hi;refine h.pure_ (v:=v) ?_ h2 hk;have h1':xs[i]?=some v:=by simpa using h1
  simp[execOp,ho,hv,Instr.extract,h1']
 ·exact hq.elim

end Go.Ax
namespace Go.Ax

variable {P : Program} {n0 : Nat} {S0 M0 : Nat → Prop} {w0 : World}
variable {st : St} {o : Oper} {a : Act} {w : World} {k : KQ} {Q' : Exit → Act → World → Prop} {g : Gh}

theorem pD{h:aE}{d:D}{F:List Nat}{vc:List Value}(hr:aW h d F vc):aK h d.cells F vc∧∀x∈d.cells,x.size=1∧x.isAg=false:=by
 by_cases hd:d.isAg=true
 ·cases d with
  |ag ds=>simp only[aW]at hr;exact⟨hr.2,hr.1⟩
  |_=>simp[D.isAg]at hd
 ·have e:d.cells=[d]:=by cases d<;>simp_all [D.cells,D.isAg]
  rw[e,cR];refine⟨⟨F,[],vc,[],by simp,by simp,hr,jl.2 ⟨rfl,rfl⟩⟩,?_⟩;intro x hx;simp only[List.mem_singleton]at hx;subst hx;exact⟨by cases x<;>simp_all [D.size,D.isAg],by simpa using hd⟩

theorem uU{h:aE}{us:List (Nat×U)}:∀{vs:List AV} {xs:List Value} {ds:List D},ah h us g vs xs→u7 vs=some ds→
  ∃F,aK h ds F (xs.map (·.cells.toList)).flatten∧(∀d∈ds,d.size=1∧d.isAg=false)∧∀b∈F,g.ok none b
 | [],xs,ds,hr,hi=>by
  simp only[ah]at hr;simp only[u7,oS]at hi;subst hr hi;exact⟨[],by simp[aK],by simp,by simp⟩
 |av::vs,xs,ds,hr,hi=>by
  simp only[ah]at hr;obtain⟨v,r,rfl,h1,h2⟩:=hr;unfold u7 at hi
  split at hi
  ·next heq=>cases heq
  ·next d r' heq=>
   injection heq with e1 e2;subst e1 e2
   split at hi
   ·next ds' hds=>
    injection hi with hi;subst hi;obtain⟨F,i1,i2,i3⟩:=uU h2 hds;simp only[ab]at h1;obtain⟨F1,q1,q2,q3⟩:=h1;obtain⟨c1,c2⟩:=pD q1;refine⟨F1++F,?_,?_,?_⟩
    ·simpa using aK.append c1 i1
    ·intro x hx;rcases List.mem_append.1 hx with hx|hx
     ·exact c2 x hx
     ·exact i2 x hx
    ·intro b hb;rcases List.mem_append.1 hb with hb|hb
     ·exact q3 b hb
     ·exact i3 b hb
   ·cases hi
  ·cases hi

theorem xE{h:aE}{us:List (Nat×U)}{vs:List AV}{xs:List Value}(hr:ah h us g vs xs){cs:Array Value}(hc:cs.toList=(xs.map (·.cells.toList)).flatten):ab h us g (Cl vs) (.agg cs):=by
 unfold Cl
 split
 ·next ds hi=>
  obtain⟨F,i1,i2,i3⟩:=uU hr hi;simp only[ab,aW];exact⟨F,⟨i2,by simpa[Value.cells,hc]using i1⟩,⟨cs,rfl⟩,i3⟩
 ·simp only[ab];exact⟨xs,hr,by rw[←hc]⟩

theorem mK{h:aE}{us:List (Nat×U)}:∀{vs:List AV} {xs:List Value} (j n:Nat),ah h us g vs xs→ah h us g ((vs.drop j).take n) ((xs.drop j).take n)
 | [],xs,j,n,hr=>by simp only[ah]at hr;subst hr;simp[ah]
 |v::vs,xs,0,0,hr=>by simp[ah]
 |v::vs,xs,0,n+1,hr=>by
  simp only[ah]at hr;obtain⟨x,r,rfl,h1,h2⟩:=hr;have:=mK 0 n h2;simp only[List.drop_zero]at this;simp only[List.drop_zero,List.take_succ_cons,ah];exact⟨x,_,rfl,h1,this⟩
 |v::vs,xs,j+1,n,hr=>by
  simp only[ah]at hr;obtain⟨x,r,rfl,h1,h2⟩:=hr;simpa using mK j n h2
theorem f7{h:aE}{us:List (Nat×U)}:∀{vs:List AV} {xs:List Value},ah h us g vs xs→xs.length=vs.length
 | [],xs,hr=>by simp only[ah]at hr;simp[hr]
 |v::vs,xs,hr=>by
  simp only[ah]at hr;obtain⟨x,r,rfl,_,h2⟩:=hr;simp[f7 h2]
theorem vk{h:aE}{us:List (Nat×U)}:∀{vs:List AV} {xs:List Value} {i:Nat},ah h us g vs xs→i<vs.length→ab h us g (vs.getD i .any) (xs.getD i undef)
 | [],_,_,_,hi=>by simp at hi
 |a::as,vs,i,hr,hi=>by
  simp only[ah]at hr;obtain⟨v,r,rfl,h1,h2⟩:=hr;cases i with
  |zero=>simpa using h1
  |succ i=>simpa using vk h2 (i:=i) (by simpa using hi)
theorem kS{us:List (Nat×U)}{h:aE}{av:AV}{v:Value}(hr:ab h us g av v)(ho:av.one0=true):v.oneCell'=true:=by
 cases av with
 |im t d=>
  simp only[AV.one0,bA,beq_iff_eq,Bool.not_eq_true']at ho;simp only[ab]at hr;obtain⟨F,r1,r2,r3⟩:=hr;cases d<;>simp_all [D.fits,D.isAg,Value.oneCell']
 |pw i el j=>
  simp only[ab]at hr;obtain⟨_,_,_,_,_,_,_,_,_,rfl⟩:=hr;simp[Value.oneCell']
 |pb i j=>
  simp only[ab]at hr;obtain⟨_,_,_,_,_,rfl⟩:=hr;simp[Value.oneCell']
 |cl f vs=>
  simp only[ab]at hr;obtain⟨_,_,rfl⟩:=hr;simp[Value.oneCell']
 |sm i off len=>
  simp only[ab]at hr;obtain⟨_,_,_,_,_,_,⟨_,_,rfl⟩|⟨_,_,_,rfl⟩⟩:=hr<;>simp[Value.oneCell']
 |_=>simp[AV.one0]at ho
theorem fy{us:List (Nat×U)}{h:aE}:∀{vs:List AV} {xs:List Value},ah h us g vs xs→vs.all AV.one0=true→(xs.map (·.cells.toList)).flatten=xs
 | [],xs,hr,_=>by simp only[ah]at hr;simp[hr]
 |v::vs,xs,hr,ho=>by
  simp only[ah]at hr;obtain⟨x,r,rfl,h1,h2⟩:=hr;simp only[List.all_cons,bA]at ho;simp[aS (kS h1 ho.1),fy h2 ho.2]

theorem wY{w:World}{b off:Nat}{c:Array Value}{e:TypeId}{fr:Nat×Nat}(h:w.heap[b]?=some (.cells c e fr)):w.cell? ⟨b,off,none⟩=c[off]?:=by
 simp[World.cell?,h]

theorem jG(b o j:Nat):(⟨b,o,none⟩:Addr).add j=⟨b,o+j,none⟩:=by unfold Addr.add;split<;>simp_all

theorem wW{t:TypeId}{agg:Bool}(hg:ke P t=some agg)(w:World):(isAgg t).run P w=.ok agg w:=by
 unfold ke at hg;unfold isAgg;rw[Sem.run_bind]
 split at hg
 ·next h=>rw[run_underlying h];injection hg with hg;subst hg;rfl
 ·next h=>rw[run_underlying h];injection hg with hg;subst hg;rfl
 ·next d h1 h2 h=>
  rw[run_underlying h];injection hg with hg;subst hg;cases d<;>first|rfl|(exact absurd h (by intro h';simp_all))|simp_all
 ·cases hg

theorem hZ{t:TypeId}{sz:Nat}(hz:dv P t=some sz)(w:World):(sizeOf t).run P w=.ok sz w:=by
 simp only[dv,Option.map_eq_some_iff]at hz;obtain⟨i,hi,rfl⟩:=hz;simp[sizeOf,typeInfo,hi]

theorem wt{t:TypeId}{agg:Bool}{sz:Nat}(hz:dv P t=some sz)(hg:ke P t=some agg){b off:Nat}{cs:List Value}(hl:cs.length=sz)
  (hc:∀i v,cs[i]?=some v→w.cell? ⟨b,off+i,none⟩=some v) (h1:agg=false→sz=1):
  ∃v,(Instr.loadAt t (.pointer (some ⟨b,off,none⟩))).run P w=.ok v w∧v.cells.toList=(if agg then cs else v.cells.toList)∧(agg=true→v=.agg cs.toArray)∧(agg=false→cs=[v]):=by
 cases agg with
 |true=>
  refine⟨.agg cs.toArray,?_,by simp[Value.cells],fun _=>rfl,by simp⟩;have hl':=run_loadCells_list (P:=P) w ⟨b,off,none⟩ cs (fun j v hv=>by rw[jG];exact hc j v hv);rw[hl]at hl';simp[Instr.loadAt,Instr.sureAddr,loadVar,wW hg,hZ hz,hl']
 |false=>
  obtain rfl:=h1 rfl
  match cs,hl with
  | [v],_=>
   have:=hc 0 v rfl;simp only[Nat.add_zero]at this;exact⟨v,by simp[Instr.loadAt,Instr.sureAddr,loadVar,wW hg,this],by simp,by simp,fun _=>rfl⟩

theorem oX{d:D}{cs:List Value}(hd:d.isAg=true):d.fits (.agg cs.toArray):=by
 cases d<;>simp_all [D.fits,D.isAg]

theorem G6{h:aE}{us:List (Nat×U)}(hu:aZ h n0 S0 M0 us g){id el j isz el' j':Nat}{v:Value}{nn nn':Option Bool}{usz:Nat}{es ds:List D}(hr:ab h us g (.pq id el j isz el' j') v)
  (hun:lu us id=some (.ar true nn usz es)) (hd:D.sub (D.at es el) j 1 false=.ls nn' isz ds) (hel:el'<ds.length) (hj:j'<isz):ab h us g (.im (some id) (.pt (D.at ds el') j')) v∧(D.at ds el').size=isz:=by
 simp only[ab]at hr;obtain⟨ow,nn1,usz1,es1,b,c,e,b',off',len',cap',r1,r2,r3,r4,r5,r6,rfl⟩:=hr;have:=hu.uniq r1 (ay hun);injection this with e1 e2 e3 e4;subst e1 e2 e3 e4;obtain⟨c1,e1,F2,c2,p1,p2,p3,p4,p5,p6,p7⟩:=lp (agg:=false) (sz:=1) hu r1 r2 r4 r3 (by simp) (by simp);rw[r5]at p1;injection p1 with p1;injection p1 with p1 p1';subst p1
 match c2,p3 with
 | [cv],_=>
  have h0:=p2 0 cv rfl;rw[Nat.add_zero,r6]at h0;obtain rfl:=Option.some.inj h0;rw[hd]at p4;simp only[aW]at p4;rcases p4 with⟨p,q1,rfl,_⟩|⟨b1,off,cap,c3,el3,fr,F',q1,q2,q3,q4,q5,q6,q7,q8,q9⟩
  ·simp at hel
  ·simp only[List.cons.injEq,Value.slice.injEq,oS,Addr.mk.injEq,and_true]at q1;obtain⟨⟨rfl,rfl⟩,rfl,rfl⟩:=q1;obtain⟨F1,F3,F4,d1,d2,d3,g1,g2,g3,g4,g5⟩:=q9.pick hel;have hsz:=q8 _ (List.getElem_mem hel);have l1:d1.length=el'*isz:=by
    rw[g3.length,D.sizeL_const (sz:=isz) fun d hd=>q8 d (List.mem_of_mem_take hd),List.length_take,Nat.min_eq_left (Nat.le_of_lt hel)]
   have hmul:el'*isz+isz≤ds.length*isz:=by
    have:=Nat.mul_le_mul_right isz (show el'+1≤ds.length by omega);rw[Nat.add_mul]at this;omega
   have hmul2:ds.length*isz≤cap'*isz:=Nat.mul_le_mul_right isz q4;rw[D.at_eq hel];simp only[ab];refine⟨⟨b'::F3,?_,by simp[D.fits,Value.oneCell'],?_⟩,hsz⟩
   ·unfold aW;refine⟨b',off'+el'*isz,c3,el3,fr,F3,by simp[Value.cells],rfl,by omega,q6,by omega,?_⟩;have:(c3.toList.drop (off'+el'*isz)).take ((ds[el']).size)=d2:=by
     have e1:=congrArg (fun l=>(l.drop d1.length).take d2.length) g2;simp only[List.drop_left',List.take_left',List.drop_take,List.drop_drop,List.take_take]at e1;rw[l1]at e1;have l2:=g4.length;rw[hsz]at l2;rw[l2,Nat.min_eq_left (by omega)]at e1;rw[hsz];exact e1
    rw[this];exact g4
   ·intro y hy;refine .inr ⟨id,rfl,?_⟩;have hin:y∈F2:=by
     rw[q2,g1];rcases List.mem_cons.1 hy with rfl|hy
     ·simp
     ·simp[hy]
    simpa using p7 y hin

theorem DP{t1:Option Nat}{d:D}{j:Nat}{v0:Value}{t:TypeId}{agg:Bool}{sz:Nat}
  (hz:dv P t=some sz) (hg:ke P t=some agg) (h1:agg=false→sz=1) (ex:ab w.heap st.us g (.im t1 (.pt d j)) v0)
  (q1:j+sz≤d.size) (q2:agg=true→d.isAg=true):∃v,(Instr.loadAt t v0).run P w=.ok v w∧ab w.heap st.us g (.im t1 (D.sub d j sz agg)) v:=by
 simp only[ab,aW]at ex;obtain⟨F,⟨b,off,c,e,fr,F',r1,r2,r3,r4,r5,r6⟩,f1,f2⟩:=ex;rw[aS (by simpa[D.fits]using f1)]at r1;have hv:v0=.pointer (some ⟨b,off+j,none⟩):=by simpa using r1
 obtain⟨F1,F2,F3,c1,c2,c3,g1,g2,g3,g4,g5,g6⟩:=r6.sub q1 q2 h1;have hcell:∀i v,c2[i]?=some v→w.cell? ⟨b,off+j+i,none⟩=some v:=by
  intro i v hv;rw[wY r4];have:=getElem?_mid (a:=c1) (c:=c3) hv;rw[←g2,g3]at this;have hlt:=(List.getElem?_eq_some_iff.1 this).1;rw[List.getElem?_take_of_lt (by simp at hlt;omega),List.getElem?_drop]at this;rw[←Array.getElem?_toList,show off+j+i=off+(j+i)by omega];exact this
 obtain⟨v,v1,v2,v3,v4⟩:=wt (P:=P) (w:=w) hz hg g4 hcell h1;refine⟨v,by rw[hv];exact v1,?_⟩;simp only[ab];refine⟨F2,?_,?_,fun x hx=>f2 x (by rw[r2,g1];simp[hx])⟩
 ·cases agg with
  |true=>rw[v3 rfl];simpa[Value.cells]using g5
  |false=>
   have:=v4 rfl;have ho1:=g5.one v (by rw[this];simp);rw[aS ho1];rw[this]at g5;simpa using g5
 ·cases agg with
  |true=>rw[v3 rfl];exact oX g6
  |false=>exact fx g6 (g5.one v (by rw[v4 rfl];simp))

theorem vO(hus:aZ w.heap n0 S0 M0 st.us g){av0:AV}{v0:Value}{t:TypeId}{agg:Bool}{sz:Nat}
  (hz:dv P t=some sz) (hg:ke P t=some agg) (h1:agg=false→sz=1) (ex:ab w.heap st.us g av0 v0)
  (hq:vF av0 st.unit agg sz k):∃av v,(Instr.loadAt t v0).run P w=.ok v w∧ab w.heap st.us g av v∧k av []:=by
 unfold vF at hq
 split at hq
 ·next t1 d j=>
  obtain⟨⟨q1,q2⟩,hk⟩:=hq;obtain⟨v,r1,r2⟩:=DP (st:=st) hz hg h1 ex q1 q2;exact⟨_,v,r1,r2,hk⟩
 ·next t1 b0 o0 d j=>
  obtain⟨⟨q1,q2⟩,hk⟩:=hq;obtain⟨v,r1,r2⟩:=DP (st:=st) hz hg h1 (qS ex rfl).1 q1 q2;exact⟨_,v,r1,r2,hk⟩
 ·next id el j=>
  simp only[ab]at ex;obtain⟨ow,nn,usz,es,b,r1,r2,r3,r4,hv⟩:=ex;unfold G7 at hq
  split at hq
  ·next ow' nn' usz' es' hun=>
   have hm:=ay hun;have:=hus.uniq r1 hm;injection this with e1 e2 e3 e4;subst e1;subst e2;subst e3;subst e4;obtain⟨⟨q1,q2⟩,hk⟩:=hq;obtain⟨c,e,F2,c2,p1,p2,p3,p4,p5,p6,p7⟩:=lp hus r1 r2 r4 q1 q2 h1;have hcell:∀i v,c2[i]?=some v→w.cell? ⟨b,el*usz+j+i,none⟩=some v:=by
    intro i v hv;rw[wY p1];exact p2 i v hv
   obtain⟨v,v1,v2,v3,v4⟩:=wt (P:=P) (w:=w) hz hg p3 hcell h1;refine⟨_,v,by rw[hv];exact v1,?_,hk⟩;have hrep:aW w.heap (D.sub (D.at es el) j sz agg) F2 v.cells.toList∧(D.sub (D.at es el) j sz agg).fits v:=by
    cases agg with
    |true=>rw[v3 rfl];exact⟨by simpa[Value.cells]using p4,oX p5⟩
    |false=>
     have:=v4 rfl;have ho1:=p4.one v (by rw[this];simp);rw[aS ho1];rw[this]at p4;exact⟨by simpa using p4,fx p5 ho1⟩
   generalize hd:D.sub (D.at es el) j sz agg=d at*;cases ow with
   |false=>
    simp only[D3,fq,if_false,ab]at p7⊢;exact⟨F2,hrep.1,hrep.2,fun x hx=>.inl (p7 x hx)⟩
   |true=>
    have hsome:ab w.heap st.us g (.im (some id) d) v:=by
     simp only[ab];refine⟨F2,hrep.1,hrep.2,fun x hx=>.inr ⟨id,rfl,?_⟩⟩;simpa using p7 x hx
    simp only[D3,if_true]
    split
    ·next hnp=>
     have:=cC (D.flat_noPtr hnp) hrep.1;subst this;simp only[ab];exact⟨[],hrep.1,hrep.2,by simp⟩
    ·simp only[ab];refine⟨nn,usz,es,b,c,e,r1,r2,q1,r4,p1,q2,h1,?_,?_⟩
     ·have hlen:v.cells.toList=c2:=by
       cases agg with
       |true=>rw[v3 rfl];simp[Value.cells]
       | false => rw [v4 rfl, aS (hrep.1.one v (by
         have:=v4 rfl;have h2:=hrep.2;have:d.isAg=false:=p5;cases d<;>simp_all [D.fits,D.isAg,Value.cells,Value.oneCell']<;>(try (cases v<;>simp_all [Value.cells,Value.oneCell']))))]
      rw[hlen];exact(w3 p3 p2).symm
     ·cases agg with
      |true=>rw[v3 rfl];simp[Value.cells]
      |false=>
       simp only[fq,if_false];have h2:=hrep.2;have:d.isAg=false:=p5;cases d<;>simp_all [D.fits,D.isAg]
  ·exact hq.elim
 ·next id el j isz el' j'=>
  unfold Hc at hq
  split at hq
  ·next nn usz es hun=>
   unfold zQ at hq
   split at hq
   ·next nn' sz' ds hd=>
    obtain⟨⟨rfl,q1,q2,q3,q4⟩,hk⟩:=hq;obtain⟨hp,hs⟩:=G6 hus ex hun hd q1 q2;obtain⟨v,r1,r2⟩:=DP (st:=st) hz hg h1 hp (by omega) q4;refine⟨_,v,r1,?_,hk⟩;unfold ly
    split
    ·next hc=>
     cases hdd:D.sub (D.at ds el') j' sz agg with
     |sc x=>
      rw[hdd]at r2;simp only[ab,aW]at r2⊢;obtain⟨F,⟨rfl,a1,a2⟩,a3,_⟩:=r2;exact⟨[],⟨rfl,a1,a2⟩,a3,by simp⟩
     |_=>rw[hdd]at hc;simp[D.isSc]at hc
    ·exact r2
   ·exact hq.elim
  ·exact hq.elim
 ·next id j=>
  unfold Hd at hq
  split at hq
  ·next usz x hun=>
   have hm:=ay hun;simp only[ab]at ex;obtain⟨sz1,items1,b,r1,r2,hv⟩:=ex;have:=hus.uniq r1 hm;injection this with e1 e2;subst e1 e2;have ho:=hus.each _ hm;simp only[cm]at ho;obtain⟨_,b',c,e,vs,rest,k1,k2,k3,k4,k5,k6⟩:=ho;rw[r2]at k1;obtain rfl:=Option.some.inj k1;simp only[ah]at k4;obtain⟨v,r,rfl,hx,rfl⟩:=k4;obtain⟨⟨hpos,_⟩,hq⟩:=hq;have hvs:=k5 hpos v (by simp);have hc:c.toList=v.cells.toList++rest:=by simpa using k6
   have hcell:∀(n:Nat) i y,((v.cells.toList.drop j).take n)[i]?=some y→w.cell? ⟨b,j+i,none⟩=some y:=by
    intro n i y hy;rw[wY k2,←Array.getElem?_toList,hc];rw[List.getElem?_take]at hy
    split at hy
    ·have hy:v.cells.toList[j+i]?=some y:=by simpa using hy
     rw[List.getElem?_append_left (List.getElem?_eq_some_iff.1 hy).1];exact hy
    ·cases hy
   unfold rb at hq
   split at hq
   ·next hcd=>
    obtain⟨rfl,rfl,hcd⟩:=hcd;have hall:(v.cells.toList.drop 0).take sz=v.cells.toList:=by
     rw[List.drop_zero,List.take_of_length_le (by simp[hvs])]
    obtain⟨v',v1,v2,v3,v4⟩:=wt (P:=P) (w:=w) hz hg (b:=b) (off:=0) (cs:=(v.cells.toList.drop 0).take sz) (by rw[hall];simpa using hvs) (fun i y hy=>hcell _ i y hy) h1;rw[hall]at v3 v4;have:v'=v:=by
     cases agg with
     |true=>
      have h3:=v3 rfl;cases x with
      |sg ys=>
       simp only[ab]at hx;obtain⟨xs,_,rfl⟩:=hx;rw[h3];simp[Value.cells]
      |_=>simp[cL]at hcd
     |false=>
      simp only[cL]at hcd;have h4:=v4 rfl;rw[aS (kS hx hcd)]at h4;simpa using h4.symm
    subst this;exact⟨x,v',by rw[hv];exact v1,hx,hq⟩
   ·unfold C0 at hq
    split at hq
    ·rename_i ys _ _
     obtain⟨⟨p1,p2⟩,hq⟩:=hq;simp only[ab]at hx;obtain⟨xs,hxs,rfl⟩:=hx;have hfl:=fy hxs p1;have hcs:(Value.agg (xs.map (·.cells.toList)).flatten.toArray).cells.toList=xs:=by rw[hfl];simp[Value.cells]
     have hl:=f7 hxs;rw[hcs]at hcell;obtain⟨v',v1,v2,v3,v4⟩:=wt (P:=P) (w:=w) hz hg (b:=b) (off:=j) (cs:=(xs.drop j).take sz) (by simp;omega) (fun i y hy=>hcell _ i y hy) h1;have hpart:=mK j sz hxs
     split at hq
     ·next ha=>
      have h3:=v3 ha;refine⟨_,v',by rw[hv];exact v1,?_,hq⟩;rw[h3];refine xE hpart ?_;have:((ys.drop j).take sz).all AV.one0=true:=by
       rw[List.all_eq_true]at p1⊢;exact fun x hx=>p1 x (List.mem_of_mem_drop (List.mem_of_mem_take hx))
      rw[fy hpart this]
     ·next ha=>
      have ha:agg=false:=by simpa using ha
      have h4:=v4 ha;have hs1:=h1 ha;subst hs1;refine⟨_,v',by rw[hv];exact v1,?_,hq⟩;have:=vk (i:=j) hxs (by omega);have e5:xs.getD j undef=v':=by
       have hj:j<xs.length:=by omega
       rw[List.getD_eq_getElem?_getD,List.getElem?_eq_getElem hj];rw[List.drop_eq_getElem_cons hj,List.take_succ_cons,List.take_zero]at h4;simpa using h4
      rw[e5]at this;exact this
    ·exact hq.elim
  ·exact hq.elim
 ·exact hq.elim

theorem Vl(h:At n0 S0 M0 w0 st o a w g){t u:TypeId}{agg:Bool}{sz:Nat}{x:Operand}{X:Ax.X}(ho:o.op=.load t x)(hx:aU P u x=some X)
  (hz:dv P t=some sz) (hg:ke P t=some agg) (h1:agg=false→sz=1)
  (hq:vF (st.ev X) st.unit agg sz k):o.wp P a w (cQ n0 S0 M0 w0 st o.dst k) Q':=by
 obtain⟨av,v,h2,h3,h4⟩:=vO (P:=P) h.us hz hg h1 (h.ev_ hx) hq;exact h.pure_ (v:=v) (by simp[execOp,ho,h2]) h3 h4

end Go.Ax
