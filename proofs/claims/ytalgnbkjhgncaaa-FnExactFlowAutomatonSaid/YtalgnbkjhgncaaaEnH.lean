/- THE ENGINE, PART 8: a generator of conditions over the register code, and its soundness. No condition. -/
import Derived.Test.YtalgnbkjhgncaaaEnG
set_option linter.all false
namespace Go.Ax
variable {P:Program}
variable {un:Nat→Option U}
def TG{r:lz}{ev:X→AV}{k:KQ}(h:yX P r ev un k):∃av us,k av us∧yX P r ev un (fun v u=>v=av∧u=us):=by
 cases r<;>simp only[yX]at h⊢
 case mv=>exact⟨_,_,h,rfl,rfl⟩
 case mkm=>exact⟨_,_,h.2,h.1,rfl,rfl⟩
 case lku=>
  unfold BK at h⊢
  split at h
  ·unfold Dg at h⊢
   split at h;exact⟨_,_,h.2,h.1,rfl,rfl⟩;exact h.elim
  exact h.elim
 case mln=>
  unfold Bm at h⊢
  split at h
  ·unfold C6 at h⊢
   split at h;exact⟨_,_,h,rfl,rfl⟩;exact h.elim
  exact h.elim
 case pick d c x y=>
  unfold pr at h⊢
  split at h
  ·next t b e=>
   simp only;cases b with
   |true=>exact⟨_,_,h.1 rfl,fun _=>⟨rfl,rfl⟩,by simp⟩
   |false=>exact⟨_,_,h.2 rfl,by simp,fun _=>⟨rfl,rfl⟩⟩
  exact h.elim
 case box=>unfold uR at h⊢;split at h<;>first|exact h.elim|exact⟨_,_,h.2,h.1,rfl,rfl⟩
 case zer=>exact⟨_,_,h.2,h.1,rfl,rfl⟩
 case ld=>
  unfold zX at h⊢
  split at h;exact⟨_,_,h.2,h.1,rfl,rfl⟩;exact⟨_,_,h.2,h.1,rfl,rfl⟩
  ·unfold Vw at h⊢
   split at h;exact⟨_,_,h.2,h.1,rfl,rfl⟩;exact h.elim
  ·unfold Vc at h⊢
   split at h
   ·unfold Fj at h⊢
    split at h;exact⟨_,_,h.2,h.1,rfl,rfl⟩;exact h.elim
   exact h.elim
  ·unfold Vu at h⊢
   split at h
   ·obtain⟨h0,h⟩:=h;unfold k9 at h⊢
    split at h
    ·next hc=>simp only[an hc];exact⟨_,_,h,h0,rfl,rfl⟩
    next hc=>
    simp only[al hc];unfold K5 at h⊢
    split at h
    ·obtain⟨h1,h⟩:=h
     split at h
     ·next ha=>simp only[an ha];exact⟨_,_,h,h0,h1,rfl,rfl⟩
     next ha=>simp only[al ha];exact⟨_,_,h,h0,h1,rfl,rfl⟩
    exact h.elim
   exact h.elim
  exact h.elim
 case nck=>unfold qA at h⊢;split at h<;>first|exact h.elim|exact⟨_,_,h,rfl,rfl⟩
 case bin=>
  unfold CF T0 at h⊢
  split at h
  ·simp only;unfold zk at h⊢
   split at h
   ·simp only
    split at h<;>(try simp only)<;>first|exact⟨_,_,h.2.2,h.1,h.2.1,rfl,rfl⟩|exact⟨_,_,h.2,h.1,rfl,rfl⟩
   ·simp only
    split at h<;>(try simp only)<;>first|exact⟨_,_,h.2,h.1,rfl,rfl⟩|exact⟨_,_,h,rfl,rfl⟩|exact h.elim
   exact h.elim
  exact h.elim
 case beq=>unfold C4 at h⊢;split at h<;>first|exact h.elim|exact⟨_,_,h,rfl,rfl⟩
 case snil=>unfold vV at h⊢;split at h<;>first|exact h.elim|exact⟨_,_,h,rfl,rfl⟩
 case ceq=>
  unfold Dw at h⊢
  split at h;obtain⟨r,h1,h2⟩:=Df h.2;exact⟨_,_,h1,h.1,h2 _ ⟨rfl,rfl⟩⟩;exact h.elim
 case un=>unfold Q1 at h⊢;split at h<;>first|exact h.elim|exact⟨_,_,h,rfl,rfl⟩
 case cvt=>unfold Dt at h⊢;split at h<;>first|exact h.elim|exact⟨_,_,h,rfl,rfl⟩
 case mk=>unfold VC at h⊢;split at h<;>first|exact h.elim|exact⟨_,_,h.2,h.1,rfl,rfl⟩
 case slc=>
  unfold yp at h⊢
  split at h
  ·obtain⟨h1,h⟩:=h;unfold Gq at h⊢
   split at h;exact⟨_,_,h.2,h1,h.1,rfl,rfl⟩;exact h.elim
  ·unfold BW at h⊢
   split at h
   ·obtain⟨h1,h⟩:=h;unfold wK at h⊢
    split at h;exact⟨_,_,h.2,h1,h.1,rfl,rfl⟩;exact h.elim
   exact h.elim
  ·unfold DC at h⊢
   split at h
   ·unfold Fm at h⊢
    split at h
    ·obtain⟨h1,h⟩:=h;unfold wK at h⊢
     split at h;exact⟨_,_,h.2,h1,h.1,rfl,rfl⟩;exact h.elim
    exact h.elim
   exact h.elim
  exact h.elim
 case sls=>
  unfold Bw at h⊢
  split at h
  ·unfold E0 at h⊢
   split at h;exact⟨_,_,h.2,h.1,rfl,rfl⟩;exact h.elim
  exact h.elim
 case fa=>
  unfold yY at h⊢
  split at h;exact⟨_,_,h.2,h.1,rfl,rfl⟩;exact⟨_,_,h.2,h.1,rfl,rfl⟩
  ·unfold OC at h⊢
   split at h;exact⟨_,_,h.2,h.1,rfl,rfl⟩;exact h.elim
  exact⟨_,_,h.2,h.1,rfl,rfl⟩;exact⟨_,_,h,rfl,rfl⟩;exact h.elim
 case fl=>
  unfold Jo at h⊢
  split at h;exact⟨_,_,h.2,h.1,rfl,rfl⟩
  ·unfold R4 at h⊢
   split at h;exact⟨_,_,h.2,h.1,rfl,rfl⟩;exact h.elim
  exact h.elim
 case ia=>
  unfold D6 at h⊢
  split at h
  ·try simp only
   split at h
   ·obtain⟨h1,h⟩:=h;unfold Gd at h⊢
    split at h;exact⟨_,_,h.2,h1,h.1,rfl,rfl⟩;exact h.elim
   ·obtain⟨h1,h⟩:=h;unfold Gd at h⊢
    split at h;exact⟨_,_,h.2,h1,h.1,rfl,rfl⟩;exact h.elim
   ·unfold Qj at h⊢
    split at h
    ·unfold Vh at h⊢
     split at h;exact⟨_,_,h.2,h.1,rfl,rfl⟩;exact h.elim
    exact h.elim
   unfold K4 at h⊢
   split at h;exact⟨_,_,h.2,h.1,rfl,rfl⟩;exact⟨_,_,h.2,h.1,rfl,rfl⟩;exact h.elim
  exact h.elim
 case ix=>unfold U1 at h⊢;split at h<;>first|exact h.elim|exact⟨_,_,h.2,h.1,rfl,rfl⟩
 case len=>
  unfold pO at h⊢
  split at h;exact⟨_,_,h,rfl,rfl⟩;exact⟨_,_,h,rfl,rfl⟩;exact⟨_,_,h,rfl,rfl⟩
  unfold wJ at h⊢
  split at h;exact⟨_,_,h,rfl,rfl⟩;exact⟨_,_,h,rfl,rfl⟩;exact h.elim
 case slen=>unfold vY at h⊢;split at h<;>first|exact h.elim|exact⟨_,_,h,rfl,rfl⟩
 case call=>
  rcases h with⟨ds,es,r,h1,h2,h3,h4⟩|⟨T,h1,h2,h3⟩|⟨h0,t,kk,B,C,h1,h2,h3,h4,h5⟩
  exact⟨_,_,h4,.inl ⟨ds,es,r,h1,h2,h3,rfl,rfl⟩⟩;exact⟨_,_,h3,.inr (.inl ⟨T,h1,h2,rfl,rfl⟩)⟩;exact⟨_,_,h5,.inr (.inr ⟨h0,t,kk,B,C,h1,h2,h3,h4,rfl,rfl⟩)⟩
 case calv=>
  unfold qe at h⊢
  split at h
  ·rcases h with⟨ds,es,r,h1,h2,h3,h4⟩|⟨T,h1,h2,h3⟩|⟨h0,t,kk,B,C,h1,h2,h3,h4,h5⟩
   exact⟨_,_,h4,.inl ⟨ds,es,r,h1,h2,h3,rfl,rfl⟩⟩;exact⟨_,_,h3,.inr (.inl ⟨T,h1,h2,rfl,rfl⟩)⟩;exact⟨_,_,h5,.inr (.inr ⟨h0,t,kk,B,C,h1,h2,h3,h4,rfl,rfl⟩)⟩
  ·rcases h with⟨ds,es,r,h1,h2,h3,h4⟩|⟨T,h1,h2,h3⟩|⟨h0,t,kk,B,C,h1,h2,h3,h4,h5⟩
   exact⟨_,_,h4,.inl ⟨ds,es,r,h1,h2,h3,rfl,rfl⟩⟩;exact⟨_,_,h3,.inr (.inl ⟨T,h1,h2,rfl,rfl⟩)⟩;exact⟨_,_,h5,.inr (.inr ⟨h0,t,kk,B,C,h1,h2,h3,h4,rfl,rfl⟩)⟩
  ·rcases h with⟨ds,es,r,h1,h2,h3,h4⟩|⟨T,h1,h2,h3⟩|⟨h0,t,kk,B,C,h1,h2,h3,h4,h5⟩
   exact⟨_,_,h4,.inl ⟨ds,es,r,h1,h2,h3,rfl,rfl⟩⟩;exact⟨_,_,h3,.inr (.inl ⟨T,h1,h2,rfl,rfl⟩)⟩;exact⟨_,_,h5,.inr (.inr ⟨h0,t,kk,B,C,h1,h2,h3,h4,rfl,rfl⟩)⟩
  exact h.elim
 case ext=>unfold wE at h⊢;split at h<;>first|exact h.elim|exact⟨_,_,h.2,h.1,rfl,rfl⟩
 case bs=>
  unfold TQ at h⊢
  split at h
  ·next e=>simp only[e,aK];exact⟨_,_,h.2,h.1,rfl,rfl⟩
  next e=>
  simp only[e,aH]
  split at h
  ·next e2=>exact⟨_,_,h.2,h.1,rfl,rfl⟩
  next e2=>exact⟨_,_,h.2,h.1,rfl,rfl⟩
 case bld=>unfold xG at h⊢;split at h<;>first|exact h.elim|exact⟨_,_,h.2,h.1,rfl,rfl⟩
 case mxm=>unfold Vt at h⊢;split at h<;>first|exact h.elim|exact⟨_,_,h,rfl,rfl⟩
 case mkf=>exact⟨_,_,h,rfl,rfl⟩
 case bse=>exact⟨_,_,h.2,h.1,rfl,rfl⟩
 case zsb=>exact⟨_,_,h.2,h.1,rfl,rfl⟩
 case ape=>unfold CE at h⊢;split at h<;>first|exact h.elim|exact⟨_,_,h.2,h.1,rfl,rfl⟩
 case cvs=>
  unfold Bt at h⊢
  split at h
  ·unfold Dq at h⊢
   split at h
   ·obtain⟨h1,h2⟩:=h;unfold FR at h2⊢
    split at h2;exact⟨_,_,h2,h1,rfl,rfl⟩;exact h2.elim
   exact h.elim
  exact h.elim
 case s30=>unfold Ds at h⊢;split at h<;>first|exact h.elim|exact⟨_,_,h,rfl,rfl⟩
mutual
def AV.ids:AV→List Nat
 |.tr k=>[k]
 |.pw i _ _=>[i]
 |.cw i _ _ _ _=>[i]
 |.sm i _ _=>[i]
 |.vb i _=>[i]
 |.pb i _=>[i]
 |.ps i=>[i]
 |.mv i=>[i]
 |.sg vs=>AV.md vs
 |.cl _ vs=>AV.md vs
 |.pq i _ _ _ _ _=>[i]
 |.qs i _ _ _ _ _=>[i]
 |.ss i _ _=>[i]
 |_=>[]
def AV.md:List AV→List Nat
 | []=>[]
 |v::vs=>v.ids++AV.md vs
end
variable {vN:Nat→Option U}
def FI{a:AV}(hu:∀i u,i∈a.ids→un i=some u→vN i=some u)(h:AV.size un a≠0):AV.size vN a=AV.size un a:=by
 cases a with
 |tr k=>
  simp only[AV.size]at h⊢
  split at h
  ·next d hd=>rw[hu k _ (by simp[AV.ids]) hd]
  exact absurd rfl h
 |_=>rfl
def qw:∀{vs:List AV} {i:Nat},i∈AV.md (jx vs)→i∈AV.md vs
 | [],_,h=>h
 |v::vs,i,h=>by
  have yL:jx (v::vs)=v::jx vs→i∈AV.md (v::vs):=by
   intro e;rw[e]at h;simp only[AV.md,ax]at h⊢;exact h.imp id qw
  cases v with
  |im t d=>
   cases d with
   |ag ds=>
    simp only[jx]at h;have key:∀ds:List D,i∈AV.md (ds.map (.im t)++jx vs)→i∈AV.md (jx vs):=by
     intro ds
     induction ds with
     |nil=>exact id
     |cons d ds ih=>intro h;simp only[lC,bp,AV.md,AV.ids,be]at h;exact ih h
    simp only[AV.md,ax];exact .inr (qw (key ds h))
   |_=>exact yL rfl
  |_=>exact yL rfl
variable {i:Nat}
def ES{a:AV}(h:i∈(jY a).ids):i∈a.ids:=by
 cases a with
 |sg vs=>simp only[jY,AV.ids]at h⊢;exact qw h
 |_=>exact h
def pK{sz:Nat}{a:AV}(hu:∀i u,i∈a.ids→un i=some u→vN i=some u)(h:iP un sz a=true):iP vN sz a=true:=by
 cases a with
 |tr k=>
  simp only[iP]at h⊢
  split at h
  ·next d hd=>rw[hu k _ (by simp[AV.ids]) hd];exact h
  cases h
 |sg vs=>
  simp only[iP,bA]at h⊢;have key:∀{vs:List AV},(∀i u,i∈AV.md vs→un i=some u→vN i=some u)→vs.all (fun a=>AV.size un a !=0)=true→vs.map (AV.size vN)=vs.map (AV.size un):=by
   intro vs
   induction vs with
   |nil=>intro _ _;rfl
   |cons a as ih=>
    intro hu ha;simp only[cE,bA,dD,ne_eq]at ha;simp only[lC];rw[FI (fun i u hi=>hu i u (by simp[AV.md,hi])) ha.1,ih (fun i u hi=>hu i u (by simp[AV.md,hi])) ha.2]
  have e:=key (fun i u hi=>hu i u (by simpa[AV.ids]using hi)) h.1;have e2:∀f:AV→Nat,vs.all (fun a=>f a !=0)=(vs.map f).all (fun n=>n !=0):=fun f=>by simp[List.all_map,bY]
  rw[e2,e,←e2];exact h
 |im t d=>cases t<;>exact h
 |_=>exact h
def zO{a:AV}(hu:∀i u,i∈a.ids→un i=some u→vN i=some u)(h:AV.one un a=true):AV.one vN a=true:=by
 cases a with
 |tr k=>
  simp only[AV.one]at h⊢
  split at h
  ·next d hd=>rw[hu k _ (by simp[AV.ids]) hd];exact h
  cases h
 |_=>exact h
def Fd{a:AV}(hu:∀i u,i∈a.ids→un i=some u→vN i=some u)(h:AV.vE un a=true):AV.vE vN a=true:=by
 cases a with
 |tr k=>
  simp only[AV.vE]at h⊢
  split at h
  ·next d hd=>rw[hu k _ (by simp[AV.ids]) hd];exact h
  cases h
 |im t d=>cases t<;>exact h
 |_=>exact h
def rp{a:AV}(hu:∀i u,i∈a.ids→un i=some u→vN i=some u)(h:(AV.vE un a&&iP un 3 a)=true):(AV.vE vN a&&iP vN 3 a)=true:=by
 rw[bA]at h⊢;exact⟨Fd hu h.1,pK hu h.2⟩
def iz{a:AV}(gw:(∀f vs,a≠.cl f vs)∧∀vs,a≠.sg vs){d:D}(h1:a.arg un=some d)(hu0:∀i u,i∈a.ids→un i=some u→vN i=some u):a.arg vN=some d:=by
 unfold AV.arg at h1⊢
 split at h1<;>(try simp only[AV.ids,am]at hu0)<;>(try exact h1)<;>(try exact absurd rfl (gw.1 _ _))<;>(try exact absurd rfl (gw.2 _))<;>(try simp only)<;>
 ·split at h1
  ·next hh=>rw[hu0 _ _ rfl hh];exact h1
  cases h1
mutual
def Kp:∀{a:AV} {d:D},a.arg un=some d→(∀i u,i∈a.ids→un i=some u→vN i=some u)→a.arg vN=some d
 |.cl f vs,d,h,hu=>by
  simp only[AV.arg]at h⊢
  split at h
  ·next ds kf=>rw[lQ kf (fun i u hi=>hu i u (by simpa[AV.ids]using hi))];exact h
  cases h
 |.im _ _,_,h,hu=>iz (by simp) h hu
 |.tr _,_,h,hu=>iz (by simp) h hu
 |.pw _ _ _,_,h,hu=>iz (by simp) h hu
 |.cw _ _ _ _ _,_,h,hu=>iz (by simp) h hu
 |.sm _ _ _,_,h,hu=>iz (by simp) h hu
 |.vb _ _,_,h,hu=>iz (by simp) h hu
 |.pb _ _,_,h,hu=>iz (by simp) h hu
 |.ps _,_,h,hu=>iz (by simp) h hu
 |.mv _,_,h,hu=>iz (by simp) h hu
 |.sg vs,d,h,hu=>by
  simp only[AV.arg]at h⊢
  split at h
  ·next ds kf=>rw[lQ kf (fun i u hi=>hu i u (by simpa[AV.ids]using hi))];exact h
  cases h
 |.jS _,_,h,hu=>iz (by simp) h hu
 |.any,_,h,hu=>iz (by simp) h hu
 |.pq _ _ _ _ _ _,_,h,hu=>iz (by simp) h hu
 |.qs _ _ _ _ _ _,_,h,hu=>iz (by simp) h hu
 |.ss _ _ _,_,h,hu=>iz (by simp) h hu
 |.z0 _ _,_,h,hu=>iz (by simp) h hu
def lQ:∀{l:List AV} {ds:List D},jp un l=some ds→(∀i u,i∈AV.md l→un i=some u→vN i=some u)→jp vN l=some ds
 | [],_,h,_=>by simpa[jp]using h
 |a::l,ds,h,hu=>by
  simp only[jp]at h⊢
  split at h
  ·next d ds' h1 h2=>
   rw[Kp h1 (fun i u hi=>hu i u (by simp[AV.md,hi])),lQ h2 (fun i u hi=>hu i u (by simp[AV.md,hi]))];exact h
  cases h
end
def uh{l:List AV}:i∈AV.md l↔∃a∈l,i∈a.ids:=by
 induction l with
 |nil=>simp[AV.md]
 |cons a l ih=>simp[AV.md,ih]
def rB{a:AV}{q:Option Nat×D}(h:a.den un=some q)(hu:∀i u,i∈a.ids→un i=some u→vN i=some u):a.den vN=some q:=by
 unfold AV.den at h⊢
 split at h<;>(try simp only[AV.ids,am]at hu)<;>(try exact h)<;>(try simp only)<;>
 ·split at h
  ·next hh=>rw[hu _ _ rfl hh];exact h
  cases h
def uG{r:lz}{ev PD:X→AV}{k:KQ}(h:yX P r ev un k)(he:∀x∈r.xs,PD x=ev x)(hu:∀x∈r.xs,∀i u,i∈(ev x).ids→un i=some u→vN i=some u):yX P r PD vN k:=by
 cases r<;>simp only[yX,lz.xs,aj,bg,or_false,bj,forall_eq_or_imp]at h he hu⊢
 case mv=>rw[he];exact h
 case mkm=>exact h
 case lku=>
  rw[he.1,he.2];unfold BK at h⊢
  split at h
  ·next e1 e2=>
   unfold Dg at h⊢
   split at h
   ·next rN ov=>
    rw[hu.1 _ _ (by rw[e1];simp[AV.ids]) rN,ov];exact h
   exact h.elim
  exact h.elim
 case mln=>
  rw[he];unfold Bm at h⊢
  split at h
  ·next e1=>
   unfold C6 at h⊢
   split at h
   ·next rN=>
    rw[hu _ _ (by rw[e1];simp[AV.ids]) rN];exact h
   exact h.elim
  exact h.elim
 case pick=>rw[he.1,he.2.1,he.2.2];exact h
 case box=>
  rw[he];unfold uR at h⊢
  split at h;exact h
  exact⟨⟨h.1.1,h.1.2.1,pK (fun i u hi=>hu i u (ES hi)) h.1.2.2⟩,h.2⟩
 case zer=>exact h
 case ld=>
  rw[he];unfold zX at h⊢
  split at h;exact h;exact h
  ·next e=>
   simp only[e,AV.ids,am]at hu;unfold Vw at h⊢
   split at h
   ·next hh=>rw[hu _ _ rfl hh];exact h
   exact h.elim
  ·next e=>
   simp only[e,AV.ids,am]at hu;unfold Vc at h⊢
   split at h
   ·next hh=>rw[hu _ _ rfl hh];exact h
   exact h.elim
  ·next e=>
   simp only[e,AV.ids,am]at hu;unfold Vu at h⊢
   split at h
   ·next hh=>rw[hu _ _ rfl hh];exact h
   exact h.elim
  exact h.elim
 case nck=>rw[he];exact h
 case bin=>rw[he.1,he.2];exact h
 case mxm=>rw[he.1,he.2];exact h
 case beq=>rw[he.1,he.2];exact h
 case snil=>rw[he.1,he.2];exact h
 case ceq=>rw[he.1,he.2];exact h
 case un=>rw[he];exact h
 case cvt=>rw[he];exact h
 case mk=>rw[he.1,he.2];exact h
 case slc d sz x lo hi=>
  have e1:lo.map PD=lo.map ev:=by cases lo<;>simp_all
  have e2:hi.map PD=hi.map ev:=by cases hi<;>simp_all
  unfold yp at h⊢;rw[e1,e2,he.1]
  split at h;exact h
  ·next e=>
   simp only[e,AV.ids,am]at hu;unfold BW at h⊢
   split at h
   ·next hh=>rw[hu.1 _ _ rfl hh];exact h
   exact h.elim
  ·next e=>
   simp only[e,AV.ids,am]at hu;unfold DC at h⊢
   split at h
   ·next hh=>rw[hu.1 _ _ rfl hh];exact h
   exact h.elim
  exact h.elim
 case sls d x lo hi=>
  have e1:lo.map PD=lo.map ev:=by cases lo<;>simp_all
  have e2:hi.map PD=hi.map ev:=by cases hi<;>simp_all
  unfold Bw at h⊢;rw[e1,e2,he.1];exact h
 case fa=>
  rw[he];unfold yY at h⊢
  split at h;exact h;exact h
  ·next e=>
   simp only[e,AV.ids,am]at hu;unfold OC at h⊢
   split at h
   ·next hh=>rw[hu _ _ rfl hh];exact h
   exact h.elim
  exact h;exact h;exact h.elim
 case fl=>
  rw[he];unfold Jo at h⊢
  split at h;exact h
  ·next e=>
   simp only[e,AV.ids,am]at hu;unfold R4 at h⊢
   split at h
   ·next hh=>rw[hu _ _ rfl hh];exact h
   exact h.elim
  exact h.elim
 case ia=>
  rw[he.1,he.2];unfold D6 at h⊢
  split at h
  ·try simp only
   split at h
   ·next e=>
    simp only[e,AV.ids,am]at hu;obtain⟨h1,h⟩:=h;refine⟨h1,?_⟩;unfold Gd at h⊢
    split at h
    ·next hh=>rw[hu.1 _ _ rfl hh];exact h
    exact h.elim
   ·next e=>
    simp only[e,AV.ids,am]at hu;obtain⟨h1,h⟩:=h;refine⟨h1,?_⟩;unfold Gd at h⊢
    split at h
    ·next hh=>rw[hu.1 _ _ rfl hh];exact h
    exact h.elim
   ·next e=>
    simp only[e,AV.ids,am]at hu;unfold Qj at h⊢
    split at h
    ·next hh=>rw[hu.1 _ _ rfl hh];exact h
    exact h.elim
   unfold K4 at h⊢
   split at h
   ·next hd=>rw[rB hd hu.1];exact h
   ·next hd=>rw[rB hd hu.1];exact h
   exact h.elim
  exact h.elim
 case ix=>rw[he.1,he.2];exact h
 case len=>
  rw[he];unfold pO at h⊢
  split at h;exact h;exact h;exact h
  unfold wJ at h⊢
  split at h
  ·next hd=>rw[rB hd hu];exact h
  ·next hd=>rw[rB hd hu];exact h
  exact h.elim
 case slen=>rw[he];exact h
 case call d f args=>
  have e1:args.map PD=args.map ev:=dg he;rw[e1];rcases h with⟨ds,es,r,h1,h2,h3,h4⟩|⟨T,h1,h2,h3⟩|⟨h0,t,kk,B,C,h1,h2,h3,h4,h5⟩
  ·refine .inl ⟨ds,es,r,lQ h1 ?_,h2,h3,h4⟩;intro i u hi;obtain⟨a,ha,P5⟩:=uh.1 hi;obtain⟨x,hx,rfl⟩:=aR.1 ha;exact hu x hx i u P5
  refine .inr (.inl ⟨T,h1,aY.2 fun a ha=>?_,h3⟩);obtain⟨x,hx,rfl⟩:=aR.1 ha;exact zO (hu x hx) (aY.1 h2 _ ha);have gF:∀a∈args.map ev,∀i u,i∈a.ids→un i=some u→vN i=some u:=by
   intro a ha i u P5;obtain⟨x,hx,rfl⟩:=aR.1 ha;exact hu x hx i u P5
  exact .inr (.inr ⟨h0,t,kk,B,C,h1,h2,rp (gF B (by simp[h1])) h3,rp (gF C (by simp[h1])) h4,h5⟩)
 case calv d x args=>
  have e1:args.map PD=args.map ev:=dg fun y hy=>he.2 y hy;rw[e1,he.1];have go:∀vs:List AV,(∀i u,i∈AV.md vs→un i=some u→vN i=some u)→∀{g:Nat},nU P d g (args.map ev++vs) un k→nU P d g (args.map ev++vs) vN k:=by
   intro vs w8 g h;have gF:∀a∈args.map ev++vs,∀i u,i∈a.ids→un i=some u→vN i=some u:=by
    intro a ha i u P5;rcases ax.1 ha with ha|ha
    obtain⟨x,hx,rfl⟩:=aR.1 ha;exact hu.2 x hx i u P5;exact w8 i u (uh.2 ⟨a,ha,P5⟩)
   rcases h with⟨ds,es,r,h1,h2,h3,h4⟩|⟨T,h1,h2,h3⟩|⟨h0,t,kk,B,C,h1,h2,h3,h4,h5⟩
   ·refine .inl ⟨ds,es,r,lQ h1 ?_,h2,h3,h4⟩;intro i u hi;obtain⟨a,ha,P5⟩:=uh.1 hi;exact gF a ha i u P5
   ·exact .inr (.inl ⟨T,h1,aY.2 fun a ha=>zO (gF a ha) (aY.1 h2 _ ha),h3⟩)
   exact .inr (.inr ⟨h0,t,kk,B,C,h1,h2,rp (gF B (by simp[h1])) h3,rp (gF C (by simp[h1])) h4,h5⟩)
  unfold qe at h⊢
  split at h;have:=go [] (by simp[AV.md]) (by simpa using h);simpa using this
  ·next t f ds e=>
   refine go _ ?_ h;intro i u hi;obtain⟨a,ha,P5⟩:=uh.1 hi;obtain⟨d',_,rfl⟩:=aR.1 ha;simp[AV.ids]at P5
  ·next f vs e=>
   refine go _ ?_ h;intro i u hi;exact hu.1 i u (by rw[e];simpa[AV.ids]using hi)
  exact h.elim
 case ext=>rw[he];exact h
 case bs d sz z len ps=>
  have e1:(ps.map fun p=>(p.1,PD p.2))=ps.map fun p=>(p.1,ev p.2):=dg fun p hp=>by rw[he p.2 (aR.2 ⟨p,hp,rfl⟩)]
  rw[e1];unfold TQ at h⊢
  split
  ·next e=>simpa[e]using h
  next e=>
  simp only[e,aH]at h
  split
  ·next e2=>rw[e2]at h;exact h
  next e2=>
  rw[e2]at h;refine⟨⟨h.1.1,h.1.2.1,h.1.2.2.1,h.1.2.2.2.1,?_⟩,h.2⟩;have h3:=h.1.2.2.2.2;rw[aY]at h3⊢;intro a ha;have:=h3 a ha;simp only[df,aR,Function.comp]at ha;obtain⟨p,hp,rfl⟩:=ha;exact pK (hu p.2 (aR.2 ⟨p,hp,rfl⟩)) this
 case bld d z ps=>
  have e1:(ps.map fun p=>(p.1,p.2.1,PD p.2.2))=ps.map fun p=>(p.1,p.2.1,ev p.2.2):=dg fun p hp=>by rw[he p.2.2 (aR.2 ⟨p,hp,rfl⟩)]
  rw[e1];unfold xG at h⊢
  split at h
  ·refine⟨⟨?_,h.1.2⟩,h.2⟩;have h3:=h.1.1;rw[aY]at h3⊢;intro a ha;have:=h3 a ha;simp only[aR]at ha;obtain⟨p,hp,rfl⟩:=ha;simp only[bA,bB,dD,ne_eq]at this⊢;refine⟨?_,this.2⟩;have h4:=this.1;have h5:=hu p.2.2 (aR.2 ⟨p,hp,rfl⟩);generalize ev p.2.2=av at h4 h5;unfold AV.size at h4⊢
   split at h4<;>(try exact h4)<;>(try simp only)
   split at h4
   ·next hh=>rw[h5 _ _ (by simp[AV.ids]) hh];exact h4
   exact absurd h4.symm this.2
  exact h.elim
 case mkf d f xs=>
  have e1:xs.map PD=xs.map ev:=dg he;rw[e1];exact h
 case s30=>rw[he];exact h
 case bse=>exact h
 case zsb=>exact h
 case ape=>rw[he.1,he.2];exact h
 case cvs d x=>
  unfold Bt at h⊢;rw[he]
  split at h
  ·next e=>
   simp only[e,AV.ids,am]at hu;unfold Dq at h⊢
   split at h
   ·next hh=>rw[hu _ _ rfl hh];exact h
   exact h.elim
  exact h.elim
variable {P:Program}{n0:Nat}{S0 M0:Nat→Prop}{w0:World}
abbrev Rs:=AV×List (Nat×U)
def jA(st:St)(d:Option Nat)(r:Rs):St:=(st.iQ r.2).kl d r.1
def QD(P:Program)(op:lz)(st:St)(r:Rs):Prop:=yX P op st.ev st.unit (fun v u=>v=r.1∧u=r.2)∧(r.2=[]∨st.fresh r.2=true)
def ji(P:Program)(R:RO)(st:St)(r:Rs):Prop:=
 match R.g with
 |none=>QD P R.op st r
 |some (t,b)=>(∃tk c,st.get t=.im tk (.sc (.bool c))∧(c=b→QD P R.op st r)∧(c=!b→r=(.jS [],[])))∨(st.get t=.jS []∧r=(.jS [],[]))
def CX(P:Program):List RO→List Rs→St→St→Prop
 | [],[],s,s'=>s=s'
 |R::Rl,r::rl,s,s'=>ji P R s r∧CX P Rl rl (jA s R.op.dst r) s'
 |_,_,_,_=>False
variable {K:Exit→St→Prop}
def ly:∀{Rl:List RO} {st:St},(∀R∈Rl,R.op.sq=true)→gl P Rl st K→∃rl s',CX P Rl rl st s'∧K .normal s'∧rl.length=Rl.length
 | [],st,_,h=>⟨[],st,rfl,h,rfl⟩
 |R::Rl,st,hQ,h=>by
  have hq:=hQ R (by simp);have hQ':∀R∈Rl,R.op.sq=true:=fun R hR=>hQ R (by simp[hR]);have one:oq P R.op st (g7 P Rl K)→∃r,QD P R.op st r∧gl P Rl (jA st R.op.dst r) K:=by
   intro h;unfold oq at h;rw[hq,an rfl]at h;obtain⟨av,us,hk,hd⟩:=TG h;obtain⟨h1,h2⟩:=Av hk;exact⟨(av,us),⟨hd,h1⟩,h2⟩
  obtain⟨g,op⟩:=R;cases g with
  |none=>
   obtain⟨r,h1,h2⟩:=one h;obtain⟨rl,s',h3,h4,h5⟩:=ly hQ' h2;exact⟨r::rl,s',⟨h1,h3⟩,h4,by simp[h5]⟩
  |some x=>
   obtain⟨t,b⟩:=x;have h:nK (st.get t) b (oq P op st (g7 P Rl K)) (gl P Rl (st.kl op.dst (.jS [])) K):=h;unfold nK at h
   split at h
   ·next tk c hc=>
    by_cases e:c=b
    ·obtain⟨r,h1,h2⟩:=one (h.1 e);obtain⟨rl,s',h3,h4,h5⟩:=ly hQ' h2;exact⟨r::rl,s',⟨.inl ⟨tk,c,hc,fun _=>h1,fun e'=>by subst e;cases c<;>cases e'⟩,h3⟩,h4,by simp[h5]⟩
    have e':c=!b:=by cases c<;>cases b<;>simp_all
    have h2:gl P Rl (jA st op.dst (.jS [],[])) K:=by unfold jA;rw[jC];exact h.2 e'
    obtain⟨rl,s',h3,h4,h5⟩:=ly hQ' h2;exact⟨(.jS [],[])::rl,s',⟨.inl ⟨tk,c,hc,fun h=>absurd h e,fun _=>rfl⟩,h3⟩,h4,by simp[h5]⟩
   ·next hc=>
    have h2:gl P Rl (jA st op.dst (.jS [],[])) K:=by unfold jA;rw[jC];exact h
    obtain⟨rl,s',h3,h4,h5⟩:=ly hQ' h2;exact⟨(.jS [],[])::rl,s',⟨.inr ⟨hc,rfl⟩,h3⟩,h4,by simp[h5]⟩
   exact h.elim
def fD(gR:St)(D:Nat→Option Nat)(V:Nat→Rs):List Nat→St
 | []=>gR
 |i::L=>jA (fD gR D V L) (D i) (V i)
def iv{gR:St}{D:Nat→Option Nat}{V:Nat→Rs}:∀{L:List Nat},(fD gR D V L).n=gR.n
 | []=>rfl
 |i::L=>by
  have:=iv (gR:=gR) (D:=D) (V:=V) (L:=L);simp only[fD,jA];cases D i<;>exact this
def iu{gR:St}{D:Nat→Option Nat}{V:Nat→Rs}:∀{L:List Nat},(fD gR D V L).us=L.flatMap (fun i=>(V i).2)++gR.us
 | []=>rfl
 |i::L=>by
  have:=iu (gR:=gR) (D:=D) (V:=V) (L:=L);simp only[fD,jA,cp,bz];cases D i<;>simp[St.kl,St.set,St.iQ,this]
def je{gR:St}{D:Nat→Option Nat}{V:Nat→Rs}(hD:∀i j t,D i=some t→D j=some t→i=j):∀{L:List Nat} {t:Nat},
  (∀i,i∈L→D i=some t→lk (fD gR D V L).env t=(V i).1)∧((∀i∈L,D i≠some t)→lk (fD gR D V L).env t=lk gR.env t)
 | [],t=>⟨by simp,fun _=>rfl⟩
 |j::L,t=>by
  obtain⟨h1,h2⟩:=je (gR:=gR) (V:=V) hD (L:=L) (t:=t);have gD:lk (fD gR D V (j::L)).env t=if D j=some t then(V j).1 else lk (fD gR D V L).env t:=by
   simp only[fD,jA];cases hj:D j with
   |none=>simp[St.kl,St.iQ]
   |some d=>simp[St.kl,St.set,St.iQ,lk]
  rw[gD];refine⟨fun i hi hd=>?_,fun kZ=>?_⟩
  ·split
   ·next e=>rw[hD i j t hd e]
   next e=>
   rcases aj.1 hi with rfl|hi
   exact absurd hd e;exact h1 i hi hd
  rw[al (kZ j (by simp))];exact h2 fun i hi=>kZ i (by simp[hi])
def iw:Nat→List Nat
 |0=>[]
 |n+1=>n::iw n
variable {n:Nat}
def kM:i∈iw n↔i<n:=by
 induction n with
 |zero=>simp[iw]
 |succ n ih=>simp[iw,ih];omega
def OS{Rl:List RO}{rl:List Rs}:∀{st s':St} {k:Nat} {gR:St} {D:Nat→Option Nat} {V:Nat→Rs},CX P Rl rl st s'→st=fD gR D V (iw k)→
  (∀i,i<Rl.length→D (k+i)=(Rl.getD i default).op.dst)→(∀i,i<Rl.length→V (k+i)=rl.getD i (.any,[]))→
  s'=fD gR D V (iw (k+Rl.length))∧∀i,i<Rl.length→ji P (Rl.getD i default) (fD gR D V (iw (k+i))) (V (k+i)):=by
 induction Rl generalizing rl with
 |nil=>
  intro st s' k gR D V h e _ _;cases rl with
  |nil=>simp only[CX]at h;subst h;exact⟨e,by simp⟩
  |cons=>simp[CX]at h
 |cons R Rl ih=>
  intro st s' k gR D V h e hD hV;cases rl with
  |nil=>simp[CX]at h
  |cons r rl=>
   simp only[CX]at h;have d0:=hD 0 (by simp);have v0:=hV 0 (by simp);simp only[aC,aD]at d0 v0;have e2:jA st R.op.dst r=fD gR D V (iw (k+1)):=by
    simp only[iw,fD];rw[e,d0,v0]
   obtain⟨h1,h2⟩:=ih h.2 e2 (fun i hi=>by have:=hD (i+1) (by simp;omega);simpa[bW,dY 1 i]using this) (fun i hi=>by have:=hV (i+1) (by simp;omega);simpa[bW,dY 1 i]using this);refine⟨by rw[h1];congr 2;simp;omega,?_⟩;intro i hi;cases i with
   |zero=>simp only[aC,aD];rw[v0,←e];exact h.1
   |succ i=>
    have:=h2 i (by simpa using hi);rw[show k+(i+1)=k+1+i by omega];simpa using this
def vf{k:Nat}:∀{us:List (Nat×U)},k∉us.map (·.1)→o9 k us=true
 | [],_=>rfl
 |(i,u)::r,h=>by
  simp only[lC,aj,cA]at h;simp only[o9,bA,dD];exact⟨fun e=>h.1 e.symm,vf h.2⟩
def tW{st:St}:∀{us:List (Nat×U)},((us++st.us).map (·.1)).Nodup→st.fresh us=true
 | [],_=>rfl
 |x::r,h=>by
  simp only[bp,lC,aP,bH,ax,cA]at h;simp only[St.fresh,bA];exact⟨⟨vf h.1.2,vf h.1.1⟩,tW (by simpa using h.2)⟩
def lI{st:St}(hk:(st.us.map (·.1)).Nodup):∀{us:List (Nat×U)},(us=[]∨st.fresh us=true)→((us++st.us).map (·.1)).Nodup
 | [],_=>hk
 |x::r,h=>by
  have h:=h.resolve_left (by simp);simp only[St.fresh,bA]at h;simp only[bp,lC,aP,bH,ax,cA];exact⟨⟨ir h.1.2,ir h.1.1⟩,by have:=lI hk (us:=r) (.inr h.2);simpa using this⟩
variable {us:List (Nat×U)}
def iA(hk:(us.map (·.1)).Nodup){k:Nat}{u:U}(hm:(k,u)∈us):lu us k=some u:=by
 induction us with
 |nil=>cases hm
 |cons x us ih=>
  obtain⟨i,v⟩:=x;simp only[lC,aP]at hk;simp only[lu];rcases aj.1 hm with e|hm
  ·injection e with e1 e2;subst e1;subst e2;simp
  have:i≠k:=fun e=>hk.1 (aR.2 ⟨_,hm,e.symm⟩);rw[al this];exact ih hk.2 hm
mutual
def tY{h:ij}{g:Gh}:∀{av:AV} {v:Value},fx h us g av v→∀i∈av.ids,∃u,(i,u)∈us
 |.tr k,v,hr,i,hi=>by
  simp only[AV.ids,am]at hi;subst hi;simp only[fx]at hr;obtain⟨⟨d,hd⟩,_⟩:=hr;exact⟨_,hd⟩
 |.pw k _ _,v,hr,i,hi=>by
  simp only[AV.ids,am]at hi;subst hi;simp only[fx]at hr;obtain⟨_,_,_,_,_,h1,_⟩:=hr;exact⟨_,h1⟩
 |.cw k _ _ _ _,v,hr,i,hi=>by
  simp only[AV.ids,am]at hi;subst hi;simp only[fx]at hr;obtain⟨_,_,_,_,_,_,h1,_⟩:=hr;exact⟨_,h1⟩
 |.sm k _ _,v,hr,i,hi=>by
  simp only[AV.ids,am]at hi;subst hi;simp only[fx]at hr;obtain⟨_,_,_,_,h1,_⟩:=hr;exact⟨_,h1⟩
 |.pb k _,v,hr,i,hi=>by
  simp only[AV.ids,am]at hi;subst hi;simp only[fx]at hr;obtain⟨_,_,_,h1,_⟩:=hr;exact⟨_,h1⟩
 |.ps k,v,hr,i,hi=>by
  simp only[AV.ids,am]at hi;subst hi;simp only[fx]at hr;obtain⟨_,_,_,_,h1,_⟩:=hr;exact⟨_,h1⟩
 |.mv k,v,hr,i,hi=>by
  simp only[AV.ids,am]at hi;subst hi;simp only[fx]at hr;obtain⟨_,_,h1,_⟩:=hr;exact⟨_,h1⟩
 |.vb k _,v,hr,i,hi=>by
  simp only[AV.ids,am]at hi;subst hi;simp only[fx]at hr;obtain⟨_,_,_,h1,_⟩:=hr;exact⟨_,h1⟩
 |.sg vs,v,hr,i,hi=>by
  simp only[AV.ids]at hi;simp only[fx]at hr;obtain⟨xs,h1,_⟩:=hr;exact uZ h1 i hi
 |.im _ _,v,hr,i,hi=>by simp[AV.ids]at hi
 |.jS _,v,hr,i,hi=>by simp[AV.ids]at hi
 |.any,v,hr,i,hi=>by simp[AV.ids]at hi
 |.cl f vs,v,hr,i,hi=>by
  simp only[AV.ids]at hi;simp only[fx]at hr;obtain⟨xs,h1,_⟩:=hr;exact uZ h1 i hi
 |.pq k _ _ _ _ _,v,hr,i,hi=>by
  simp only[AV.ids,am]at hi;subst hi;simp only[fx]at hr;obtain⟨_,_,_,_,_,_,_,_,_,_,_,h1,_⟩:=hr;exact⟨_,h1⟩
 |.qs k _ _ _ _ _,v,hr,i,hi=>by
  simp only[AV.ids,am]at hi;subst hi;simp only[fx]at hr;obtain⟨_,_,_,_,_,_,_,_,_,_,h1,_⟩:=hr;exact⟨_,h1⟩
 |.ss k _ _,v,hr,i,hi=>by
  simp only[AV.ids,am]at hi;subst hi;simp only[fx]at hr;obtain⟨_,_,_,_,h1,_⟩:=hr;exact⟨_,h1⟩
 |.z0 _ _,v,hr,i,hi=>by simp[AV.ids]at hi
def uZ{h:ij}{g:Gh}:∀{avs:List AV} {vs:List Value},fA h us g avs vs→∀i∈AV.md avs,∃u,(i,u)∈us
 | [],vs,hr,i,hi=>by simp[AV.md]at hi
 |a::as,vs,hr,i,hi=>by
  simp only[fA]at hr;obtain⟨v,r,rfl,h1,h2⟩:=hr;simp only[AV.md,ax]at hi;rcases hi with hi|hi
  exact tY h1 i hi;exact uZ h2 i hi
end
def ju.eqv{st fS:St}{a:Act}{w:World}(hs:ju n0 S0 M0 w0 st a w)(hn:fS.n=st.n)(he:∀t,lk fS.env t=lk st.env t)(hp:fS.us.Perm st.us):ju n0 S0 M0 w0 fS a w:=by
 obtain⟨g,hu,hv⟩:=hs.gh;have jb:(fp g fS.us).Perm (fp g st.us):=hp.flatMap_right _;have hm:∀x∈st.us,x∈fS.us:=fun x hx=>hp.mem_iff.2 hx;refine⟨hs.ms,hs.mS,hs.tm.trans hn.symm,hs.base,hs.os,hs.tape,hs.output,hs.size,hs.iD,g,⟨?_,jb.nodup_iff.2 hu.nodup,fun b hb=>hu.lt b (jb.mem_iff.1 hb),fun b hb=>hu.low b (jb.mem_iff.1 hb),?_,?_,?_,fun b hb=>hu.fz b (jb.mem_iff.1 hb),hu.ww.mono fun i u hm hq=>⟨⟨_,hp.mem_iff.1 hm,hq⟩,rfl,rfl⟩⟩,fun t=>?_⟩;exact(hp.map _).nodup_iff.2 hu.keys
 ·intro k hk;exact hu.dead k fun h=>hk ((hp.map _).mem_iff.2 h)
 ·intro b hb;obtain⟨h1,h2,h3⟩:=hu.sh b hb;exact⟨h1,h2,fun h=>h3 (jb.mem_iff.1 h)⟩
 intro x hx;have EG:=hp.mem_iff.1 hx;exact(hu.each x EG).mono EG hm (fun _ _=>rfl) (fun _ _=>⟨rfl,rfl,rfl⟩) rfl (fun _ _ h=>h) (fun _ _ _ h=>h);rw[he];exact(hv t).mono hm (fun _ _=>rfl) (fun _ _=>⟨rfl,rfl,rfl⟩) (fun _ _ _ h=>h)
variable {P:Program}{wv:Wv}{n0:Nat}{S0 M0:Nat→Prop}{w0:World}
def nL:∀{l:List Nat},yy l=true→l.Nodup
 | [],_=>bC
 |x::l,h=>by
  simp only[yy,bA,ce,bM,cI]at h;exact aP.2 ⟨h.1,nL h.2⟩
def gz(R:List RO)(i:Nat):Option Nat:=R[i]?.bind (·.op.dst)
def vOf(rl:List Rs)(i:Nat):Rs:=rl.getD i (.any,[])
def ug:∀{R:List RO},(R.filterMap (·.op.dst)).Nodup→∀i j t,gz R i=some t→gz R j=some t→i=j
 | [],_,i,j,t,h,_=>by simp[gz]at h
 |r::R,hn,i,j,t,hi,hj=>by
  have mem:∀k,gz R k=some t→t∈R.filterMap (·.op.dst):=by
   intro k hk;simp only[gz,oB]at hk;obtain⟨x,hx,hd⟩:=hk;exact eK.2 ⟨x,d8 hx,hd⟩
  have yK:(R.filterMap (·.op.dst)).Nodup:=by
   simp only[List.filterMap_cons]at hn
   split at hn;exact hn;exact(aP.1 hn).2
  have h0:∀k,r.op.dst=some t→gz R k=some t→False:=by
   intro k h1 h2;simp only[List.filterMap_cons,h1]at hn;exact(aP.1 hn).1 (mem k h2)
  cases i with
  |zero=>
   cases j with
   |zero=>rfl
   |succ j=>exact(h0 j (by simpa[gz]using hi) (by simpa[gz]using hj)).elim
  |succ i=>
   cases j with
   |zero=>exact(h0 i (by simpa[gz]using hj) (by simpa[gz]using hi)).elim
   |succ j=>rw[ug yK i j t (by simpa[gz]using hi) (by simpa[gz]using hj)]
def oJ:∀{n:Nat},(iw n).Nodup
 |0=>bC
 |n+1=>aP.2 ⟨by rw[kM];omega,oJ⟩
def rA:∀{n:Nat},(iw n).length=n
 |0=>rfl
 |n+1=>by simp[iw,rA]
def rD{X:List Nat}(hn:X.Nodup)(hl:∀i∈X,i<n):X.Perm ((iw n).filter (fun i=>decide (i∈X))):=
 (dR hn (oJ.filter _)).2 fun a => by
  simp only[aX,kM,bn];exact⟨fun h=>⟨hl a h,h⟩,fun h=>h.2⟩
def ky{X:List Nat}(hn:X.Nodup)(hl:∀i∈X,i<n)(h:X.length=n):∀i,i<n→i∈X:=by
 have:=(rD hn hl).length_eq;have h2:((iw n).filter (fun i=>decide (i∈X))).length=(iw n).length:=by rw[←this,h,rA]
 intro i hi;have:=List.length_filter_eq_length_iff.1 h2 i (kM.2 hi);simpa using this
def tx{α β:Type}{f:α→List β}:∀{l m:List α},l.Sublist m→(l.flatMap f).Sublist (m.flatMap f)
 |_,_,.slnil=>dw _
 |_,_,.cons a h=>by
  simp only[cp];exact(tx h).trans (ew _ _)
 |_,_,.cons_cons a h=>by
  simp only[cp];exact(dw _).append (tx h)
variable {V:Nat→Rs}
def vA{gR:St}{D:Nat→Option Nat}(hf:((fD gR D V (iw n)).us.map (·.1)).Nodup){X:List Nat}(hn:X.Nodup)(hl:∀i∈X,i<n):
  ((fD gR D V X).us.map (·.1)).Nodup∧∀x∈(fD gR D V X).us,x∈(fD gR D V (iw n)).us:=by
 rw[iu]at hf;simp only[iu];have hp:=rD hn hl;have h1:((X.flatMap fun i=>(V i).2)++gR.us).Perm ((((iw n).filter (fun i=>decide (i∈X))).flatMap fun i=>(V i).2)++gR.us):=(hp.flatMap_right _).append_right _;have h2:((((iw n).filter (fun i=>decide (i∈X))).flatMap fun i=>(V i).2)++gR.us).Sublist (((iw n).flatMap fun i=>(V i).2)++gR.us):=(tx fm).append (dw _);exact⟨(h1.map _).nodup_iff.2 ((h2.map _).nodup hf),fun x hx=>h2.subset (h1.mem_iff.1 hx)⟩
variable {R:List RO}
def v8{gR:St}{D:Nat→Option Nat}(h0:(gR.us.map (·.1)).Nodup):∀n,n≤R.length→(∀i,i<R.length→ji P (R.getD i default) (fD gR D V (iw i)) (V i))→
  ((fD gR D V (iw n)).us.map (·.1)).Nodup
 |0,_,_=>h0
 |n+1,hn,h=>by
  have ih:=v8 h0 n (by omega) h;have hs:=h n (by omega);have:(V n).2=[]∨(fD gR D V (iw n)).fresh (V n).2=true:=by
   unfold ji at hs
   split at hs;exact hs.2
   next t b _=>
   rcases hs with⟨tk,c,_,h1,h2⟩|⟨_,h2⟩
   ·by_cases e:c=b
    exact(h1 e).2;exact .inl (by rw[h2 (by cases c<;>cases b<;>simp_all)])
   exact .inl (by rw[h2])
  have:=lI ih this;have e:(fD gR D V (iw (n+1))).us=(V n).2++(fD gR D V (iw n)).us:=by simp[iu,iw]
  rw[e];exact this
structure HG (P:Program) (wv:Wv) (ops:Array Oper) (R:List RO) (gR:St) (V:Nat→Rs):Prop where
 len:R.length=ops.size
 res:∀(i:Nat)(o:Oper),ops[i]?=some o→∃r,R[i]?=some r∧iO P wv gR.n ops o=some r
 inj:∀i j t,gz R i=some t→gz R j=some t→i=j
 lj:∀i,∀j∈fM ops i,j<i
 sq:∀(i:Nat)(r:RO),R[i]?=some r→r.op.sq=true
 slot:∀(i:Nat)(r:RO)(t:Nat),R[i]?=some r→t∈r.jU→∀j,gz R j=some t→(j<i∧j∈fM ops i)∨(i<j∧i∈fM ops j)
 step:∀(i:Nat)(r:RO),R[i]?=some r→ji P r (fD gR (gz R) V (iw i)) (V i)
 keys:((fD gR (gz R) V (iw R.length)).us.map (·.1)).Nodup
variable {ops:Array Oper}
def E4(h:sD ops R=true):R.length=ops.size:=by
 unfold sD at h;simp only[bA,bB]at h;exact h.1.2
def mN{α β:Type}{f:α→Option β}:∀{l:List α} {m:List β},l.mapM f=some m→∀(i:Nat)(a:α),l[i]?=some a→∃b,m[i]?=some b∧f a=some b
 | [],m,_,i,a,h=>by simp at h
 |x::l,m,hm,i,a,h=>by
  simp only[cB,oD,oB,oP,oS]at hm;obtain⟨b,hb,m',su,rfl⟩:=hm;cases i with
  |zero=>simp only[fg,oS]at h;subst h;exact⟨b,by simp,hb⟩
  |succ i=>simpa using mN su i a (by simpa using h)
def Of{st s':St}{rl:List Rs}(hd:sD ops R=true)(hR:ops.toList.mapM (iO P wv st.n ops)=some R)(hk:(st.us.map (·.1)).Nodup)
  (hx:CX P R rl st s'):HG P wv ops R st (vOf rl)∧s'=fD st (gz R) (vOf rl) (iw R.length):=by
 have EG:=OS (k:=0) (gR:=st) (D:=gz R) (V:=vOf rl) hx rfl (fun i hi=>by
  simp only[gz,aw];rw[bi,bR hi]
  rfl) (fun i hi=>by simp[vOf])
 simp only[aw]at EG;obtain⟨e,gD⟩:=EG;have hlen:=E4 hd;unfold sD at hd;simp only[bA,bB,aY,b9]at hd;obtain⟨⟨h1,_⟩,h2⟩:=hd;have rj:∀{i:Nat} {r:RO},R[i]?=some r→i<R.length:=fun h=>(bF.1 h).1;refine⟨⟨hlen,?_,ug (nL h1),?_,?_,?_,?_,v8 hk _ (aU _) gD⟩,e⟩;intro i o ho;exact mN hR i o (by simpa using ho)
 ·intro i j hj
  by_cases hi:i<R.length;have:=(h2 i hi).1 j hj;simpa using this
  have:ops[i]?=none:=by simp;omega
  simp[fM,this]at hj
 intro i r hr;have:=(h2 i (rj hr)).2;rw[hr]at this;simp only[bA]at this;exact this.1;intro i r t hr ht j hj;have:=(h2 i (rj hr)).2;rw[hr]at this;simp only[bA,aY]at this;have hs:=this.2 t ht;unfold nI at hs;simp only[aY,b9]at hs;simp only[gz,oB]at hj;obtain⟨x,hx,hd⟩:=hj;have:=hs j (rj hx);rw[hx]at this;simpa[hd]using this;intro i r hr;have:=gD i (rj hr);rw[bi,hr]at this;exact this
structure kj (P:Program) (ops:Array Oper) (R:List RO) (X:List Nat) (fE:Array Bool):Prop where
 nd:X.Nodup
 lt:∀i∈X,i<ops.size
 closed:∀i∈X,∀j∈fM ops i,j∈X
 size:fE.size=ops.size
 li:∀j,j<ops.size→(fE.getD j true=true↔j∈X)
variable {fE:Array Bool}
def kj.li'{X:List Nat}(h:kj P ops R X fE){j:Nat}(hj:fE.getD j false=true):j∈X:=by
 by_cases gI:j<ops.size
 ·refine(h.li j gI).1 ?_;rw[bD]at hj⊢;rw[←h.size]at gI;rw[c9 gI]at hj⊢;exact hj
 rw[bD,Array.getElem?_eq_none (by rw[h.size];omega)]at hj;cases hj
def kj.full{X:List Nat}(h:kj P ops R X fE)(ha:∀i,∀j∈fM ops i,j<i)(hr:Region.ready .any ops fE=[]):∀i,i<ops.size→i∈X:=by
 intro i
 induction i using Nat.strongRecOn with
 |ind i ih=>
  intro hi
  by_cases hm:i∈X;exact hm
  exfalso;have:i∈Region.ready .any ops fE:=by
   rw[dH];refine⟨?_,ops[i],by simp[hi],fun e he hb=>?_⟩
   ·cases hc:fE.getD i true with
    |false=>rfl
    |true=>exact absurd ((h.li i hi).1 hc) hm
   have hw:e.on∈fM ops i:=by
    simp only[fM,c9 hi,mT];exact aR.2 ⟨e,aX.2 ⟨by simpa using he,hb⟩,rfl⟩
   have gI:=ha i _ hw;have l9:=ih _ gI (by omega);have:=(h.li e.on (by omega)).2 l9;rw[bD]at this⊢;have hs:e.on<fE.size:=by rw[h.size];omega
   rw[c9 hs]at this⊢;exact this
  rw[hr]at this;cases this
def kj.next{X:List Nat}(h:kj P ops R X fE)(hi:i∈Region.ready .any ops fE):
  kj P ops R (i::X) (fE.setIfInBounds i true)∧i∉X∧∃o,ops[i]?=some o∧∀j∈fM ops i,j∈X:=by
 obtain⟨h1,o,ho,h2⟩:=dH.1 hi;have gI:i<ops.size:=(bh.1 ho).1;have Cf:i∉X:=fun hx=>by rw[(h.li i gI).2 hx]at h1;cases h1
 have hw:∀j∈fM ops i,j∈X:=by
  intro j hj;simp only[fM,ho,mT]at hj;obtain⟨e,he,rfl⟩:=aR.1 hj;obtain⟨he1,he2⟩:=aX.1 he;exact h.li' (h2 e (by simpa using he1) he2)
 refine⟨⟨aP.2 ⟨Cf,h.nd⟩,?_,?_,by simpa using h.size,?_⟩,Cf,o,ho,hw⟩
 ·intro j hj;rcases aj.1 hj with rfl|hj
  exact gI;exact h.lt j hj
 ·intro j hj k hk;rcases aj.1 hj with rfl|hj
  exact bt _ (hw k hk);exact bt _ (h.closed j hj k hk)
 intro j hj
 by_cases e:i=j
 ·subst e;have hs:i<fE.size:=by rw[h.size];exact gI
  simp[bD,hs]
 rw[getD_set_ne _ e,h.li j hj];simp[di e]
variable {r:RO}
def Gt{st:St}{V:Nat→Rs}{X:List Nat}{t:Nat}(hd:HG P wv ops R st V)(h:kj P ops R X fE)(hr:R[i]?=some r)
  (hw:∀j∈fM ops i,j∈X) (hn:i∉X) (ht:t∈r.jU):lk (fD st (gz R) V X).env t=lk (fD st (gz R) V (iw i)).env t:=by
 have a:=je (gR:=st) (V:=V) hd.inj (L:=X) (t:=t);have b:=je (gR:=st) (V:=V) hd.inj (L:=iw i) (t:=t)
 by_cases he:∃j,gz R j=some t
 ·obtain⟨j,hj⟩:=he;rcases hd.slot i r t hr ht j hj with⟨h1,h2⟩|⟨h1,h2⟩
  ·rw[a.1 j (hw j h2) hj,b.1 j (kM.2 h1) hj]
  have hx:j∉X:=fun hx=>hn (h.closed j hx i h2);rw[a.2 fun k hk e=>hx (hd.inj k j t e hj▸hk),b.2 fun k hk e=>by
   have:=hd.inj k j t e hj;have:=kM.1 hk;omega]
 rw[a.2 fun k _ e=>he ⟨k,e⟩,b.2 fun k _ e=>he ⟨k,e⟩]
def Ke{ops:Array Oper}{R:List RO}{st:St}{V:Nat→Rs}{X:List Nat}{fE:Array Bool}{i:Nat}{r:RO}{o:Oper}{a:Act}{w:World}{Q:Exit→Act→World→Prop}
  (hd:HG P wv ops R st V) (h:kj P ops R X fE) (ho:ops[i]?=some o) (hr:R[i]?=some r) (fv:iO P wv st.n ops o=some r)
  (hw:∀j∈fM ops i,j∈X) (hn:i∉X) (nm:kj P ops R (i::X) (fE.setIfInBounds i true)) (hs:ju n0 S0 M0 w0 (fD st (gz R) V X) a w):
  wpOp P ops Q i (fun a w=>ju n0 S0 M0 w0 (fD st (gz R) V (i::X)) a w) a w:=by
 have hlen:=hd.len;have HY:(fD st (gz R) V X).n=st.n:=iv;have ll:∀t∈r.jU,(fD st (gz R) V X).get t=(fD st (gz R) V (iw i)).get t:=fun t ht=>Gt hd h hr hw hn ht;have hkX:=vA hd.keys h.nd (fun j hj=>by have:=h.lt j hj;omega);have HZ:=vA hd.keys nm.nd (fun j hj=>by have:=nm.lt j hj;omega);have hi:i<R.length:=(bF.1 hr).1;have hkD:=vA (X:=iw i) hd.keys oJ (fun j hj=>by have:=kM.1 hj;omega);have uv:gz R i=r.op.dst:=by simp[gz,hr]
 have te:(V i).2=[]∨(fD st (gz R) V X).fresh (V i).2=true:=.inr (tW (by
  have e:(fD st (gz R) V (i::X)).us=(V i).2++(fD st (gz R) V X).us:=by simp[iu]
  rw[←e];exact HZ.1))
 have A4:fD st (gz R) V (i::X)=jA (fD st (gz R) V X) r.op.dst (V i):=by simp only[fD];rw[uv]
 obtain⟨g,hu,hv⟩:=hs.gh;have gD:=hd.step i r hr;have fZ:=fv;unfold iO at fZ;simp only[oD,oB,fw]at fZ;obtain⟨op,wR,_,h1,_,h2,fZ⟩:=fZ;have oO:∀d,o.dst=some d→d<(fD st (gz R) V X).n:=by
  intro d PY;rw[HY];rw[PY]at h2;simpa using h2
 have my:r.op=op:=by
  split at fZ
  ·simp only[oP,oS]at fZ;rw[←fZ]
  simp only[oB,oP,oS]at fZ;obtain⟨_,_,_,_,fZ⟩:=fZ;rw[←fZ]
 have run:∀{Q':Exit→Act→World→Prop},QD P r.op (fD st (gz R) V (iw i)) (V i)→o.wp P a w (fun a w=>ju n0 S0 M0 w0 (fD st (gz R) V (i::X)) a w) Q':=by
  intro Q' hq;have wP:∀x∈r.op.xs,(fD st (gz R) V X).ev x=(fD st (gz R) V (iw i)).ev x:=by
   intro x hx;cases x with
   |c d=>rfl
   |t n=>exact ll n (dz _ (eK.2 ⟨_,hx,rfl⟩))
  have ov:yX P r.op (fD st (gz R) V X).ev (fD st (gz R) V X).unit (fun v u=>v=(V i).1∧u=(V i).2):=by
   refine uG hq.1 wP ?_;intro x hx k u hk rN;rw[←wP x hx]at hk;cases x with
   |c d=>simp only[St.ev,pi]at hk;split at hk<;>simp[AV.ids]at hk
   |t n=>
    obtain⟨u',hm⟩:=tY (hv n) k hk;have h3:=hkX.2 _ hm;have h4:=hkD.2 _ (fB rN);have e1:=iA hd.keys h3;have e2:=iA hd.keys h4;rw[e1]at e2;injection e2 with e2;subst e2;exact iA hkX.1 hm
  have hQ:=hd.sq i r hr;rw[my]at ov hQ;have⟨h5,h6⟩:=w5 (Q':=Q') (n:=st.n) wR hQ HY ⟨hs,hu,hv,oO⟩ ov;refine cZ ?_ h5;rintro a' w' ⟨av,us,⟨rfl,rfl⟩,hS⟩;rw[A4,my,h6];exact hS te
 unfold wpOp;rw[ho];simp only
 split at fZ
 ·next hg=>
  simp only[oP,oS]at fZ;subst fZ;have:Region.wanted o (yielded ops a.tmps)=true:=by simp[Region.wanted,hg]
  rw[this,an rfl];exact .inl (run gD)
 next j b hg=>
 simp only[oB,oP,oS]at fZ;obtain⟨p,hp,t,ht,rfl⟩:=fZ;rcases gD with⟨tk,c,hc,hy,kZ⟩|⟨hc,kZ⟩
 ·rw[←ll t (dG _ (by simp))]at hc;have yP:=hv t;have yG:lk (fD st (gz R) V X).env t=.im tk (.sc (.bool c)):=hc;rw[yG]at yP;have yQ:=gU yP;have US:=pG (ops:=ops) hp ht yQ;have wS:Region.wanted o (yielded ops a.tmps)=(some c==some b):=by simp[Region.wanted,hg,US]
  rw[wS]
  by_cases e:c=b;rw[an (by simp[e])];exact .inl (run (hy e));rw[al (by simp[e])];have hV:V i=(.jS [],[]):=kZ (by cases c<;>cases b<;>simp_all);rw[A4,hV,h1];unfold jA;rw[jC];exact gW hs hu hv oO nH
 rw[←ll t (dG _ (by simp))]at hc;have yP:=hv t;have yG:lk (fD st (gz R) V X).env t=.jS []:=hc;rw[yG]at yP;have wS:Region.wanted o (yielded ops a.tmps)=false:=by simp[Region.wanted,hg,mC (ops:=ops) hp ht (rz yP)]
 rw[wS,al (by simp),A4,kZ,h1];unfold jA;rw[jC];exact gW hs hu hv oO nH
def Kf{st:St}{V:Nat→Rs}{Q:Exit→Act→World→Prop}(hd:HG P wv ops R st V)
  (wT:∀a w,ju n0 S0 M0 w0 (fD st (gz R) V (iw R.length)) a w→Q .normal a w):∀(fuel:Nat)(X:List Nat)(fE:Array Bool)(a:Act)(w:World),kj P ops R X fE→fuel+X.length=ops.size→
  ju n0 S0 M0 w0 (fD st (gz R) V X) a w→wpAny P .any ops Q fuel fE a w:=by
 have fin:∀{X:List Nat} {fE:Array Bool} {a:Act} {w:World},kj P ops R X fE→(∀i,i<ops.size→i∈X)→ju n0 S0 M0 w0 (fD st (gz R) V X) a w→Q .normal a w:=by
  intro X fE a w h hf hs;have hp:X.Perm (iw R.length):=(dR h.nd oJ).2 fun i=>by
   rw[kM,hd.len];exact⟨h.lt i,hf i⟩
  refine wT a w (hs.eqv (by rw[iv,iv]) ?_ ?_)
  ·intro t;have x:=je (gR:=st) (V:=V) hd.inj (L:=X) (t:=t);have y:=je (gR:=st) (V:=V) hd.inj (L:=iw R.length) (t:=t)
   by_cases he:∃j,j∈X∧gz R j=some t
   ·obtain⟨j,h1,h2⟩:=he;rw[x.1 j h1 h2,y.1 j (hp.mem_iff.1 h1) h2]
   rw[x.2 fun k hk e=>he ⟨k,hk,e⟩,y.2 fun k hk e=>he ⟨k,hp.mem_iff.2 hk,e⟩]
  rw[iu,iu];exact((hp.flatMap_right _).append_right _).symm
 intro fuel
 induction fuel with
 |zero=>
  intro X fE a w h hl hs;have hf:=ky h.nd h.lt (by omega);refine⟨?_,fin h hf hs⟩;rw[dS];intro i hi;have:=h.next hi;obtain⟨_,h2,o,ho,_⟩:=this;exact h2 (hf i (bh.1 ho).1)
 |succ fuel ih=>
  intro X fE a w h hl hs;refine⟨fun h0=>fin h (h.full hd.lj h0) hs,fun i hi=>?_⟩;obtain⟨h1,h2,o,ho,h3⟩:=h.next hi;obtain⟨r,hr,fv⟩:=hd.res i o ho;refine dT ?_ (Ke (Q:=Q) hd h ho hr fv h3 h2 h1 hs);intro a' w' nB;exact ih (i::X) _ a' w' h1 (by simp only[lK];omega) nB
def Ga{st:St}{K:Exit→St→Prop}{id:Nat}{a:Act}{w:World}(hm:Mx P)(hd:sD ops R=true)
  (hR:ops.toList.mapM (iO P wv st.n ops)=some R) (hs:ju n0 S0 M0 w0 st a w) (hq:gl P R st K):(Code.region id ops true).wp P (kU n0 S0 M0 w0 st.n K) a w:=by
 refine ed hm ?_;have hQ:∀r∈R,r.op.sq=true:=by
  have ZX:=hd;unfold sD at ZX;simp only[bA,bB,aY,b9]at ZX;intro r hr;obtain⟨i,hi,e⟩:=dU.1 hr;have:=(ZX.2 i hi).2;rw[bR hi,e]at this;simp only[bA]at this;exact this.1
 obtain⟨rl,s',hx,hK,hl⟩:=ly hQ hq;obtain⟨g,hu,hv⟩:=hs.gh;obtain⟨hD,e⟩:=Of hd hR hu.keys hx;have hc:kj P ops R [] (Array.replicate ops.size false):=⟨bC,by simp,by simp,by simp,fun j hj=>by simp[bD,hj]⟩;have hn:s'.n=st.n:=by rw[e];exact iv
 exact Kf hD (fun a w h=>⟨s',hn,hK,by rw[e];exact h⟩) ops.size [] _ a _ hc (by simp) ⟨hs.ms,hs.mS,hs.tm,hs.base,hs.os,hs.tape,hs.output,hs.size,hs.iD,hs.gh⟩
variable {st:St}{o:Oper}{a:Act}{w:World}{k:KQ}{g:Gh}
def lz.GQ:lz→Bool
 |.mv .. |.fa .. |.ext .. |.nck .. |.mkf .. |.pick .. =>true
 |_=>false
def MT{d:Nat}{e:TypeId}{r:lz}(h:sa P d e=some r):r.GQ=false:=by
 unfold sa at h
 split at h
 ·injection h with h;subst h;rfl
 simp only[oD,oB,oP,oS]at h;obtain⟨s,hs,z,hz,rfl⟩:=h
 rfl
def R6{wv:Wv}{d sz:Nat}{z:D}{l:Nat}{ps:List (Nat×X)}:(yc wv d sz z l ps).GQ=false:=by
 unfold yc
 split<;>rfl
def nz{r:lz}(fv:oI P wv n o=some r)(il:r.GQ=true)(h:At n0 S0 M0 w0 st o a w g)(hq:yX P r st.ev st.unit k):
  ∃v,∀w',(execOp a.eval o).run P w'=.ok (.value v) w':=by
 unfold oI at fv
 split at fv
 ·next x ho=>exact⟨a.eval x,fun w'=>by simp[execOp,ho]⟩
 ·next x ho=>exact⟨a.eval x,fun w'=>by simp[execOp,ho]⟩
 ·next c x y ho=>
  simp only[oD,oB,oP,oS,fw]at fv;obtain⟨d,hd,_,_,C,hC,X,hX,Y,hY,rfl⟩:=fv;have e:=h.ev_ hC;simp only[yX]at hq;unfold pr at hq
  split at hq
  ·next t' b hv=>
   rw[hv]at e;have hc:=gU e;cases b
   ·exact⟨a.eval y,fun w'=>by simp[execOp,ho,hc,asBool]⟩
   exact⟨a.eval x,fun w'=>by simp[execOp,ho,hc,asBool]⟩
  exact hq.elim
 ·next e x ho=>
  simp only[oD,oB,oP,oS,fw]at fv;obtain⟨d,hd,_,_,s,hs,X,hX,rfl⟩:=fv;cases il
 ·next e ho=>
  simp only[oD,oB,oP,fw]at fv;obtain⟨d,hd,_,_,fv⟩:=fv;rw[MT fv]at il;cases il
 ·next t x ho=>
  simp only[oD,oB,oP,oS,fw]at fv;obtain⟨d,hd,_,_,s,hs,ag,s8,_,h1,X,hX,rfl⟩:=fv;cases il
 ·next t p x ho=>
  simp only[oD,oB,oP,oS,fw]at fv;obtain⟨_,hd,s,hs,A,hA,X,hX,rfl⟩:=fv;cases wv<;>cases il
 ·next x ho=>
  simp only[oD,oB,oP,oS,fw]at fv;obtain⟨d,hd,_,_,X,hX,rfl⟩:=fv;have e:=h.ev_ hX;simp only[yX]at hq;unfold qA at hq
  split at hq
  ·next t' d j hv=>
   rw[hv]at e;simp only[fx,f8,D.fits]at e;obtain⟨F,⟨b,off,c,el,fr,F',h1,_⟩,h2,_⟩:=e;rw[fP h2]at h1;have h3:a.eval x=.pointer (some ⟨b,off+j,none⟩):=by simpa using h1
   exact⟨_,fun w'=>by simp[execOp,ho,h3];rfl⟩
  ·next t' b0 o0 d j hv=>
   rw[hv]at e;simp only[fx,f8,D.fits]at e;obtain⟨F,⟨_,b,off,c,el,fr,F',h1,_⟩,h2,_⟩:=e;rw[fP h2]at h1;have h3:a.eval x=.pointer (some ⟨b,off+j,none⟩):=by simpa using h1
   exact⟨_,fun w'=>by simp[execOp,ho,h3];rfl⟩
  ·next t' p0 hv=>
   rw[hv]at e;have h3:=gU e;exact⟨_,fun w'=>by simp[execOp,ho,h3];rfl⟩
  ·next id el j hv=>
   rw[hv]at e;simp only[fx]at e;obtain⟨ow,nn,sz,es,b,_,_,_,_,h3⟩:=e;exact⟨_,fun w'=>by simp[execOp,ho,h3];rfl⟩
  ·next id el j gQ ic j' hv=>
   rw[hv]at e;simp only[fx]at e;obtain⟨ow,nn,usz,es,b,c,ty,b',off',len',cap',_,_,_,_,_,_,h3⟩:=e;exact⟨_,fun w'=>by simp[execOp,ho,h3];rfl⟩
  ·next id j hv=>
   rw[hv]at e;simp only[fx]at e;obtain⟨_,_,b,_,_,h3⟩:=e;exact⟨_,fun w'=>by simp[execOp,ho,h3];rfl⟩
  exact hq.elim
 ·next op t x y u ho=>
  simp only[oD,oB,oP,fw]at fv;obtain⟨d,hd,_,_,fv⟩:=fv
  split at fv<;>(try simp only[oB,oS]at fv);obtain⟨X,hX,Y,hY,rfl⟩:=fv;cases il;obtain⟨X,hX,Y,hY,rfl⟩:=fv;cases il
  ·next ht _ _=>obtain⟨X,hX,Y,hY,rfl⟩:=fv;cases il
  obtain⟨X,hX,Y,hY,rfl⟩:=fv;cases il;obtain⟨X,hX,Y,hY,rfl⟩:=fv;cases il;obtain⟨X,hX,Y,hY,rfl⟩:=fv;cases il
  ·split at fv<;>(try simp only[oB,oS]at fv)
   obtain⟨X,hX,Y,hY,rfl⟩:=fv;cases il;subst fv;cases il
  ·split at fv<;>(try simp only[oB,oS]at fv)
   obtain⟨X,hX,Y,hY,rfl⟩:=fv;cases il;subst fv;cases il
  subst fv;cases il
 ·next op t x ho=>
  simp only[oD,oB,oP,oS,fw]at fv;obtain⟨d,hd,_,_,X,hX,rfl⟩:=fv;cases il
 ·next s t x ho=>
  simp only[oD,oB,oP,fw]at fv;obtain⟨d,hd,_,_,fv⟩:=fv
  split at fv<;>(try simp only[oB,oS]at fv);obtain⟨X,hX,rfl⟩:=fv;cases il
  ·split at fv<;>simp only[oB,oS]at fv
   obtain⟨X,hX,rfl⟩:=fv;cases il;subst fv;cases il
  subst fv;cases il
 ·next t l c ho=>
  simp only[oD,oB,oP,oS,fw]at fv;obtain⟨d,hd,_,_,e,he,i,hi,z,hz,L,hL,C,hC,rfl⟩:=fv;have ht:P.underlying t=some (.slice e):=by
   unfold pN at he
   split at he
   ·next e' h'=>injection he with he;subst he;exact h'
   cases he
  cases il
 ·next t x lo hi ho=>
  simp only[oD,oB,oP,fw]at fv;obtain⟨d,hd,_,_,Lo,wz,Hi,Ci,fv⟩:=fv;have l1:∀y,lo=some y→∃Y,Lo=some Y∧fY P 0 y=some Y:=by
   rintro y rfl;simp only[cF]at wz;obtain⟨Y,h1,rfl⟩:=wz;exact⟨Y,rfl,h1⟩
  have l2:lo=none→Lo=none:=by rintro rfl;simpa using wz.symm
  have l3:∀y,hi=some y→∃Y,Hi=some Y∧fY P 0 y=some Y:=by
   rintro y rfl;simp only[cF]at Ci;obtain⟨Y,h1,rfl⟩:=Ci;exact⟨Y,rfl,h1⟩
  have l4:hi=none→Hi=none:=by rintro rfl;simpa using Ci.symm
  split at fv<;>simp only[oB,oS]at fv;obtain⟨s,hs,X,hX,rfl⟩:=fv;cases il;obtain⟨X,hX,rfl⟩:=fv;cases il;subst fv;cases il
 ·next t x lo hi mx ho=>
  simp only[oD,oB,oP,fw]at fv;obtain⟨d,hd,_,_,fv⟩:=fv
  split at fv
  ·next e ht=>
   split at fv;simp only[oB,oS]at fv;obtain⟨s,hs,X,hX,rfl⟩:=fv;cases il;simp only[oS]at fv;subst fv;cases il
  simp only[oS]at fv;subst fv;cases il
 ·next fn first captured ho=>
  simp only[oD,oB,oP,fw]at fv;obtain⟨d,hd,_,_,fv⟩:=fv
  split at fv
  ·next f hf=>
   exact⟨_,fun w'=>by simp[execOp,ho,Instr.makeFunc];rfl⟩
  simp only[oS]at fv;subst fv;cases il
 ·next t x i ho=>
  simp only[oD,oB,oP,fw]at fv;obtain⟨d,hd,_,_,fv⟩:=fv
  split at fv
  ·next fs ht=>
   simp only[oB,oS,fw]at fv;obtain⟨f,hf,z,hz,_,Ej,X,hX,rfl⟩:=fv;have ex:=h.ev_ hX;have gk:∀(b p:Nat)(w':World),a.eval x=.pointer (some ⟨b,p,none⟩)→(execOp a.eval o).run P w'=.ok (.value (.pointer (some ⟨b,p+f.offset,none⟩))) w':=by
    intro b p w' hv;have Ej:z≠0:=by simpa using Ej
    simp[execOp,ho,hv,Instr.fieldAt,aW ht,hf,Instr.sureAddr,fieldPlace,lW hz,Ej,lm]
   simp only[yX]at hq;unfold yY at hq
   split at hq
   ·next t1 d' j e1=>
    rw[e1]at ex;obtain⟨b,p,hv,_⟩:=mZ ex;exact⟨_,fun w'=>gk _ _ w' hv⟩
   ·next t1 b0 o0 d' j e1=>
    rw[e1]at ex;obtain⟨b,p,hv,_⟩:=mZ (qN ex rfl).1;exact⟨_,fun w'=>gk _ _ w' hv⟩
   ·next id el j e1=>
    rw[e1]at ex;simp only[fx]at ex;obtain⟨ow,nn,usz,es,b,r1,r2,r3,r4,hv⟩:=ex;exact⟨_,fun w'=>gk _ _ w' hv⟩
   ·next id el j gQ ic j' e1=>
    rw[e1]at ex;simp only[fx]at ex;obtain⟨ow,nn,usz,es,b,c,ty,b',off',len',cap',r1,r2,r3,r4,r5,r6,hv⟩:=ex;exact⟨_,fun w'=>gk _ _ w' hv⟩
   ·next id j e1=>
    rw[e1]at ex;simp only[fx]at ex;obtain⟨sz,items,b,r1,r2,hv⟩:=ex;exact⟨_,fun w'=>gk _ _ w' hv⟩
   exact hq.elim
  cases fv
 ·next t x i ho=>
  simp only[oD,oB,oP,fw]at fv;obtain⟨d,hd,_,_,fv⟩:=fv
  split at fv
  ·next fs ht=>
   simp only[oB,oS,fw]at fv;obtain⟨f,hf,s,hs,ag,s8,_,h1,X,hX,rfl⟩:=fv;cases il
  cases fv
 ·next t x i ho=>
  simp only[oD,oB,oP,fw]at fv;obtain⟨d,hd,_,_,fv⟩:=fv
  split at fv
  ·next e ht=>
   simp only[oB,oS]at fv;obtain⟨s,hs,X,hX,I,hI,rfl⟩:=fv;cases il
  ·next na ea ht=>
   split at fv
   ·next kz zB=>
    split at fv
    ·next gI=>
     simp only[oB,oS,fw]at fv;obtain⟨s,hs,_,_,X,hX,rfl⟩:=fv;have ex:=h.ev_ hX;have hiv:a.eval i=.int .i64 kz:=by
      unfold sX at zB
      split at zB
      ·split at zB
       ·next h0=>injection zB with zB;subst zB;simp[Act.eval];omega
       cases zB
      cases zB
     have gk:∀(b p:Nat)(w':World),a.eval x=.pointer (some ⟨b,p,none⟩)→(execOp a.eval o).run P w'=.ok (.value (.pointer (some ⟨b,p+kz*s,none⟩))) w':=by
      intro b p w' hv;simp[execOp,ho,hv,hiv,Instr.indexAt,asIntOf,aW ht,Instr.sureAddr,pc hs,lm,gI]
     simp only[yX]at hq;unfold yY at hq
     split at hq
     ·next t1 d' j e1=>
      rw[e1]at ex;obtain⟨b,p,hv,_⟩:=mZ ex;exact⟨_,fun w'=>gk _ _ w' hv⟩
     ·next t1 b0 o0 d' j e1=>
      rw[e1]at ex;obtain⟨b,p,hv,_⟩:=mZ (qN ex rfl).1;exact⟨_,fun w'=>gk _ _ w' hv⟩
     ·next id el j e1=>
      rw[e1]at ex;simp only[fx]at ex;obtain⟨ow,nn,usz,es,b,r1,r2,r3,r4,hv⟩:=ex;exact⟨_,fun w'=>gk _ _ w' hv⟩
     ·next id el j gQ ic j' e1=>
      rw[e1]at ex;simp only[fx]at ex;obtain⟨ow,nn,usz,es,b,c,ty,b',off',len',cap',r1,r2,r3,r4,r5,r6,hv⟩:=ex;exact⟨_,fun w'=>gk _ _ w' hv⟩
     ·next id j e1=>
      rw[e1]at ex;simp only[fx]at ex;obtain⟨sz,items,b,r1,r2,hv⟩:=ex;exact⟨_,fun w'=>gk _ _ w' hv⟩
     exact hq.elim
    simp only[oS]at fv;subst fv;cases il
   simp only[oS]at fv;subst fv;cases il
  simp only[oS]at fv;subst fv;cases il
 ·next t x i ho=>
  simp only[oD,oB,oP,fw]at fv;obtain⟨d,hd,_,_,fv⟩:=fv
  split at fv
  ·next ht=>
   simp only[oB,oS]at fv;obtain⟨X,hX,I,hI,rfl⟩:=fv;cases il
  simp only[oS]at fv;subst fv;cases il
 ·next x i ho=>
  simp only[oD,oB,oP,oS,fw]at fv;obtain⟨d,hd,_,_,X,hX,rfl⟩:=fv;have ex:=h.ev_ hX;simp only[yX]at hq;unfold wE at hq
  split at hq
  ·next vs e1=>
   rw[e1]at ex;simp only[fx]at ex;obtain⟨xs,hv,hl⟩:=ex;have hlen:∀(vs:List AV)(xs:List Value),fA w.heap st.us g vs xs→xs.length=vs.length:=by
    intro vs
    induction vs with
    |nil=>intro xs hl;simp only[fA]at hl;simp[hl]
    |cons y vs ih=>intro xs hl;simp only[fA]at hl;obtain⟨v,r,rfl,_,h2⟩:=hl;simp[ih r h2]
   have gI:i<xs.size:=by have:=hlen vs _ hl;simp at this;have:=hq.1;omega
   exact⟨xs[i],fun w'=>by simp[execOp,ho,hv,Instr.extract,gI]⟩
  exact hq.elim
 ·next t l ps ho=>
  simp only[oD,oB,oP,oS,fw]at fv;obtain⟨d,hd,_,_,e,he,s,hs,z,hz,L,hL,rfl⟩:=fv;rw[R6]at il;cases il
 ·next t ps ho=>
  simp only[oD,oB,oP,fw]at fv;obtain⟨d,hd,_,_,fv⟩:=fv
  split at fv
  ·next fs ht=>
   simp only[oB,oS]at fv;obtain⟨_,_,z,hz,L,hL,rfl⟩:=fv;cases il
  simp only[oB,oS,fw]at fv;obtain⟨s,hs,_,_,z,hz,L,hL,rfl⟩:=fv;cases il;simp only[oS]at fv;subst fv;cases il
 ·next t ho=>
  simp only[oD,oB,oP,fw]at fv;obtain⟨d,hd,_,_,fv⟩:=fv
  split at fv;simp only[oS]at fv;subst fv;cases il;simp only[oS]at fv;subst fv;cases il
 ·next t x i ok ho=>
  simp only[oD,oB,oP,fw]at fv;obtain⟨d,hd,_,_,fv⟩:=fv
  split at fv
  ·split at fv
   simp only[oB,oS]at fv;obtain⟨X,hX,I,hI,rfl⟩:=fv;cases il;simp only[oS]at fv;subst fv;cases il
  simp only[oS]at fv;subst fv;cases il
 ·next t m k v ho=>
  simp only[oD,oB,oP,fw]at fv;obtain⟨_,hd,fv⟩:=fv
  split at fv
  ·split at fv
   simp only[oB,oS]at fv;obtain⟨M,hM,X,hX,Y,hY,rfl⟩:=fv;cases il;simp only[oS]at fv;subst fv;cases il
  simp only[oS]at fv;subst fv;cases il
 ·next t m k v ho=>
  simp only[oD,oB,oP,fw]at fv;obtain⟨_,hd,fv⟩:=fv
  split at fv
  ·split at fv
   simp only[oB,oS]at fv;obtain⟨M,hM,X,hX,Y,hY,rfl⟩:=fv;cases il;simp only[oS]at fv;subst fv;cases il
  simp only[oS]at fv;subst fv;cases il
 ·next c ho=>
  split at fv
  ·next f hc=>
   simp only[oD,oB,fw]at fv;obtain⟨_,_,_,hl,Xs,uC,fv⟩:=fv
   split at fv
   ·split at fv
    simp only[oP,oS]at fv;subst fv;cases il;cases fv
   split at fv
   ·split at fv
    simp only[oP,oS]at fv;subst fv;cases il;cases fv
   split at fv
   ·split at fv
    simp only[oP,oS]at fv;subst fv;cases il;cases fv
   split at fv
   ·split at fv
    simp only[oP,oS]at fv;subst fv;cases il;cases fv
   split at fv
   ·simp only[oP,oS]at fv;subst fv;cases wv<;>cases il
   simp only[oP,oS]at fv;subst fv;cases il
  ·next x _ hc=>
   simp only[oD,oB,oP,oS,fw]at fv;obtain⟨_,_,_,hl,X,hX,Xs,uC,rfl⟩:=fv;cases wv<;>cases il
  ·next hc=>
   simp only[oD,oB,fw]at fv;obtain⟨d,hd,_,_,fv⟩:=fv
   split at fv
   ·next x t ha nA=>
    have ri:c.args= #[x]:=by apply aS;simpa using ha
    have og:c.argTypes= #[t]:=by apply aS;simpa using nA
    split at fv<;>simp only[oB,oP,oS]at fv;obtain⟨X,hX,rfl⟩:=fv;cases il;obtain⟨X,hX,rfl⟩:=fv;cases il;obtain⟨X,hX,rfl⟩:=fv;cases il;subst fv;cases il
   cases fv
  ·next hc=>
   simp only[oD,oB,fw]at fv;obtain⟨d,hd,_,_,fv⟩:=fv
   split at fv
   ·next x y t u ha nA=>
    have ri:c.args= #[x,y]:=by apply aS;simpa using ha
    simp only[oB,oP,oS]at fv;obtain⟨X,hX,Y,hY,rfl⟩:=fv;cases il
   cases fv
  ·next hc=>
   simp only[oD,oB,fw]at fv;obtain⟨d,hd,_,_,fv⟩:=fv
   split at fv
   ·next x y t u ha nA=>
    have ri:c.args= #[x,y]:=by apply aS;simpa using ha
    simp only[oB,oP,oS]at fv;obtain⟨X,hX,Y,hY,rfl⟩:=fv;cases il
   cases fv
  ·next hc=>
   simp only[oD,oB,fw]at fv;obtain⟨d,hd,_,_,fv⟩:=fv
   split at fv
   ·next s x t u ha nA=>
    have ri:c.args= #[s,x]:=by apply aS;simpa using ha
    have og:c.argTypes= #[t,u]:=by apply aS;simpa using nA
    split at fv<;>simp only[oB,oP,oS,fw]at fv
    ·obtain⟨i,hi,_,A0,z,hz,X,hX,Y,hY,rfl⟩:=fv;cases wv<;>first|cases il|(by_cases h3:i.size=3;(rw[t6,an h3]at il;cases il);(rw[t6,al h3]at il;cases il))
    subst fv;cases il
   cases fv
  ·next hc=>
   simp only[oD,oB,fw]at fv;obtain⟨_,_,fv⟩:=fv
   split at fv
   ·split at fv<;>simp only[oB,oP,oS,fw]at fv
    obtain⟨s,hs,_,A0,X,hX,Y,hY,rfl⟩:=fv;cases il;subst fv;cases il
   cases fv
  simp only[oP,oS]at fv;subst fv;cases il
 simp only[oP,oS]at fv;subst fv;cases il
def s6(R:List RO)(i:Nat):Bool:=match R[i]? with|some r=>r.op.sq|none=>false
def lG(ops:Array Oper)(R:List RO)(i:Nat):Bool:=
 match ops[i]?,R[i]? with
 |some o,some r=>r.g.isNone&&r.op.GQ&&(List.range ops.size).all fun j=>j==i||(fM ops i).contains j||(match ops[j]? with|some oj=>(fM ops j).contains i||o.apart ops oj|none=>true)
 |_,_=>false
def nq(ops:Array Oper):List Nat→Bool
 |e::e'::r=>(fM ops e').contains e&&decide (e<e')&&nq ops (e'::r)
 |_=>true
def BU(ops:Array Oper)(R:List RO):List Nat:=(List.range R.length).foldl (fun acc i=>if s6 R i&&(fM ops i).all (fun j=>acc.contains j)then i::acc else acc) []
def NL(S:List Nat)(R:List RO):List Nat:=(List.range R.length).filter fun i=>S.contains i
def EL(S:List Nat)(R:List RO):List Nat:=(List.range R.length).filter fun i=>!S.contains i
def z8(S:List Nat)(ops:Array Oper)(R:List RO)(e k:Nat):Bool:=
 !lG ops R k||(fM ops e).contains k||(List.range R.length).any fun j=>decide (k<j)&&S.contains j&& !lG ops R j&&(fM ops j).contains k
def Ha(S:List Nat)(ops:Array Oper)(R:List RO):Bool:=
 yy (R.filterMap (·.op.dst))&&(R.length==ops.size)&&Region.noSelect ops&&
 match EL S R with
 | []=>false
 | e :: es => nq ops (e :: es) && (List.range R.length).all fun i =>
   (fM ops i).all (· < i) && (!S.contains i || (s6 R i && (fM ops i).all (fun j => S.contains j) && (match R[i]? with | some r => r.jU.all (nI ops R i) | none => true) &&
    (lG ops R i||(fM ops e).contains i||(List.range R.length).any fun k=>decide (i<k)&&S.contains k&&z8 S ops R e k&&(fM ops k).contains i)))
def Br(ops:Array Oper)(R:List RO):Bool:=Ha (BU ops R) ops R
def W0(ops:Array Oper)(R:List RO):List RO:=((NL (BU ops R) R).map fun i=>R.getD i default)++((EL (BU ops R) R).map fun i=>R.getD i default)
def zJ(h:R[i]?=some r):s6 R i=r.op.sq:=by simp[s6,h]
def qt(N:List Nat)(i:Nat):List Nat:=(N.filter fun j=>decide (j<i)).reverse
variable {N:List Nat}
def lR{j:Nat}:j∈qt N i↔j∈N∧j<i:=by simp[qt]
structure qD (P:Program) (wv:Wv) (ops:Array Oper) (R:List RO) (gR:St) (V:Nat→Rs) (S N:List Nat):Prop where
 len:R.length=ops.size
 res:∀(i:Nat)(o:Oper),ops[i]?=some o→∃r,R[i]?=some r∧iO P wv gR.n ops o=some r
 inj:∀i j t,gz R i=some t→gz R j=some t→i=j
 lj:∀i,∀j∈fM ops i,j<i
 mem:∀i,i∈N↔i<R.length∧S.contains i=true
 sq:∀i∈N,s6 R i=true
 Cy:N.Nodup
 nw:∀i∈N,∀j∈fM ops i,j∈N
 slot:∀(i:Nat)(r:RO)(t:Nat),i∈N→R[i]?=some r→t∈r.jU→∀j,gz R j=some t→(j<i∧j∈fM ops i)∨(i<j∧i∈fM ops j)
 step:∀(i:Nat)(r:RO),i∈N→R[i]?=some r→ji P r (fD gR (gz R) V (qt N i)) (V i)
 keys:((fD gR (gz R) V N.reverse).us.map (·.1)).Nodup
def FG{X:List Nat}(hN:N.Nodup)(hn:X.Nodup)(hl:∀i∈X,i∈N):X.Perm (N.reverse.filter (fun i=>decide (i∈X))):=
 (dR hn (((dI N).nodup_iff.2 hN).filter _)).2 fun a => by
  simp only[aX,dj,bn];exact⟨fun h=>⟨hl a h,h⟩,fun h=>h.2⟩
def jt{gR:St}{D:Nat→Option Nat}(hN:N.Nodup)(hf:((fD gR D V N.reverse).us.map (·.1)).Nodup){X:List Nat}(hn:X.Nodup)(hl:∀i∈X,i∈N):
  ((fD gR D V X).us.map (·.1)).Nodup∧∀x∈(fD gR D V X).us,x∈(fD gR D V N.reverse).us:=by
 rw[iu]at hf;simp only[iu];have hp:=FG hN hn hl;have h1:((X.flatMap fun i=>(V i).2)++gR.us).Perm (((N.reverse.filter (fun i=>decide (i∈X))).flatMap fun i=>(V i).2)++gR.us):=(hp.flatMap_right _).append_right _;have h2:(((N.reverse.filter (fun i=>decide (i∈X))).flatMap fun i=>(V i).2)++gR.us).Sublist ((N.reverse.flatMap fun i=>(V i).2)++gR.us):=(tx fm).append (dw _);exact⟨(h1.map _).nodup_iff.2 ((h2.map _).nodup hf),fun x hx=>h2.subset (h1.mem_iff.1 hx)⟩
def HO{s:St}{v:Rs}(hs:ji P r s v):v.2=[]∨s.fresh v.2=true:=by
 unfold ji at hs
 split at hs;exact hs.2
 next t b _=>
 rcases hs with⟨tk,c,_,h1,h2⟩|⟨_,h2⟩
 ·by_cases e:c=b
  exact(h1 e).2;exact .inl (by rw[h2 (by cases c<;>cases b<;>simp_all)])
 exact .inl (by rw[h2])
def vC:∀{Rl:List RO} {rl:List Rs} {s s':St},CX P Rl rl s s'→(s.us.map (·.1)).Nodup→(s'.us.map (·.1)).Nodup
 | [],[],s,s',h,hn=>by simp only[CX]at h;subst h;exact hn
 |R::Rl,r::rl,s,s',h,hn=>by
  simp only[CX]at h;refine vC h.2 ?_;have:=lI hn (HO h.1);have e:(jA s R.op.dst r).us=r.2++s.us:=by unfold jA;cases R.op.dst<;>rfl
  rw[e];exact this
 | [],_::_,_,_,h,_=>by simp[CX]at h
 |_::_,[],_,_,h,_=>by simp[CX]at h
def W1{D:Nat→Option Nat}{gR:St}{F:Nat→RO}:∀{N:List Nat} {rl:List Rs} {s s':St} {L:List Nat},(∀i∈N,D i=(F i).op.dst)→CX P (N.map F) rl s s'→s=fD gR D V L→N.map V=rl→
  s'=fD gR D V (N.reverse++L)∧∀(p:Nat)(hp:p<N.length),ji P (F N[p]) (fD gR D V ((N.take p).reverse++L)) (V N[p])
 | [],rl,s,s',L,_,h,e,hV=>by
  simp only[lN]at hV h;subst hV;simp only[CX]at h;subst h;exact⟨by simpa using e,by simp⟩
 |i::N,rl,s,s',L,hD,h,e,hV=>by
  simp only[lC]at hV h;subst hV;simp only[CX]at h;have e1:jA s (F i).op.dst (V i)=fD gR D V (i::L):=by simp only[fD];rw[←e,hD i (by simp)]
  obtain⟨h1,h2⟩:=W1 (fun j hj=>hD j (by simp[hj])) h.2 e1 rfl;refine⟨by simpa using h1,fun p hp=>?_⟩;cases p with
  |zero=>simpa[←e]using h.1
  |succ p=>simpa using h2 p (by simpa using hp)
def x6:∀{N:List Nat},N.Pairwise (· <·)→∀(p:Nat)(hp:p<N.length),(N.take p).reverse=qt N N[p]:=by
 intro N hN p hp;unfold qt;congr 1;have key:∀{N:List Nat},N.Pairwise (· <·)→∀(p:Nat)(hp:p<N.length),N.take p=N.filter (fun j=>decide (j<N[p])):=by
  intro N
  induction N with
  |nil=>intro _ p hp;simp at hp
  |cons x N ih=>
   intro h p hp;rw[ef]at h;cases p with
   |zero=>
    simp only[aA,List.getElem_cons_zero]
    symm
    rw[List.filter_eq_nil_iff];intro y hy;rcases aj.1 hy with rfl|hy
    simp;have:=h.1 y hy;simp;omega
   |succ p=>
    have UD:p<N.length:=by simpa using hp
    simp only[aG,List.getElem_cons_succ];rw[List.filter_cons_of_pos (by have:=h.1 N[p] (aZ UD);simpa using this),ih h.2 p UD]
 exact key hN p hp
def lD(S:List Nat)(R:List RO):(NL S R).Pairwise (· <·):=List.Pairwise.filter _ List.pairwise_lt_range
variable {S:List Nat}
def gG:i∈NL S R↔i<R.length∧S.contains i=true:=by simp[NL]
def jN:i∈EL S R↔i<R.length∧S.contains i=false:=by simp[EL]
def nr{l:List Nat}(h:l.Pairwise (· <·)):l.Nodup:=h.imp fun h=>Nat.ne_of_lt h
def nt:∀{A B:List RO} {st:St},gl P (A++B) st K=gl P A st (fun _ s=>gl P B s K)
 | [],_,_=>rfl
 |⟨none,r⟩::A,B,st=>by
  simp only[bp,gl];congr 1
  funext s
  exact nt
 |⟨some (t,b),r⟩::A,B,st=>by
  simp only[bp,gl];rw[nt];congr 1;congr 1
  funext s
  exact nt
def CU{st:St}{V:Nat→Rs}{X:List Nat}{t:Nat}(hd:qD P wv ops R st V S N)(h:kj P ops R X fE)(hX:∀i∈X,i∈N)(hi:i∈N)(hr:R[i]?=some r)
  (hw:∀j∈fM ops i,j∈X) (hn:i∉X) (ht:t∈r.jU):lk (fD st (gz R) V X).env t=lk (fD st (gz R) V (qt N i)).env t:=by
 have a:=je (gR:=st) (V:=V) hd.inj (L:=X) (t:=t);have b:=je (gR:=st) (V:=V) hd.inj (L:=qt N i) (t:=t)
 by_cases he:∃j,gz R j=some t
 ·obtain⟨j,hj⟩:=he;rcases hd.slot i r t hi hr ht j hj with⟨h1,h2⟩|⟨h1,h2⟩
  ·rw[a.1 j (hw j h2) hj,b.1 j (lR.2 ⟨hd.nw i hi j h2,h1⟩) hj]
  have hx:j∉X:=fun hx=>hn (h.closed j hx i h2);rw[a.2 fun k hk e=>hx (hd.inj k j t e hj▸hk),b.2 fun k hk e=>by
   have:=hd.inj k j t e hj;have:=(lR.1 hk).2;omega]
 rw[a.2 fun k _ e=>he ⟨k,e⟩,b.2 fun k _ e=>he ⟨k,e⟩]
def ry{ops:Array Oper}{R:List RO}{st:St}{V:Nat→Rs}{S N X:List Nat}{fE:Array Bool}{i:Nat}{r:RO}{o:Oper}{a:Act}{w:World}
  (hd:qD P wv ops R st V S N) (h:kj P ops R X fE) (hX:∀i∈X,i∈N) (hi:i∈N) (hr:R[i]?=some r) (fv:iO P wv st.n ops o=some r)
  (hw:∀j∈fM ops i,j∈X) (hn:i∉X) (hs:ju n0 S0 M0 w0 (fD st (gz R) V X) a w):
  ∃op,oI P wv st.n o=some op∧r.op=op∧op.sq=true∧op.dst=o.dst∧(∀d,o.dst=some d→d<(fD st (gz R) V X).n)∧(∃g,At n0 S0 M0 w0 (fD st (gz R) V X) o a w g)∧(∀t∈r.jU,(fD st (gz R) V X).get t=(fD st (gz R) V (qt N i)).get t)∧
   (QD P r.op (fD st (gz R) V (qt N i)) (V i)→yX P r.op (fD st (gz R) V X).ev (fD st (gz R) V X).unit (fun v u=>v=(V i).1∧u=(V i).2)):=by
 have HY:(fD st (gz R) V X).n=st.n:=iv;have ll:∀t∈r.jU,(fD st (gz R) V X).get t=(fD st (gz R) V (qt N i)).get t:=fun t ht=>CU hd h hX hi hr hw hn ht;have hkX:=jt hd.Cy hd.keys h.nd hX;have VM:(qt N i).Nodup:=(dI _).nodup_iff.2 (hd.Cy.filter _);have hkD:=jt (X:=qt N i) hd.Cy hd.keys VM (fun j hj=>(lR.1 hj).1);have fZ:=fv;unfold iO at fZ;simp only[oD,oB,fw]at fZ;obtain⟨op,wR,_,h1,_,h2,fZ⟩:=fZ;have oO:∀d,o.dst=some d→d<(fD st (gz R) V X).n:=by
  intro d PY;rw[HY];rw[PY]at h2;simpa using h2
 have my:r.op=op:=by
  split at fZ
  ·simp only[oP,oS]at fZ;rw[←fZ]
  simp only[oB,oP,oS]at fZ;obtain⟨_,_,_,_,fZ⟩:=fZ;rw[←fZ]
 have hQ:op.sq=true:=by
  rw[←my,←zJ hr];exact hd.sq i hi
 obtain⟨g,hu,hv⟩:=hs.gh;refine⟨op,wR,my,hQ,h1,oO,⟨g,hs,hu,hv,oO⟩,ll,fun hq=>?_⟩;have wP:∀x∈r.op.xs,(fD st (gz R) V X).ev x=(fD st (gz R) V (qt N i)).ev x:=by
  intro x hx;cases x with
  |c d=>rfl
  |t n=>exact ll n (dz _ (eK.2 ⟨_,hx,rfl⟩))
 refine uG hq.1 wP ?_;intro x hx k u hk rN;rw[←wP x hx]at hk;cases x with
 |c d=>simp only[St.ev,pi]at hk;split at hk<;>simp[AV.ids]at hk
 |t n=>
  obtain⟨u',hm⟩:=tY (hv n) k hk;have h3:=hkX.2 _ hm;have h4:=hkD.2 _ (fB rN);have e1:=iA hd.keys h3;have e2:=iA hd.keys h4;rw[e1]at e2;injection e2 with e2;subst e2;exact iA hkX.1 hm
def pH{ops:Array Oper}{R:List RO}{st:St}{V:Nat→Rs}{S N X:List Nat}{fE:Array Bool}{i:Nat}{r:RO}{o:Oper}{a:Act}{w:World}{Q:Exit→Act→World→Prop}
  (hd:qD P wv ops R st V S N) (h:kj P ops R X fE) (hX:∀i∈X,i∈N) (hi:i∈N) (ho:ops[i]?=some o) (hr:R[i]?=some r) (fv:iO P wv st.n ops o=some r)
  (hw:∀j∈fM ops i,j∈X) (hn:i∉X) (hs:ju n0 S0 M0 w0 (fD st (gz R) V X) a w):
  wpOp P ops Q i (fun a w=>ju n0 S0 M0 w0 (fD st (gz R) V (i::X)) a w) a w:=by
 obtain⟨op,wR,my,hQ,h1,oO,⟨g,nl⟩,ll,Er⟩:=ry hd h hX hi hr fv hw hn hs;have HY:(fD st (gz R) V X).n=st.n:=iv;have HZ:=jt hd.Cy hd.keys (X:=i::X) (aP.2 ⟨hn,h.nd⟩) (fun j hj=>(aj.1 hj).elim (fun e=>e▸hi) (hX j));have uv:gz R i=r.op.dst:=by simp[gz,hr]
 have te:(V i).2=[]∨(fD st (gz R) V X).fresh (V i).2=true:=.inr (tW (by
  have e:(fD st (gz R) V (i::X)).us=(V i).2++(fD st (gz R) V X).us:=by simp[iu]
  rw[←e];exact HZ.1))
 have A4:fD st (gz R) V (i::X)=jA (fD st (gz R) V X) r.op.dst (V i):=by simp only[fD];rw[uv]
 have gD:=hd.step i r hi hr;have run:∀{Q':Exit→Act→World→Prop},QD P r.op (fD st (gz R) V (qt N i)) (V i)→o.wp P a w (fun a w=>ju n0 S0 M0 w0 (fD st (gz R) V (i::X)) a w) Q':=by
  intro Q' hq;have ov:=Er hq;rw[my]at ov;have⟨h5,h6⟩:=w5 (Q':=Q') (n:=st.n) wR hQ HY nl ov;refine cZ ?_ h5;rintro a' w' ⟨av,us,⟨rfl,rfl⟩,hS⟩;rw[A4,my,h6];exact hS te
 have hu:=nl.us;have hv:=nl.rep;have fZ:=fv;unfold iO at fZ;simp only[oD,oB,fw]at fZ;obtain⟨op',Cj,_,_,_,_,fZ⟩:=fZ;rw[wR]at Cj;injection Cj with Cj;subst Cj;have skip:V i=(.jS [],[])→ju n0 S0 M0 w0 (fD st (gz R) V (i::X)) (a.put o.dst undef) w:=by
  intro hV;rw[A4,hV,my,h1];unfold jA;rw[jC];exact gW hs hu hv oO nH
 unfold wpOp;rw[ho];simp only
 split at fZ
 ·next hg=>
  simp only[oP,oS]at fZ;subst fZ;have:Region.wanted o (yielded ops a.tmps)=true:=by simp[Region.wanted,hg]
  rw[this,an rfl];exact .inl (run gD)
 next j b hg=>
 simp only[oB,oP,oS]at fZ;obtain⟨p,hp,t,ht,rfl⟩:=fZ;rcases gD with⟨tk,c,hc,hy,kZ⟩|⟨hc,kZ⟩
 ·rw[←ll t (dG _ (by simp))]at hc;have yP:=hv t;have yG:lk (fD st (gz R) V X).env t=.im tk (.sc (.bool c)):=hc;rw[yG]at yP;have yQ:=gU yP;have US:=pG (ops:=ops) hp ht yQ;have wS:Region.wanted o (yielded ops a.tmps)=(some c==some b):=by simp[Region.wanted,hg,US]
  rw[wS]
  by_cases e:c=b;rw[an (by simp[e])];exact .inl (run (hy e));rw[al (by simp[e])];exact skip (kZ (by cases c<;>cases b<;>simp_all))
 rw[←ll t (dG _ (by simp))]at hc;have yP:=hv t;have yG:lk (fD st (gz R) V X).env t=.jS []:=hc;rw[yG]at yP;have wS:Region.wanted o (yielded ops a.tmps)=false:=by simp[Region.wanted,hg,mC (ops:=ops) hp ht (rz yP)]
 rw[wS,al (by simp)];exact skip kZ
def pV:∀{l:List Nat},nq ops l=true→l.Pairwise (· <·)∧∀(p:Nat)(hp:p+1<l.length),l[p]∈fM ops l[p+1]
 | [],_=>⟨List.Pairwise.nil,by simp⟩
 | [e],_=>⟨by simp,by simp⟩
 |e::e'::r,h=>by
  simp only[nq,bA,bM,bn]at h;obtain⟨i1,i2⟩:=pV h.2;refine⟨?_,fun p hp=>?_⟩
  ·rw[ef];refine⟨fun x hx=>?_,i1⟩;rcases aj.1 hx with rfl|hx
   exact h.1.2;exact Nat.lt_trans h.1.2 ((ef.1 i1).1 x hx)
  cases p with
  |zero=>exact h.1.1
  |succ p=>exact i2 p (by simpa using hp)
def FC{K:Exit→St→Prop}(hlen:R.length=ops.size)(hR:∀(i:Nat) (o:Oper),ops[i]?=some o→∃r,R[i]?=some r∧iO P wv n ops o=some r)
  (lj:∀i,∀j∈fM ops i,j<i):∀(es:List Nat)(fE:Array Bool)(s:St)(a:Act)(w:World),fE.size=ops.size→(∀j,j<ops.size→(fE.getD j true=true↔j∉es))→nq ops es=true→(∀e∈es,e<ops.size)→
  ju n0 S0 M0 w0 s a w→s.n=n→gl P (es.map fun i=>R.getD i default) s K→wpAny P .any ops (fun e a w=>e=.normal∧kU n0 S0 M0 w0 n K e a w) es.length fE a w
 | [],fE,s,a,w,jm,hli,_,_,hs,hn,hq=>by
  refine wpAny_done ?_ ⟨rfl,s,hn,hq,hs⟩ 0;rw[dS];intro i hi;obtain⟨h1,o,ho,_⟩:=dH.1 hi;have:=(hli i (bh.1 ho).1).2 (by simp);rw[this]at h1;cases h1
 |e::es,fE,s,a,w,jm,hli,zC,gI,hs,hn,hq=>by
  obtain⟨PE,wS⟩:=pV zC;have ad0:=ef.1 PE;have ad1:∀j,j<ops.size→j∉e::es→fE.getD j false=true:=by
   intro j hj gw;have:=(hli j hj).2 gw;rw[bD]at this⊢;rw[←jm]at hj;rw[c9 hj]at this⊢;exact this
  have Ck:=gI e (by simp);have PF:e∈Region.ready .any ops fE:=by
   rw[dH];refine⟨?_,ops[e],by simp[Ck],fun x hx hb=>?_⟩
   ·cases hc:fE.getD e true with
    |false=>rfl
    |true=>exact absurd (by simp) ((hli e Ck).1 hc)
   have hw:x.on∈fM ops e:=by
    simp only[fM,c9 Ck,mT];exact aR.2 ⟨x,aX.2 ⟨by simpa using hx,hb⟩,rfl⟩
   have hl:=lj e _ hw;refine ad1 _ (by omega) fun hm=>?_;rcases aj.1 hm with h1|h1
   omega;have:=ad0.1 _ h1;omega
  have ad2:∀i∈Region.ready .any ops fE,i=e:=by
   intro i hi;obtain⟨h1,o,ho,h2⟩:=dH.1 hi;have hio:=(bh.1 ho).1;have UR:i∈e::es:=by
    refine cN fun gw=>?_;rw[(hli i hio).2 gw]at h1;cases h1
   rcases aj.1 UR with h3|h3
   exact h3;exfalso;obtain⟨q,Eo,hq2⟩:=dU.1 h3;have hw:=wS q (by simp;omega);have e1:(e::es)[q+1]'(by simp;omega)=i:=by simpa using hq2
   rw[e1]at hw;have pZ:(e::es)[q]'(by simp;omega)∈e::es:=aZ _;generalize (e::es)[q]'(by simp;omega)=p at hw pZ;simp only[fM,ho,mT]at hw;obtain⟨x,hx,rfl⟩:=aR.1 hw;obtain⟨za,Cw⟩:=aX.1 hx;have h4:=h2 x (by simpa using za) Cw;have Cv:=gI _ pZ;have h5:fE.getD x.on true=true:=by
    rw[bD]at h4⊢;rw[←jm]at Cv;rw[c9 Cv]at h4⊢;exact h4
   exact(hli _ Cv).1 h5 pZ
  refine⟨fun h0=>(by rw[h0]at PF;cases PF),fun i hi=>?_⟩;obtain rfl:=ad2 i hi;obtain⟨r,hr,fv⟩:=hR i ops[i] (by simp[Ck]);have ll:R.getD i default=r:=by simp[bi,hr]
  simp only[lC,ll]at hq;have ov:match r.g with|none=>oq P r.op s (g7 P (es.map fun i=>R.getD i default) K)|some (t,b)=>nK (s.get t) b (oq P r.op s (g7 P (es.map fun i=>R.getD i default) K)) (g7 P (es.map fun i=>R.getD i default) K (s.kl r.op.dst (.jS []))):=by
   obtain⟨g,op⟩:=r;cases g with
   |none=>exact hq
   |some x=>exact hq
  rw[←hn]at fv;have yR:=nM (Q':=fun e a w=>e=.normal∧kU n0 S0 M0 w0 n K e a w) fv hs ov;have next:∀{a':Act} {w':World},ip n0 S0 M0 w0 s.n (g7 P (es.map fun i=>R.getD i default) K) a' w'→wpAny P .any ops (fun e a w=>e=.normal∧kU n0 S0 M0 w0 n K e a w) es.length (fE.setIfInBounds i true) a' w':=by
   rintro a' w' ⟨s',yK,hf,nB⟩;refine FC hlen hR lj es _ s' a' w' (by simpa using jm) ?_ ?_ (fun e he=>gI e (by simp[he])) nB (yK.trans hn) hf
   ·intro j hj
    by_cases hji:i=j
    ·subst hji;have hs:i<fE.size:=by rw[jm];exact Ck
     have Cf:i∉es:=fun hm=>cu _ (ad0.1 i hm);simp[bD,hs,Cf]
    rw[getD_set_ne _ hji,hli j hj];simp[di hji]
   cases es with
   |nil=>rfl
   |cons e' r'=>
    simp only[nq,bA]at zC;exact zC.2
  unfold wpOp;rw[show ops[i]?=some ops[i]by simp[Ck]];simp only
  split
  ·next hw=>exact .inl (cZ (fun a' w' h=>next h) (yR.1 hw))
  next hw=>exact next (yR.2 (by simpa using hw))
def EN{st:St}{V:Nat→Rs}{K:Exit→St→Prop}{e:Nat}{es:List Nat}(hd:qD P wv ops R st V S (NL S R))(hE:EL S R=e::es)(zC:nq ops (e::es)=true)(yS:Region.noSelect ops=true)
  (PG:∀i∈NL S R,lG ops R i=true∨i∈fM ops e∨∃k∈NL S R,i<k∧(lG ops R k=false∨k∈fM ops e∨∃j∈NL S R,k<j∧lG ops R j=false∧k∈fM ops j)∧i∈fM ops k)
  (wT:∀a w,ju n0 S0 M0 w0 (fD st (gz R) V (NL S R).reverse) a w→gl P ((e::es).map fun i=>R.getD i default) (fD st (gz R) V (NL S R).reverse) K):∀(fuel:Nat)(X:List Nat)(fE:Array Bool)(a:Act)(w:World),
  kj P ops R X fE→(∀i∈X,i∈NL S R)→fuel+X.length=ops.size→ju n0 S0 M0 w0 (fD st (gz R) V X) a w→wpAny P .any ops (fun e a w=>e=.normal∧kU n0 S0 M0 w0 st.n K e a w) fuel fE a w:=by
 have mD:e<ops.size:=by
  have:e∈EL S R:=by rw[hE];simp
  rw[←hd.len];exact(jN.1 this).1
 have heN:e∉NL S R:=by
  have:e∈EL S R:=by rw[hE];simp
  intro h;have h1:=(jN.1 this).2;have h2:=(gG.1 h).2;rw[h1]at h2;cases h2
 have fin:∀(fuel:Nat)(X:List Nat)(fE:Array Bool)(a:Act)(w:World),kj P ops R X fE→(∀i∈X,i∈NL S R)→fuel+X.length=ops.size→ju n0 S0 M0 w0 (fD st (gz R) V X) a w→(∀i∈NL S R,i∈X)→
   wpAny P .any ops (fun e a w=>e=.normal∧kU n0 S0 M0 w0 st.n K e a w) fuel fE a w:=by
  intro fuel X fE a w h hX hl hs gF;have hp:X.Perm (NL S R).reverse:=(dR h.nd ((dI _).nodup_iff.2 hd.Cy)).2 fun i=>by
   rw[dj];exact⟨hX i,gF i⟩
  have nB:ju n0 S0 M0 w0 (fD st (gz R) V (NL S R).reverse) a w:=by
   refine hs.eqv (by rw[iv,iv]) ?_ ?_
   ·intro t;have x:=je (gR:=st) (V:=V) hd.inj (L:=X) (t:=t);have y:=je (gR:=st) (V:=V) hd.inj (L:=(NL S R).reverse) (t:=t)
    by_cases he:∃j,j∈X∧gz R j=some t
    ·obtain⟨j,h1,h2⟩:=he;rw[x.1 j h1 h2,y.1 j (hp.mem_iff.1 h1) h2]
    rw[x.2 fun k hk e=>he ⟨k,hk,e⟩,y.2 fun k hk e=>he ⟨k,hp.mem_iff.2 hk,e⟩]
   rw[iu,iu];exact((hp.flatMap_right _).append_right _).symm
  have ad3:X.length+(e::es).length=ops.size:=by
   have h1:X.length=(NL S R).length:=by rw[hp.length_eq,List.length_reverse]
   have h2:(NL S R).length+(EL S R).length=R.length:=by
    unfold NL EL;have:∀l:List Nat,(l.filter fun i=>S.contains i).length+(l.filter fun i=>!S.contains i).length=l.length:=by
     intro l
     induction l with
     |nil=>rfl
     |cons x l ih=>
      simp only[List.filter_cons,lK]
      by_cases hx:S.contains x=true;simp only[hx,aK,bT,kY,aH,lK];omega
      have EG:S.contains x=false:=by simpa using hx
      simp only[EG,aK,bN,kY,aH,lK];omega
    simpa using this (List.range R.length)
   rw[h1,←hE,h2,hd.len]
  have PH:fuel=(e::es).length:=by omega
  rw[PH];refine FC hd.len hd.res hd.lj (e::es) fE _ a w h.size ?_ zC ?_ nB iv (wT a w nB)
  ·intro j hj;rw[h.li j hj];have V1:j<R.length:=by rw[hd.len];exact hj
   constructor;intro hx hm;rw[←hE]at hm;have h1:=(jN.1 hm).2;have h2:=(gG.1 (hX j hx)).2;rw[h1]at h2;cases h2;intro hm;rw[←hE]at hm;refine gF j (gG.2 ⟨V1,?_⟩);cases hq:S.contains j with
   |true=>rfl
   |false=>exact absurd (jN.2 ⟨V1,hq⟩) hm
  intro x hx;rw[←hE]at hx;rw[←hd.len];exact(jN.1 hx).1
 intro fuel
 induction fuel with
 |zero=>
  intro X fE a w h hX hl hs;have:=ky h.nd h.lt (by omega) e mD;exact absurd (hX e this) heN
 |succ fuel ih=>
  intro X fE a w h hX hl hs
  by_cases gF:∀i∈NL S R,i∈X;exact fin (fuel+1) X fE a w h hX hl hs gF
  have mQ:∀i,i<ops.size→i∉X→(∀j∈fM ops i,j∈X)→i∈Region.ready .any ops fE:=by
   intro i hi hm hw;rw[dH];refine⟨?_,ops[i],by simp[hi],fun x hx hb=>?_⟩
   ·cases hc:fE.getD i true with
    |false=>rfl
    |true=>exact absurd ((h.li i hi).1 hc) hm
   have VU:x.on∈fM ops i:=by
    simp only[fM,c9 hi,mT];exact aR.2 ⟨x,aX.2 ⟨by simpa using hx,hb⟩,rfl⟩
   have l9:=hw _ VU;have:=(h.li x.on (h.lt _ l9)).2 l9;rw[bD]at this⊢;have hs:x.on<fE.size:=by rw[h.size];exact h.lt _ l9
   rw[c9 hs]at this⊢;exact this
  by_cases hF:∃f∈NL S R,f∉X∧lG ops R f=true∧∀j∈fM ops f,j∈X
  ·obtain⟨f,Es,K1,il,Et⟩:=hF;have hfs:f<ops.size:=by rw[←hd.len];exact(gG.1 Es).1
   have Cd:=mQ f hfs K1 Et;obtain⟨h1,h2,o,ho,h3⟩:=h.next Cd;obtain⟨r,hr,fv⟩:=hd.res f o ho;unfold lG at il;rw[ho,hr]at il;simp only[bA,d9,aY,b9]at il;obtain⟨⟨H0,il⟩,Cx⟩:=il;obtain⟨op,wR,my,hQ,uv,oO,⟨g,nl⟩,ll,Er⟩:=ry hd h hX Es hr fv Et K1 hs;have gD:=hd.step f r Es hr;unfold ji at gD;rw[H0]at gD;have ov:=Er gD;rw[my]at ov il;obtain⟨v,hv⟩:=nz wR il nl ov;have zz:o.guard=none:=by
    have fZ:=fv;unfold iO at fZ;simp only[oD,oB,fw]at fZ;obtain⟨_,_,_,_,_,_,fZ⟩:=fZ
    split at fZ
    ·assumption
    simp only[oB,oP,oS]at fZ;obtain⟨_,_,_,_,fZ⟩:=fZ;rw[←fZ]at H0;cases H0
   have wS:Region.wanted o (yielded ops a.tmps)=true:=by simp[Region.wanted,zz]
   have nm:ju n0 S0 M0 w0 (fD st (gz R) V (f::X)) (a.put o.dst v) w:=by
    have:=pH (Q:=fun _ _ _=>False) hd h hX Es ho hr fv Et K1 hs;unfold wpOp at this;rw[ho]at this;simp only[wS,aK]at this;rcases this with h4|⟨_,a',w',h4⟩
    unfold Oper.wp at h4;rw[hv w]at h4;exact h4;exact h4.elim
   refine wpAny_first ho (dV yS) (fun c a w hh=>absurd hh.1 (by simp)) fuel fE a w ?_ Cd (.inl ⟨wS,hv⟩) (ih (f::X) _ _ w h1 (fun i hi=>(aj.1 hi).elim (fun e=>e▸Es) (hX i)) (by simp only[lK];omega) nm);intro j oj hj gw gZ kZ;have GO:=(bh.1 hj).1;have:=Cx j GO;rw[hj]at this;simp only[cm,bB,gw,dK,bM,bn]at this;rcases this with h4|h4|h4
   exact absurd ((h.li j GO).2 (Et j h4)) (by rw[gZ];simp);simp only[fM,hj,mT]at h4;obtain⟨x,hx,hxe⟩:=aR.1 h4;obtain⟨za,Cw⟩:=aX.1 hx;exact absurd hxe (kZ x (by simpa using za) Cw);exact h4
  have yT:(∀j∈fM ops e,j∈X)→False:=by
   intro hw;have hnf:∀m i,i∈NL S R→R.length-i≤m→lG ops R i=false→i∈X:=by
    intro m
    induction m with
    |zero=>intro i hi hm _;have:=(gG.1 hi).1;omega
    |succ m ihm=>
     intro i hi hm il;rcases PG i hi with h1|h1|⟨k,hk,h1,h2,h3⟩
     rw[il]at h1;cases h1;exact hw i h1;rcases h2 with h2|h2|⟨j,hj,h4,h5,h6⟩
     exact h.closed k (ihm k hk (by omega) h2) i h3;exact h.closed k (hw k h2) i h3;exact h.closed k (h.closed j (ihm j hj (by omega) h5) k h6) i h3
   refine gF ?_;intro i
   induction i using Nat.strongRecOn with
   |ind i PI=>
    intro hi;cases il:lG ops R i with
    |false=>exact hnf _ i hi (aU _) il
    |true=>
     refine cN fun gw=>hF ⟨i,hi,gw,il,fun j hj=>PI j (hd.lj i j hj) (hd.nw i hi j hj)⟩
  refine⟨fun h0=>?_,fun i hi=>?_⟩
  ·exfalso;refine gF ?_;intro i
   induction i using Nat.strongRecOn with
   |ind i PI=>
    intro hi;refine cN fun gw=>?_;have:=mQ i (by rw[←hd.len];exact(gG.1 hi).1) gw fun j hj=>PI j (hd.lj i j hj) (hd.nw i hi j hj);rw[h0]at this;cases this
  obtain⟨h1,h2,o,ho,h3⟩:=h.next hi;have his:=(bh.1 ho).1;have P6:i∈NL S R:=by
   have Ld:i<R.length:=by rw[hd.len];exact his
   refine gG.2 ⟨Ld,?_⟩;cases hq:S.contains i with
   |true=>rfl
   |false=>
    exfalso;have hm:i∈e::es:=by rw[←hE];exact jN.2 ⟨Ld,hq⟩
    rcases aj.1 hm with rfl|hm
    exact yT h3;obtain⟨q,Eo,hq2⟩:=dU.1 hm;have hw:=(pV zC).2 q (by simp;omega);have e1:(e::es)[q+1]'(by simp;omega)=i:=by simpa using hq2
    rw[e1]at hw;have pZ:(e::es)[q]'(by simp;omega)∈EL S R:=by rw[hE];exact aZ _
    have h4:=(gG.1 (hX _ (h3 _ hw))).2;rw[(jN.1 pZ).2]at h4;cases h4
  obtain⟨r,hr,fv⟩:=hd.res i o ho;refine dT ?_ (pH hd h hX P6 ho hr fv h3 h2 hs);intro a' w' nB;exact ih (i::X) _ a' w' h1 (fun j hj=>(aj.1 hj).elim (fun e=>e▸P6) (hX j)) (by simp only[lK];omega) nB
def DV{st:St}{K:Exit→St→Prop}{id:Nat}{a:Act}{w:World}(hm:Mx P)(hd:Br ops R=true)
  (hR:ops.toList.mapM (iO P wv st.n ops)=some R) (hs:ju n0 S0 M0 w0 st a w) (hq:gl P (W0 ops R) st K):(Code.region id ops true).wp P (kU n0 S0 M0 w0 st.n K) a w:=by
 refine cG (Q:=fun e a w=>e=.normal∧kU n0 S0 M0 w0 st.n K e a w) (ed hm ?_) (fun e a w h=>h.2);unfold Br at hd;unfold W0 at hq;generalize BU ops R=S at hd hq;unfold Ha at hd;simp only[bA,bB]at hd;obtain⟨⟨⟨d1,d2⟩,d3⟩,hd⟩:=hd;rw[nt]at hq;cases hE:EL S R with
 |nil=>rw[hE]at hd;cases hd
 |cons e es=>
  rw[hE]at hd hq;simp only[bA,aY,b9,bn]at hd;obtain⟨zC,gF⟩:=hd;have hNQ:∀r∈(NL S R).map (fun i=>R.getD i default),r.op.sq=true:=by
   intro r hr;obtain⟨i,hi,rfl⟩:=aR.1 hr;obtain⟨h1,h2⟩:=gG.1 hi;have h3:=(gF i h1).2;rw[h2]at h3;simp only[bT,ae,bA]at h3;have h4:=h3.1.1.1;simpa[s6,bi,h1]using h4
  obtain⟨rl,s',hx,hK,hl⟩:=ly hNQ hq;obtain⟨g,hu,hv⟩:=hs.gh;have ii:=nr (lD S R);have hV:(NL S R).map (fun i=>rl.getD ((NL S R).idxOf i) (.any,[]))=rl:=by
   apply eN
   simp at hl;simp[hl];intro p h1 h2;have hp:p<(NL S R).length:=by simpa using h1
   simp[bi,fo ii p hp,h2]
  generalize hVd:(fun i=>rl.getD ((NL S R).idxOf i) ((.any,[]):Rs))=V at hV;have hD:∀i∈NL S R,gz R i=(R.getD i default).op.dst:=by
   intro i hi;have gI:=(gG.1 hi).1;simp[gz,bi,gI]
  obtain⟨e1,rO⟩:=W1 (D:=gz R) (V:=V) (gR:=st) (L:=[]) hD hx rfl hV;simp only[aB]at e1 rO;have rj:∀{i:Nat} {r:RO},R[i]?=some r→i<R.length:=fun h=>(bF.1 h).1;have wA:∀i,∀j∈fM ops i,j<i:=by
   intro i j hj
   by_cases hi:i<R.length;exact(gF i hi).1 j hj
   have:ops[i]?=none:=by simp;omega
   simp[fM,this]at hj
  have hN:∀i∈NL S R,((s6 R i=true∧(fM ops i).all (fun j=>S.contains j)=true)∧(match R[i]? with|some r=>r.jU.all (nI ops R i)|none=>true)=true)∧
    (lG ops R i||(fM ops e).contains i||(List.range R.length).any fun k=>decide (i<k)&&S.contains k&&z8 S ops R e k&&(fM ops k).contains i)=true:=by
   intro i hi;obtain⟨h1,h2⟩:=gG.1 hi;have:=(gF i h1).2;rw[h2]at this;simpa only[bT,ae,bA]using this
  have hDE:qD P wv ops R st V S (NL S R):=by
   refine⟨d2,?_,ug (nL d1),wA,fun i=>gG,fun i hi=>(hN i hi).1.1.1,ii,?_,?_,?_,?_⟩;intro i o ho;exact mN hR i o (by simpa using ho)
   ·intro i hi j hj;have h1:=(hN i hi).1.1.2;rw[aY]at h1;have h2:=wA i j hj;have h3:=(gG.1 hi).1;exact gG.2 ⟨by omega,h1 j hj⟩
   intro i r t hi hr ht j hj;have h2:=(hN i hi).1.2;rw[hr]at h2;simp only[aY]at h2;have hs:=h2 t ht;unfold nI at hs;simp only[aY,b9]at hs;simp only[gz,oB]at hj;obtain⟨x,hx,hd⟩:=hj;have:=hs j (rj hx);rw[hx]at this;simpa[hd]using this
   ·intro i r hi hr;obtain⟨p,hp,rfl⟩:=dU.1 hi;have:=rO p hp;rw[x6 (lD S R) p hp]at this;rw[bi,hr]at this;exact this
   rw[←e1];exact vC hx hu.keys
  have hc:kj P ops R [] (Array.replicate ops.size false):=⟨bC,by simp,by simp,by simp,fun j hj=>by simp[bD,hj]⟩;refine EN hDE hE zC d3 ?_ (fun a w h=>by rw[←e1];exact hK) ops.size [] _ a _ hc (by simp) (by simp) ⟨hs.ms,hs.mS,hs.tm,hs.base,hs.os,hs.tape,hs.output,hs.size,hs.iD,hs.gh⟩;intro i hi;have:=(hN i hi).2;simp only[z8,cm,bM,bn,eh,b9,bA,ce]at this;rcases this with(h1|h1)|⟨k,hk,⟨⟨h1,h2⟩,h3⟩,h4⟩
  exact .inl h1;exact .inr (.inl h1);refine .inr (.inr ⟨k,gG.2 ⟨hk,by simpa using h2⟩,h1,?_,h4⟩);rcases h3 with(h3|h3)|⟨j,hj,⟨⟨q1,q2⟩,q3⟩,q4⟩
  exact .inl h3;exact .inr (.inl h3);exact .inr (.inr ⟨j,gG.2 ⟨hj,by simpa using q2⟩,q1,q3,q4⟩)
end Go.Ax
