/- Contracts of functions of the seat, proved over the engine. No condition. -/
import Derived.Test.YtlmeadheakbmpaaXxC
import Derived.Test.YtlmeadheakbmpaaXxA
import Derived.Test.YtlmeadheakbmpaaXxB
set_option linter.all false
namespace Go.Ax
set_option maxRecDepth 20000
set_option maxHeartbeats 4000000
def IG(z:Option Bool)(m:Mo)(e:Ex):SL (SL Bool)×Int:=if wh m=true∧BA m.1 e=true then(mK m.2.1.toNat (gS m e),0)else((z,[]),1)
variable {e:Ex}{n:Nat}
def Ol{z:Option Bool}{m:Mo}(h1:wh m=true)(h2:BA m.1 e=true)(hM:we m n):IG z m e=(mK n (gS m e),0):=by
 have hn:m.2.1.toNat=n:=by rw[hM.Cf];rfl
 simp[IG,h1,h2,hn]
def Ue{R:my}:(mK n R).1=some false:=rfl
def UH{n:Nat}{R:my}:(mK n R).2.map (eS 1 eB)=rD n R:=(D.ls.inj (rf (n:=n) (R:=R))).2.2
def CZ{g:Int×Int}(h:BA g e=true):f8 g e=true:=by
 simp only[BA,bA]at h;exact h.2.2
def uN(f1 f2 f3:Nat):RC:=(.s [.b 2 5 0,.b 3 3 1,.o (.mv 4 (.c (.ls (some true) 1 []))),.v 5 (.ci 0)] (.seq (.s [.L 6 5 2,.c 7 f1 [.t 6],.o (.un 8 .not (.t 7)),.m 9 8,.u 9 (.fa 10 0 (.t 2)),.u 9 (.ld 11 true 2 (.t 10)),.u 9 (.ld 12 true 3 (.t 3)),.u 9 (.call (some 13) f2 [.t 11,.t 12]),.u 9 (.un 14 .not (.t 13)),.o (.pick 15 (.t 9) .ct (.t 14))] (.cond (.t 15) (.s [.o (.mv 4 (.c (.ls (some true) 1 []))),.v 5 (.ci 1)] .ret) .skip)) (.s [.L 16 5 2,.L 17 3 3,.c 18 f3 [.t 16,.t 17],.m 4 18,.v 5 (.ci 0)] .ret)))
def um(P:Program)(iV:Nat):Prop:=∀(m:Mo)(e:Ex),AF P iV [eM m,eE e] (.lf ([.own (eS 1 (eS 1 eB) (IG (some true) m e).1),.own (eI (IG (some true) m e).2)]))
variable {g:Nat}{P:Program}
def Dr(hm:Mx P){f1 f2 f3:Nat}(hr:il P g=some (19,uN f1 f2 f3,[.t 4,.t 5]))(iS:tA P f1)(jw:yq P f2)(pd:wT P f3):um P g:=by
 intro m e;obtain⟨k,v,nn,ks,rfl⟩:=Ex.ex e;rw[gM];refine fY hr hm rfl fun hb=>?_;simp+contextual-implicitDefEqProofs only[uN,eM,eS,eI,D.at,D.size,D.fS,D.sub,D.fX,lN,lC,bne,bN,bU,go_sem];refine fL (ds:=[eM m]) (by rfl) (iS m) ?_;cases ho:wh m
 ·rw[show IG (some true) m (.mk k v nn ks)=(((some true),[]),1)by simp[IG,ho]];simp+contextual-implicitDefEqProofs only[eB,bE,lN,bN,bU,go_sem]
 obtain⟨n,hM⟩:=G9 ho;have hg:=hM.g;have hx:=jw m.1 (.mk k v nn ks);rw[gM]at hx;simp+contextual-implicitDefEqProofs only[eB,D.at,D.sub,D.fX,lN,lC,bT,go_sem];refine fL (ds:=[eG m.1,.ag [.sc (.int .i64 k),.sc (.int .i64 v),.ls nn 3 (ks.map eE)]]) (by rfl) hx ?_;cases hq:BA m.1 (.mk k v nn ks)
 ·rw[show IG (some true) m (.mk k v nn ks)=(((some true),[]),1)by simp[IG,hq]];simp+contextual-implicitDefEqProofs only[eB,bE,lN,bN,bU,go_sem]
 rw[Ol ho hq hM];have Ee:=pd m n (.mk k v nn ks) hM (CZ hq);rw[gM]at Ee;simp+contextual-implicitDefEqProofs only[eB,D.at,D.sub,D.fX,lN,lC,bT,Ue,UH,go_sem];refine fL (ds:=[eM m,.ag [.sc (.int .i64 k),.sc (.int .i64 v),.ls nn 3 (ks.map eE)]]) (by rfl) Ee ?_;simp+contextual-implicitDefEqProofs only[bE,bne,bN,bU,go_sem]
variable {i:Nat}
def zi{α:Type}{l:List α}{d:α}(h:i<l.length):l.take (i+1)=l.take i++[l.getD i d]:=by
 rw[dr h];simp[h]
def Ct:RC:=(.s [.v 4 .cf] (.seq (.s [.m 6 0,.o (.len 7 (.t 6)),.m 8 1,.o (.len 9 (.t 8)),.o (.bin 10 .neq (.t 7) (.t 9))] (.cond (.t 10) (.s [.v 4 .cf] .ret) .skip)) (.seq (.s [.v 5 (.ci 0)] (.gX 0 (.loop (.seq (.s [.m 11 5,.m 12 0,.o (.len 13 (.t 12)),.o (.bin 14 .lss (.t 11) (.t 13))] (.cond (.t 14) .skip (.exit 0))) (.seq (.gX 1 (.seq (.jI true [.m 17 0,.m 18 5,.o (.ia 19 1 (.t 17) (.t 18)),.l 20 1 19,.m 21 1,.m 22 5,.o (.ia 23 1 (.t 21) (.t 22)),.l 24 1 23,.o (.bin 25 .neq (.t 20) (.t 24))]) (.cond (.t 25) (.s [.v 4 .cf] .ret) .skip))) (.r [.m 15 5,.o (.bin 16 .add (.t 15) (.ci 1)),.m 5 16])))))) (.s [.v 4 .ct] .ret))))
def JW(P:Program)(iV:Nat):Prop:=∀(a b:SL Int),AF P iV [eS 1 eI a,eS 1 eI b] (.own (eB (decide (a.2=b.2))))
def Ug(hm:Mx P)(hr:il P g=some (26,Ct,[.t 4])):JW P g:=by
 intro a b;refine fY hr hm rfl fun hb=>?_;have hl:=uq hb.1;simp only[lM]at hl
 by_cases hlen:a.2.length=b.2.length
 case neg=>
  rw[show(decide (a.2=b.2))=false from decide_eq_false fun h=>hlen (congrArg List.length h)];have h1:((a.2.length:Int)==(b.2.length:Int))=false:=by simp;omega
  simp+contextual-implicitDefEqProofs only[Ct,eS,h1,bne,bN,lM,go_sem,eB]
 have h1:((a.2.length:Int)==(b.2.length:Int))=true:=by simp;omega
 simp+contextual-implicitDefEqProofs only[Ct,eS,eB,h1,bne,bT,lM,go_sem];refine gL (α:=Nat) [4,5,11,12,13,14,15,16,17,18,19,20,21,22,23,24,25] (fun i=>[(5,.im none (.sc (.int .i64 i)))]) (fun i=>[]) (fun i=>i≤a.2.length∧a.2.take i=b.2.take i) (fun i=>a.2.length-i) 0 (gO.to [] (by simp only[go_sem];rfl) rfl (by simp) (by rfl) (by simp only[fR,go_sem,iD,iP]<;>simp)) ⟨aq _,rfl⟩ ?_;rintro i ⟨wd,OU⟩
 by_cases hi:i<a.2.length
 ·have e1:=lz (f:=eI) (d:=0) hi;have AC:i<b.2.length:=by omega
  have e2:=lz (f:=eI) (d:=0) AC
  by_cases hp:a.2.getD i 0=b.2.getD i 0
  ·have SA:(a.2.getD i 0==b.2.getD i 0)=true:=by simpa using hp
   simp+contextual-implicitDefEqProofs only[hi,AC,e1,e2,eI,aS,SA,bne,bT,iL,lM,go_sem,iN];rw[fQ (by omega) (by omega)];exact⟨i+1,⟨by omega,by rw[zi (d:=0) hi,zi (d:=0) AC,OU,hp]⟩,by omega,gO.to [] (by simp only[go_sem];rfl) rfl (by simp) (by rfl) (by simp only[fR,go_sem]<;>simp)⟩
  have SA:(a.2.getD i 0==b.2.getD i 0)=false:=by simpa using hp
  rw[show(decide (a.2=b.2))=false from decide_eq_false fun h=>hp (by rw[h])];simp+contextual-implicitDefEqProofs only[hi,AC,e1,e2,eI,aS,SA,bne,bN,iL,lM,go_sem,iN]
 obtain rfl:i=a.2.length:=by omega
 rw[cO,hlen,cO]at OU;rw[show(decide (a.2=b.2))=true from decide_eq_true OU];simp+contextual-implicitDefEqProofs only[hi,iL,lM,go_sem]
def WR{α:Type}{p:α→Bool}{l:List α}{d:α}(h:i<l.length):(l.take (i+1)).all p=((l.take i).all p&&p (l.getD i d)):=by
 rw[zi (d:=d) h,List.all_append];simp
def Q4{α:Type}{p:α→Bool}{l:List α}(h:(l.take i).all p=false):l.all p=false:=by
 rw[←bu i l,List.all_append,h,bG]
def wQ:RC:=(.s [.v 4 .cf] (.seq (.s [.m 6 0,.o (.len 7 (.t 6)),.m 8 1,.o (.bin 9 .neq (.t 7) (.t 8))] (.cond (.t 9) (.s [.v 4 .cf] .ret) .skip)) (.seq (.s [.v 5 (.ci 0)] (.gX 0 (.loop (.seq (.s [.m 10 5,.m 11 0,.o (.len 12 (.t 11)),.o (.bin 13 .lss (.t 10) (.t 12))] (.cond (.t 13) .skip (.exit 0))) (.seq (.gX 1 (.s [.m 16 0,.m 17 5,.o (.ia 18 1 (.t 16) (.t 17)),.l 19 1 18,.o (.len 20 (.t 19)),.m 21 1,.o (.bin 22 .neq (.t 20) (.t 21))] (.cond (.t 22) (.s [.v 4 .cf] .ret) .skip))) (.r [.m 14 5,.o (.bin 15 .add (.t 14) (.ci 1)),.m 5 15])))))) (.s [.v 4 .ct] .ret))))
def D8(P:Program)(iV:Nat):Prop:=∀(t:SL (SL Bool))(n:Int),AF P iV [eS 1 (eS 1 eB) t,eI n] (.own (eB (j8 n n t)))
def Nh(hm:Mx P)(hr:il P g=some (23,wQ,[.t 4])):D8 P g:=by
 intro t n;refine fY hr hm rfl fun hb=>?_;have hl:=uq hb.1;simp only[lM]at hl
 by_cases hlen:(t.2.length:Int)=n
 case neg=>
  have h1:((t.2.length:Int)==n)=false:=by simpa using hlen
  rw[show j8 n n t=false by simp[j8,it,h1]];simp+contextual-implicitDefEqProofs only[wQ,eS,h1,bne,bN,lM,go_sem,eI,eB]
 have h1:((t.2.length:Int)==n)=true:=by simpa using hlen
 rw[show j8 n n t=t.2.all (it n)by simp[j8,it,h1]];simp+contextual-implicitDefEqProofs only[wQ,eS,eB,h1,bne,bT,lM,go_sem,eI];refine gL (α:=Nat) [4,5,10,11,12,13,14,15,16,17,18,19,20,21,22] (fun i=>[(5,.im none (.sc (.int .i64 i)))]) (fun i=>[]) (fun i=>i≤t.2.length∧(t.2.take i).all (it n)=true) (fun i=>t.2.length-i) 0 (gO.to [] (by simp only[go_sem];rfl) rfl (by simp) (by rfl) (by simp only[fR,go_sem,iD,iP]<;>simp)) ⟨aq _,rfl⟩ ?_;rintro i ⟨wd,OU⟩
 by_cases hi:i<t.2.length
 ·have e1:=lz (f:=eS 1 eB) (d:=(none,[])) hi;have e2:=WR (p:=it n) (d:=(none,[])) hi;rw[OU,bI]at e2;cases hp:it n (t.2.getD i (none,[]));have SA:((((t.2.getD i (none,[])).2.length:Nat):Int)==n)=false:=hp;rw[Q4 (e2.trans hp)];simp+contextual-implicitDefEqProofs only[hi,e1,eS,aS,SA,bne,bN,iL,lM,go_sem,iN];have SA:((((t.2.getD i (none,[])).2.length:Nat):Int)==n)=true:=hp;simp+contextual-implicitDefEqProofs only[hi,e1,eS,aS,SA,bne,bT,iL,lM,go_sem,iN];rw[fQ (by omega) (by omega)];exact⟨i+1,⟨by omega,e2.trans hp⟩,by omega,gO.to [] (by simp only[go_sem];rfl) rfl (by simp) (by rfl) (by simp only[fR,go_sem]<;>simp)⟩
 obtain rfl:i=t.2.length:=by omega
 rw[cO]at OU;rw[OU];simp+contextual-implicitDefEqProofs only[hi,iL,lM,go_sem]
def NX:RC:=(.s [.v 2 .cf] (.s [.m 3 0,.o (.len 4 (.t 3)),.o (.bin 5 .gtr (.t 4) (.ci 4096)),.m 2 5] .ret))
def Od(P:Program)(iV:Nat):Prop:=∀(nn:Option Bool)(c:List Int),AF P iV [.ls nn 1 (c.map eU)] (.own (eB (decide ((c.length:Int)>4096))))
def YW(hm:Mx P)(hr:il P g=some (6,NX,[.t 2])):Od P g:=by
 intro nn c;refine fY hr hm rfl fun hb=>?_;simp+contextual-implicitDefEqProofs only[NX,eB,lM,go_sem]
def Yj{g:Int×Int}{s:Int}(h:GW g false s 7 e)(hs:s≤200):BA g e=true:=by
 obtain⟨h1,_,_,_,h5,h6⟩:=h;simp only[BA,bA,a7];exact⟨by omega,by omega,h1⟩
set_option maxHeartbeats 1000000
section
variable {m m2:Mo}{n n2:Nat}{φ:Nat→Nat}{A A2 B B2:my}
def Jp{x y:Nat}(h:A x y=true):sn n A x y=true:=N7 (aq n) (by simp[mT,h])
def LJ{x z y:Nat}(hz:z<n)(h:sn n A x z=true)(h':sn n A z y=true):sn n A x y=true:=qv hz h h'
end
set_option maxHeartbeats 4000000
variable {i:Nat}
def jJ{α:Type}{f:α→D}{l:List α}{d:α}(h:i<l.length):D.at (l.map f) i=f (l.getD i d):=by
 simp[D.at,h]
def Et(m:Mo)(x:Nat):Int:=pJ m.2.2.1.2 x m.2.2.1.2.length
def atR(m:Mo)(v:Int):my:=tK fun x=>Et m x==v
def abg(w:Wo)(i:Nat):Int:=w.1.2.getD i 0
def agv(m:Mo)(w:Wo)(i:Nat):SL (SL Bool):=tN m (w.2.2.getD i 0)
def PA(m:Mo)(n:Nat)(w:Wo):Nat→my
 |0=>atR m (abg w 0)
 |k+1=>fun x y=>rP n (PA m n w k) (kD (agv m w k)) x y&&(Et m y==abg w (k+1))
abbrev lA:=Nat→Nat→Int
def tg(a b:Int):Int:=if a= -1∨b= -1∨a+b>1000000 then -1 else a+b
def ch(a b:Int):Int:=if a= -1∨(b≠-1∧b<a)then b else a
def pW(a:Int):Prop:= -1≤a∧a≤1000000
def lw(a b:Int):Prop:=b= -1∨(a≠-1∧a≤b)
variable {a:Int}
def iB:lw a a:=by unfold lw;omega
variable {b:Int}
def gK{c:Int}(h1:lw a b)(h2:lw b c):lw a c:=by unfold lw at*;omega
def Iv(h1:lw a b)(h2:lw b a):a=b:=by unfold lw at*;omega
def kg:lw a (-1):=.inl rfl
def uG:lw (ch a b) a:=by unfold ch lw;split<;>omega
def uH:lw (ch a b) b:=by unfold ch lw;split<;>omega
def tI(a b:Int):ch a b=a∨ch a b=b:=by unfold ch;split<;>simp
def VP(h1:pW a)(h2:pW b):pW (ch a b):=by rcases tI a b with h|h<;>rw[h]<;>assumption
def adm:ch (-1) b=b:=by simp[ch]
def NR:ch a a=a:=by unfold ch;split<;>rfl
def abh(h:pW b):ch 0 b=0:=by unfold ch pW at*;split<;>omega
def OG(h1:pW a)(h2:pW b):pW (tg a b):=by unfold tg pW at*;split<;>omega
def ly{c d:Int}(h1:lw a c)(h2:lw b d)(ha:pW a)(hb:pW b):lw (tg a b) (tg c d):=by unfold lw tg pW at*;split<;>split<;>omega
def FD(h:pW a):tg 0 a=a:=by unfold tg pW at*;split<;>omega
def Ck(h:pW a):tg a 0=a:=by unfold tg pW at*;split<;>omega
def sv{c:Int}(h1:pW a)(h2:pW b)(h3:pW c):tg (tg a b) c=tg a (tg b c):=by
 unfold pW at*;unfold tg
 split<;>split<;>split<;>split<;>omega
def ZP{c d:Int}(h1:pW a)(h2:pW b)(h3:pW c)(h4:pW d):lw (tg a d) (tg (tg a b) (tg c d)):=by
 unfold pW at*;unfold lw tg
 split<;>split<;>split<;>split<;>omega
def ng(n:Nat)(A:lA):Prop:=∀x y,x<n→y<n→pW (A x y)
def pr(A B:lA):Nat→lA
 |0=>fun _ _=> -1
 |z+1=>fun x y=>ch (pr A B z x y) (tg (A x z) (B z y))
def lT(n:Nat)(A B:lA):lA:=pr A B n
def Kt(A:lA):lA:=fun x y=>if x=y then 0 else A x y
def iK(A:lA):Nat→lA
 |0=>Kt A
 |k+1=>fun x y=>ch (iK A k x y) (tg (iK A k x k) (iK A k k y))
def kB(n:Nat)(A:lA):lA:=iK A n
def Fw(n:Nat)(A:lA):Nat→lA
 |0=>Kt A
 |k+1=>lT n (Fw n A k) (Fw n A k)
def pX:pW (-1):=by unfold pW;omega
def om:pW 0:=by unfold pW;omega
variable {A B:lA}{n:Nat}
def OA(hA:ng n A)(hB:ng n B):∀{z:Nat},z≤n→ng n (pr A B z)
 |0,_,_,_,_,_=>pX
 |z+1,hz,x,y,hx,hy=>VP (OA hA hB (by omega) x y hx hy) (OG (hA x z hx (by omega)) (hB z y (by omega) hy))
def yV(hA:ng n A)(hB:ng n B):ng n (lT n A B):=OA hA hB (aw n)
variable {x y:Nat}
def wY{A' B':lA}:∀{n:Nat},(∀k,k<n→A x k=A' x k)→(∀k,k<n→B k y=B' k y)→pr A B n x y=pr A' B' n x y
 |0,_,_=>rfl
 |n+1,h1,h2=>by
  simp only[pr];rw[wY (n:=n) (fun k hk=>h1 k (by omega)) (fun k hk=>h2 k (by omega)),h1 n (by omega),h2 n (by omega)]
def UG(h:ng n A):ng n (Kt A):=fun x y hx hy=>by
 unfold Kt;split;exact om;exact h x y hx hy
def kS(h:ng n A):∀{k:Nat},k≤n→ng n (iK A k)
 |0,_=>UG h
 |k+1,hk=>fun x y hx hy=>VP (kS h (by omega) x y hx hy) (OG (kS h (by omega) x k hx (by omega)) (kS h (by omega) k y (by omega) hy))
def ul(h:ng n A):∀{k:Nat},ng n (Fw n A k)
 |0=>UG h
 |_+1=>yV (ul h) (ul h)
def qm(h:ng n A):∀{k x:Nat},k≤n→x<n→iK A k x x=0
 |0,x,_,_=>by simp[iK,Kt]
 |k+1,x,hk,hx=>by
  simp only[iK];rw[qm h (by omega) hx];exact abh (OG (kS h (by omega) x k hx (by omega)) (kS h (by omega) k x (by omega) hx))
def IP(h:ng n A){k:Nat}(hk:k<n)(hx:x<n):iK A (k+1) x k=iK A k x k:=by
 simp only[iK];rw[qm h (by omega) hk,Ck (kS h (by omega) x k hx hk),NR]
def DJ(h:ng n A){k:Nat}(hk:k<n)(hy:y<n):iK A (k+1) k y=iK A k k y:=by
 simp only[iK];rw[qm h (by omega) hk,FD (kS h (by omega) k y hk hy),NR]
def GV:∀{j k:Nat},j≤k→lw (iK A k x y) (iK A j x y)
 | j, 0, h => by
   obtain rfl:j=0:=by omega
   exact iB
 |j,k+1,h=>by
  by_cases e:j=k+1;subst e;exact iB;exact gK uG (GV (j:=j) (k:=k) (by omega))
def yG(h:ng n A):∀{k z x y:Nat},k≤n→z<k→x<n→y<n→lw (iK A k x y) (tg (iK A k x z) (iK A k z y))
 |k+1,z,x,y,hk,hz,hx,hy=>by
  have o:ng n (iK A k):=kS h (by omega);have mM:k<n:=hk
  by_cases e:z=k;subst e;rw[IP h mM hx,DJ h mM hy];exact uH
  have Sa:z<k:=by omega
  have hzn:z<n:=by omega
  have ih:=fun {x y:Nat}=>yG h (k:=k) (z:=z) (x:=x) (y:=y) (by omega) Sa;have g1:lw (iK A (k+1) x y) (iK A k x y):=uG;have g2:lw (iK A (k+1) x y) (tg (iK A k x k) (iK A k k y)):=uH;have p1:iK A (k+1) x z=iK A k x z∨iK A (k+1) x z=tg (iK A k x k) (iK A k k z):=tI _ _;have p2:iK A (k+1) z y=iK A k z y∨iK A (k+1) z y=tg (iK A k z k) (iK A k k y):=tI _ _;rcases p1 with p1|p1<;>rcases p2 with p2|p2<;>rw[p1,p2]
  exact gK g1 (ih hx hy);rw[←sv (o x z hx hzn) (o z k hzn mM) (o k y mM hy)];exact gK g2 (ly (ih hx mM) iB (o x k hx mM) (o k y mM hy));rw[sv (o x k hx mM) (o k z mM hzn) (o z y hzn hy)];exact gK g2 (ly iB (ih mM hy) (o x k hx mM) (o k y mM hy));exact gK g2 (ZP (o x k hx mM) (o k z mM hzn) (o z k hzn mM) (o k y mM hy))
variable {z:Nat}
def x8:∀{n:Nat},z<n→lw (pr A B n x y) (tg (A x z) (B z y))
 |n+1,h=>by
  by_cases e:z=n;subst e;exact uH;exact gK uG (x8 (by omega))
def ID{c:Int}:∀{n:Nat},(∀z,z<n→lw c (tg (A x z) (B z y)))→lw c (pr A B n x y)
 |0,_=>kg
 |n+1,h=>by
  simp only[pr];rcases tI (pr A B n x y) (tg (A x n) (B n y))with e|e<;>rw[e]
  ·exact ID fun z hz=>h z (by omega)
  exact h n (by omega)
def I2(h:ng n A):∀{k x:Nat},x<n→Fw n A k x x=0
 |0,x,_=>by simp[Fw,Kt]
 |k+1,x,hx=>by
  have h1:lw (Fw n A (k+1) x x) (tg (Fw n A k x x) (Fw n A k x x)):=x8 hx;rw[I2 h (k:=k) hx]at h1;have h3:tg 0 0=0:=by decide
  rw[h3]at h1;have h2:=ul h (k:=k+1) x x hx hx;unfold lw at h1;unfold pW at h2;omega
def FS(h:ng n A):∀{k x y:Nat},k≤n→x<n→y<n→lw (Fw n A k x y) (iK A k x y)
 |0,_,_,_,_,_=>iB
 |k+1,x,y,hk,hx,hy=>by
  have mM:k<n:=hk;have ih:=fun {x y:Nat}=>FS h (k:=k) (x:=x) (y:=y) (by omega);rcases tI (iK A k x y) (tg (iK A k x k) (iK A k k y))with e|e
  ·rw[show iK A (k+1) x y=iK A k x y from e];have h1:lw (Fw n A (k+1) x y) (tg (Fw n A k x y) (Fw n A k y y)):=x8 hy;rw[I2 h hy,Ck (ul h x y hx hy)]at h1;exact gK h1 (ih hx hy)
  rw[show iK A (k+1) x y=tg (iK A k x k) (iK A k k y)from e];exact gK (x8 mM) (ly (ih hx mM) (ih mM hy) (ul h x k hx mM) (ul h k y mM hy))
def zZ(h:ng n A):∀{k x y:Nat},x<n→y<n→lw (iK A n x y) (Fw n A k x y)
 |0,_,_,_,_=>GV (aq n)
 |k+1,x,y,hx,hy=>ID fun z hz=>gK (yG h (aw n) hz hx hy) (ly (zZ h hx hz) (zZ h hz hy) (kS h (aw n) x z hx hz) (kS h (aw n) z y hz hy))
def VE(h:ng n A)(hx:x<n)(hy:y<n):Fw n A n x y=kB n A x y:=
 Iv (FS h (aw n) hx hy) (zZ h hx hy)
def rb(h:∀x y,x<n→y<n→A x y=B x y):∀{k x y:Nat},k≤n→x<n→y<n→iK A k x y=iK B k x y
 |0,x,y,_,hx,hy=>by simp[iK,Kt,h x y hx hy]
 |k+1,x,y,hk,hx,hy=>by
  simp only[iK];rw[rb h (by omega) hx hy,rb h (by omega) hx (by omega:k<n),rb h (by omega) (by omega:k<n) hy]
def oY(n:Nat)(R:lA):SL (SL Int):=(some false,g7 n fun x=>(some false,g7 n (R x)))
def qP(n:Nat)(f:Nat→Int):List D:=g7 n fun y=>.sc (.int .i64 (f y))
def mD(n:Nat)(R:lA):List D:=g7 n fun x=>.ls (some false) 1 (qP n (R x))
variable {R:lA}
def sx:eS 1 (eS 1 eI) (oY n R)=.ls (some false) 1 (mD n R):=by
 simp only[eS,oY,mD,qP,mj,eI]
def iG:(mD n R).length=n:=g8
variable {f:Nat→Int}
def iO:(qP n f).length=n:=g8
def mP(h:x<n):D.at (mD n R) x=.ls (some false) 1 (qP n (R x)):=qY h
def kh(h:y<n):D.at (qP n f) y=.sc (.int .i64 (f y)):=qY h
def Mg{g:Nat→Int}(h:∀i,i<n→f i=g i):qP n f=qP n g:=mC fun i hi=>by rw[h i hi]
def oh{S:lA}(h:∀x y,x<n→y<n→R x y=S x y):mD n R=mD n S:=mC fun x hx=>by rw[Mg fun y hy=>h x y hx hy]
def wk(R:lA)(x y:Nat)(v:Int):lA:=fun a b=>if a=x∧b=y then v else R a b
variable {v:Int}
def u9:(mD n R).set x (.ls (some false) 1 ((qP n (R x)).set y (.sc (.int .i64 v))))=mD n (wk R x y v):=by
 unfold mD qP;rw[yJ,yJ];refine mC fun a _=>?_
 by_cases ha:a=x
 ·subst ha;simp only[ay,wk];congr 1;refine mC fun b _=>?_
  by_cases hb:b=y;simp[hb];simp[hb]
 simp[ha,wk]
def A7(R:lA)(x:Nat)(f:Nat→Int):lA:=fun a b=>if a=x then f b else R a b
def Ut:(mD n R).set x (.ls (some false) 1 (qP n f))=mD n (A7 R x f):=by
 unfold mD qP;rw[yJ];refine mC fun a _=>?_
 by_cases ha:a=x;subst ha;simp[A7];simp[ha,A7]
structure Sm (n:Nat) (a:SL (SL Int)):Prop where
 len:a.2.length=n
 row:∀r∈a.2,r.2.length=n
def gB(a:SL (SL Int)):lA:=fun x y=>(a.2.getD x (none,[])).2.getD y 0
def Sm.rows{a:SL (SL Int)}(h:Sm n a)(hx:x<n):(a.2.getD x (none,[])).2.length=n:=by
 have qR:x<a.2.length:=by rw[h.len];exact hx
 rw[show a.2.getD x (none,[])=a.2[x]by simp[qR]];exact h.row _ (aF qR)
def yp:Sm n (oY n R):=⟨g8,fun r hr=>by
 obtain⟨x,_,rfl⟩:=aB.1 hr;exact g8⟩
def so(hx:x<n)(hy:y<n):gB (oY n R) x y=R x y:=by
 unfold gB oY;rw[qY hx,qY hy]
def Sm.at{a:SL (SL Int)}(h:Sm n a)(hx:x<n):D.at (a.2.map (eS 1 eI)) x=.ls (a.2.getD x (none,[])).1 1 ((a.2.getD x (none,[])).2.map eI):=by
 have qR:x<a.2.length:=by rw[h.len];exact hx
 rw[ie qR];simp[eS,qR]
def Sm.ND{a:SL (SL Int)}(h:Sm n a)(hx:x<n)(hy:y<n):D.at ((a.2.getD x (none,[])).2.map eI) y=.sc (.int .i64 (gB a x y)):=by
 have Si:y<(a.2.getD x (none,[])).2.length:=by rw[h.rows hx];exact hy
 rw[ie Si]
 show D.sc (.int .i64 _)=_
 unfold gB;congr 2;simp only[aE]at Si⊢;rw[bb Si]
 rfl
def JG{ds:List D}(h:ds.length=n):Ev (qP n f) 0 n ds=ds:=by
 unfold Ev;rw[b9 (l:=ds) (by omega),bO (by rw[iO];omega)];simp
def Sm.Id{x:Nat}{a:SL (SL Int)}(h:Sm n a)(hx:x<n):(a.2.getD x (none,[])).2.map eI=qP n (gB a x):=by
 have hr:=h.rows hx;have h3:=fun i hi=>h.ND (x:=x) (y:=i) hx hi;unfold gB at h3⊢;generalize (a.2.getD x (none,[])).2=r at hr h3⊢
 apply dD
 ·rw[lM,hr,iO]
 intro i h1 h2;rw[lM,hr]at h1;have h3:=h3 i h1;rw[ie (by omega)]at h3;rw[List.getElem_map,h3];simp[qP,g7]
def N6:fO (qP n f)=true:=by
 have:∀l:List D,(∀d∈l,d.gl=true)→fO l=true:=by
  intro l
  induction l with
  |nil=>intro _;rfl
  |cons d l ih=>intro h;simp[fO,h d (by simp),ih fun x hx=>h x (by simp[hx])]
 refine this _ fun d hd=>?_;obtain⟨y,_,rfl⟩:=aB.1 hd
 rfl
def pf:lA:=fun _ _=> -1
def lD(f:Nat→Int)(i:Nat):lA:=fun a b=>if a<i∧a=b then f a else -1
def po(f:Nat→Int):lA:=fun a b=>if a=b then f a else -1
def uI:lD f 0=pf:=by funext a b;simp[lD,pf]
def uC:mD n (lD f n)=mD n (po f):=oh fun a b ha _=>by simp[lD,po,ha]
def uZ:wk (lD f i) i i (f i)=lD f (i+1):=by
 funext a b;unfold wk lD
 by_cases ha:a=i
 ·subst ha
  by_cases hb:b=a;subst hb;simp
  simp[hb,show ¬a=b from fun e=>hb e.symm]
 have h1:a<i+1↔a<i:=by omega
 simp[ha,h1]
def AT(h:f i= -1):lD f i=lD f (i+1):=by
 funext a b;unfold lD
 by_cases ha:a=i;subst ha;simp[h]
 have h1:a<i+1↔a<i:=by omega
 simp[h1]
def mg(R:lA)(i:Nat):lA:=fun a b=>if a<i then R a b else -1
def tx:mg R 0=pf:=by funext a b;simp[mg,pf]
def sR:mD n (mg R n)=mD n R:=oh fun a b ha _=>by simp[mg,ha]
def MT:A7 (mg R i) i (R i)=mg R (i+1):=by
 funext a b;unfold A7 mg
 by_cases ha:a=i;subst ha;simp
 have h1:a<i+1↔a<i:=by omega
 simp[ha,h1]
def rA(R:lA)(i y:Nat):lA:=fun a b=>if a=i∧b<y then R a b else mg R i a b
def I7:rA R i 0=mg R i:=by funext a b;simp[rA]
def IT:mD n (rA R i n)=mD n (mg R (i+1)):=oh fun a b _ hb=>by
 unfold rA mg
 by_cases ha:a=i;subst ha;simp[hb]
 have h1:a<i+1↔a<i:=by omega
 simp[ha,h1]
def Jo:wk (rA R i y) i y (R i y)=rA R i (y+1):=by
 funext a b;unfold wk rA
 by_cases ha:a=i
 ·subst ha
  by_cases hb:b=y;subst hb;simp
  by_cases qM:b<y
  ·simp[hb,qM,show b<y+1 by omega]
  simp[hb,qM,show ¬b<y+1 by omega]
 simp[ha]
def EJ(n:Nat)(A B:lA)(i z:Nat):lA:=fun a b=>if a=i then pr A B z i b else mg (lT n A B) i a b
def Bz(n:Nat)(A B:lA)(i z y:Nat):lA:=fun a b=>if a=i∧b<y then pr A B (z+1) i b else EJ n A B i z a b
def Qg:EJ n A B i 0=mg (lT n A B) i:=by
 funext a b;unfold EJ mg
 split
 ·next h=>subst h;simp[pr]
 rfl
def Ql:EJ n A B i n=mg (lT n A B) (i+1):=by
 funext a b;unfold EJ mg
 by_cases ha:a=i;subst ha;simp[lT]
 have h1:a<i+1↔a<i:=by omega
 simp[ha,h1]
def RT:Bz n A B i z 0=EJ n A B i z:=by funext a b;simp[Bz]
def PK:wk (Bz n A B i z y) i y (ch (pr A B z i y) (tg (A i z) (B z y)))=Bz n A B i z (y+1):=by
 funext a b;unfold wk Bz
 by_cases ha:a=i
 ·subst ha
  by_cases hb:b=y;subst hb;simp[pr]
  by_cases qM:b<y
  ·simp[hb,qM,show b<y+1 by omega]
  simp[hb,qM,show ¬b<y+1 by omega]
 simp[ha]
def X5:Bz n A B i z y i y=pr A B z i y:=by simp[Bz,EJ]
def Rv:mD n (Bz n A B i z n)=mD n (EJ n A B i (z+1)):=oh fun a b _ hb=>by
 unfold Bz EJ
 by_cases ha:a=i<;>simp[ha,hb]
def IV(A:lA)(i:Nat):lA:=mg (Kt A) i
def QE:wk (A7 (IV A i) i (A i)) i i 0=IV A (i+1):=by
 funext a b;unfold wk A7 IV mg Kt
 by_cases ha:a=i
 ·subst ha
  by_cases hb:b=a;subst hb;simp
  simp[hb,show ¬(a=b)from fun e=>hb e.symm]
 have h1:a<i+1↔a<i:=by omega
 simp[ha,h1]
def Bs(A:lA)(z i:Nat):lA:=fun a b=>if a<i then iK A (z+1) a b else iK A z a b
def sK(A:lA)(z i y:Nat):lA:=fun a b=>if a=i∧b<y then iK A (z+1) a b else Bs A z i a b
def Qh:Bs A z 0=iK A z:=by funext a b;simp[Bs]
def QZ:mD n (Bs A z n)=mD n (iK A (z+1)):=oh fun a b ha _=>by simp[Bs,ha]
def Pm:sK A z i 0=Bs A z i:=by funext a b;simp[sK]
def QJ:mD n (sK A z i n)=mD n (Bs A z (i+1)):=oh fun a b _ hb=>by
 unfold sK Bs
 by_cases ha:a=i;subst ha;simp[hb]
 have h1:a<i+1↔a<i:=by omega
 simp[ha,h1]
def Th(h:ng n A)(hz:z<n)(hi:i<n):sK A z i y i z=iK A z i z:=by
 unfold sK Bs
 split;exact IP h hz hi;simp
def Yt:sK A z i y i y=iK A z i y:=by simp[sK,Bs]
def UM(h:ng n A)(hz:z<n)(hy:y<n):sK A z i y z y=iK A z z y:=by
 unfold sK Bs
 split;exact DJ h hz hy
 split
 exact DJ h hz hy;rfl
def PL:wk (sK A z i y) i y (ch (iK A z i y) (tg (iK A z i z) (iK A z z y)))=sK A z i (y+1):=by
 funext a b;unfold wk sK
 by_cases ha:a=i
 ·subst ha
  by_cases hb:b=y;subst hb;simp[iK]
  by_cases qM:b<y
  ·simp[hb,qM,show b<y+1 by omega]
  simp[hb,qM,show ¬b<y+1 by omega]
 simp[ha]
def Jr:mD n (lT n (gB (oY n A)) (gB (oY n B)))=mD n (lT n A B):=oh fun _ _ hx hy=>wY (fun _ hk=>so hx hk) (fun _ hk=>so hk hy)
def Pz{n:Nat}{A:lA}:mD n (kB n (gB (oY n A)))=mD n (kB n A):=oh fun _ _ hx hy=>rb (A:=gB (oY n A)) (B:=A) (n:=n) (fun _ _ hx hy=>so hx hy) (aw n) hx hy
def xU(h:ng n A):ng n (gB (oY n A)):=fun x y hx hy=>by rw[so hx hy];exact h x y hx hy
def RM(h:ng n A):mD n (Fw n A n)=mD n (kB n A):=oh fun _ _ hx hy=>VE h hx hy
def rN:RC:=(.s [.v 4 (.ci 0)] (.seq (.s [.m 5 0,.o (.bin 6 .eql (.t 5) (.c (.sc (.int .i64 (-1))))),.m 7 6,.u 7 (.mv 8 (.t 1)),.u 7 (.bin 9 .eql (.t 8) (.c (.sc (.int .i64 (-1))))),.o (.pick 10 (.t 7) .ct (.t 9)),.m 11 10,.u 11 (.mv 12 (.t 0)),.u 11 (.mv 13 (.t 1)),.u 11 (.bin 14 .add (.t 12) (.t 13)),.u 11 (.bin 15 .gtr (.t 14) (.ci 1000000)),.o (.pick 16 (.t 11) .ct (.t 15))] (.cond (.t 16) (.s [.o (.mv 4 (.c (.sc (.int .i64 (-1)))))] .ret) .skip)) (.s [.m 17 0,.m 18 1,.o (.bin 19 .add (.t 17) (.t 18)),.m 4 19] .ret)))
def vH(P:Program)(iV:Nat):Prop:=∀(a b:Int)(ha:pW a)(qM:pW b),AF P iV [eI a,eI b] (.own (eI (tg a b)))
variable {g:Nat}{P:Program}
def Qs(hm:Mx P)(hr:il P g=some (20,rN,[.t 4])):vH P g:=by
 intro a b ha qM;refine fY hr hm rfl fun hb=>?_;have w:IntKind.i64.wrap (a+b)=a+b:=fQ (by unfold pW at*;omega) (by unfold pW at*;omega)
 by_cases h1:a= -1
 ·have e1:(a== -1)=true:=by simpa using h1
  rw[show tg a b= -1 by simp[tg,h1]];simp+contextual-implicitDefEqProofs only[rN,eI,e1,go_sem]
 have e1:(a== -1)=false:=by simpa using h1
 by_cases h2:b= -1
 ·have e2:(b== -1)=true:=by simpa using h2
  rw[show tg a b= -1 by simp[tg,h2]];simp+contextual-implicitDefEqProofs only[rN,eI,e1,e2,go_sem]
 have e2:(b== -1)=false:=by simpa using h2
 by_cases h3:a+b>1000000
 ·have Ec:1000000<a+b:=h3;rw[show tg a b= -1 by simp[tg,Ec]];simp+contextual-implicitDefEqProofs only[rN,eI,e1,e2,h3,w,go_sem]
 have Ec:¬1000000<a+b:=h3;rw[show tg a b=a+b by simp[tg,h1,h2,Ec]];simp+contextual-implicitDefEqProofs only[rN,eI,e1,e2,Ec,w,go_sem]
def nV:RC:=(.s [.v 4 (.ci 0)] (.seq (.s [.m 5 0,.o (.bin 6 .eql (.t 5) (.c (.sc (.int .i64 (-1))))),.m 7 6,.u 7 (.mv 8 (.t 1)),.u 7 (.bin 9 .neq (.t 8) (.c (.sc (.int .i64 (-1))))),.u 7 (.mv 10 (.t 9)),.wm 10 11 1,.wm 10 12 0,.w 10 (.bin 13 .lss (.t 11) (.t 12)),.u 7 (.pick 14 (.t 10) (.t 13) .cf),.o (.pick 15 (.t 7) .ct (.t 14))] (.cond (.t 15) (.s [.m 16 1,.m 4 16] .ret) .skip)) (.s [.m 17 0,.m 4 17] .ret)))
def og(P:Program)(iV:Nat):Prop:=∀(a b:Int),AF P iV [eI a,eI b] (.own (eI (ch a b)))
def Hh(hm:Mx P)(hr:il P g=some (18,nV,[.t 4])):og P g:=by
 intro a b;refine fY hr hm rfl fun hb=>?_
 by_cases h1:a= -1
 ·have e1:(a== -1)=true:=by simpa using h1
  rw[show ch a b=b by simp[ch,h1]];simp+contextual-implicitDefEqProofs only[nV,eI,e1,go_sem]
 have e1:(a== -1)=false:=by simpa using h1
 by_cases h2:b= -1
 ·have e2:(b== -1)=true:=by simpa using h2
  rw[show ch a b=a by simp[ch,h1,h2]];simp+contextual-implicitDefEqProofs only[nV,eI,e1,e2,bne,bT,go_sem]
 have e2:(b== -1)=false:=by simpa using h2
 by_cases h3:b<a
 ·rw[show ch a b=b by simp[ch,h1,h2,h3]];simp+contextual-implicitDefEqProofs only[nV,eI,e1,e2,h3,bne,bN,go_sem]
 rw[show ch a b=a by simp[ch,h1,h2,h3]];simp+contextual-implicitDefEqProofs only[nV,eI,e1,e2,h3,bne,bN,go_sem]
def qC:RC:=(.s [.v 4 (.ci 0)] (.seq (.s [.m 5 0,.o (.bin 6 .eql (.t 5) (.c (.sc (.int .i64 (-1))))),.m 7 6,.u 7 (.mv 8 (.t 1)),.u 7 (.bin 9 .eql (.t 8) (.c (.sc (.int .i64 (-1))))),.o (.pick 10 (.t 7) .ct (.t 9)),.m 11 10,.u 11 (.mv 12 (.t 0)),.u 11 (.mv 13 (.t 1)),.u 11 (.bin 14 .add (.t 12) (.t 13)),.u 11 (.bin 15 .gtr (.t 14) (.ci 1000000)),.o (.pick 16 (.t 11) .ct (.t 15))] (.cond (.t 16) (.s [.o (.mv 4 (.c (.sc (.int .i64 (-1)))))] .ret) .skip)) (.s [.m 17 0,.m 18 1,.o (.bin 19 .add (.t 17) (.t 18)),.m 4 19] .ret)))
def wW(P:Program)(iV:Nat):Prop:=∀(a b:Int)(ha:pW a)(qM:pW b),AF P iV [eI a,eI b] (.own (eI (tg a b)))
def Mz(hm:Mx P)(hr:il P g=some (20,qC,[.t 4])):wW P g:=by
 intro a b ha qM;refine fY hr hm rfl fun hb=>?_;have w:IntKind.i64.wrap (a+b)=a+b:=fQ (by unfold pW at*;omega) (by unfold pW at*;omega)
 by_cases h1:a= -1
 ·have e1:(a== -1)=true:=by simpa using h1
  rw[show tg a b= -1 by simp[tg,h1]];simp+contextual-implicitDefEqProofs only[qC,eI,e1,go_sem]
 have e1:(a== -1)=false:=by simpa using h1
 by_cases h2:b= -1
 ·have e2:(b== -1)=true:=by simpa using h2
  rw[show tg a b= -1 by simp[tg,h2]];simp+contextual-implicitDefEqProofs only[qC,eI,e1,e2,go_sem]
 have e2:(b== -1)=false:=by simpa using h2
 by_cases h3:a+b>1000000
 ·have Ec:1000000<a+b:=h3;rw[show tg a b= -1 by simp[tg,Ec]];simp+contextual-implicitDefEqProofs only[qC,eI,e1,e2,h3,w,go_sem]
 have Ec:¬1000000<a+b:=h3;rw[show tg a b=a+b by simp[tg,h1,h2,Ec]];simp+contextual-implicitDefEqProofs only[qC,eI,e1,e2,Ec,w,go_sem]
def sk:RC:=(.s [.v 4 (.ci 0)] (.seq (.s [.m 5 0,.o (.bin 6 .eql (.t 5) (.c (.sc (.int .i64 (-1))))),.m 7 6,.u 7 (.mv 8 (.t 1)),.u 7 (.bin 9 .neq (.t 8) (.c (.sc (.int .i64 (-1))))),.u 7 (.mv 10 (.t 9)),.wm 10 11 1,.wm 10 12 0,.w 10 (.bin 13 .lss (.t 11) (.t 12)),.u 7 (.pick 14 (.t 10) (.t 13) .cf),.o (.pick 15 (.t 7) .ct (.t 14))] (.cond (.t 15) (.s [.m 16 1,.m 4 16] .ret) .skip)) (.s [.m 17 0,.m 4 17] .ret)))
def vE(P:Program)(iV:Nat):Prop:=∀(a b:Int),AF P iV [eI a,eI b] (.own (eI (ch a b)))
def RK(hm:Mx P)(hr:il P g=some (18,sk,[.t 4])):vE P g:=by
 intro a b;refine fY hr hm rfl fun hb=>?_
 by_cases h1:a= -1
 ·have e1:(a== -1)=true:=by simpa using h1
  rw[show ch a b=b by simp[ch,h1]];simp+contextual-implicitDefEqProofs only[sk,eI,e1,go_sem]
 have e1:(a== -1)=false:=by simpa using h1
 by_cases h2:b= -1
 ·have e2:(b== -1)=true:=by simpa using h2
  rw[show ch a b=a by simp[ch,h1,h2]];simp+contextual-implicitDefEqProofs only[sk,eI,e1,e2,bne,bT,go_sem]
 have e2:(b== -1)=false:=by simpa using h2
 by_cases h3:b<a
 ·rw[show ch a b=b by simp[ch,h1,h2,h3]];simp+contextual-implicitDefEqProofs only[sk,eI,e1,e2,h3,bne,bN,go_sem]
 rw[show ch a b=a by simp[ch,h1,h2,h3]];simp+contextual-implicitDefEqProofs only[sk,eI,e1,e2,h3,bne,bN,go_sem]
def YT:g7 n (fun _=>D.sc (.int .i64 (-1)))=qP n fun _=> -1:=rfl
def Ba:RC:=(.s [.o (.mv 2 (.c (.ls (some true) 1 [])))] (.s [.o (.bs 7 1 (.ls (some true) 1 []) 0 []),.m 3 7] (.seq (.s [.v 4 (.ci 0)] (.gX 0 (.loop (.seq (.s [.m 8 4,.m 9 0,.o (.bin 10 .lss (.t 8) (.t 9))] (.cond (.t 10) .skip (.exit 0))) (.seq (.gX 1 (.s [.o (.bs 13 1 (.sc (.int .i64 0)) 0 []),.m 5 13] (.seq (.s [.v 6 (.ci 0)] (.gX 2 (.loop (.seq (.s [.m 14 6,.m 15 0,.o (.bin 16 .lss (.t 14) (.t 15))] (.cond (.t 16) .skip (.exit 2))) (.seq (.gX 3 (.r [.m 19 5,.o (.bs 20 1 (.sc (.int .i64 0)) 1 [(0,(.c (.sc (.int .i64 (-1)))))]),.o (.app 21 1 8 (.t 19) (.t 20)),.m 5 21])) (.r [.m 17 6,.o (.bin 18 .add (.t 17) (.ci 1)),.m 6 18])))))) (.r [.m 22 3,.m 23 5,.o (.bs 24 1 (.ls (some true) 1 []) 1 [(0,(.t 23))]),.o (.app 25 1 24 (.t 22) (.t 24)),.m 3 25])))) (.r [.m 11 4,.o (.bin 12 .add (.t 11) (.ci 1)),.m 4 12])))))) (.s [.m 26 3,.m 2 26] .ret))))
def nD(P:Program)(iV:Nat):Prop:=∀(n:Nat)(hn:n≤1000),AF P iV [eI n] (.arr 1 (mD n fun _ _=> -1))
def Je(hm:Mx P)(hr:il P g=some (27,Ba,[.t 2])):nD P g:=by
 intro n hn;refine fY hr hm rfl fun hb=>?_;simp+contextual-implicitDefEqProofs only[Ba,eI,go_sem];refine gL (α:=Nat) [3,4,5,6,7,8,9,10,11,12,13,14,15,16,17,18,19,20,21,22,23,24,25] (fun i=>[(4,.im none (.sc (.int .i64 i))),(3,.sm 7 0 i)]) (fun i=>[(7,.ar true (some false) 1 (g7 i fun _=>.ls (some false) 1 (qP n fun _=> -1)))]) (fun i=>i≤n) (fun i=>n-i) 0 (gO.to [] (by simp only[go_sem];rfl) rfl (by simp[su]) (by rfl) (by simp only[fR,go_sem,iD,iP]<;>simp)) (aq _) ?_;intro i wd
 by_cases hi:i<n
 ·simp+contextual-implicitDefEqProofs only[hi,go_sem,iL];refine gL (α:=Nat) [5,6,13,14,15,16,17,18,19,20,21] (fun y=>[(6,.im none (.sc (.int .i64 y))),(5,.sm 13 0 y)]) (fun y=>[(13,.ar true (some false) 1 (g7 y fun _=>.sc (.int .i64 (-1)))),(7,.ar true (some false) 1 (g7 i fun _=>.ls (some false) 1 (qP n fun _=> -1)))]) (fun y=>y≤n) (fun y=>n-y) 0 (gO.to [] (by simp only[go_sem];rfl) rfl (by simp[su]) (by rfl) (by simp only[fR,go_sem,iD,iP]<;>simp)) (aq _) ?_;intro y hy0
  by_cases hy:y<n
  ·simp+contextual-implicitDefEqProofs only[hy,g8,go_sem,Nat.reduceMul,iL];refine⟨rfl,⟨by(try simp);omega,by unfold gz;(try simp);omega,by simp[D.size]⟩,y+1,by omega,by omega,?_⟩;rw[fQ (by omega) (by omega)];exact gO.to [] (by simp only[go_sem];rfl) rfl (by simp[lI]) (by rfl) (by simp only[fR,go_sem]<;>simp)
  obtain rfl:y=n:=by omega
  simp+contextual-implicitDefEqProofs only[hy,g8,go_sem,Nat.reduceMul,iL];refine⟨rfl,⟨by(try simp);omega,by unfold gz;(try simp);omega,by simp[D.size]⟩,i+1,by omega,by omega,?_⟩;rw[fQ (by omega) (by omega)];exact gO.to [] (by simp only[go_sem];rfl) rfl (by simp[lI,YT]) (by rfl) (by simp only[fR,go_sem]<;>simp)
 obtain rfl:i=n:=by omega
 simp+contextual-implicitDefEqProofs only[hi,iG,go_sem,iL]
 rfl
def DT:(fun _ _=> -1:lA)=pf:=rfl
def yw(f1 f2 f3:Nat):RC:=(.s [.o (.mv 4 (.c (.ls (some true) 1 [])))] (.s [.m 10 0,.o (.len 11 (.t 10)),.m 5 11] (.s [.m 12 5,.c 13 f1 [.t 12],.m 6 13] (.seq (.s [.v 7 (.ci 0)] (.gX 0 (.loop (.seq (.s [.m 14 7,.m 15 5,.o (.bin 16 .lss (.t 14) (.t 15))] (.cond (.t 16) .skip (.exit 0))) (.seq (.gX 1 (.s [.v 8 (.ci 0)] (.gX 2 (.loop (.seq (.s [.m 19 8,.m 20 5,.o (.bin 21 .lss (.t 19) (.t 20))] (.cond (.t 21) .skip (.exit 2))) (.seq (.gX 3 (.s [.v 9 (.ci 0)] (.gX 4 (.loop (.seq (.s [.m 24 9,.m 25 5,.o (.bin 26 .lss (.t 24) (.t 25))] (.cond (.t 26) .skip (.exit 4))) (.seq (.gX 5 (.jI true [.m 29 6,.m 30 7,.o (.ia 31 1 (.t 29) (.t 30)),.l 32 1 31,.m 33 9,.m 34 6,.m 35 7,.o (.ia 36 1 (.t 34) (.t 35)),.l 37 1 36,.m 38 9,.o (.ia 39 1 (.t 37) (.t 38)),.l 40 1 39,.m 41 0,.m 42 7,.o (.ia 43 1 (.t 41) (.t 42)),.l 44 1 43,.m 45 8,.o (.ia 46 1 (.t 44) (.t 45)),.l 47 1 46,.m 48 1,.m 49 8,.o (.ia 50 1 (.t 48) (.t 49)),.l 51 1 50,.m 52 9,.o (.ia 53 1 (.t 51) (.t 52)),.l 54 1 53,.c 55 f2 [.t 47,.t 54],.c 56 f3 [.t 40,.t 55],.o (.ia 57 1 (.t 32) (.t 33)),.s 1 57 56])) (.r [.m 27 9,.o (.bin 28 .add (.t 27) (.ci 1)),.m 9 28]))))))) (.r [.m 22 8,.o (.bin 23 .add (.t 22) (.ci 1)),.m 8 23]))))))) (.r [.m 17 7,.o (.bin 18 .add (.t 17) (.ci 1)),.m 7 18])))))) (.s [.m 58 6,.m 4 58] .ret)))))
def pY(P:Program)(iV:Nat):Prop:=∀(n:Nat)(a b:SL (SL Int))(hn:n≤1000)(ha:Sm n a)(qM:Sm n b)(oa:ng n (gB a))(ob:ng n (gB b)),AF P iV [eS 1 (eS 1 eI) a,eS 1 (eS 1 eI) b] (.arr 1 (mD n (lT n (gB a) (gB b))))
variable {f1 f2 f3:Nat}
def HF(hm:Mx P)(hr:il P g=some (59,yw f1 f2 f3,[.t 4]))(iS:nD P f1)(jw:vH P f2)(pd:og P f3):pY P g:=by
 intro n a b hn ha qM oa ob;refine fY hr hm rfl fun hb=>?_;have la:=ha.len;have lb:=qM.len;simp+contextual-implicitDefEqProofs only[yw,eS,la,go_sem,lM];refine fL (ds:=[eI n]) (by rfl) (iS n hn) ?_;simp+contextual-implicitDefEqProofs only[iG,go_sem];refine gL (α:=Nat) [7,8,9,14,15,16,17,18,19,20,21,22,23,24,25,26,27,28,29,30,31,32,33,34,35,36,37,38,39,40,41,42,43,44,45,46,47,48,49,50,51,52,53,54,55,56,57] (fun i=>[(7,.im none (.sc (.int .i64 i)))]) (fun i=>[(13,.ar true (some false) 1 (mD n (mg (lT n (gB a) (gB b)) i)))]) (fun i=>i≤n) (fun i=>n-i) 0 (gO.to [] (by simp only[go_sem];rfl) rfl (by simp[tx,DT]) (by rfl) (by simp only[fR,go_sem,iD,iP]<;>simp)) (aq _) ?_;intro i wd
 by_cases hi:i<n
 ·have ai:=ha.at hi;have ri:=ha.rows hi;simp+contextual-implicitDefEqProofs only[hi,go_sem,iL];refine gL (α:=Nat) [8,9,19,20,21,22,23,24,25,26,27,28,29,30,31,32,33,34,35,36,37,38,39,40,41,42,43,44,45,46,47,48,49,50,51,52,53,54,55,56,57] (fun z=>[(8,.im none (.sc (.int .i64 z)))]) (fun z=>[(13,.ar true (some false) 1 (mD n (EJ n (gB a) (gB b) i z)))]) (fun z=>z≤n) (fun z=>n-z) 0 (gO.to [] (by simp only[go_sem];rfl) rfl (by simp[Qg]) (by rfl) (by simp only[fR,go_sem,iD,iP]<;>simp)) (aq _) ?_;intro z HV
  by_cases hz:z<n
  ·have az:=ha.ND hi hz;have bz:=qM.at hz;have rz:=qM.rows hz;simp+contextual-implicitDefEqProofs only[hz,go_sem,iL];refine gL (α:=Nat) [9,24,25,26,27,28,29,30,31,32,33,34,35,36,37,38,39,40,41,42,43,44,45,46,47,48,49,50,51,52,53,54,55,56,57] (fun y=>[(9,.im none (.sc (.int .i64 y)))]) (fun y=>[(13,.ar true (some false) 1 (mD n (Bz n (gB a) (gB b) i z y)))]) (fun y=>y≤n) (fun y=>n-y) 0 (gO.to [] (by simp only[go_sem];rfl) rfl (by simp[RT]) (by rfl) (by simp only[fR,go_sem,iD,iP]<;>simp)) (aq _) ?_;intro y hy0
   by_cases hy:y<n
   ·have bzy:=qM.ND hz hy;have e1:=mP (R:=Bz n (gB a) (gB b) i z y) hi;have e2:=kh (f:=Bz n (gB a) (gB b) i z y i) hy;rw[X5]at e2;have ju:=PK (n:=n) (A:=(gB a)) (B:=(gB b)) (i:=i) (z:=z) (y:=y);have o1:=oa i z hi hz;have o2:=ob z y hz hy;simp+contextual-implicitDefEqProofs only[ai,az,bz,bzy,e1,e2,hi,hz,hy,la,lb,ri,rz,iO,D.size,D.sub,D.fX,go_sem,iL,lM,iN];refine fL (ds:=[eI ((gB a) i z),eI ((gB b) z y)]) (by rfl) (jw _ _ o1 o2) ?_;simp+contextual-implicitDefEqProofs only[eI,go_sem];refine fL (ds:=[eI (pr (gB a) (gB b) z i y),eI (tg ((gB a) i z) ((gB b) z y))]) (by rfl) (pd _ _) ?_;simp+contextual-implicitDefEqProofs only[eI,e1,e2,hi,hy,iG,iO,u9,D.size,D.sub,D.put,lj,D.fX,go_sem,iL,iN];rw[fQ (by omega) (by omega),ju];exact⟨y+1,by omega,by omega,gO.to [] (by simp only[go_sem];rfl) rfl (by simp) (by rfl) (by simp only[fR,go_sem]<;>simp)⟩
   obtain rfl:y=n:=by omega
   simp+contextual-implicitDefEqProofs only[hy,go_sem,iL];rw[fQ (by omega) (by omega)];exact⟨z+1,by omega,by omega,gO.to [] (by simp only[go_sem];rfl) rfl (by simp[Rv]) (by rfl) (by simp only[fR,go_sem]<;>simp)⟩
  obtain rfl:z=n:=by omega
  simp+contextual-implicitDefEqProofs only[hz,go_sem,iL];rw[fQ (by omega) (by omega)];exact⟨i+1,by omega,by omega,gO.to [] (by simp only[go_sem];rfl) rfl (by simp[Ql]) (by rfl) (by simp only[fR,go_sem]<;>simp)⟩
 obtain rfl:i=n:=by omega
 simp+contextual-implicitDefEqProofs only[hi,iG,go_sem,iL];exact sR
def wD(f1 f2 f3:Nat):RC:=(.s [.o (.mv 2 (.c (.ls (some true) 1 [])))] (.s [.m 9 0,.o (.len 10 (.t 9)),.m 3 10] (.s [.m 11 3,.c 12 f1 [.t 11],.m 4 12] (.seq (.s [.v 5 (.ci 0)] (.gX 0 (.loop (.seq (.s [.m 13 5,.m 14 3,.o (.bin 15 .lss (.t 13) (.t 14))] (.cond (.t 15) .skip (.exit 0))) (.seq (.gX 1 (.seq (.jI true [.m 18 4,.m 19 5,.o (.ia 20 1 (.t 18) (.t 19)),.l 21 1 20,.m 22 0,.m 23 5,.o (.ia 24 1 (.t 22) (.t 23)),.l 25 1 24,.o (.cpy (some 26) 1 (.t 21) (.t 25))]) (.r [.m 27 4,.m 28 5,.o (.ia 29 1 (.t 27) (.t 28)),.l 30 1 29,.m 31 5,.o (.ia 32 1 (.t 30) (.t 31)),.o (.st 1 (.t 32) (.ci 0))]))) (.r [.m 16 5,.o (.bin 17 .add (.t 16) (.ci 1)),.m 5 17])))))) (.seq (.s [.v 6 (.ci 0)] (.gX 2 (.loop (.seq (.s [.m 33 6,.m 34 3,.o (.bin 35 .lss (.t 33) (.t 34))] (.cond (.t 35) .skip (.exit 2))) (.seq (.gX 3 (.s [.v 7 (.ci 0)] (.gX 4 (.loop (.seq (.s [.m 38 7,.m 39 3,.o (.bin 40 .lss (.t 38) (.t 39))] (.cond (.t 40) .skip (.exit 4))) (.seq (.gX 5 (.s [.v 8 (.ci 0)] (.gX 6 (.loop (.seq (.s [.m 43 8,.m 44 3,.o (.bin 45 .lss (.t 43) (.t 44))] (.cond (.t 45) .skip (.exit 6))) (.seq (.gX 7 (.jI true [.m 48 4,.m 49 7,.o (.ia 50 1 (.t 48) (.t 49)),.l 51 1 50,.m 52 8,.m 53 4,.m 54 7,.o (.ia 55 1 (.t 53) (.t 54)),.l 56 1 55,.m 57 8,.o (.ia 58 1 (.t 56) (.t 57)),.l 59 1 58,.m 60 4,.m 61 7,.o (.ia 62 1 (.t 60) (.t 61)),.l 63 1 62,.m 64 6,.o (.ia 65 1 (.t 63) (.t 64)),.l 66 1 65,.m 67 4,.m 68 6,.o (.ia 69 1 (.t 67) (.t 68)),.l 70 1 69,.m 71 8,.o (.ia 72 1 (.t 70) (.t 71)),.l 73 1 72,.c 74 f2 [.t 66,.t 73],.c 75 f3 [.t 59,.t 74],.o (.ia 76 1 (.t 51) (.t 52)),.s 1 76 75])) (.r [.m 46 8,.o (.bin 47 .add (.t 46) (.ci 1)),.m 8 47]))))))) (.r [.m 41 7,.o (.bin 42 .add (.t 41) (.ci 1)),.m 7 42]))))))) (.r [.m 36 6,.o (.bin 37 .add (.t 36) (.ci 1)),.m 6 37])))))) (.s [.m 77 4,.m 2 77] .ret))))))
def o9(P:Program)(iV:Nat):Prop:=∀(n:Nat)(a:SL (SL Int))(hn:n≤1000)(ha:Sm n a)(oa:ng n (gB a)),AF P iV [eS 1 (eS 1 eI) a] (.own (eS 1 (eS 1 eI) (oY n (kB n (gB a)))))
def EQ(hm:Mx P)(hr:il P g=some (78,wD f1 f2 f3,[.t 2]))(iS:nD P f1)(jw:vH P f2)(pd:og P f3):o9 P g:=by
 intro n a hn ha oa;refine fY hr hm rfl fun hb=>?_;have la:=ha.len;simp+contextual-implicitDefEqProofs only[wD,eS,la,go_sem,lM];refine fL (ds:=[eI n]) (by rfl) (iS n hn) ?_;simp+contextual-implicitDefEqProofs only[iG,go_sem];refine gL (α:=Nat) [5,13,14,15,16,17,18,19,20,21,22,23,24,25,27,28,29,30,31,32] (fun i=>[(5,.im none (.sc (.int .i64 i)))]) (fun i=>[(12,.ar true (some false) 1 (mD n (IV (gB a) i)))]) (fun i=>i≤n) (fun i=>n-i) 0 (gO.to [] (by simp only[go_sem];rfl) rfl (by simp[IV,tx,DT]) (by rfl) (by simp only[fR,go_sem,iD,iP]<;>simp)) (aq _) ?_;intro i wd
 by_cases hi:i<n
 ·have ai:=ha.at hi;have ri:=ha.rows hi;have e1:=mP (R:=IV (gB a) i) hi;rw[ha.Id hi]at ai;have e3:=mP (R:=A7 (IV (gB a) i) i ((gB a) i)) hi;simp+contextual-implicitDefEqProofs only[ai,e1,e3,hi,la,iG,iO,D.size,D.sub,D.put,lj,D.fX,dh,Nat.min_self,JG iO,Ut,u9,N6,go_sem,iL,lM,iN];rw[fQ (by omega) (by omega)];exact⟨i+1,by omega,by omega,gO.to [] (by simp only[go_sem];rfl) rfl (by simp[QE]) (by rfl) (by simp only[fR,go_sem]<;>simp)⟩
 obtain rfl:i=n:=by omega
 simp+contextual-implicitDefEqProofs only[hi,go_sem,iL];refine gL (α:=Nat) [6,7,8,33,34,35,36,37,38,39,40,41,42,43,44,45,46,47,48,49,50,51,52,53,54,55,56,57,58,59,60,61,62,63,64,65,66,67,68,69,70,71,72,73,74,75,76] (fun z=>[(6,.im none (.sc (.int .i64 z)))]) (fun z=>[(12,.ar true (some false) 1 (mD i (iK (gB a) z)))]) (fun z=>z≤i) (fun z=>i-z) 0 (gO.to [] (by simp only[go_sem];rfl) rfl (by simp[IV,sR,iK]) (by rfl) (by simp only[fR,go_sem,iD,iP]<;>simp)) (aq _) ?_;intro z HV
 by_cases hz:z<i
 ·simp+contextual-implicitDefEqProofs only[hz,go_sem,iL];refine gL (α:=Nat) [7,8,38,39,40,41,42,43,44,45,46,47,48,49,50,51,52,53,54,55,56,57,58,59,60,61,62,63,64,65,66,67,68,69,70,71,72,73,74,75,76] (fun x=>[(7,.im none (.sc (.int .i64 x)))]) (fun x=>[(12,.ar true (some false) 1 (mD i (Bs (gB a) z x)))]) (fun x=>x≤i) (fun x=>i-x) 0 (gO.to [] (by simp only[go_sem];rfl) rfl (by simp[Qh]) (by rfl) (by simp only[fR,go_sem,iD,iP]<;>simp)) (aq _) ?_;intro x XB
  by_cases hx:x<i
  ·simp+contextual-implicitDefEqProofs only[hx,go_sem,iL];refine gL (α:=Nat) [8,43,44,45,46,47,48,49,50,51,52,53,54,55,56,57,58,59,60,61,62,63,64,65,66,67,68,69,70,71,72,73,74,75,76] (fun y=>[(8,.im none (.sc (.int .i64 y)))]) (fun y=>[(12,.ar true (some false) 1 (mD i (sK (gB a) z x y)))]) (fun y=>y≤i) (fun y=>i-y) 0 (gO.to [] (by simp only[go_sem];rfl) rfl (by simp[Pm]) (by rfl) (by simp only[fR,go_sem,iD,iP]<;>simp)) (aq _) ?_;intro y hy0
   by_cases hy:y<i
   ·have e1:=mP (R:=sK (gB a) z x y) hx;have e2:=kh (f:=sK (gB a) z x y x) hz;rw[Th oa hz hx]at e2;have e3:=kh (f:=sK (gB a) z x y x) hy;have e4:=mP (R:=sK (gB a) z x y) hz;have e5:=kh (f:=sK (gB a) z x y z) hy;have ju:=PL (A:=(gB a)) (z:=z) (i:=x) (y:=y);rw[Yt]at e3;rw[UM oa hz hy]at e5;have o1:=kS oa HV x z hx hz;have o2:=kS oa HV z y hz hy;simp+contextual-implicitDefEqProofs only[e1,e2,e3,e4,e5,hx,hz,hy,iO,D.sub,D.fX,go_sem,iL,iN];refine fL (ds:=[eI (iK (gB a) z x z),eI (iK (gB a) z z y)]) (by rfl) (jw _ _ o1 o2) ?_;simp+contextual-implicitDefEqProofs only[eI,go_sem];refine fL (ds:=[eI (iK (gB a) z x y),eI (tg (iK (gB a) z x z) (iK (gB a) z z y))]) (by rfl) (pd _ _) ?_;simp+contextual-implicitDefEqProofs only[eI,e1,e3,hx,hy,iG,iO,u9,D.size,D.sub,D.put,lj,D.fX,go_sem,iL,iN];rw[fQ (by omega) (by omega),ju];exact⟨y+1,by omega,by omega,gO.to [] (by simp only[go_sem];rfl) rfl (by simp) (by rfl) (by simp only[fR,go_sem]<;>simp)⟩
   obtain rfl:y=i:=by omega
   simp+contextual-implicitDefEqProofs only[hy,go_sem,iL];rw[fQ (by omega) (by omega)];exact⟨x+1,by omega,by omega,gO.to [] (by simp only[go_sem];rfl) rfl (by simp[QJ]) (by rfl) (by simp only[fR,go_sem]<;>simp)⟩
  obtain rfl:x=i:=by omega
  simp+contextual-implicitDefEqProofs only[hx,go_sem,iL];rw[fQ (by omega) (by omega)];exact⟨z+1,by omega,by omega,gO.to [] (by simp only[go_sem];rfl) rfl (by simp[QZ]) (by rfl) (by simp only[fR,go_sem]<;>simp)⟩
 obtain rfl:z=i:=by omega
 simp+contextual-implicitDefEqProofs only[hz,iG,go_sem,iL];exact D.Le.of_eq sx.symm
def BB(p:Int)(r:SL Int):Bool:=it p r&&qT (-1) 1000 r.2
def w6(p:Int)(t:SL (SL Int)):Bool:=it p t&&t.2.all (BB p)
def pE(m:Co):Bool:=iU m.1 m.2.1 m.2.2.1&&(it m.1.2 m.2.2.2&&m.2.2.2.2.all (w6 m.2.1))
def AH(t:SL (SL Int)):Bool:=t.2.all fun r=>qT (-1) 1000 r.2
def Jq(m:Co):Bool:=(iU m.1 m.2.1 m.2.2.1&&nv m.1 m.2.1 m.2.2.2)&&m.2.2.2.2.all AH
def GR{α:Type}{p q:α→Bool}:∀l:List α,l.all (fun x=>p x&&q x)=(l.all p&&l.all q)
 | []=>rfl
 |x::l=>by simp only[cJ,GR l];cases p x<;>cases q x<;>simp
def SO(m:Co):Jq m=pE m:=by
 have h:m.2.2.2.2.all (w6 m.2.1)=(m.2.2.2.2.all (j8 m.2.1 m.2.1)&&m.2.2.2.2.all AH):=by
  rw[←GR];refine List.all_congr rfl fun t=>?_;have h2:t.2.all (BB m.2.1)=(t.2.all (it m.2.1)&&t.2.all fun r=>qT (-1) 1000 r.2):=by
   rw[←GR]
   rfl
  simp only[w6,j8,AH,h2,Bool.and_assoc]
 simp only[Jq,pE,nv,h,Bool.and_assoc]
def xY(f1 f2:Nat):RC:=(.s [.v 2 .cf] (.seq (.seq (.jI true [.m 6 0,.n 7 6,.f 8 0 7,.L 9 2 8,.m 10 0,.n 11 10,.f 12 2 11,.l 13 1 12,.m 14 0,.n 15 14,.f 16 3 15,.l 17 1 16,.c 18 f1 [.t 9,.t 13,.t 17],.o (.un 19 .not (.t 18)),.m 20 19,.u 20 (.mv 21 (.t 0)),.u 20 (.nck 22 (.t 21)),.u 20 (.fa 23 4 (.t 22)),.u 20 (.ld 24 false 1 (.t 23)),.u 20 (.len 25 (.t 24)),.u 20 (.mv 26 (.t 0)),.u 20 (.nck 27 (.t 26)),.u 20 (.fa 28 0 (.t 27)),.u 20 (.fa 29 1 (.t 28)),.u 20 (.ld 30 false 1 (.t 29)),.u 20 (.bin 31 .neq (.t 25) (.t 30)),.o (.pick 32 (.t 20) .ct (.t 31))]) (.cond (.t 32) (.s [.v 2 .cf] .ret) .skip)) (.seq (.s [.v 3 (.ci 0)] (.gX 0 (.loop (.seq (.s [.m 33 3,.m 34 0,.n 35 34,.f 36 4 35,.l 37 1 36,.o (.len 38 (.t 37)),.o (.bin 39 .lss (.t 33) (.t 38))] (.cond (.t 39) .skip (.exit 0))) (.seq (.gX 1 (.seq (.seq (.jI true [.m 42 0,.n 43 42,.f 44 4 43,.l 45 1 44,.m 46 3,.o (.ia 47 1 (.t 45) (.t 46)),.l 48 1 47,.o (.len 49 (.t 48)),.m 50 0,.n 51 50,.f 52 2 51,.l 53 1 52,.o (.bin 54 .neq (.t 49) (.t 53))]) (.cond (.t 54) (.s [.v 2 .cf] .ret) .skip)) (.s [.v 4 (.ci 0)] (.gX 2 (.loop (.seq (.s [.m 55 4,.m 56 0,.n 57 56,.f 58 4 57,.l 59 1 58,.m 60 3,.o (.ia 61 1 (.t 59) (.t 60)),.l 62 1 61,.o (.len 63 (.t 62)),.o (.bin 64 .lss (.t 55) (.t 63))] (.cond (.t 64) .skip (.exit 2))) (.seq (.gX 3 (.seq (.seq (.jI true [.m 67 0,.n 68 67,.f 69 4 68,.l 70 1 69,.m 71 3,.o (.ia 72 1 (.t 70) (.t 71)),.l 73 1 72,.m 74 4,.o (.ia 75 1 (.t 73) (.t 74)),.l 76 1 75,.o (.len 77 (.t 76)),.m 78 0,.n 79 78,.f 80 2 79,.l 81 1 80,.o (.bin 82 .neq (.t 77) (.t 81))]) (.cond (.t 82) (.s [.v 2 .cf] .ret) .skip)) (.s [.v 5 (.ci 0)] (.gX 4 (.loop (.seq (.s [.m 83 5,.m 84 0,.n 85 84,.f 86 4 85,.l 87 1 86,.m 88 3,.o (.ia 89 1 (.t 87) (.t 88)),.l 90 1 89,.m 91 4,.o (.ia 92 1 (.t 90) (.t 91)),.l 93 1 92,.o (.len 94 (.t 93)),.o (.bin 95 .lss (.t 83) (.t 94))] (.cond (.t 95) .skip (.exit 4))) (.seq (.gX 5 (.s [.m 98 0,.n 99 98,.f 100 4 99,.l 101 1 100,.m 102 3,.o (.ia 103 1 (.t 101) (.t 102)),.l 104 1 103,.m 105 4,.o (.ia 106 1 (.t 104) (.t 105)),.l 107 1 106,.m 108 5,.o (.ia 109 1 (.t 107) (.t 108)),.l 110 1 109,.c 111 f2 [.t 110,(.c (.sc (.int .i64 (-1)))),.ci 1000],.o (.un 112 .not (.t 111))] (.cond (.t 112) (.s [.v 2 .cf] .ret) .skip))) (.r [.m 96 5,.o (.bin 97 .add (.t 96) (.ci 1)),.m 5 97])))))))) (.r [.m 65 4,.o (.bin 66 .add (.t 65) (.ci 1)),.m 4 66])))))))) (.r [.m 40 3,.o (.bin 41 .add (.t 40) (.ci 1)),.m 3 41])))))) (.s [.v 2 .ct] .ret))))
def qb(P:Program)(f:Nat):Prop:=∀(m:Co),AF P f [.pt (pc m) 0] (.own (eB (pE m)))
def Hf(hm:Mx P)(hr:il P g=some (113,xY f1 f2,[.t 2]))(iS:xj P f1)(jw:rg P f2):qb P g:=by
 intro m;refine fY hr hm rfl fun hb=>?_;have Ez:=hb.1;simp only[pc,eS,D.bd,D.ub,lM]at Ez;have hl:=Ez.2.2.2.2.1.1;have Ek:=Ez.2.2.2.2.1.2.2;unfold gz at hl;simp+contextual-implicitDefEqProofs only[xY,pc,eS,go_sem,eI,eB];refine fL ?_ (iS m.1 m.2.1 m.2.2.1) ?_;exact rfl;cases hT:iU m.1 m.2.1 m.2.2.1;simp+contextual-implicitDefEqProofs only[pE,hT,bN,bG,go_sem,eB];cases h0:it m.1.2 m.2.2.2;have sF:=h0;simp only[it]at sF;simp+contextual-implicitDefEqProofs only[pE,hT,h0,sF,lM,bne,bT,bN,bG,bJ,go_sem,eB];have sF:=h0;simp only[it]at sF;simp+contextual-implicitDefEqProofs only[sF,lM,bne,bT,go_sem,eB];refine lv (α:=Nat) [2,3,4,5,33,34,35,36,37,38,39,40,41,42,43,44,45,46,47,48,49,50,51,52,53,54,55,56,57,58,59,60,61,62,63,64,65,66,67,68,69,70,71,72,73,74,75,76,77,78,79,80,81,82,83,84,85,86,87,88,89,90,91,92,93,94,95,96,97,98,99,100,101,102,103,104,105,106,107,108,109,110,111,112] (fun i=>[(3,.im none (.sc (.int .i64 i)))]) (fun i=>i≤m.2.2.2.2.length∧(m.2.2.2.2.take i).all (w6 m.2.1)=true) (fun i=>m.2.2.2.2.length-i) 0 (by simp only[fR,go_sem];simp) ⟨aq _,rfl⟩ ?_;rintro i ⟨j1,j2⟩
 by_cases hi:i<m.2.2.2.2.length
 ·have e1:=ie (f:=eS 1 (eS 1 eI)) hi;simp+contextual-implicitDefEqProofs only[eS,e1,hi,iL,lM,iN,go_sem];have hli:m.2.2.2.2[i].2.length≤9223372036854775807:=by
   have:=uq (sU Ek _ (d9 (aF hi)));simpa only[lM]using this
  have XE:=(sU Ek _ (d9 (aF hi)));simp only[eS,D.bd,lM]at XE;cases hy:it m.2.1 m.2.2.2.2[i]
  ·have Si:=hy;simp only[it]at Si;simp+contextual-implicitDefEqProofs only[Si,bne,bN,go_sem];have hx:w6 m.2.1 m.2.2.2.2[i]=false:=by simp only[w6,hy,bG]
   exact D.Le.gH (by simp only[pE,hT,h0];rw[jG hi hx];rfl)
  have Si:=hy;simp only[it]at Si;simp+contextual-implicitDefEqProofs only[Si,bne,bT,go_sem];refine lv (α:=Nat) [2,4,5,55,56,57,58,59,60,61,62,63,64,65,66,67,68,69,70,71,72,73,74,75,76,77,78,79,80,81,82,83,84,85,86,87,88,89,90,91,92,93,94,95,96,97,98,99,100,101,102,103,104,105,106,107,108,109,110,111,112] (fun k=>[(4,.im none (.sc (.int .i64 k)))]) (fun k=>k≤m.2.2.2.2[i].2.length∧(m.2.2.2.2[i].2.take k).all (BB m.2.1)=true) (fun k=>m.2.2.2.2[i].2.length-k) 0 (by simp only[fR,go_sem];simp) ⟨aq _,rfl⟩ ?_;rintro k ⟨k1,k2⟩
  by_cases hk:k<m.2.2.2.2[i].2.length
  ·have e2:=ie (f:=eS 1 eI) hk;simp+contextual-implicitDefEqProofs only[eS,e1,hi,e2,hk,iL,lM,iN,go_sem];have hlk:m.2.2.2.2[i].2[k].2.length≤9223372036854775807:=by
    have:=uq (sU XE.2.2 _ (d9 (aF hk)));simpa only[lM]using this
   cases hw:it m.2.1 m.2.2.2.2[i].2[k]
   ·have EA:=hw;simp only[it]at EA;simp+contextual-implicitDefEqProofs only[EA,bne,bN,go_sem];have hr:BB m.2.1 m.2.2.2.2[i].2[k]=false:=by simp only[BB,hw,bG]
    have hx:w6 m.2.1 m.2.2.2.2[i]=false:=by simp only[w6,hy];rw[jG hk hr];rfl
    exact D.Le.gH (by simp only[pE,hT,h0];rw[jG hi hx];rfl)
   have EA:=hw;simp only[it]at EA;simp+contextual-implicitDefEqProofs only[EA,bne,bT,go_sem];refine lv (α:=Nat) [2,5,83,84,85,86,87,88,89,90,91,92,93,94,95,96,97,98,99,100,101,102,103,104,105,106,107,108,109,110,111,112] (fun q=>[(5,.im none (.sc (.int .i64 q)))]) (fun q=>q≤m.2.2.2.2[i].2[k].2.length∧(m.2.2.2.2[i].2[k].2.take q).all ((fun x=>kJ x (-1) 1000))=true) (fun q=>m.2.2.2.2[i].2[k].2.length-q) 0 (by simp only[fR,go_sem];simp) ⟨aq _,rfl⟩ ?_;rintro q ⟨q1,q2⟩
   by_cases hq:q<m.2.2.2.2[i].2[k].2.length
   ·have e3:=ie (f:=eI) hq;simp+contextual-implicitDefEqProofs only[eS,e1,hi,e2,hk,e3,hq,iL,lM,iN,go_sem,eI];refine fL ?_ (jw m.2.2.2.2[i].2[k].2[q] (-1) 1000) ?_;exact rfl;cases hz:kJ m.2.2.2.2[i].2[k].2[q] (-1) 1000
    ·simp+contextual-implicitDefEqProofs only[bN,go_sem,eB];have hr:BB m.2.1 m.2.2.2.2[i].2[k]=false:=by simp only[BB,hw,qT];rw[jG hq hz];rfl
     have hx:w6 m.2.1 m.2.2.2.2[i]=false:=by simp only[w6,hy];rw[jG hk hr];rfl
     exact D.Le.gH (by simp only[pE,hT,h0];rw[jG hi hx];rfl)
    simp+contextual-implicitDefEqProofs only[bT,go_sem,eB];rw[fQ (by omega) (by omega)];exact⟨q+1,⟨by omega,iw hq q2 hz⟩,by omega,gO.env (by simp only[fR,go_sem];simp)⟩
   simp+contextual-implicitDefEqProofs only[eS,e1,hi,e2,hk,hq,iL,lM,iN,go_sem];have hr:BB m.2.1 m.2.2.2.2[i].2[k]=true:=by simp only[BB,hw,qT];rw[iW hq q2];rfl
   rw[fQ (by omega) (by omega)];exact⟨k+1,⟨by omega,iw hk k2 hr⟩,by omega,gO.env (by simp only[fR,go_sem];simp)⟩
  simp+contextual-implicitDefEqProofs only[eS,e1,hi,hk,iL,lM,iN,go_sem];have hx:w6 m.2.1 m.2.2.2.2[i]=true:=by simp only[w6,hy];rw[iW hk k2];rfl
  rw[fQ (by omega) (by omega)];exact⟨i+1,⟨by omega,iw hi j2 hx⟩,by omega,gO.env (by simp only[fR,go_sem];simp)⟩
 simp+contextual-implicitDefEqProofs only[hi,iL,lM,go_sem];exact D.Le.gH (by simp only[pE,hT,h0];rw[iW hi j2];rfl)
def u7(f1 f2:Nat):RC:=(.s [.b 1 5 0,.v 2 .cf] (.seq (.s [.f 9 0 1,.L 10 2 9,.f 11 2 1,.l 12 1 11,.f 13 3 1,.l 14 1 13,.f 15 4 1,.l 16 1 15,.c 17 f1 [.t 10,.t 12,.t 14,.t 16],.o (.un 18 .not (.t 17))] (.cond (.t 18) (.s [.v 2 .cf] .ret) .skip)) (.seq (.s [.f 19 4 1,.l 20 1 19,.o (.len 21 (.t 20)),.v 22 (.ci 0)] (.gX 0 (.loop (.s [.o (.bin 23 .lss (.t 22) (.t 21))] (.seq (.cond (.t 23) .skip (.exit 0)) (.seq (.gX 1 (.s [.o (.ia 24 1 (.t 20) (.t 22)),.l 25 1 24,.m 4 25] (.s [.m 26 4,.o (.len 27 (.t 26)),.v 28 (.ci 0)] (.gX 2 (.loop (.s [.o (.bin 29 .lss (.t 28) (.t 27))] (.seq (.cond (.t 29) .skip (.exit 2)) (.seq (.gX 3 (.s [.o (.ia 30 1 (.t 26) (.t 28)),.l 31 1 30,.m 6 31] (.s [.m 32 6,.o (.len 33 (.t 32)),.v 34 (.ci 0)] (.gX 4 (.loop (.s [.o (.bin 35 .lss (.t 34) (.t 33))] (.seq (.cond (.t 35) .skip (.exit 4)) (.seq (.gX 5 (.s [.o (.ia 36 1 (.t 32) (.t 34)),.l 37 1 36,.m 8 37] (.s [.m 38 8,.c 39 f2 [.t 38,(.c (.sc (.int .i64 (-1)))),.ci 1000],.o (.un 40 .not (.t 39))] (.cond (.t 40) (.s [.v 2 .cf] .ret) .skip)))) (.r [.o (.bin 41 .add (.t 34) (.ci 1)),.m 34 41]))))))))) (.r [.o (.bin 42 .add (.t 28) (.ci 1)),.m 28 42]))))))))) (.r [.o (.bin 43 .add (.t 22) (.ci 1)),.m 22 43]))))))) (.s [.v 2 .ct] .ret))))
def od(P:Program)(f:Nat):Prop:=∀(m:Co),AF P f [pc m] (.own (eB (pE m)))
def DF(hm:Mx P)(hr:il P g=some (44,u7 f1 f2,[.t 2]))(iS:wV P f1)(jw:qx P f2):od P g:=by
 intro m;refine fY hr hm rfl fun hb=>?_;have Ez:=hb.1;simp only[pc,eS,D.bd,D.ub,lM]at Ez;have hl:=Ez.2.2.2.2.1.1;have Ek:=Ez.2.2.2.2.1.2.2;unfold gz at hl;simp+contextual-implicitDefEqProofs only[u7,pc,eS,go_sem,eI,eB];refine fL ?_ (iS m.1 m.2.1 m.2.2.1 m.2.2.2) ?_;exact rfl;rw[←SO];cases hF:(iU m.1 m.2.1 m.2.2.1&&nv m.1 m.2.1 m.2.2.2);simp+contextual-implicitDefEqProofs only[Jq,hF,bN,bG,go_sem,eB];simp+contextual-implicitDefEqProofs only[lM,bT,go_sem,eB];refine lv (α:=Nat) [2,4,6,8,22,23,24,25,26,27,28,29,30,31,32,33,34,35,36,37,38,39,40,41,42,43] (fun i=>[(22,.im none (.sc (.int .i64 i)))]) (fun i=>i≤m.2.2.2.2.length∧(m.2.2.2.2.take i).all (AH)=true) (fun i=>m.2.2.2.2.length-i) 0 (by simp only[fR,go_sem];simp) ⟨aq _,rfl⟩ ?_;rintro i ⟨j1,j2⟩
 by_cases hi:i<m.2.2.2.2.length
 ·have e1:=ie (f:=eS 1 (eS 1 eI)) hi;simp+contextual-implicitDefEqProofs only[eS,e1,hi,iL,lM,iN,go_sem];have hli:m.2.2.2.2[i].2.length≤9223372036854775807:=by
   have:=uq (sU Ek _ (d9 (aF hi)));simpa only[lM]using this
  have XE:=(sU Ek _ (d9 (aF hi)));simp only[eS,D.bd,lM]at XE;refine lv (α:=Nat) [2,6,8,28,29,30,31,32,33,34,35,36,37,38,39,40,41,42] (fun k=>[(28,.im none (.sc (.int .i64 k)))]) (fun k=>k≤m.2.2.2.2[i].2.length∧(m.2.2.2.2[i].2.take k).all ((fun r:SL Int=>qT (-1) 1000 r.2))=true) (fun k=>m.2.2.2.2[i].2.length-k) 0 (by simp only[fR,go_sem];simp) ⟨aq _,rfl⟩ ?_;rintro k ⟨k1,k2⟩
  by_cases hk:k<m.2.2.2.2[i].2.length
  ·have e2:=ie (f:=eS 1 eI) hk;simp+contextual-implicitDefEqProofs only[eS,e2,hk,iL,lM,iN,go_sem];have hlk:m.2.2.2.2[i].2[k].2.length≤9223372036854775807:=by
    have:=uq (sU XE.2.2 _ (d9 (aF hk)));simpa only[lM]using this
   refine lv (α:=Nat) [2,8,34,35,36,37,38,39,40,41] (fun q=>[(34,.im none (.sc (.int .i64 q)))]) (fun q=>q≤m.2.2.2.2[i].2[k].2.length∧(m.2.2.2.2[i].2[k].2.take q).all ((fun x=>kJ x (-1) 1000))=true) (fun q=>m.2.2.2.2[i].2[k].2.length-q) 0 (by simp only[fR,go_sem];simp) ⟨aq _,rfl⟩ ?_;rintro q ⟨q1,q2⟩
   by_cases hq:q<m.2.2.2.2[i].2[k].2.length
   ·have e3:=ie (f:=eI) hq;simp+contextual-implicitDefEqProofs only[e3,hq,iL,lM,iN,go_sem,eI];refine fL ?_ (jw m.2.2.2.2[i].2[k].2[q] (-1) 1000) ?_;exact rfl;cases hz:kJ m.2.2.2.2[i].2[k].2[q] (-1) 1000
    ·simp+contextual-implicitDefEqProofs only[bN,go_sem,eB];have hr:qT (-1) 1000 m.2.2.2.2[i].2[k].2=false:=by simp only[qT];rw[jG hq hz]
     have hx:AH m.2.2.2.2[i]=false:=by simp only[AH];rw[jG hk hr]
     exact D.Le.gH (by simp only[Jq,hF];rw[jG hi hx];rfl)
    simp+contextual-implicitDefEqProofs only[bT,go_sem,eB];rw[fQ (by omega) (by omega)];exact⟨q+1,⟨by omega,iw hq q2 hz⟩,by omega,gO.env (by simp only[fR,go_sem];simp)⟩
   simp+contextual-implicitDefEqProofs only[hq,iL,go_sem];have hr:qT (-1) 1000 m.2.2.2.2[i].2[k].2=true:=by simp only[qT];rw[iW hq q2]
   rw[fQ (by omega) (by omega)];exact⟨k+1,⟨by omega,iw hk k2 hr⟩,by omega,gO.env (by simp only[fR,go_sem];simp)⟩
  simp+contextual-implicitDefEqProofs only[hk,iL,go_sem];have hx:AH m.2.2.2.2[i]=true:=by simp only[AH];rw[iW hk k2]
  rw[fQ (by omega) (by omega)];exact⟨i+1,⟨by omega,iw hi j2 hx⟩,by omega,gO.env (by simp only[fR,go_sem];simp)⟩
 simp+contextual-implicitDefEqProofs only[hi,iL,go_sem];exact D.Le.gH (by simp only[Jq,hF];rw[iW hi j2];rfl)
def EK(c:Co)(v:Int)(x:Nat):Bool:=(c.2.2.1.2.getD v.toNat (none,[])).2.getD x false
def oX(c:Co)(v:Int):SL (SL Int):=c.2.2.2.2.getD v.toNat (none,[])
def yy(c:Co)(v:Int)(x:Nat):Int:=if EK c v x=true then 0 else -1
def Av(A:lA)(x:Nat):Int:=if A x x= -1 then 0 else -1
def ER(A B:lA):lA:=fun x y=>ch (A x y) (B x y)
def gZ(c:Co)(k v:Int)(rs:List lA):lA:=
 if k=2 then po fun _=>0
 else if k=3 then po (yy c v)
 else if k=4 then gB (oX c v)
 else if k=5 then po (Av (rs.getD 0 pf))
 else if k=6 then ER (rs.getD 0 pf) (rs.getD 1 pf)
 else if k=7 then lT c.2.1.toNat (rs.getD 0 pf) (rs.getD 1 pf)
 else if k=8 then kB c.2.1.toNat (rs.getD 0 pf)
 else pf
mutual
def fW(c:Co):Ex→lA
 |.mk k v _ ks=>gZ c k v (GO c ks)
def GO(c:Co):List Ex→List lA
 | []=>[]
 |e::es=>fW c e::GO c es
end
variable {c:Co}
def DD:∀{ks:List Ex},GO c ks=ks.map (fW c)
 | []=>rfl
 |e::es=>by simp only[GO,lC,DD (ks:=es)]
def kv{k:Int}{nn:Option Bool}{ks:List Ex}:fW c (.mk k v nn ks)=gZ c k v (ks.map (fW c)):=by rw[fW,DD]
structure xP (c:Co) (n:Nat):Prop where
 Cf:c.2.1=(n:Int)
 n1:1≤n
 n8:n≤8
 g:oC c.1=true
 tl:(c.2.2.1.2.length:Int)=c.1.1
 tr:∀r∈c.2.2.1.2,r.2.length=n
 al:(c.2.2.2.2.length:Int)=c.1.2
 asq:∀a∈c.2.2.2.2,Sm n a
 aok:∀a∈c.2.2.2.2,ng n (gB a)
def Mj(h:pE c=true):∃n,xP c n:=by
 simp only[pE,iU,w6,BB,j8,bA,aM,it,aU,jz]at h;obtain⟨⟨hg,hp,ht,htr⟩,ha,Sj⟩:=h;have hsq:∀a∈c.2.2.2.2,Sm c.2.1.toNat a:=fun a hx=>⟨by have:=(Sj a hx).1;omega,fun r hr=>by have:=((Sj a hx).2 r hr).1;omega⟩;refine⟨c.2.1.toNat,by omega,by omega,by omega,hg,by omega,fun r hr=>by have:=htr r hr;omega,by omega,hsq,fun a hx x y BP hy1=>?_⟩;have h1:=(hsq a hx).len;have h2:=(hsq a hx).rows BP;have hr:=((Sj a hx).2 _ (ji (d:=(none,[])) (by rw[h1];exact BP))).2;simp only[qT,aM,jz]at hr;have:=hr _ (ji (d:=0) (by rw[h2];exact hy1))
 show -1≤(_:Int)∧(_:Int)≤1000000
 unfold gB;omega
def EF(c:Co)(n:Nat):Mo:=(c.1,c.2.1,c.2.2.1,(none,c.2.2.2.2.map fun _=>mK n rZ))
def xP.sur(h:xP c n):we (EF c n) n:=⟨h.Cf,h.n1,h.n8,h.g,h.tl,h.tr,by simpa[EF]using h.al,fun a ha=>by
 obtain⟨_,_,rfl⟩:=aB.1 ha;exact Hu⟩
def Dw(h:∀x,pW (f x)):ng n (po f):=fun x y _ _=>by
 unfold po;split;exact h x;exact pX
def Pl(hC:xP c n){k:Int}{ks:List Ex}(hK:D9 (EF c n) k v ks){rs:List lA}(hl:rs.length=ks.length)(h:∀r∈rs,ng n r):ng n (gZ c k v rs):=by
 have hn:c.2.1.toNat=n:=by rw[hC.Cf];rfl
 have h0:0<ks.length→ng n (rs.getD 0 pf):=fun hk=>h _ (ji (by omega));have h1:1<ks.length→ng n (rs.getD 1 pf):=fun hk=>h _ (ji (by omega));unfold gZ;rw[hn];cases hK with
 |zero hk=>subst hk;simp;exact fun _ _ _ _=>pX
 |one hk=>subst hk;simp;exact Dw fun _=>om
 |test hk=>subst hk;simp;exact Dw fun x=>by unfold yy;split;exact om;exact pX
 |act hk ky h0 h1=>subst hk;simp;exact hC.aok _ (ji (by simpa[EF]using h1))
 |nt hk=>subst hk;simp;exact Dw fun x=>by unfold Av;split;exact om;exact pX
 |sum hk a b ky=>subst hk ky;simp;exact fun x y hx hy=>VP (by simpa using h0 (by simp) x y hx hy) (by simpa using h1 (by simp) x y hx hy)
 |dot hk a b ky=>subst hk ky;simp;exact yV (by simpa using h0 (by simp)) (by simpa using h1 (by simp))
 |star hk a ky=>subst hk ky;simp;exact kS (by simpa using h0 (by simp)) (aw n)
def gP(hC:xP c n)(e:Ex):f8 c.1 e=true→ng n (fW c e):=by
 refine Ex.ind (p:=fun e=>f8 c.1 e=true→ng n (fW c e)) (fun k v nn ks ih hT=>?_) e;rw[ja,bA,aM]at hT;rw[kv];refine Pl hC (x5 hC.sur hT.1) (by simp) fun r hr=>?_;obtain⟨x,hx,rfl⟩:=aB.1 hr;exact ih x hx (hT.2 x hx)
def afj{f:Nat}(h:pY P f)(hn:n≤1000)(oA:ng n A)(oB:ng n B):AF P f [.ls (some false) 1 (mD n A),.ls (some false) 1 (mD n B)] (.own (.ls (some false) 1 (mD n (lT n A B)))):=by
 have:=(h n (oY n A) (oY n B) hn yp yp (xU oA) (xU oB)).Ib;rw[sx,sx]at this;rw[Jr]at this;exact this
def YV{f:Nat}(h:o9 P f)(hn:n≤1000)(oA:ng n A):AF P f [.ls (some false) 1 (mD n A)] (.own (.ls (some false) 1 (mD n (kB n A)))):=by
 have:=h n (oY n A) hn yp (xU oA);rw[sx,sx]at this;rw[Pz]at this;exact this
def Fy(g f1 f2 f3 f4:Nat):RC:=(.s [.o (.mv 4 (.c (.ls (some true) 1 [])))] (.s [.m 14 0,.n 15 14,.f 16 2 15,.l 17 1 16,.c 18 f1 [.t 17],.m 5 18] (.seq (.s [.m 19 1,.n 20 19,.f 21 0 20,.l 22 1 21] (.gX 0 (.seq (.s [.q 24 22 2,.m 23 24] (.cond (.t 23) .skip (.r [.q 25 22 3,.m 23 25]))) (.cond (.t 23) (.s [.v 6 (.ci 0)] (.gX 1 (.loop (.seq (.s [.m 26 6,.m 27 0,.n 28 27,.f 29 2 28,.l 30 1 29,.o (.bin 31 .lss (.t 26) (.t 30))] (.cond (.t 31) .skip (.exit 1))) (.seq (.gX 2 (.seq (.jI true [.m 34 1,.n 35 34,.f 36 0 35,.l 37 1 36,.q 38 37 2,.m 39 38,.u 39 (.mv 40 (.t 0)),.u 39 (.nck 41 (.t 40)),.u 39 (.fa 42 3 (.t 41)),.u 39 (.ld 43 false 1 (.t 42)),.u 39 (.mv 44 (.t 1)),.u 39 (.nck 45 (.t 44)),.u 39 (.fa 46 1 (.t 45)),.u 39 (.ld 47 false 1 (.t 46)),.u 39 (.ia 48 1 (.t 43) (.t 47)),.u 39 (.ld 49 false 1 (.t 48)),.u 39 (.mv 50 (.t 6)),.u 39 (.ia 51 1 (.t 49) (.t 50)),.u 39 (.ld 52 false 1 (.t 51)),.o (.pick 53 (.t 39) .ct (.t 52))]) (.cond (.t 53) (.r [.m 54 5,.m 55 6,.o (.ia 56 1 (.t 54) (.t 55)),.l 57 1 56,.m 58 6,.o (.ia 59 1 (.t 57) (.t 58)),.o (.st 1 (.t 59) (.ci 0))]) .skip))) (.r [.m 32 6,.o (.bin 33 .add (.t 32) (.ci 1)),.m 6 33])))))) (.s [.q 61 22 4,.m 60 61] (.cond (.t 60) (.s [.v 7 (.ci 0)] (.gX 3 (.loop (.seq (.s [.m 62 7,.m 63 0,.n 64 63,.f 65 2 64,.l 66 1 65,.o (.bin 67 .lss (.t 62) (.t 66))] (.cond (.t 67) .skip (.exit 3))) (.seq (.gX 4 (.jI true [.m 70 5,.m 71 7,.o (.ia 72 1 (.t 70) (.t 71)),.l 73 1 72,.m 74 0,.n 75 74,.f 76 4 75,.l 77 1 76,.m 78 1,.n 79 78,.f 80 1 79,.l 81 1 80,.o (.ia 82 1 (.t 77) (.t 81)),.l 83 1 82,.m 84 7,.o (.ia 85 1 (.t 83) (.t 84)),.l 86 1 85,.o (.cpy (some 87) 1 (.t 73) (.t 86))])) (.r [.m 68 7,.o (.bin 69 .add (.t 68) (.ci 1)),.m 7 69])))))) (.s [.q 89 22 5,.m 88 89] (.cond (.t 88) (.s [.m 90 0,.m 91 1,.n 92 91,.f 93 2 92,.l 94 1 93,.i 95 3 94 0,.c 96 g [.t 90,.t 95],.m 8 96] (.s [.v 9 (.ci 0)] (.gX 5 (.loop (.seq (.s [.m 97 9,.m 98 0,.n 99 98,.f 100 2 99,.l 101 1 100,.o (.bin 102 .lss (.t 97) (.t 101))] (.cond (.t 102) .skip (.exit 5))) (.seq (.gX 6 (.s [.m 105 8,.m 106 9,.o (.ia 107 1 (.t 105) (.t 106)),.l 108 1 107,.m 109 9,.o (.ia 110 1 (.t 108) (.t 109)),.l 111 1 110,.o (.bin 112 .eql (.t 111) (.c (.sc (.int .i64 (-1)))))] (.cond (.t 112) (.r [.m 113 5,.m 114 9,.o (.ia 115 1 (.t 113) (.t 114)),.l 116 1 115,.m 117 9,.o (.ia 118 1 (.t 116) (.t 117)),.o (.st 1 (.t 118) (.ci 0))]) .skip))) (.r [.m 103 9,.o (.bin 104 .add (.t 103) (.ci 1)),.m 9 104]))))))) (.s [.q 120 22 6,.m 119 120] (.cond (.t 119) (.s [.m 121 0,.m 122 1,.n 123 122,.f 124 2 123,.l 125 1 124,.i 126 3 125 0,.c 127 g [.t 121,.t 126],.m 10 127] (.s [.m 128 0,.m 129 1,.n 130 129,.f 131 2 130,.l 132 1 131,.i 133 3 132 1,.c 134 g [.t 128,.t 133],.m 11 134] (.s [.v 12 (.ci 0)] (.gX 7 (.loop (.seq (.s [.m 135 12,.m 136 0,.n 137 136,.f 138 2 137,.l 139 1 138,.o (.bin 140 .lss (.t 135) (.t 139))] (.cond (.t 140) .skip (.exit 7))) (.seq (.gX 8 (.s [.v 13 (.ci 0)] (.gX 9 (.loop (.seq (.s [.m 143 13,.m 144 0,.n 145 144,.f 146 2 145,.l 147 1 146,.o (.bin 148 .lss (.t 143) (.t 147))] (.cond (.t 148) .skip (.exit 9))) (.seq (.gX 10 (.jI true [.m 151 5,.m 152 12,.o (.ia 153 1 (.t 151) (.t 152)),.l 154 1 153,.m 155 13,.m 156 10,.m 157 12,.o (.ia 158 1 (.t 156) (.t 157)),.l 159 1 158,.m 160 13,.o (.ia 161 1 (.t 159) (.t 160)),.l 162 1 161,.m 163 11,.m 164 12,.o (.ia 165 1 (.t 163) (.t 164)),.l 166 1 165,.m 167 13,.o (.ia 168 1 (.t 166) (.t 167)),.l 169 1 168,.c 170 f2 [.t 162,.t 169],.o (.ia 171 1 (.t 154) (.t 155)),.s 1 171 170])) (.r [.m 149 13,.o (.bin 150 .add (.t 149) (.ci 1)),.m 13 150]))))))) (.r [.m 141 12,.o (.bin 142 .add (.t 141) (.ci 1)),.m 12 142])))))))) (.s [.q 173 22 7,.m 172 173] (.cond (.t 172) (.seq (.jI true [.m 174 0,.m 175 1,.n 176 175,.f 177 2 176,.l 178 1 177,.i 179 3 178 0,.c 180 g [.t 174,.t 179],.m 181 0,.m 182 1,.n 183 182,.f 184 2 183,.l 185 1 184,.i 186 3 185 1,.c 187 g [.t 181,.t 186],.c 188 f3 [.t 180,.t 187],.m 4 188]) .ret) (.s [.q 190 22 8,.m 189 190] (.cond (.t 189) (.s [.m 191 0,.m 192 1,.n 193 192,.f 194 2 193,.l 195 1 194,.i 196 3 195 0,.c 197 g [.t 191,.t 196],.c 198 f4 [.t 197],.m 4 198] .ret) .skip)))))))))))))) (.s [.m 199 5,.m 4 199] .ret))))
def zh(P:Program)(iV:Nat):Prop:=∀(m:Co)(n:Nat)(e:Ex)(hC:xP m n)(hT:f8 m.1 e=true),AF P iV [.pt (pc m) 0,.pt (eE e) 0] (.own (.ls (some false) 1 (mD n (fW m e))))
def RR(hm:Mx P){f4:Nat}(hr:il P g=some (200,Fy g f1 f2 f3 f4,[.t 4]))(iS:nD P f1)(jw:og P f2)(pd:pY P f3)(zd:o9 P f4):zh P g:=by
 intro m n e hC hT;obtain⟨gs,p,T,A⟩:=m;obtain rfl:p=n:=hC.Cf;refine Ex.ind (p:=fun e=>f8 gs e=true→AF P g [.pt (pc (gs,(n:Int),T,A)) 0,.pt (eE e) 0] (.own (.ls (some false) 1 (mD n (fW (gs,(n:Int),T,A) e))))) (fun k v nn ks ih hT=>?_) e hT;rw[ja,bA,aM]at hT;have n1:=hC.n1;have n8:=hC.n8;have hK:=x5 hC.sur hT.1;rw[gM,kv];refine fY hr hm rfl fun hb=>?_;simp+contextual-implicitDefEqProofs only[Fy,pc,eS,eI,D.size,D.fS,D.sub,D.fX,lN,lC,go_sem];refine fL (ds:=[eI n]) (by rfl) (iS n (by omega)) ?_;simp+contextual-implicitDefEqProofs only[iG,D.at,D.size,D.fS,D.sub,aV,bE,D.fX,lN,lC,DT,go_sem,lM];cases hK with
 |zero hk ky=>
  subst hk ky;rw[show gZ (gs,(n:Int),T,A) 1 v ([].map (fW (gs,(n:Int),T,A)))=pf by simp[gZ]];simp+contextual-implicitDefEqProofs only[aG,Int.reduceLT,Int.reduceBEq,lN,lZ,go_sem]
 |one hk ky=>
  subst hk ky;rw[show gZ (gs,(n:Int),T,A) 2 v ([].map (fW (gs,(n:Int),T,A)))=po (fun _:Nat=>(0:Int))by simp[gZ]];simp+contextual-implicitDefEqProofs only[aG,Int.reduceLT,Int.reduceBEq,bE,lN,lZ,go_sem];refine gL (α:=Nat) [6,26,27,28,29,30,31,32,33,34,35,36,37,38,39,40,41,42,43,44,45,46,47,48,49,50,51,52,53,54,55,56,57,58,59] (fun i=>[(6,.im none (.sc (.int .i64 i)))]) (fun i=>[(18,.ar true (some false) 1 (mD n (lD (fun _:Nat=>(0:Int)) i)))]) (fun i=>i≤n) (fun i=>n-i) 0 (gO.to [] (by simp only[go_sem];rfl) rfl (by simp[uI]) (by rfl) (by simp only[fR,go_sem,iD,iP]<;>simp)) (aq _) ?_;intro i wd
  by_cases hi:i<n
  ·have a1:=mP (R:=lD (fun _:Nat=>(0:Int)) i) hi;have a2:=kh (f:=lD (fun _:Nat=>(0:Int)) i i) hi;have ju:=uZ (f:=(fun _:Nat=>(0:Int))) (i:=i);simp+contextual-implicitDefEqProofs only[hi,iG,iO,a1,a2,D.size,D.fS,D.sub,bE,D.fX,D.put,lj,u9,go_sem,iL,iN];rw[fQ (by omega) (by omega),ju];exact⟨i+1,by omega,by omega,gO.to [] (by simp only[go_sem];rfl) rfl (by simp) (by rfl) (by simp only[fR,go_sem]<;>simp)⟩
  obtain rfl:i=n:=by omega
  simp+contextual-implicitDefEqProofs only[hi,iG,D.size,D.fS,D.sub,bE,D.fX,go_sem,iL];rw[uC];exact D.Le.refl _
 |test hk ky h0 h1=>
  subst hk ky;have h1:v.toNat<T.2.length:=h1;have xR:=oR h0 h1;have t1:=lz (f:=eS 1 eB) (d:=(none,[])) h1;have t2:=hC.tr _ (ji (d:=(none,[])) h1);simp only at h1 xR t1 t2;rw[show gZ (gs,(n:Int),T,A) 3 v ([].map (fW (gs,(n:Int),T,A)))=po (yy (gs,(n:Int),T,A) v)by simp[gZ]];simp+contextual-implicitDefEqProofs only[aG,Int.reduceLT,Int.reduceBEq,bE,lN,lZ,go_sem];refine gL (α:=Nat) [6,26,27,28,29,30,31,32,33,34,35,36,37,38,39,40,41,42,43,44,45,46,47,48,49,50,51,52,53,54,55,56,57,58,59] (fun i=>[(6,.im none (.sc (.int .i64 i)))]) (fun i=>[(18,.ar true (some false) 1 (mD n (lD (yy (gs,(n:Int),T,A) v) i)))]) (fun i=>i≤n) (fun i=>n-i) 0 (gO.to [] (by simp only[go_sem];rfl) rfl (by simp[uI]) (by rfl) (by simp only[fR,go_sem,iD,iP]<;>simp)) (aq _) ?_;intro i wd
  by_cases hi:i<n
  ·have a1:=mP (R:=lD (yy (gs,(n:Int),T,A) v) i) hi;have a2:=kh (f:=lD (yy (gs,(n:Int),T,A) v) i i) hi;have t3:=lz (f:=eB) (d:=false) (show i<(T.2.getD v.toNat (none,[])).2.length by omega);have t4:(T.2.getD v.toNat (none,[])).2.getD i false=EK (gs,(n:Int),T,A) v i:=rfl;have t5:i<(T.2.getD v.toNat (none,[])).2.length:=by omega
   rw[t4]at t3;cases hv:EK (gs,(n:Int),T,A) v i
   ·rw[hv]at t3;have ju:=AT (f:=yy (gs,(n:Int),T,A) v) (i:=i) (by unfold yy;rw[hv];rfl);simp+contextual-implicitDefEqProofs only[hi,eS,D.size,D.fS,D.sub,Int.reduceBEq,D.fX,t1,t2,t3,h0,xR,eB,go_sem,iL,lM,iN];rw[fQ (by omega) (by omega)];exact⟨i+1,by omega,by omega,gO.to [] (by simp only[go_sem];rfl) rfl (by simp[ju]) (by rfl) (by simp only[fR,go_sem]<;>simp)⟩
   rw[hv]at t3;have ju:=uZ (f:=yy (gs,(n:Int),T,A) v) (i:=i);rw[show yy (gs,(n:Int),T,A) v i=0 by unfold yy;rw[hv];rfl]at ju;simp+contextual-implicitDefEqProofs only[hi,iG,iO,a1,a2,eS,D.size,D.fS,D.sub,Int.reduceBEq,bE,D.fX,t1,t2,t3,h0,xR,eB,D.put,lj,u9,go_sem,iL,lM,iN];rw[fQ (by omega) (by omega),ju];exact⟨i+1,by omega,by omega,gO.to [] (by simp only[go_sem];rfl) rfl (by simp) (by rfl) (by simp only[fR,go_sem]<;>simp)⟩
  obtain rfl:i=n:=by omega
  simp+contextual-implicitDefEqProofs only[hi,iG,D.size,D.fS,D.sub,bE,D.fX,go_sem,iL];rw[uC];exact D.Le.refl _
 |act hk ky h0 h1=>
  subst hk ky;have h1:v.toNat<A.2.length:=by simpa[EF]using h1
  have xR:=oR h0 h1;have t1:=lz (f:=eS 1 (eS 1 eI)) (d:=(none,[])) h1;have t2:=hC.asq _ (ji (d:=(none,[])) h1);simp only at h1 xR t1 t2;rw[show gZ (gs,(n:Int),T,A) 4 v ([].map (fW (gs,(n:Int),T,A)))=gB (oX (gs,(n:Int),T,A) v)by simp[gZ]];simp+contextual-implicitDefEqProofs only[aG,Int.reduceLT,Int.reduceBEq,bE,lN,lZ,go_sem];refine gL (α:=Nat) [7,62,63,64,65,66,67,68,69,70,71,72,73,74,75,76,77,78,79,80,81,82,83,84,85,86] (fun i=>[(7,.im none (.sc (.int .i64 i)))]) (fun i=>[(18,.ar true (some false) 1 (mD n (mg (gB (oX (gs,(n:Int),T,A) v)) i)))]) (fun i=>i≤n) (fun i=>n-i) 0 (gO.to [] (by simp only[go_sem];rfl) rfl (by simp[tx]) (by rfl) (by simp only[fR,go_sem,iD,iP]<;>simp)) (aq _) ?_;intro i wd
  by_cases hi:i<n
  ·have a1:=mP (R:=mg (gB (oX (gs,(n:Int),T,A) v)) i) hi;have a2:=kh (f:=mg (gB (oX (gs,(n:Int),T,A) v)) i i) hi;have ju:=MT (R:=gB (oX (gs,(n:Int),T,A) v)) (i:=i);have t3:=t2.at hi;rw[t2.Id hi]at t3;have t4:gB (A.2.getD v.toNat (none,[])) i=gB (oX (gs,(n:Int),T,A) v) i:=rfl;rw[t4]at t3;have t5:=t2.len;simp+contextual-implicitDefEqProofs only[hi,iG,iO,a1,eS,D.size,D.fS,D.sub,bE,D.fX,t1,t3,t5,h0,xR,JG iO,D.put,lj,Ut,N6,dh,Nat.min_self,go_sem,iL,lM,iN];rw[fQ (by omega) (by omega),ju];exact⟨i+1,by omega,by omega,gO.to [] (by simp only[go_sem];rfl) rfl (by simp) (by rfl) (by simp only[fR,go_sem]<;>simp)⟩
  obtain rfl:i=n:=by omega
  simp+contextual-implicitDefEqProofs only[hi,iG,D.size,D.fS,D.sub,bE,D.fX,go_sem,iL];rw[sR];exact D.Le.refl _
 |nt hk a ky=>
  subst hk ky;have ta:=hT.2 a (by simp);have ia_:=ih a (by simp) ta;have oa:=gP hC a ta;rw[show gZ (gs,(n:Int),T,A) 5 v ([a].map (fW (gs,(n:Int),T,A)))=po (Av (fW (gs,(n:Int),T,A) a))by simp[gZ]];simp+contextual-implicitDefEqProofs only[aG,Int.reduceLT,Int.reduceBEq,bE,lN,lC,lK,lZ,go_sem];refine fL (ds:=[.pt (pc (gs,(n:Int),T,A)) 0,.pt (eE a) 0]) (by rfl) (ia_) ?_;simp+contextual-implicitDefEqProofs only[go_sem];refine gL (α:=Nat) [9,97,98,99,100,101,102,103,104,105,106,107,108,109,110,111,112,113,114,115,116,117,118] (fun i=>[(9,.im none (.sc (.int .i64 i)))]) (fun i=>[(18,.ar true (some false) 1 (mD n (lD (Av (fW (gs,(n:Int),T,A) a)) i))),(96,.own (.ls (some false) 1 (mD n ((fW (gs,(n:Int),T,A) a)))))]) (fun i=>i≤n) (fun i=>n-i) 0 (gO.to [] (by simp only[go_sem];rfl) rfl (by simp[uI]) (by rfl) (by simp only[fR,go_sem,iD,iP]<;>simp)) (aq _) ?_;intro i wd
  by_cases hi:i<n
  ·have a1:=mP (R:=lD (Av (fW (gs,(n:Int),T,A) a)) i) hi;have a2:=kh (f:=lD (Av (fW (gs,(n:Int),T,A) a)) i i) hi;have b1:=mP (R:=(fW (gs,(n:Int),T,A) a)) hi;have b2:=kh (f:=(fW (gs,(n:Int),T,A) a) i) hi
   by_cases hv:(fW (gs,(n:Int),T,A) a) i i= -1
   ·have ju:=uZ (f:=Av (fW (gs,(n:Int),T,A) a)) (i:=i);rw[show Av (fW (gs,(n:Int),T,A) a) i=0 by unfold Av;rw[af hv]]at ju;have Sb:((fW (gs,(n:Int),T,A) a) i i== -1)=true:=by simpa using hv
    simp+contextual-implicitDefEqProofs only[hi,iG,iO,a1,a2,D.size,D.fS,D.sub,bE,D.fX,b1,b2,Sb,D.put,lj,u9,go_sem,iL,iN];rw[fQ (by omega) (by omega),ju];exact⟨i+1,by omega,by omega,gO.to [] (by simp only[go_sem];rfl) rfl (by simp) (by rfl) (by simp only[fR,go_sem]<;>simp)⟩
   have ju:=AT (f:=Av (fW (gs,(n:Int),T,A) a)) (i:=i) (by unfold Av;rw[ae hv]);have Sb:((fW (gs,(n:Int),T,A) a) i i== -1)=false:=by simpa using hv
   simp+contextual-implicitDefEqProofs only[hi,iG,iO,D.size,D.fS,D.sub,D.fX,b1,b2,Sb,go_sem,iL,iN];rw[fQ (by omega) (by omega)];exact⟨i+1,by omega,by omega,gO.to [] (by simp only[go_sem];rfl) rfl (by simp[ju]) (by rfl) (by simp only[fR,go_sem]<;>simp)⟩
  obtain rfl:i=n:=by omega
  simp+contextual-implicitDefEqProofs only[hi,iG,D.size,D.fS,D.sub,bE,D.fX,go_sem,iL];rw[uC];exact D.Le.refl _
 |sum hk a b ky=>
  subst hk ky;have ta:=hT.2 a (by simp);have ia_:=ih a (by simp) ta;have oa:=gP hC a ta;have tb:=hT.2 b (by simp);have ib_:=ih b (by simp) tb;have ob:=gP hC b tb;rw[show gZ (gs,(n:Int),T,A) 6 v ([a,b].map (fW (gs,(n:Int),T,A)))=ER (fW (gs,(n:Int),T,A) a) (fW (gs,(n:Int),T,A) b)by simp[gZ]];simp+contextual-implicitDefEqProofs only[aG,Int.reduceLT,Int.reduceBEq,bE,lN,lC,lK,lZ,go_sem];refine fL (ds:=[.pt (pc (gs,(n:Int),T,A)) 0,.pt (eE a) 0]) (by rfl) (ia_) ?_;simp+contextual-implicitDefEqProofs only[D.at,D.size,D.fS,D.sub,aG,Int.reduceLT,Int.reduceLE,Int.reduceToNat,D.fX,lN,lC,lK,lZ,go_sem];refine fL (ds:=[.pt (pc (gs,(n:Int),T,A)) 0,.pt (eE b) 0]) (by rfl) (ib_) ?_;simp+contextual-implicitDefEqProofs only[go_sem];refine gL (α:=Nat) [12,13,135,136,137,138,139,140,141,142,143,144,145,146,147,148,149,150,151,152,153,154,155,156,157,158,159,160,161,162,163,164,165,166,167,168,169,170,171] (fun i=>[(12,.im none (.sc (.int .i64 i)))]) (fun i=>[(18,.ar true (some false) 1 (mD n (mg (ER (fW (gs,(n:Int),T,A) a) (fW (gs,(n:Int),T,A) b)) i))),(134,.own (.ls (some false) 1 (mD n ((fW (gs,(n:Int),T,A) b))))),(127,.own (.ls (some false) 1 (mD n ((fW (gs,(n:Int),T,A) a)))))]) (fun i=>i≤n) (fun i=>n-i) 0 (gO.to [] (by simp only[go_sem];rfl) rfl (by simp[tx]) (by rfl) (by simp only[fR,go_sem,iD,iP]<;>simp)) (aq _) ?_;intro i wd
  by_cases hi:i<n
  ·simp+contextual-implicitDefEqProofs only[hi,D.size,D.fS,D.sub,D.fX,go_sem,iL];refine gL (α:=Nat) [13,143,144,145,146,147,148,149,150,151,152,153,154,155,156,157,158,159,160,161,162,163,164,165,166,167,168,169,170,171] (fun y=>[(13,.im none (.sc (.int .i64 y)))]) (fun y=>[(18,.ar true (some false) 1 (mD n (rA (ER (fW (gs,(n:Int),T,A) a) (fW (gs,(n:Int),T,A) b)) i y))),(134,.own (.ls (some false) 1 (mD n ((fW (gs,(n:Int),T,A) b))))),(127,.own (.ls (some false) 1 (mD n ((fW (gs,(n:Int),T,A) a)))))]) (fun y=>y≤n) (fun y=>n-y) 0 (gO.to [] (by simp only[go_sem];rfl) rfl (by simp[I7]) (by rfl) (by simp only[fR,go_sem,iD,iP]<;>simp)) (aq _) ?_;intro y hy0
   by_cases hy:y<n
   ·have a1:=mP (R:=rA (ER (fW (gs,(n:Int),T,A) a) (fW (gs,(n:Int),T,A) b)) i y) hi;have a2:=kh (f:=rA (ER (fW (gs,(n:Int),T,A) a) (fW (gs,(n:Int),T,A) b)) i y i) hy;have ju:=Jo (R:=ER (fW (gs,(n:Int),T,A) a) (fW (gs,(n:Int),T,A) b)) (i:=i) (y:=y);have b1:=mP (R:=(fW (gs,(n:Int),T,A) a)) hi;have b2:=kh (f:=(fW (gs,(n:Int),T,A) a) i) hy;have b3:=mP (R:=(fW (gs,(n:Int),T,A) b)) hi;have b4:=kh (f:=(fW (gs,(n:Int),T,A) b) i) hy;simp+contextual-implicitDefEqProofs only[hi,hy,iG,iO,a1,D.size,D.fS,D.sub,D.fX,lN,lC,b1,b2,b3,b4,go_sem,iL,iN];refine fL (ds:=[eI ((fW (gs,(n:Int),T,A) a) i y),eI ((fW (gs,(n:Int),T,A) b) i y)]) (by rfl) (jw _ _) ?_;simp+contextual-implicitDefEqProofs only[hi,hy,iG,iO,a1,a2,eI,D.size,D.sub,bE,D.fX,D.put,lj,u9,go_sem,iL,iN];rw[fQ (by omega) (by omega),show ch ((fW (gs,(n:Int),T,A) a) i y) ((fW (gs,(n:Int),T,A) b) i y)=ER (fW (gs,(n:Int),T,A) a) (fW (gs,(n:Int),T,A) b) i y from rfl,ju];exact⟨y+1,by omega,by omega,gO.to [] (by simp only[go_sem];rfl) rfl (by simp) (by rfl) (by simp only[fR,go_sem]<;>simp)⟩
   obtain rfl:y=n:=by omega
   simp+contextual-implicitDefEqProofs only[hy,D.size,D.fS,D.sub,D.fX,go_sem,iL];rw[fQ (by omega) (by omega)];exact⟨i+1,by omega,by omega,gO.to [] (by simp only[go_sem];rfl) rfl (by simp[IT]) (by rfl) (by simp only[fR,go_sem]<;>simp)⟩
  obtain rfl:i=n:=by omega
  simp+contextual-implicitDefEqProofs only[hi,iG,D.size,D.fS,D.sub,bE,D.fX,go_sem,iL];rw[sR];exact D.Le.refl _
 |dot hk a b ky=>
  subst hk ky;have ta:=hT.2 a (by simp);have ia_:=ih a (by simp) ta;have oa:=gP hC a ta;have tb:=hT.2 b (by simp);have ib_:=ih b (by simp) tb;have ob:=gP hC b tb;rw[show gZ (gs,(n:Int),T,A) 7 v ([a,b].map (fW (gs,(n:Int),T,A)))=lT n (fW (gs,(n:Int),T,A) a) (fW (gs,(n:Int),T,A) b)by simp[gZ]];simp+contextual-implicitDefEqProofs only[aG,Int.reduceLT,Int.reduceBEq,bE,lN,lC,lK,lZ,go_sem];refine fL (ds:=[.pt (pc (gs,(n:Int),T,A)) 0,.pt (eE a) 0]) (by rfl) (ia_) ?_;simp+contextual-implicitDefEqProofs only[D.at,D.size,D.fS,D.sub,aG,Int.reduceLT,Int.reduceLE,Int.reduceToNat,D.fX,lN,lC,lK,lZ,go_sem];refine fL (ds:=[.pt (pc (gs,(n:Int),T,A)) 0,.pt (eE b) 0]) (by rfl) (ib_) ?_;simp+contextual-implicitDefEqProofs only[lN,lC,go_sem];refine fL (ds:=[.ls (some false) 1 (mD n (fW (gs,(n:Int),T,A) a)),.ls (some false) 1 (mD n (fW (gs,(n:Int),T,A) b))]) (by rfl) (afj pd (by omega) oa ob) ?_;simp+contextual-implicitDefEqProofs only[bE,go_sem]
 |star hk a ky=>
  subst hk ky;have ta:=hT.2 a (by simp);have ia_:=ih a (by simp) ta;have oa:=gP hC a ta;rw[show gZ (gs,(n:Int),T,A) 8 v ([a].map (fW (gs,(n:Int),T,A)))=kB n (fW (gs,(n:Int),T,A) a)by simp[gZ]];simp+contextual-implicitDefEqProofs only[aG,Int.reduceLT,Int.reduceBEq,bE,lN,lC,lK,lZ,go_sem];refine fL (ds:=[.pt (pc (gs,(n:Int),T,A)) 0,.pt (eE a) 0]) (by rfl) (ia_) ?_;simp+contextual-implicitDefEqProofs only[lN,lC,go_sem];refine fL (ds:=[.ls (some false) 1 (mD n (fW (gs,(n:Int),T,A) a))]) (by rfl) (YV zd (by omega) oa) ?_;simp+contextual-implicitDefEqProofs only[bE,go_sem]
end Go.Ax
