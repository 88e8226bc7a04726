/-
  Plain facts: invoices laid beside an order. No condition.
-/
import Derived.Test.YtilaijcbckgmmabGreatDoorYk
import Derived.Test.YtilaijcbckgmmabGreatDoorYr
import Derived.Test.YtilaijcbckgmmabGreatDoorYx
import Derived.Test.YtilaijcbckgmmabGreatDoorYq
set_option linter.all false
set_option linter.all false
namespace Go.Md
open Go.Dn
def fX (s:aq):Int:=bZ s.2.2.2.2.2.2.2.1 - bZ s.2.2.2.2.2.2.2.2.1
def sS (st:List aq) (t:Int×Int) (x:ay) (n:Int):Int:=
 match st.find? (fun s=>s.1==x.2.1) with
 | none=>3
 | some s=>if ¬(s.2.1=x.2.2.1/\s.2.2.1=x.2.2.2.2.1) then 4
  else if bZ s.2.2.2.2.1*(1000+t.1)*x.2.2.2.2.2.2.1<bZ x.2.2.2.2.2.1*1000 then 5
  else if n<0\/fX s*(1000+t.2)<n*1000 then 6 else 0
abbrev qU:=List (Int×Int×Int)
def DZ (b:Int->Int) (k z:Int):Int->Int:=fun n=>if n=k then z else b n
def fk (st:List aq) (t:Int×Int) (i:Int):Nat->List ay->(Int->Int)->qU×(Int->Int)
 | _,[],b=>([],b)
 | k,x::r,b=>if sS st t x (b x.2.1+bZ x.2.2.2.1)=0 then fk st t i (k+1) r (DZ b x.2.1 (b x.2.1+bZ x.2.2.2.1))
  else ((i,(k:Int),sS st t x (b x.2.1+bZ x.2.2.2.1))::(fk st t i (k+1) r b).1,(fk st t i (k+1) r b).2)
def ko (num:Bys) (stf:Int->List aq) (t:Int×Int) (pre:List ai) (i:Int) (v:ai) (b:Int->Int):qU×(Int->Int):=
 if v.2.1≠num then ([(i, -1,1)],b)
 else if (pre.any fun u=>u.1==v.1)=true then ([(i, -1,2)],b)
 else fk (stf v.2.2.1) t i 0 v.2.2.2.2.2.2.2.1 b
def kG (num:Bys) (stf:Int->List aq) (t:Int×Int):List ai->List ai->(Int->Int)->qU×(Int->Int)
 | _,[],b=>([],b)
 | pre,v::r,b=>((ko num stf t pre pre.length v b).1++(kG num stf t (pre++[v]) r (ko num stf t pre pre.length v b).2).1,(kG num stf t (pre++[v]) r (ko num stf t pre pre.length v b).2).2)
def BB (b:Int->Int):Prop:=∀ n,0<=b n/\b n<=10 ^ 26
def StB (st:List aq):Prop:=∀ s∈st,0<=fX s/\fX s<=10 ^ 24
theorem Sk {st:List aq} {t:Int×Int} {x:ay} {n:Int} (h:sS st t x n=0):∃ s,st.find? (fun s=>s.1==x.2.1)=some s/\0<=n/\n*1000<=fX s*(1000+t.2):=by
 unfold sS at h
 split at h
 ·cases h
 ·rename_i s hs
  split at h
  ·cases h
  split at h
  ·cases h
  split at h
  ·cases h
  ·exact⟨s,hs,by omega,by omega⟩
theorem Xm {st:List aq} {t:Int×Int} {x:ay} {n:Int} (hst:StB st) (ht:t.2<=1000) (h:sS st t x n=0):0<=n/\n<=10 ^ 26:=by
 obtain⟨s,hs,h1,h2⟩:=Sk h
 obtain⟨h3,h4⟩:=hst s (aht hs)
 have h5:fX s*(1000+t.2)<=fX s*2000:=agc (by omega) h3
 exact⟨h1,by omega⟩
theorem Y7 {b:Int->Int} {k z:Int} (h:BB b) (hz:0<=z/\z<=10 ^ 26):BB (DZ b k z):=fun n=>by
 unfold DZ
 split
 ·exact hz
 ·exact h n
theorem Nx {st:List aq} {t:Int×Int} {i:Int} (hst:StB st) (ht:t.2<=1000):∀ (l:List ay) (k:Nat) (b:Int->Int),BB b->BB (fk st t i k l b).2
 | [],_,_,h=>h
 | x::r,k,b,h=>by
  unfold fk
  split
  ·rename_i h0
   exact Nx hst ht r _ _ (Y7 h (Xm hst ht h0))
  ·exact Nx hst ht r _ _ h
theorem Zl {num:Bys} {stf:Int->List aq} {t:Int×Int} {pre:List ai} {i:Int} {v:ai} {b:Int->Int} (hst:∀ d,StB (stf d)) (ht:t.2<=1000) (h:BB b):BB (ko num stf t pre i v b).2:=by
 unfold ko
 split
 ·exact h
 ·split
  ·exact h
  ·exact Nx (hst _) ht _ _ _ h
theorem U5 {num:Bys} {stf:Int->List aq} {t:Int×Int} (hst:∀ d,StB (stf d)) (ht:t.2<=1000):∀ (l pre:List ai) (b:Int->Int),BB b->BB (kG num stf t pre l b).2
 | [],_,_,h=>h
 | v::r,pre,b,h=>U5 hst ht r _ _ (Zl hst ht h)
def Es (t:Int×Int):Int:=if t.1<0\/1000<t.1\/t.2<0\/1000<t.2 then 1 else 0
def gV:Option ai->List ai->Int
 | _,[]=>0
 | p,x::r=>if jr x≠0 then jr x else if (p.any fun q=>decide (x.2.2.1<q.2.2.1))=true then 8 else gV (some x) r
def mF (o:aj) (l:List aa) (t:Int×Int) (v:List ai):Int:=
 if dD o l≠0 then dD o l else if Es t≠0 then Es t else if 200<v.length then 2 else gV none v
structure MOk (o:aj) (l:List aa) (t:Int×Int) (v:List ai):Prop where
 chk:dD o l=0
 t1:0<=t.1/\t.1<=1000
 t2:0<=t.2/\t.2<=1000
 len:v.length<=200
 go:gV none v=0
theorem T4 {o:aj} {l:List aa} {t:Int×Int} {v:List ai} (h:mF o l t v=0):MOk o l t v:=by
 unfold mF at h
 split at h
 ·omega
 rename_i h1
 split at h
 ·omega
 rename_i h2
 split at h
 ·omega
 rename_i h3
 have h2':Es t=0:=by omega
 unfold Es at h2'
 split at h2'
 ·cases h2'
 ·exact⟨by omega,by omega,by omega,by omega,h⟩
theorem Sf:∀ (a c:List ai) (p:Option ai),gV p (a++c)=0->gV p a=0
 | [],_,_,_=>rfl
 | x::a,c,p,h=>by
  simp only[agA,gV] at h ⊢
  split at h
  ·rename_i h1;rw[aiM h1];exact h
  ·rename_i h1
   rw[aiL h1]
   split at h
   ·cases h
   ·rename_i h2;rw[aiL h2];exact Sf a c _ h
theorem Bc:∀ {v:List ai} {p:Option ai},gV p v=0->∀ x∈v,jr x=0
 | [],_,_,x,hx=>by cases hx
 | y::r,p,h,x,hx=>by
  simp only[gV] at h
  split at h
  ·rename_i h1;exact absurd h h1
  rename_i h1
  split at h
  ·cases h
  rcases ahn.1 hx with rfl | hx
  ·exact af8 h1
  ·exact Bc h x hx
theorem MOk.take {o:aj} {l:List aa} {t:Int×Int} {v:List ai} (h:MOk o l t v) (k:Nat):MOk o l t (v.take k):=
 ⟨h.chk,h.t1,h.t2,by rw[ahe];have:=h.len;omega,Sf _ (v.drop k) _ (by rw[ahJ];exact h.go)⟩
def stF (o:aj) (l:List aa) (d:Int):List aq:=if lnF o l d=0 then (bT (uJ o l 0 d).1).map bM else []
structure StaOk (s:aq):Prop where
 pr:b9 s.2.2.2.2.1
 rc:b9 s.2.2.2.2.2.2.2.1
 rt:b9 s.2.2.2.2.2.2.2.2.1
 k0:0<=fX s
 k1:fX s<=10 ^ 24
theorem Uw {o:aj} {l:List aa} {d:Int} {s:aq} (h:dD o l=0) (hs:s∈stF o l d):∃ x,LOk x/\Ib x/\s=bM x:=by
 unfold stF at hs
 split at hs
 ·obtain⟨x,hx,rfl⟩:=ahs.1 hs
  have hx':=(eL _).mem_iff.1 hx
  have hg:=(Fy h 0 d).1
  exact⟨x,(hg.sound.line x hx').1,hg.pr x hx',rfl⟩
 ·cases hs
theorem KO {x:ak} (hx:LOk x):fX (bM x)=(x.rcv - x.ret)*1000000:=by
 have h1:=hx.ret0;have h2:=hx.retr;have h3:=hx.rcvs;have h4:=hx.shp1
 show bZ (bQ x.rcv) - bZ (bQ x.ret)=_
 rw[(Ko (n:=x.rcv) (by omega)).2,(Ko (n:=x.ret) (by omega)).2]
 omega
theorem XP {x:ak} (hx:LOk x) (hp:Ib x):StaOk (bM x):=by
 have h1:=hx.ret0;have h2:=hx.retr;have h3:=hx.rcvs;have h4:=hx.shp1
 obtain⟨p1,p2,p3,p4⟩:=hp
 obtain⟨g1,g2,g3⟩:=Ci x.price.2.toNat x.price.1
 have hk:=KO hx
 refine⟨⟨by show (few x.price.2.toNat x.price.1).1.natAbs<=_;omega,by show (0:Int)<=((few x.price.2.toNat x.price.1).2:Int);omega,by show ((few x.price.2.toNat x.price.1).2:Int)<=9;omega⟩,(Ko (n:=x.rcv) (by omega)).1,(Ko (n:=x.ret) (by omega)).1,by rw[hk];omega,by rw[hk];omega⟩
theorem SX {o:aj} {l:List aa} (h:dD o l=0) (d:Int):∀ s∈stF o l d,StaOk s:=fun s hs=>by
 obtain⟨x,hx,hp,rfl⟩:=Uw h hs
 exact XP hx hp
theorem aaX {o:aj} {l:List aa} (h:dD o l=0) (d:Int):StB (stF o l d):=fun s hs=>⟨(SX h d s hs).k0,(SX h d s hs).k1⟩
theorem vT {d:ah} (h:b9 d):(bZ d).natAbs<=10 ^ 24:=by
 unfold bZ
 have h1:=h.1
 rw[agf]
 have h2:((10:Int) ^ (9 - d.2).toNat).natAbs<=10 ^ 9:=by
  rw[agi]
  exact aih (by decide) (by have:=h.2.1;omega)
 have h3:=aic h1 h2
 omega
theorem fQ {n:Nat} (h:n<=10 ^ 60):n<4294967296 ^ 99:=by
 have h1:(10:Nat) ^ 60<4294967296 ^ 99:=by decide
 omega
theorem nE {d:ah} (h:b9 d):jw d=some (W (bZ d),()):=by
 obtain⟨h1,h2,h3⟩:=h
 unfold jw
 rw[PZ d 9 (by omega) (by omega) (by omega) (by omega) (by omega),aim]
 rfl
end Go.Md
set_option linter.all false
namespace Go.Md
open Go.Dn
abbrev MB:=aj×(List aa)×aH×(List ai)×(List (Int×(List aq)))×(List (Int×aO))×(List bu)×Unit
abbrev yH:=List (Int×List aq)
abbrev CH:=List (Int×aO)
def lY (o:aj) (l:List aa) (S:yH):Prop:=∀ d s,bV (k:=tI) (v:= .slice bg) S d=some s->s=stF o l d
def BOk (M:CH) (b:Int->Int):Prop:=∀ n,Option.getD (α:=aO) (bV (k:=tI) (v:=bh) M n) (false,[])=W (b n)
theorem AJ (a b:(tI).den):Ty.beq tI a b=true↔a=b:=by
 show ((show Int from a)==(show Int from b))=true↔_
 exact beq_iff_eq
theorem lY.set {o:aj} {l:List aa} {S:yH} (h:lY o l S) (d:Int):lY o l (jG (k:=tI) (v:= .slice bg) S d (stF o l d)):=fun n s hs=>by
 have e:= @NC tI (.slice bg) AJ S d (stF o l d) n
 replace hs:=e.symm.trans hs
 cases hb:Ty.beq tI d n with
 | true=>
  rw[hb,aiz] at hs
  have:=(AJ d n).1 hb
  subst this
  cases hs;rfl
 | false=>
  rw[hb,aiy] at hs
  exact h n s hs
theorem BOk.set {M:CH} {b:Int->Int} (h:BOk M b) (k z:Int):BOk (jG (k:=tI) (v:=bh) M k (W z)) (DZ b k z):=fun n=>by
 have e:= @NC tI bh AJ M k (W z) n
 refine (congrArg (fun q=>Option.getD (α:=aO) q (false,[])) e).trans ?_
 unfold DZ
 cases hb:Ty.beq tI k n with
 | true=>
  have:=(AJ k n).1 hb
  subst this
  rw[aiz,aiM rfl];rfl
 | false=>
  have hne:¬n=k:=fun e=>by
   subst e
   have:=(AJ n n).2 rfl
   rw[hb] at this;cases this
  rw[aiy]
  exact (h n).trans (congrArg W (aiL hne).symm)
theorem PV {o:aj} {l:List aa} {t:aH} {v:List ai} {S:yH} {M:CH} {out:qU} (hS:lY o l S) (day:Int): ∃ S',lY o l S'/\jc ((o,l,t,v,S,M,out,()):MB) day=some (stF o l day,((o,l,t,v,S',M,out,()):MB),()):=by
 unfold jc
 dsimp only
 cases hg:bV (k:=tI) (v:= .slice bg) S day with
 | none=>
  refine⟨_,hS.set day, ?_⟩
  change (bif true then _ else _)=_
  rw[aiz,Gq,aim]
  rfl
 | some s=>
  refine⟨S,hS, ?_⟩
  change (bif false then _ else _)=_
  rw[aiy, <- hS day s hg]
  rfl
theorem Xb {α:Type} (p:α->Bool):∀ l:List α,(l.findIdx? p=none/\l.find? p=none)\/∃ (k:Nat) (s:α),l.findIdx? p=some k/\l[k]? =some s/\l.find? p=some s
 | []=> .inl ⟨rfl,rfl⟩
 | a::r=>by
  rw[agK,List.find?_cons]
  cases hp:p a with
  | true=>exact .inr ⟨0,a,rfl,rfl,rfl⟩
  | false=>
   rcases Xb p r with ⟨h1,h2⟩ | ⟨k,s,h1,h2,h3⟩
   ·exact .inl ⟨by simp[h1],h2⟩
   ·exact .inr ⟨k+1,s,by simp[h1],by simpa using h2,h3⟩
theorem VR (st:List aq) (x:ay) (hl:st.length<1000000000):iP st x=some (match st.findIdx? (fun s=>s.1==x.2.1) with | some k=>(k:Int) | none=> -1,()):=by
 unfold iP
 have loop:∀ (r:List aq) (i n:Nat),st.drop i=r->i<=st.length->r.length<n->
  iter (X:=gA) (β:=gz) n (st,x,(st.length:Int),(i:Int),()) eV=some (match r.findIdx? (fun s=>s.1==x.2.1) with | some k=>Sum.inl (((i+k:Nat):Int),()) | none=>Sum.inr ()):=by
  intro r
  induction r with
  | nil=>
   intro i n hdr hi hn
   have:i=st.length:=by
    have:=congrArg List.length hdr
    simp at this;omega
   subst this
   obtain⟨n,rfl⟩:∃ m,n=m+1:=⟨n - 1,by omega⟩
   rw[aX]
   unfold eV
   dsimp only
   rw[aK (by omega)]
   rfl
  | cons y r ih=>
   intro i n hdr hi hn
   have hy:st[i]? =some y:=by
    have:=congrArg (·[0]?) hdr
    simpa [agT] using this
   have hr':st.drop (i+1)=r:=by
    have:=congrArg List.tail hdr
    simpa [ahG] using this
   have hlt:=(agW.1 hy).1
   obtain⟨n,rfl⟩:∃ m,n=m+1:=⟨n - 1,by simp at hn;omega⟩
   rw[aX]
   generalize hag:(fun y=>iter n y eV)=again
   unfold eV
   dsimp only
   rw[aG (by omega),bD,hy,aim]
   unfold uL
   rw[aim]
   dsimp only
   rw[agK]
   cases hb:(y.1==x.2.1) with
   | true=>rfl
   | false=>
    rw[aiy,ax (n:=(i:Int)+1) (by omega) (by omega), <- hag,show (i:Int)+1=((i+1:Nat):Int) by omega]
    refine (ih (i+1) n hr' (by omega) (by simp at hn;omega)).trans ?_
    cases hq:r.findIdx? (fun s=>s.1==x.2.1) with
    | none=>simp
    | some q=>simp;omega
 have:=loop st 0 (List.length st+(Int.natAbs ((List.length st:Int))+(Int.natAbs (0:Int)+2))) rfl (aik _) (by omega)
 rw[show ((0:Nat):Int)=0 from rfl] at this
 rw[this]
 cases hq:st.findIdx? (fun s=>s.1==x.2.1) with
 | none=>rfl
 | some q=>simp[aB]
theorem Tr (l:List ai) (y:ai) (hl:l.length<1000000000):fL l y=some (l.any (fun o=>o.1==y.1),()):=by
 unfold fL kZ
 have loop:iter (X:=dZ) (β:=dY) (List.length l+(Int.natAbs ((List.length l:Int))+(Int.natAbs (0:Int)+2))) (l,y,(List.length l:Int),0,()) dX=some (Sum.inr ())/\l.any (fun o=>o.1==y.1)=false\/
  ∃ i:Nat,iter (X:=dZ) (β:=dY) (List.length l+(Int.natAbs ((List.length l:Int))+(Int.natAbs (0:Int)+2))) (l,y,(List.length l:Int),0,()) dX=some (Sum.inl ((i:Int),()))/\l.any (fun o=>o.1==y.1)=true:=by
  refine cx (Inv:=fun i x=>x=(l,y,(List.length l:Int),(i:Int),())/\(l.take i).any (fun o=>o.1==y.1)=false) l.length (fun r=>r=some (Sum.inr ())/\l.any (fun o=>o.1==y.1)=false\/∃ i:Nat,r=some (Sum.inl ((i:Int),()))/\l.any (fun o=>o.1==y.1)=true) ?_ ?_ _ 0 _ ⟨rfl,by simp⟩ (by omega) (by omega)
  ·rintro i _ again hi ⟨rfl,hn⟩ ih
   unfold dX
   dsimp only
   have hy:l[i]? =some l[i]:=bp hi
   rw[aG (by omega),bD,hy,aim]
   unfold qD
   rw[aim]
   dsimp only
   cases hb:(l[i].1==y.1) with
   | true=>
    right
    exact⟨i,rfl,agx.2 ⟨l[i],ag6 _,hb⟩⟩
   | false=>
    rw[aiy,ax (by omega) (by omega)]
    refine ih _ ⟨rfl, ?_⟩
    rw[ahI,hy,List.any_append,hn]
    simp[hb]
  ·rintro _ again ⟨rfl,hn⟩
   unfold dX
   dsimp only
   rw[aK (by omega)]
   rw[ahN (ahY _)] at hn
   exact .inl ⟨rfl,hn⟩
 rcases loop with ⟨h1,h2⟩ | ⟨i,h1,h2⟩
 ·rw[h1,aR,aim,h2];rfl
 ·rw[h1,Av,aim,h2];simp
theorem Dy {a b:Int} {m n:Nat} (ha:a.natAbs<=m) (hb:b.natAbs<=n):(a*b).natAbs<=m*n:=by
 rw[agf];exact aic ha hb
theorem Ut (x y:Int):decide ((x - y).sign>0)=decide (y<x):=by
 rcases Int.lt_trichotomy y x with h | h | h
 ·rw[agn (by omega),aiD h];rfl
 ·subst h;rw[Int.sub_self];simp
 ·rw[agm (by omega),aiB (show ¬y<x by omega)];rfl
theorem ado (x:Int):decide (x.sign<0)=decide (x<0):=by
 rcases Int.lt_trichotomy x 0 with h | h | h
 ·rw[agm h,aiD h];rfl
 ·subst h;rfl
 ·rw[agn h,aiB (show ¬x<0 by omega)];rfl
theorem Zv {z:Int} (hz:z.natAbs<=10 ^ 30) {t:Int} (h0:0<=t) (h1:t<=1000):Di (W z) t=some (W (z*(1000+t)),()):=by
 unfold Di
 rw[ax (by omega) (by omega),nD _ (by omega) (by omega),aim,jk _ _ (fQ (by omega)) (fQ (by omega)),aim]
theorem T3 {s:aq} (h:StaOk s):An s=some (W (fX s),()):=by
 unfold An
 rw[nE h.rc,aim,nE h.rt,aim,yF _ _ (fQ (by have:=vT h.rc;omega)) (fQ (by have:=vT h.rt;omega)),aim]
 rfl
structure L8 (x:ay):Prop where
 q:b9 x.2.2.2.1
 p:b9 x.2.2.2.2.2.1
 per:1<=x.2.2.2.2.2.2.1/\x.2.2.2.2.2.2.1<=100000
theorem adx {pl:Int} {rates:List aD} {x:ay} (h:Q6 pl rates x):L8 x:=⟨h.q,h.p,h.per⟩
theorem aeb {o:aj} {l:List aa} {t:aH} {v:List ai} {S:yH} {M:CH} {out:qU} {b:Int->Int} (hc:dD o l=0) (ht1:0<=t.1/\t.1<=1000) (ht2:0<=t.2/\t.2<=1000) (hS:lY o l S) (hM:BOk M b) (hb:BB b) (day:Int) {x:ay} (hx:L8 x): ∃ S',lY o l S'/\qV ((o,l,t,v,S,M,out,()):MB) day x=some (sS (stF o l day) t x (b x.2.1+bZ x.2.2.2.1),((o,l,t,v,S',M,out,()):MB),()):=by
 obtain⟨S',hS',e⟩:=PV (t:=t) (v:=v) (M:=M) (out:=out) hS day
 refine⟨S',hS', ?_⟩
 have hlen:(stF o l day).length<1000000000:=by
  unfold stF
  split
  ·rw[aha,(eL _).length_eq]
   have:=(Fy hc 0 day).2.len
   omega
  ·simp
 unfold qV sS
 dsimp only
 rw[e,aim]
 dsimp only
 rw[VR _ _ hlen,aim]
 rcases Xb (fun s:aq=>s.1==x.2.1) (stF o l day) with ⟨h1,h2⟩ | ⟨k,s,h1,h2,h3⟩
 ·rw[h1,h2];rfl
 rw[h1,h3]
 dsimp only
 have hs:=SX hc day s (ahu h2)
 rw[aK (show ¬((k:Int)<0) from Int.not_lt.2 (agj k)),bD,h2,aim]
 by_cases ha:s.2.1=x.2.2.1
 rotate_left
 ·rw[show (!(s.2.1==x.2.2.1))=true by simp[ha],aiz,aiM (fun h=>ha h.1)]
 rw[show (!(s.2.1==x.2.2.1))=false by simp[ha],aiy]
 by_cases hu:s.2.2.1=x.2.2.2.2.1
 rotate_left
 ·rw[show (!(s.2.2.1==x.2.2.2.2.1))=true by simp[hu],aiz,aiM (fun h=>hu h.2)]
 rw[show (!(s.2.2.1==x.2.2.2.2.1))=false by simp[hu],aiy,aiL (fun h=>h ⟨ha,hu⟩)]
 have n1:=vT hx.p
 have n2:=vT hs.pr
 have n3:=vT hx.q
 have m1:(bZ x.2.2.2.2.2.1*1000).natAbs<=10 ^ 24*1000:=Dy n1 (by decide)
 have m2:(bZ s.2.2.2.2.1*(1000+t.1)).natAbs<=10 ^ 24*2000:=Dy n2 (by omega)
 have m3:(bZ s.2.2.2.2.1*(1000+t.1)*x.2.2.2.2.2.2.1).natAbs<=10 ^ 24*2000*100000:=Dy m2 (by have:=hx.per;omega)
 rw[nE hx.p,aim,nD 1000 (by omega) (by omega),aim,jk _ _ (fQ (by omega)) (fQ (by omega)),aim,nE hs.pr,aim,
  Zv (by omega) ht1.1 ht1.2,aim,nD _ (by have:=hx.per;omega) (by have:=hx.per;omega),aim,jk _ _ (fQ (by omega)) (fQ (by have:=hx.per;omega)),aim,
  BU _ _ (fQ (by omega)) (fQ (by omega)),aim]
 dsimp only
 rw[Ut]
 by_cases hp:bZ s.2.2.2.2.1*(1000+t.1)*x.2.2.2.2.2.2.1<bZ x.2.2.2.2.2.1*1000
 ·rw[aG hp,aiM hp]
 rw[aK hp,aiL hp,nE hx.q,aim,hM x.2.1]
 obtain⟨b0,b1⟩:=hb x.2.1
 have m4:(b x.2.1+bZ x.2.2.2.1).natAbs<=10 ^ 27:=by omega
 have m5:((b x.2.1+bZ x.2.2.2.1)*1000).natAbs<=10 ^ 27*1000:=Dy m4 (by decide)
 have k0:=hs.k0;have k1:=hs.k1
 have m6:(fX s*(1000+t.2)).natAbs<=10 ^ 24*2000:=Dy (by omega) (by omega)
 rw[yG _ _ (fQ (by omega)) (fQ (by omega)),aim,jZ,aim]
 dsimp only
 rw[ado]
 by_cases hn:b x.2.1+bZ x.2.2.2.1<0
 ·rw[aG hn,aiM (.inl hn)]
 rw[aK hn,aim,jk _ _ (fQ (by omega)) (fQ (by omega)),aim,T3 hs,aim,Zv (by omega) ht2.1 ht2.2,aim,
  BU _ _ (fQ (by omega)) (fQ (by omega)),aim]
 dsimp only
 rw[Ut]
 by_cases hq:fX s*(1000+t.2)<(b x.2.1+bZ x.2.2.2.1)*1000
 ·rw[aG hq,aiM (.inr hq)]
 ·rw[aK hq,aiL (fun h=>h.elim hn hq)]
end Go.Md
set_option linter.all false
namespace Go.Md
open Go.Dn
theorem KP (st:List aq) (t:Int×Int) (i:Int):∀ (l:List ay) (k:Nat) (b:Int->Int),(fk st t i k l b).1.length<=l.length
 | [],_,_=>aik _
 | x::r,k,b=>by
  unfold fk
  split
  ·have:=KP st t i r (k+1) (DZ b x.2.1 (b x.2.1+bZ x.2.2.2.1))
   simp only[ag8];omega
  ·have:=KP st t i r (k+1) b
   simp only[ag8];omega
theorem T8 {o:aj} {l:List aa} {t:aH} {v:List ai} {S:yH} {M:CH} {out:qU} (line kind i:Int) (h:out.length<=1000000): fN line kind ((o,l,t,v,S,M,out,()):MB) (i,())=some (((o,l,t,v,S,M,out++[(i,line,kind)],()):MB),(i,()),()):=by
 have oY:maxLen=9223372036854775807:=rfl
 unfold fN
 dsimp only
 rw[bG (by rw[afP];exact⟨aiD (by omega),aiD (by omega)⟩)]
theorem YH {o:aj} {l:List aa} {t:aH} {v:List ai} (hc:dD o l=0) (ht1:0<=t.1/\t.1<=1000) (ht2:0<=t.2/\t.2<=1000) (i:Int) (y:ai) (ls:List ay) (hls:ls.length<=1000) (hx:∀ x∈ls,L8 x): ∀ (r:List ay) (k n:Nat) (S:yH) (M:CH) (b:Int->Int) (out:qU),ls.drop k=r->k<=ls.length->r.length<n->lY o l S->BOk M b->BB b->out.length+r.length<=1000000-> ∃ S' M',lY o l S'/\BOk M' (fk (stF o l y.2.2.1) t i k r b).2/\ iter (X:=ku) (β:=kr) n (ls,(ls.length:Int),(k:Int),i,y.1,y.2.1,y.2.2.1,y.2.2.2.1,y.2.2.2.2.1,y.2.2.2.2.2.1,y.2.2.2.2.2.2.1,y.2.2.2.2.2.2.2.1,y.2.2.2.2.2.2.2.2,o.1,o.2.1,o.2.2.1,o.2.2.2.1,o.2.2.2.2.1,o.2.2.2.2.2,l,t.1,t.2,v,S,M,out,()) gT =some (Sum.inr (o.1,o.2.1,o.2.2.1,o.2.2.2.1,o.2.2.2.2.1,o.2.2.2.2.2,l,t.1,t.2,v,S',M',out++(fk (stF o l y.2.2.1) t i k r b).1,())):=by
 obtain⟨o1,o2,o3,o4,o5,o6⟩:=o
 obtain⟨t1,t2⟩:=t
 obtain⟨y1,y2,y3,y4,y5,y6,y7,y8,y9⟩:=y
 dsimp only at*
 intro r
 induction r with
 | nil=>
  intro k n S M b out hdr hk hn hS hM hb ho
  have:k=ls.length:=by
   have:=congrArg List.length hdr
   simp at this;omega
  subst this
  obtain⟨n,rfl⟩:∃ m,n=m+1:=⟨n - 1,by omega⟩
  refine⟨S,M,hS,hM, ?_⟩
  rw[aX]
  unfold gT
  dsimp only
  rw[aK (by omega)]
  simp only[fk,agz]
 | cons x r ih=>
  intro k n S M b out hdr hk hn hS hM hb ho
  have hxk:ls[k]? =some x:=by
   have:=congrArg (·[0]?) hdr
   simpa [agT] using this
  have hr':ls.drop (k+1)=r:=by
   have:=congrArg List.tail hdr
   simpa [ahG] using this
  have hlt:=(agW.1 hxk).1
  have hbx:=hx x (ahu hxk)
  obtain⟨n,rfl⟩:∃ m,n=m+1:=⟨n - 1,by simp at hn;omega⟩
  simp only[ag8] at hn ho
  obtain⟨S1,hS1,e1⟩:=aeb (t:=(t1,t2)) (v:=v) (out:=out) hc ht1 ht2 hS hM hb y3 hbx
  rw[aX]
  generalize hag:(fun y=>iter n y gT)=again
  unfold gT fk
  dsimp only
  rw[aG (by omega),bD,hxk,aim,e1,aim]
  dsimp only
  by_cases h0:sS (stF (o1,o2,o3,o4,o5,o6) l y3) (t1,t2) x (b x.2.1+bZ x.2.2.2.1)=0
  ·obtain⟨z0,z1⟩:=Xm (aaX hc y3) ht2.2 h0
   have b1:=hb x.2.1
   have q1:=vT hbx.q
   rw[h0,zne,aiy,aiM rfl,nE hbx.q,aim,hM x.2.1,yG _ _ (fQ (by omega)) (fQ (by omega)),aim,ax (n:=(k:Int)+1) (by omega) (by omega), <- hag,show (k:Int)+1=((k+1:Nat):Int) by omega]
   exact ih (k+1) n S1 _ _ out hr' (by omega) (by omega) hS1 (hM.set x.2.1 _) (Y7 hb ⟨z0,z1⟩) (by omega)
  ·rw[bR h0,aiz,aiL h0,T8 _ _ _ (by omega),aim,ax (n:=(k:Int)+1) (by omega) (by omega), <- hag,show (k:Int)+1=((k+1:Nat):Int) by omega]
   obtain⟨S2,M2,g1,g2,g3⟩:=ih (k+1) n S1 M b (out++[(i,(k:Int),sS (stF (o1,o2,o3,o4,o5,o6) l y3) (t1,t2) x (b x.2.1+bZ x.2.2.2.1))]) hr' (by omega) (by omega) hS1 hM hb (by simp;omega)
   refine⟨S2,M2,g1,g2,g3.trans ?_⟩
   rw[agy];rfl
theorem KQ {y:ai} (h:jr y=0):(∀ x∈y.2.2.2.2.2.2.2.1,L8 x)/\y.2.2.2.2.2.2.2.1.length<=500:=⟨fun x hx=>adx ((vX h).lines x hx),(vX h).ln.2⟩
theorem aas {o:aj} {l:List aa} {t:aH} {v:List ai} {S:yH} {M:CH} {out:qU} {b:Int->Int} (hc:dD o l=0) (ht1:0<=t.1/\t.1<=1000) (ht2:0<=t.2/\t.2<=1000) (hv:v.length<=200) {i:Nat} {y:ai} (hy:v[i]? =some y) (hi:jr y=0) (hS:lY o l S) (hM:BOk M b) (hb:BB b) (ho:out.length+500<=1000000): ∃ S' M',lY o l S'/\BOk M' (ko o.1 (stF o l) t (v.take i) i y b).2/\jy ((o,l,t,v,S,M,out,()):MB) i=some (((o,l,t,v,S',M',out++(ko o.1 (stF o l) t (v.take i) i y b).1,()):MB),()):=by
 have hlt:=(agW.1 hy).1
 obtain⟨hx,hll⟩:=KQ hi
 unfold jy ko
 dsimp only
 rw[bD,hy,aim]
 by_cases hn:y.2.1=o.1
 rotate_left
 ·rw[show (!(y.2.1==o.1))=true by simp[hn],aiz,aiM hn,T8 _ _ _ (by omega),aim]
  exact⟨S,M,hS,hM,rfl⟩
 rw[show (!(y.2.1==o.1))=false by simp[hn],aiy,aiL (fun h=>h hn),bG (by simp;omega),agq,agG,Tr _ _ (by rw[ahe];omega),aim]
 dsimp only
 cases ha:(v.take i).any fun u=>u.1==y.1 with
 | true=>
  rw[aiz,aiM rfl,T8 _ _ _ (by omega),aim]
  exact⟨S,M,hS,hM,rfl⟩
 | false=>
  rw[aiy,aiL (by decide)]
  obtain⟨S',M',g1,g2,g3⟩:=YH (v:=v) hc ht1 ht2 (i:Int) y y.2.2.2.2.2.2.2.1 (by omega) hx y.2.2.2.2.2.2.2.1 0 (y.2.2.2.2.2.2.2.1.length+(Int.natAbs ((y.2.2.2.2.2.2.2.1.length:Int))+(Int.natAbs (0:Int)+(Int.natAbs (i:Int)+(y.1.length+(y.2.1.length+(y.2.2.1.natAbs+(y.2.2.2.1.natAbs+(y.2.2.2.2.1.natAbs+(y.2.2.2.2.2.2.1.length+(y.2.2.2.2.2.2.2.1.length+(y.2.2.2.2.2.2.2.2.length+(o.1.length+(o.2.1.length+(o.2.2.1.length+(o.2.2.2.1.natAbs+(o.2.2.2.2.1.natAbs+(o.2.2.2.2.2.length+(List.length l+(t.1.natAbs+(t.2.natAbs+(List.length v+(List.length S+(List.length M+(List.length out+2)))))))))))))))))))))))))
   S M b out rfl (aik _) (ah1 (by with_reducible repeat (first | exact ail | refine ah0 _ ?_))) hS hM hb (by omega)
  refine⟨S',M',g1,g2, ?_⟩
  refine (congrArg (fun q=>aB q _) g3).trans ?_
  rfl
end Go.Md
set_option linter.all false
set_option maxRecDepth 20000
namespace Go.Md
open Go.Dn
theorem acD (t:aH):kF t=some (Es t,()):=by
 unfold kF Es
 rw[eA,aim]
 dsimp only
 by_cases h1:t.1<0\/1000<t.1
 ·rw[aiD h1,aiz,aiM (by omega)]
 ·rw[aiB h1,aiy,eA,aim]
  dsimp only
  by_cases h2:t.2<0\/1000<t.2
  ·rw[aiD h2,aiz,aiM (by omega)]
  ·rw[aiB h2,aiy,aiL (by omega)]
theorem NR {v:List ai} {i:Nat} (x:ai) (hi:i<v.length) (hv:v.length<=200): (bif decide ((i:Int)>0) then Option.bind (idx v (w64 ((i:Int) - 1))) fun y4=>some (decide (x.2.2.1<y4.2.2.1),()) else some (false,()))=some ((bL v i).any fun q=>decide (x.2.2.1<q.2.2.1),()):=by
 cases i with
 | zero=>rfl
 | succ j=>
  have hj:v[j]? =some v[j]:=agU (by omega)
  rw[aG (by omega),ax (by omega) (by omega),show ((j+1:Nat):Int) - 1=(j:Int) by omega,bD,hj,aim]
  show _=some ((v[j]?).any _,())
  rw[hj];rfl
def aaO {γ:Type} (z:Int) (g:γ):((Option Nat)×Int×Unit) ⊕ γ:=if z≠0 then Sum.inl (none,z,()) else Sum.inr g
theorem Um {γ:Type} {z:Int} (h:z≠0) (g:γ):aaO z g=Sum.inl (none,z,()):=aiM h
theorem aeZ {γ:Type} (g:γ):aaO 0 g=Sum.inr g:=rfl
theorem VW {o:aj} {l:List aa} {t:aH} {v:List ai} (hv:v.length<=200):∀ (r:List ai) (i n:Nat),v.drop i=r->i<=v.length->r.length<n-> iter (X:=ni) (β:=nh) n (l,v,v,(v.length:Int),(i:Int),o.1,o.2.1,o.2.2.1,o.2.2.2.1,o.2.2.2.2.1,o.2.2.2.2.2,t.1,t.2,()) jx =some (aaO (gV (bL v i) r) (l,v,o.1,o.2.1,o.2.2.1,o.2.2.2.1,o.2.2.2.2.1,o.2.2.2.2.2,t.1,t.2,())):=by
 intro r
 induction r with
 | nil=>
  intro i n hdr hi hn
  have:i=v.length:=by
   have:=congrArg List.length hdr
   simp at this;omega
  subst this
  obtain⟨n,rfl⟩:∃ m,n=m+1:=⟨n - 1,by omega⟩
  rw[aX]
  unfold jx
  dsimp only
  rw[aK (by omega),gV,aeZ]
 | cons x r ih=>
  intro i n hdr hi hn
  have hxi:v[i]? =some x:=by
   have:=congrArg (·[0]?) hdr
   simpa [agT] using this
  have hr':v.drop (i+1)=r:=by
   have:=congrArg List.tail hdr
   simpa [ahG] using this
  have hlt:=(agW.1 hxi).1
  obtain⟨n,rfl⟩:∃ m,n=m+1:=⟨n - 1,by simp at hn;omega⟩
  simp only[ag8] at hn
  have ep:bL v (i+1)=some x:=hxi
  rw[aX]
  generalize hag:(fun y=>iter n y jx)=again
  unfold jx
  dsimp only
  rw[aG (by omega),bD,hxi,aim,nc,aim]
  dsimp only
  rw[gV]
  by_cases h0:jr x=0
  rotate_left
  ·rw[bR h0,aiz,aiM h0,Um h0]
  rw[aiL (fun h=>h h0),h0,zne,aiy,NR x hlt hv,aim]
  dsimp only
  cases hp:(bL v i).any fun q=>decide (x.2.2.1<q.2.2.1) with
  | true=>rw[aiz,aiM rfl,Um (by decide)]
  | false=>
   rw[aiy,aiL (by decide),ax (n:=(i:Int)+1) (by omega) (by omega), <- hag,show (i:Int)+1=((i+1:Nat):Int) by omega]
   exact (ih (i+1) n hr' (by omega) (by omega)).trans (by rw[ep])
theorem Xs {o:aj} {l:List aa} {t:aH} {v:List ai} (hv:v.length<=200):∀ (r:List ai) (i n:Nat),v.drop i=r->i<=v.length->r.length<n->gV (bL v i) r=0-> iter (X:=pN) (β:=pM) n (l,v,v,(v.length:Int),(i:Int),o.1,o.2.1,o.2.2.1,o.2.2.2.1,o.2.2.2.2.1,o.2.2.2.2.2,t.1,t.2,()) lF =some (Sum.inr (l,v,o.1,o.2.1,o.2.2.1,o.2.2.2.1,o.2.2.2.2.1,o.2.2.2.2.2,t.1,t.2,())):=by
 intro r
 induction r with
 | nil=>
  intro i n hdr hi hn _
  have:i=v.length:=by
   have:=congrArg List.length hdr
   simp at this;omega
  subst this
  obtain⟨n,rfl⟩:∃ m,n=m+1:=⟨n - 1,by omega⟩
  rw[aX]
  unfold lF
  dsimp only
  rw[aK (by omega)]
 | cons x r ih=>
  intro i n hdr hi hn hz
  have hxi:v[i]? =some x:=by
   have:=congrArg (·[0]?) hdr
   simpa [agT] using this
  have hr':v.drop (i+1)=r:=by
   have:=congrArg List.tail hdr
   simpa [ahG] using this
  have hlt:=(agW.1 hxi).1
  obtain⟨n,rfl⟩:∃ m,n=m+1:=⟨n - 1,by simp at hn;omega⟩
  simp only[ag8] at hn
  have ep:bL v (i+1)=some x:=hxi
  simp only[gV] at hz
  split at hz
  ·rename_i h1;exact absurd hz h1
  rename_i h1
  have h0:jr x=0:=af8 h1
  split at hz
  ·cases hz
  rename_i h2
  rw[aX]
  generalize hag:(fun y=>iter n y lF)=again
  unfold lF
  dsimp only
  rw[aG (by omega),bD,hxi,aim,nc,aim]
  dsimp only
  rw[h0,zne,aiy,NR x hlt hv,aim]
  dsimp only
  rw[Bool.eq_false_iff.2 h2,aiy,ax (n:=(i:Int)+1) (by omega) (by omega), <- hag,show (i:Int)+1=((i+1:Nat):Int) by omega]
  exact ih (i+1) n hr' (by omega) (by omega) (by rw[ep];exact hz)
theorem T7 (o:aj) (l:List aa) (t:aH) (v:List ai):sK o l t v=if mF o l t v≠0 then some (none,mF o l t v,()) else none:=by
 unfold sK mF dD
 rw[oJ,aim]
 dsimp only
 by_cases h1:jt o=0
 rotate_left
 ·rw[bR h1,aiz,aiM h1,aiM h1,aiM h1]
 rw[h1,zne,aiy,uP,aim]
 dsimp only
 rw[aiL (show ¬((0:Int)≠0) by decide)]
 by_cases h2:lG l=0
 rotate_left
 ·rw[bR h2,aiz,aiM h2,aiM h2]
 rw[h2,zne,aiy,acD,aim]
 dsimp only
 rw[aiL (show ¬((0:Int)≠0) by decide)]
 by_cases h3:Es t=0
 rotate_left
 ·rw[bR h3,aiz,aiM h3,aiM h3]
 rw[h3,zne,aiy]
 rw[aiL (show ¬((0:Int)≠0) by decide)]
 by_cases h4:200<v.length
 ·rw[aG (by omega),aiM h4,aiM (by decide)]
 rw[aK (by omega),aiL h4]
 refine (congrArg (fun q=>aB q _) (VW (o:=o) (l:=l) (t:=t) (v:=v) (by omega) v 0 _ rfl (aik _) (ah0 _ (ah1 (by with_reducible repeat (first | exact ail | refine ah0 _ ?_)))))).trans ?_
 show aB (some (aaO (gV none v) _)) _=_
 by_cases h5:gV none v=0
 ·rw[h5];rfl
 ·rw[Um h5,aiM h5];rfl
theorem Xr {o:aj} {l:List aa} {t:aH} {v:List ai} (h:MOk o l t v):xk o l t v=some (((o,l,t,v,[],[],[],()):MB),0,()):=by
 obtain⟨h1,h2⟩:=Hu h.chk
 have h3:Es t=0:=by
  unfold Es
  have:=h.t1;have:=h.t2
  rw[aiL (by omega)]
 unfold xk
 rw[oJ,aim]
 dsimp only
 rw[h1,zne,aiy,uP,aim]
 dsimp only
 rw[h2,zne,aiy,acD,aim]
 dsimp only
 have h4:=h.len
 rw[h3,zne,aiy,aK (by omega)]
 refine (congrArg (fun q=>aB q _) (Xs (o:=o) (l:=l) (t:=t) (v:=v) h4 v 0 _ rfl (aik _) (ah0 _ (ah1 (by with_reducible repeat (first | exact ail | refine ah0 _ ?_)))) h.go)).trans ?_
 rfl
theorem adG {a r:Nat} (h:a+500*(r+1)<=900000):a+500<=1000000:=by omega
theorem adH {a r c:Nat} (h:a+500*(r+1)<=900000) (hc:c<=500):a+c+500*r<=900000:=by omega
theorem adJ:BOk [] (fun _=>0):=fun n=>by
 show (false,[])=W 0
 decide
theorem Y4:BB (fun _=>0):=fun n=>by
 exact⟨Int.le_refl _,by show (0:Int)<=10 ^ 26;decide⟩
theorem X4 (o:aj) (l:List aa):lY o l []:=fun d s h=>by cases h
end Go.Md
set_option linter.all false
set_option maxRecDepth 20000
namespace Go.Md
open Go.Dn
theorem YI:Ns=some (true,()):=by kernel_rfl
theorem Xg {num:Bys} {stf:Int->List aq} {t:Int×Int} {pre:List ai} {i:Int} {x:ai} {b:Int->Int} (h:jr x=0):(ko num stf t pre i x b).1.length<=500:=by
 unfold ko
 split
 ·simp
 ·split
  ·simp
  ·have:=KP (stf x.2.2.1) t i x.2.2.2.2.2.2.2.1 0 b
   have:=(KQ h).2
   omega
end Go.Md
set_option linter.all false
set_option maxRecDepth 20000
namespace Go.Md
open Go.Dn
def kqZ (s:aq):Int:=fX s / 1000000
theorem acA {o:aj} {l:List aa} (h:dD o l=0) {d:Int} {s:aq} (hs:s∈stF o l d):fX s=kqZ s*1000000/\0<=kqZ s/\kqZ s<=1000000000000000:=by
 obtain⟨x,hx,hp,rfl⟩:=Uw h hs
 have h1:=hx.ret0;have h2:=hx.retr;have h3:=hx.rcvs;have h4:=hx.shp1
 have hk:=KO hx
 unfold kqZ
 rw[hk,Int.mul_ediv_cancel _ (by decide)]
 exact⟨rfl,by omega,by omega⟩
theorem Ng {m:Int} (h:m.natAbs<=1000000000000000):ke (W (m*1000000)) 9=some (bQ m,0,()):=by
 have e:=FA (m*1000000) (fQ (by omega)) 9 (by decide)
 rw[show ((9:Nat):Int)=9 from rfl] at e
 have f:few 9 (m*1000000)=few 3 m:=Nf 6 3 m
 rw[f] at e
 obtain⟨h1,h2,h3⟩:=Ci 3 m
 rw[aiM (by omega)] at e
 exact e
def mK (rate:Bys):Nat->List aq->List ay
 | _,[]=>[]
 | k,s::r=>if fX s<=0 then mK rate k r else (((k:Int)+1),s.1,s.2.1,bQ (kqZ s),s.2.2.1,s.2.2.2.2.1,1,[],rate)::mK rate (k+1) r
abbrev Ou:ai:=([],[],0,0,0,false,[],[],[])
def zG (like:ai):Bys:=(like.2.2.2.2.2.2.1.headD ([],(0,0))).1
def rF (o:aj) (l:List aa) (num:Bys) (like:ai):ai:=
 (num,o.1,like.2.2.1,like.2.2.2.1,like.2.2.2.2.1,like.2.2.2.2.2.1,like.2.2.2.2.2.2.1,mK (zG like) 0 (stF o l 3652059),[])
def blF (o:aj) (l:List aa) (num:Bys) (like:ai):Int:=
 if dD o l≠0 then dD o l else if bU num=false then 5 else if jr like≠0 then jr like else if mK (zG like) 0 (stF o l 3652059)=[] then 9 else jr (rF o l num like)
theorem Ft {o:aj} {l:List aa} (hc:dD o l=0) (d:Int):(stF o l d).length<=500:=by
 unfold stF
 split
 ·rw[aha,(eL _).length_eq]
  exact (Fy hc 0 d).2.len
 ·simp
theorem Mx {l:List aD} (h0:0<l.length) (h1:l.length<=20):ji l=some (l,()):=by
 have oY:maxLen=9223372036854775807:=rfl
 unfold ji
 rw[show List.isEmpty l=false by cases l with | nil=>simp at h0 | cons a r=>rfl,aiy,bG (by rw[afP];exact⟨aiD (by omega),aiD (by omega)⟩)]
theorem XO (x:Int):decide (x.sign<=0)=decide (x<=0):=by
 rcases Int.lt_trichotomy x 0 with h | h | h
 ·rw[agm h,aiD (show x<=0 by omega)];rfl
 ·subst h;rfl
 ·rw[agn h,aiB (show ¬x<=0 by omega)];rfl
theorem Ya {st:List aq} (hst:∀ s∈st,StaOk s/\fX s=kqZ s*1000000/\0<=kqZ s/\kqZ s<=1000000000000000) (hlen:st.length<=500) {like:ai} {r0:aD} {rr:List aD} (hr:like.2.2.2.2.2.2.1=r0::rr) (n1 n2:Bys) (p1 p2 p3:Int) (p4:Bool) (ex:List aQ) (q:List aD): ∀ (r:List aq) (i n:Nat) (B:List ay),st.drop i=r->i<=st.length->r.length<n->B.length<=i-> iter (X:=u7) (β:=u6) n (st,(st.length:Int),(i:Int),like.1,like.2.1,like.2.2.1,like.2.2.2.1,like.2.2.2.2.1,like.2.2.2.2.2.1,like.2.2.2.2.2.2.1,like.2.2.2.2.2.2.2.1,like.2.2.2.2.2.2.2.2,[],[],0,0,0,false,[],[],[],n1,n2,p1,p2,p3,p4,B,ex,q,()) pL =some (Sum.inr ([],[],0,0,0,false,[],[],[],n1,n2,p1,p2,p3,p4,B++mK r0.1 B.length r,ex,q,())):=by
 have oY:maxLen=9223372036854775807:=rfl
 obtain⟨v1,v2,v3,v4,v5,v6,v7,v8,v9⟩:=like
 dsimp only at hr ⊢
 subst hr
 intro r
 induction r with
 | nil=>
  intro i n B hdr hi hn hB
  have:i=st.length:=by
   have:=congrArg List.length hdr
   simp at this;omega
  subst this
  obtain⟨n,rfl⟩:∃ m,n=m+1:=⟨n - 1,by omega⟩
  rw[aX]
  unfold pL
  dsimp only
  rw[aK (by omega)]
  simp only[mK,agz]
 | cons s r ih=>
  intro i n B hdr hi hn hB
  have hsi:st[i]? =some s:=by
   have:=congrArg (·[0]?) hdr
   simpa [agT] using this
  have hr':st.drop (i+1)=r:=by
   have:=congrArg List.tail hdr
   simpa [ahG] using this
  have hlt:=(agW.1 hsi).1
  obtain⟨hs,hk,hk0,hk1⟩:=hst s (ahu hsi)
  obtain⟨n,rfl⟩:∃ m,n=m+1:=⟨n - 1,by simp at hn;omega⟩
  simp only[ag8] at hn
  rw[aX]
  generalize hag:(fun y=>iter n y pL)=again
  unfold pL mK
  dsimp only
  rw[aG (by omega),bD,hsi,aim,T3 hs,aim,jZ,aim]
  dsimp only
  rw[XO]
  by_cases h0:fX s<=0
  ·rw[aG h0,aiM h0,ax (n:=(i:Int)+1) (by omega) (by omega), <- hag,show (i:Int)+1=((i+1:Nat):Int) by omega]
   exact ih (i+1) n B hr' (by omega) (by omega) (by omega)
  ·rw[aK h0,aiL h0,hk,Ng (by omega),aim]
   dsimp only
   rw[zne,aiy,show idx (r0::rr) 0=some r0 from rfl,aim,bG (by rw[afP];exact⟨aiD (by omega),aiD (by omega)⟩),ax (n:=(i:Int)+1) (by omega) (by omega),ax (n:=(B.length:Int)+1) (by omega) (by omega), <- hag,show (i:Int)+1=((i+1:Nat):Int) by omega]
   refine (ih (i+1) n _ hr' (by omega) (by omega) (by simp;omega)).trans ?_
   rw[agy,ag7]
   rfl
theorem To (o:aj) (l:List aa) (num:Bys) (like:ai):CJ o l num like=some (if blF o l num like≠0 then Ou else rF o l num like,blF o l num like,()):=by
 have hln:lnF o l 3652059=dD o l:=by
  unfold lnF
  by_cases h:dD o l=0
  ·rw[aiL (fun e=>e h),aiM (by omega),h]
  ·rw[aiM h]
 unfold CJ
 rw[oJ,aim]
 dsimp only
 by_cases h1:jt o=0
 rotate_left
 ·have:blF o l num like=jt o:=by
   have e:dD o l=jt o:=by unfold dD;rw[aiM h1]
   unfold blF;rw[e,aiM h1]
  rw[bR h1,aiz,this,aiM h1]
 rw[h1,zne,aiy,Gq,aim]
 dsimp only
 rw[hln]
 by_cases h2:dD o l=0
 rotate_left
 ·have:blF o l num like=dD o l:=by unfold blF;rw[aiM h2]
  rw[bR h2,aiz,this,aiM h2]
 have est:(if dD o l=0 then (bT (uJ o l 0 3652059).1).map bM else [])=stF o l 3652059:=by unfold stF;rw[hln]
 rw[est,h2,zne,aiy,mH,aim]
 dsimp only
 have hb:∀ z,blF o l num like=z->True:=fun _ _=>trivial
 cases h3:bU num with
 | false=>
  have:blF o l num like=5:=by unfold blF;rw[aiL (fun e=>e h2),h3,aiM rfl]
  rw[show (!false)=true from rfl,aiz,this,aiM (by decide)]
 | true=>
 rw[show (!true)=false from rfl,aiy,nc,aim]
 dsimp only
 by_cases h4:jr like=0
 rotate_left
 ·have:blF o l num like=jr like:=by unfold blF;rw[aiL (fun e=>e h2),h3,aiL (by decide),aiM h4]
  rw[bR h4,aiz,this,aiM h4]
 have hrn:=(vX h4).rn
 rw[h4,zne,aiy,Mx hrn.1 hrn.2,aim]
 dsimp only
 obtain⟨r0,rr,hr⟩:∃ r0 rr,like.2.2.2.2.2.2.1=r0::rr:=by
  cases hh:like.2.2.2.2.2.2.1 with
  | nil=>rw[hh] at hrn;simp at hrn
  | cons a b=>exact⟨a,b,rfl⟩
 have hrate:zG like=r0.1:=by unfold zG;rw[hr];rfl
 have loop:=Ya (st:=stF o l 3652059) (fun s hs=>⟨SX h2 _ s hs,acA h2 hs⟩) (Ft h2 _) hr num o.1 like.2.2.1 like.2.2.2.1 like.2.2.2.2.1 like.2.2.2.2.2.1 [] like.2.2.2.2.2.2.1 (stF o l 3652059) 0
  (List.length (stF o l 3652059)+(Int.natAbs ((List.length (stF o l 3652059):Int))+(Int.natAbs (0:Int)+(List.length like.1+(List.length like.2.1+(Int.natAbs like.2.2.1+(Int.natAbs like.2.2.2.1+(Int.natAbs like.2.2.2.2.1+(List.length like.2.2.2.2.2.2.1+(List.length like.2.2.2.2.2.2.2.1+(List.length like.2.2.2.2.2.2.2.2+(List.length ([]:Bys)+(List.length ([]:Bys)+(Int.natAbs (0:Int)+(Int.natAbs (0:Int)+(Int.natAbs (0:Int)+(List.length ([]:List aD)+(List.length ([]:List ay)+(List.length ([]:List aQ)+(List.length num+(o.1.length+(Int.natAbs like.2.2.1+(Int.natAbs like.2.2.2.1+(Int.natAbs like.2.2.2.2.1+(List.length ([]:List ay)+(List.length ([]:List aQ)+(List.length like.2.2.2.2.2.2.1+2)))))))))))))))))))))))))))
  [] rfl (aik _) (ah1 (by with_reducible repeat (first | exact ail | refine ah0 _ ?_))) (ahY _)
 refine (congrArg (fun q=>aB q _) loop).trans ?_
 rw[aR]
 dsimp only
 rw[ahy, <- hrate]
 show (bif ((List.length (mK (zG like) 0 (stF o l 3652059)):Int))==0 then _ else _)=_
 by_cases h5:mK (zG like) 0 (stF o l 3652059)=[]
 ·have:blF o l num like=9:=by unfold blF;rw[aiL (fun e=>e h2),h3,aiL (by decide),aiL (fun e=>e h4),aiM h5]
  rw[h5,this];rfl
 have hne:((List.length (mK (zG like) 0 (stF o l 3652059)):Int)==0)=false:=by
  rw[aiv]
  intro e
  exact h5 (List.length_eq_zero_iff.1 (by omega))
 have hbl:blF o l num like=jr (rF o l num like):=by unfold blF;rw[aiL (fun e=>e h2),h3,aiL (by decide),aiL (fun e=>e h4),aiL h5]
 rw[hne,aiy,hbl]
 refine (congrArg (fun q=>Option.bind q _) (nc (rF o l num like))).trans ?_
 rw[aim]
 dsimp only
 by_cases h6:jr (rF o l num like)=0
 ·rw[h6];rfl
 ·rw[bR h6,aiz,aiM h6]
end Go.Md
set_option linter.all false
set_option maxRecDepth 20000
namespace Go.Md
open Go.Dn
end Go.Md
