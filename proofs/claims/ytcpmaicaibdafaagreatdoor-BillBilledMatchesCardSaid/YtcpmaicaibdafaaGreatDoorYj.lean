/-
  Plain facts: invoices laid beside an order; the plain laws are true of all data. No condition.
-/
import Derived.Test.YtcpmaicaibdafaaGreatDoorYk
import Derived.Test.YtcpmaicaibdafaaGreatDoorYr
import Derived.Test.YtcpmaicaibdafaaGreatDoorYx
import Derived.Test.YtcpmaicaibdafaaGreatDoorYq
set_option linter.all false
set_option linter.all false
namespace Go.Md
open Go.Dn
def dz (s:ax):Int:=jX s.2.2.2.2.2.2.2.1 - jX s.2.2.2.2.2.2.2.2.1
def uY (st:List ax) (t:Int×Int) (x:aD) (n:Int):Int:=
 match st.find? (fun s=>s.1==x.2.1) with
 | none=>3
 | some s=>if ¬(s.2.1=x.2.2.1∧s.2.2.1=x.2.2.2.2.1) then 4
  else if jX s.2.2.2.2.1*(1000+t.1)*x.2.2.2.2.2.2.1<jX x.2.2.2.2.2.1*1000 then 5
  else if n<0∨dz s*(1000+t.2)<n*1000 then 6 else 0
abbrev wA:=List (Int×Int×Int)
def GY (b:Int→Int) (k z:Int):Int→Int:=fun n=>if n=k then z else b n
def kV (st:List ax) (t:Int×Int) (i:Int):Nat→List aD→(Int→Int)→wA×(Int→Int)
 | _,[],b=>([],b)
 | k,x::r,b=>if uY st t x (b x.2.1+jX x.2.2.2.1)=0 then kV st t i (k+1) r (GY b x.2.1 (b x.2.1+jX x.2.2.2.1))
  else ((i,(k:Int),uY st t x (b x.2.1+jX x.2.2.2.1))::(kV st t i (k+1) r b).1,(kV st t i (k+1) r b).2)
def sG (num:Bys) (stf:Int→List ax) (t:Int×Int) (pre:List aj) (i:Int) (v:aj) (b:Int→Int):wA×(Int→Int):=
 if v.2.1≠num then ([(i, -1,1)],b)
 else if (pre.any fun u=>u.1==v.1)=true then ([(i, -1,2)],b)
 else kV (stf v.2.2.1) t i 0 v.2.2.2.2.2.2.2.1 b
def tP (num:Bys) (stf:Int→List ax) (t:Int×Int):List aj→List aj→(Int→Int)→wA×(Int→Int)
 | _,[],b=>([],b)
 | pre,v::r,b=>((sG num stf t pre pre.length v b).1++(tP num stf t (pre++[v]) r (sG num stf t pre pre.length v b).2).1,(tP num stf t (pre++[v]) r (sG num stf t pre pre.length v b).2).2)
def BB (b:Int→Int):Prop:=∀ n,0≤b n∧b n≤10 ^ 26
def StB (st:List ax):Prop:=∀ s∈st,0≤dz s∧dz s≤10 ^ 24
theorem Tc {st:List ax} {t:Int×Int} {x:aD} {n:Int} (h:uY st t x n=0):∃ s,st.find? (fun s=>s.1==x.2.1)=some s∧0≤n∧n*1000≤dz s*(1000+t.2):=by
 unfold uY at h
 split at h
 ·cases h
 ·rename_i s hs
  split at h
  ·cases h
  split at h
  ·cases h
  split at h
  ·cases h
  ·exact⟨s,hs,by omega,by omega⟩
theorem QS {st:List ax} {t:Int×Int} {x:aD} {n:Int} (hst:StB st) (ht:t.2≤1000) (h:uY st t x n=0):0≤n∧n≤10 ^ 26:=by
 obtain⟨s,hs,h1,h2⟩:=Tc h
 obtain⟨h3,h4⟩:=hst s (List.mem_of_find?_eq_some hs)
 have h5:dz s*(1000+t.2)≤dz s*2000:=X9 (by omega) h3
 exact⟨h1,by omega⟩
theorem R2 {b:Int→Int} {k z:Int} (h:BB b) (hz:0≤z∧z≤10 ^ 26):BB (GY b k z):=fun n=>by
 unfold GY
 split
 ·exact hz
 ·exact h n
theorem Is {st:List ax} {t:Int×Int} {i:Int} (hst:StB st) (ht:t.2≤1000):∀ (l:List aD) (k:Nat) (b:Int→Int),BB b→BB (kV st t i k l b).2
 | [],_,_,h=>h
 | x::r,k,b,h=>by
  unfold kV
  split
  ·rename_i h0
   exact Is hst ht r _ _ (R2 h (QS hst ht h0))
  ·exact Is hst ht r _ _ h
theorem Sc {num:Bys} {stf:Int→List ax} {t:Int×Int} {pre:List aj} {i:Int} {v:aj} {b:Int→Int} (hst:∀ d,StB (stf d)) (ht:t.2≤1000) (h:BB b):BB (sG num stf t pre i v b).2:=by
 unfold sG
 split
 ·exact h
 ·split
  ·exact h
  ·exact Is (hst _) ht _ _ _ h
def D5 (t:Int×Int):Int:=if t.1<0∨1000<t.1∨t.2<0∨1000<t.2 then 1 else 0
def jh:Option aj→List aj→Int
 | _,[]=>0
 | p,x::r=>if jG x≠0 then jG x else if (p.any fun q=>decide (x.2.2.1<q.2.2.1))=true then 8 else jh (some x) r
def mF (o:ai) (l:List aa) (t:Int×Int) (v:List aj):Int:=
 if eo o l≠0 then eo o l else if D5 t≠0 then D5 t else if 200<v.length then 2 else jh none v
structure MOk (o:ai) (l:List aa) (t:Int×Int) (v:List aj):Prop where
 chk:eo o l=0
 t1:0≤t.1∧t.1≤1000
 t2:0≤t.2∧t.2≤1000
 len:v.length≤200
 go:jh none v=0
theorem Wi {o:ai} {l:List aa} {t:Int×Int} {v:List aj} (h:mF o l t v=0):MOk o l t v:=by
 unfold mF at h
 split at h
 ·omega
 rename_i h1
 split at h
 ·omega
 rename_i h2
 split at h
 ·omega
 rename_i h3
 have h2':D5 t=0:=by omega
 unfold D5 at h2'
 split at h2'
 ·cases h2'
 ·exact⟨by omega,by omega,by omega,by omega,h⟩
theorem VJ {o:ai} {l:List aa} {t:Int×Int} {v:List aj} (h:MOk o l t v):mF o l t v=0:=by
 obtain⟨h1,h2,h3,h4,h5⟩:=h
 unfold mF
 rw[aam (by omega),aam,aam (by omega),h5]
 unfold D5
 rw[aam (by omega)]
 decide
theorem MF:∀ (a c:List aj) (p:Option aj),jh p (a++c)=0→jh p a=0
 | [],_,_,_=>rfl
 | x::a,c,p,h=>by
  simp only[Yp,jh] at h ⊢
  split at h
  ·rename_i h1;rw[aan h1];exact h
  ·rename_i h1
   rw[aam h1]
   split at h
   ·cases h
   ·rename_i h2;rw[aam h2];exact MF a c _ h
theorem FE:∀ {v:List aj} {p:Option aj},jh p v=0→∀ x∈v,jG x=0
 | [],_,_,x,hx=>by cases hx
 | y::r,p,h,x,hx=>by
  simp only[jh] at h
  split at h
  ·rename_i h1;exact absurd h h1
  rename_i h1
  split at h
  ·cases h
  rcases Y7.1 hx with rfl | hx
  ·exact X5 h1
  ·exact FE h x hx
theorem MOk.take {o:ai} {l:List aa} {t:Int×Int} {v:List aj} (h:MOk o l t v) (k:Nat):MOk o l t (v.take k):=
 ⟨h.chk,h.t1,h.t2,by rw[Y1];have:=h.len;omega,MF _ (v.drop k) _ (by rw[Zr];exact h.go)⟩
def stF (o:ai) (l:List aa) (d:Int):List ax:=if lnF o l d=0 then (iB (vn o l 0 d).1).map jv else []
structure LD (s:ax):Prop where
 pr:dV s.2.2.2.2.1
 rc:dV s.2.2.2.2.2.2.2.1
 rt:dV s.2.2.2.2.2.2.2.2.1
 k0:0≤dz s
 k1:dz s≤10 ^ 24
theorem SD {o:ai} {l:List aa} {d:Int} {s:ax} (h:eo o l=0) (hs:s∈stF o l d):∃ x,LOk x∧Dd x∧s=jv x:=by
 unfold stF at hs
 split at hs
 ·obtain⟨x,hx,rfl⟩:=Zc.1 hs
  have hx':=(qM _).mem_iff.1 hx
  have hg:=(Bz h 0 d).1
  exact⟨x,(hg.sound.line x hx').1,hg.pr x hx',rfl⟩
 ·cases hs
theorem MI {x:ak} (hx:LOk x):dz (jv x)=(x.rcv - x.ret)*1000000:=by
 have h1:=hx.ret0;have h2:=hx.retr;have h3:=hx.rcvs;have h4:=hx.shp1
 show jX (pT x.rcv) - jX (pT x.ret)=_
 rw[(BO (n:=x.rcv) (by omega)).2,(BO (n:=x.ret) (by omega)).2]
 omega
theorem Vz {x:ak} (hx:LOk x) (hp:Dd x):LD (jv x):=by
 have h1:=hx.ret0;have h2:=hx.retr;have h3:=hx.rcvs;have h4:=hx.shp1
 obtain⟨p1,p2,p3,p4⟩:=hp
 obtain⟨g1,g2,g3⟩:=EB x.price.2.toNat x.price.1
 have hk:=MI hx
 refine⟨⟨by show (few x.price.2.toNat x.price.1).1.natAbs≤_;omega,by show (0:Int)≤((few x.price.2.toNat x.price.1).2:Int);omega,by show ((few x.price.2.toNat x.price.1).2:Int)≤9;omega⟩,(BO (n:=x.rcv) (by omega)).1,(BO (n:=x.ret) (by omega)).1,by rw[hk];omega,by rw[hk];omega⟩
theorem IX {o:ai} {l:List aa} (h:eo o l=0) (d:Int):∀ s∈stF o l d,LD s:=fun s hs=>by
 obtain⟨x,hx,hp,rfl⟩:=SD h hs
 exact Vz hx hp
theorem TD {o:ai} {l:List aa} (h:eo o l=0) (d:Int):StB (stF o l d):=fun s hs=>⟨(IX h d s hs).k0,(IX h d s hs).k1⟩
theorem yT {d:ah} (h:dV d):(jX d).natAbs≤10 ^ 24:=by
 unfold jX
 have h1:=h.1
 rw[Yb]
 have h2:((10:Int) ^ (9 - d.2).toNat).natAbs≤10 ^ 9:=by
  rw[Int.natAbs_pow]
  exact ZU (by decide) (by have:=h.2.1;omega)
 have h3:=Nat.mul_le_mul h1 h2
 omega
theorem fF {n:Nat} (h:n≤10 ^ 60):n<4294967296 ^ 99:=by
 have h1:(10:Nat) ^ 60<4294967296 ^ 99:=by decide
 omega
theorem mN {d:ah} (h:dV d):jb d=some (W (jX d),()):=by
 obtain⟨h1,h2,h3⟩:=h
 unfold jb
 rw[Ky d 9 (by omega) (by omega) (by omega) (by omega) (by omega),ZZ]
 rfl
end Go.Md
set_option linter.all false
namespace Go.Md
open Go.Dn
abbrev MB:=ai×(List aa)×aX×(List aj)×(List (Int×(List ax)))×(List (Int×aF))×(List bG)×Unit
abbrev vW:=List (Int×List ax)
abbrev zB:=List (Int×aF)
def lq (o:ai) (l:List aa) (S:vW):Prop:=∀ d s,bM (k:=tI) (v:= .slice bH) S d=some s→s=stF o l d
def BOk (M:zB) (b:Int→Int):Prop:=∀ n,Option.getD (α:=aF) (bM (k:=tI) (v:=aS) M n) (false,[])=W (b n)
theorem E2 (a b:(tI).den):Ty.beq tI a b=true↔a=b:=by
 show ((show Int from a)==(show Int from b))=true↔_
 exact beq_iff_eq
theorem lq.set {o:ai} {l:List aa} {S:vW} (h:lq o l S) (d:Int):lq o l (jY (k:=tI) (v:= .slice bH) S d (stF o l d)):=fun n s hs=>by
 have e:= @OS tI (.slice bH) E2 S d (stF o l d) n
 replace hs:=e.symm.trans hs
 cases hb:Ty.beq tI d n with
 | true=>
  rw[hb,aac] at hs
  have:=(E2 d n).1 hb
  subst this
  cases hs;rfl
 | false=>
  rw[hb,aab] at hs
  exact h n s hs
theorem BOk.set {M:zB} {b:Int→Int} (h:BOk M b) (k z:Int):BOk (jY (k:=tI) (v:=aS) M k (W z)) (GY b k z):=fun n=>by
 have e:= @OS tI aS E2 M k (W z) n
 refine (congrArg (fun q=>Option.getD (α:=aF) q (false,[])) e).trans ?_
 unfold GY
 cases hb:Ty.beq tI k n with
 | true=>
  have:=(E2 k n).1 hb
  subst this
  rw[aac,aan rfl];rfl
 | false=>
  have hne:¬n=k:=fun e=>by
   subst e
   have:=(E2 n n).2 rfl
   rw[hb] at this;cases this
  rw[aab]
  exact (h n).trans (congrArg W (aam hne).symm)
theorem Ku {o:ai} {l:List aa} {t:aX} {v:List aj} {S:vW} {M:zB} {out:wA} (hS:lq o l S) (day:Int):
 ∃ S',lq o l S'∧iO ((o,l,t,v,S,M,out,()):MB) day=some (stF o l day,((o,l,t,v,S',M,out,()):MB),()):=by
 unfold iO
 dsimp only
 cases hg:bM (k:=tI) (v:= .slice bH) S day with
 | none=>
  refine⟨_,hS.set day, ?_⟩
  change (bif true then _ else _)=_
  rw[aac,Cj,ZZ]
  rfl
 | some s=>
  refine⟨S,hS, ?_⟩
  change (bif false then _ else _)=_
  rw[aab, ← hS day s hg]
  rfl
theorem QE {α:Type} (p:α→Bool):∀ l:List α,(l.findIdx? p=none∧l.find? p=none)∨∃ (k:Nat) (s:α),l.findIdx? p=some k∧l[k]? =some s∧l.find? p=some s
 | []=> .inl ⟨rfl,rfl⟩
 | a::r=>by
  rw[YB,Yz]
  cases hp:p a with
  | true=>exact .inr ⟨0,a,rfl,rfl,rfl⟩
  | false=>
   rcases QE p r with ⟨h1,h2⟩ | ⟨k,s,h1,h2,h3⟩
   ·exact .inl ⟨by simp[h1],h2⟩
   ·exact .inr ⟨k+1,s,by simp[h1],by simpa using h2,h3⟩
theorem PD (st:List ax) (x:aD) (hl:st.length<1000000000):iE st x=some (match st.findIdx? (fun s=>s.1==x.2.1) with | some k=>(k:Int) | none=> -1,()):=by
 unfold iE
 have loop:∀ (r:List ax) (i n:Nat),st.drop i=r→i≤st.length→r.length<n→
  iter (X:=gd) (β:=fZ) n (st,x,(st.length:Int),(i:Int),()) eC=some (match r.findIdx? (fun s=>s.1==x.2.1) with | some k=>Sum.inl (((i+k:Nat):Int),()) | none=>Sum.inr ()):=by
  intro r
  induction r with
  | nil=>
   intro i n hdr hi hn
   have:i=st.length:=by
    have:=congrArg List.length hdr
    simp at this;omega
   subst this
   obtain⟨n,rfl⟩:∃ m,n=m+1:=⟨n - 1,by omega⟩
   rw[cQ]
   unfold eC
   dsimp only
   rw[bw (by omega)]
   rfl
  | cons y r ih=>
   intro i n hdr hi hn
   have hy:st[i]? =some y:=by
    have:=congrArg (·[0]?) hdr
    simpa [YI] using this
   have hr':st.drop (i+1)=r:=by
    have:=congrArg List.tail hdr
    simpa [Zp] using this
   have hlt:=(YL.1 hy).1
   obtain⟨n,rfl⟩:∃ m,n=m+1:=⟨n - 1,by simp at hn;omega⟩
   rw[cQ]
   generalize hag:(fun y=>iter n y eC)=again
   unfold eC
   dsimp only
   rw[bh (by omega),cK,hy,ZZ]
   unfold sC
   rw[ZZ]
   dsimp only
   rw[YB]
   cases hb:(y.1==x.2.1) with
   | true=>rfl
   | false=>
    rw[aab,aV (n:=(i:Int)+1) (by omega) (by omega), ← hag,show (i:Int)+1=((i+1:Nat):Int) by omega]
    refine (ih (i+1) n hr' (by omega) (by simp at hn;omega)).trans ?_
    cases hq:r.findIdx? (fun s=>s.1==x.2.1) with
    | none=>simp
    | some q=>simp;omega
 have:=loop st 0 (List.length st+(Int.natAbs ((List.length st:Int))+(Int.natAbs (0:Int)+2))) rfl (ZX _) (by omega)
 rw[show ((0:Nat):Int)=0 from rfl] at this
 rw[this]
 cases hq:st.findIdx? (fun s=>s.1==x.2.1) with
 | none=>rfl
 | some q=>simp[aK]
theorem Nt (l:List aj) (y:aj) (hl:l.length<1000000000):fq l y=some (l.any (fun o=>o.1==y.1),()):=by
 unfold fq ku
 have loop:iter (X:=dJ) (β:=dI) (List.length l+(Int.natAbs ((List.length l:Int))+(Int.natAbs (0:Int)+2))) (l,y,(List.length l:Int),0,()) dH=some (Sum.inr ())∧l.any (fun o=>o.1==y.1)=false∨
  ∃ i:Nat,iter (X:=dJ) (β:=dI) (List.length l+(Int.natAbs ((List.length l:Int))+(Int.natAbs (0:Int)+2))) (l,y,(List.length l:Int),0,()) dH=some (Sum.inl ((i:Int),()))∧l.any (fun o=>o.1==y.1)=true:=by
  refine jE (Inv:=fun i x=>x=(l,y,(List.length l:Int),(i:Int),())∧(l.take i).any (fun o=>o.1==y.1)=false) l.length (fun r=>r=some (Sum.inr ())∧l.any (fun o=>o.1==y.1)=false∨∃ i:Nat,r=some (Sum.inl ((i:Int),()))∧l.any (fun o=>o.1==y.1)=true) ?_ ?_ _ 0 _ ⟨rfl,by simp⟩ (by omega) (by omega)
  ·rintro i _ again hi ⟨rfl,hn⟩ ih
   unfold dH
   dsimp only
   have hy:l[i]? =some l[i]:=cu hi
   rw[bh (by omega),cK,hy,ZZ]
   unfold oT
   rw[ZZ]
   dsimp only
   cases hb:(l[i].1==y.1) with
   | true=>
    right
    exact⟨i,rfl,Ym.2 ⟨l[i],List.getElem_mem _,hb⟩⟩
   | false=>
    rw[aab,aV (by omega) (by omega)]
    refine ih _ ⟨rfl, ?_⟩
    rw[Zq,hy,List.any_append,hn]
    simp[hb]
  ·rintro _ again ⟨rfl,hn⟩
   unfold dH
   dsimp only
   rw[bw (by omega)]
   rw[Zt (ZE _)] at hn
   exact .inl ⟨rfl,hn⟩
 rcases loop with ⟨h1,h2⟩ | ⟨i,h1,h2⟩
 ·rw[h1,cR,ZZ,h2];rfl
 ·rw[h1,z7,ZZ,h2];simp
theorem Iu {a b:Int} {m n:Nat} (ha:a.natAbs≤m) (hb:b.natAbs≤n):(a*b).natAbs≤m*n:=by
 rw[Yb];exact Nat.mul_le_mul ha hb
theorem SA (x y:Int):decide ((x - y).sign>0)=decide (y<x):=by
 rcases Int.lt_trichotomy y x with h | h | h
 ·rw[Yg (by omega),aaf h];rfl
 ·subst h;rw[Int.sub_self];simp
 ·rw[Yf (by omega),aae (show ¬y<x by omega)];rfl
theorem Vy (x:Int):decide (x.sign<0)=decide (x<0):=by
 rcases Int.lt_trichotomy x 0 with h | h | h
 ·rw[Yf h,aaf h];rfl
 ·subst h;rfl
 ·rw[Yg h,aae (show ¬x<0 by omega)];rfl
theorem Si {z:Int} (hz:z.natAbs≤10 ^ 30) {t:Int} (h0:0≤t) (h1:t≤1000):zS (W z) t=some (W (z*(1000+t)),()):=by
 unfold zS
 rw[aV (by omega) (by omega),mM _ (by omega) (by omega),ZZ,iV _ _ (fF (by omega)) (fF (by omega)),ZZ]
theorem N3 {s:ax} (h:LD s):xA s=some (W (dz s),()):=by
 unfold xA
 rw[mN h.rc,ZZ,mN h.rt,ZZ,vU _ _ (fF (by have:=yT h.rc;omega)) (fF (by have:=yT h.rt;omega)),ZZ]
 rfl
structure SI (x:aD):Prop where
 q:dV x.2.2.2.1
 p:dV x.2.2.2.2.2.1
 per:1≤x.2.2.2.2.2.2.1∧x.2.2.2.2.2.2.1≤100000
theorem Xb {pl:Int} {rates:List aR} {x:aD} (h:Qe pl rates x):SI x:=⟨h.q,h.p,h.per⟩
theorem Wb {o:ai} {l:List aa} {t:aX} {v:List aj} {S:vW} {M:zB} {out:wA} {b:Int→Int} (hc:eo o l=0) (ht1:0≤t.1∧t.1≤1000) (ht2:0≤t.2∧t.2≤1000)
 (hS:lq o l S) (hM:BOk M b) (hb:BB b) (day:Int) {x:aD} (hx:SI x):
 ∃ S',lq o l S'∧pQ ((o,l,t,v,S,M,out,()):MB) day x=some (uY (stF o l day) t x (b x.2.1+jX x.2.2.2.1),((o,l,t,v,S',M,out,()):MB),()):=by
 obtain⟨S',hS',e⟩:=Ku (t:=t) (v:=v) (M:=M) (out:=out) hS day
 refine⟨S',hS', ?_⟩
 have hlen:(stF o l day).length<1000000000:=by
  unfold stF
  split
  ·rw[YX,(qM _).length_eq]
   have:=(Bz hc 0 day).2.len
   omega
  ·simp
 unfold pQ uY
 dsimp only
 rw[e,ZZ]
 dsimp only
 rw[PD _ _ hlen,ZZ]
 rcases QE (fun s:ax=>s.1==x.2.1) (stF o l day) with ⟨h1,h2⟩ | ⟨k,s,h1,h2,h3⟩
 ·rw[h1,h2];rfl
 rw[h1,h3]
 dsimp only
 have hs:=IX hc day s (Zd h2)
 rw[bw (show ¬((k:Int)<0) from Int.not_lt.2 (Yd k)),cK,h2,ZZ]
 by_cases ha:s.2.1=x.2.2.1
 rotate_left
 ·rw[show (!(s.2.1==x.2.2.1))=true by simp[ha],aac,aan (fun h=>ha h.1)]
 rw[show (!(s.2.1==x.2.2.1))=false by simp[ha],aab]
 by_cases hu:s.2.2.1=x.2.2.2.2.1
 rotate_left
 ·rw[show (!(s.2.2.1==x.2.2.2.2.1))=true by simp[hu],aac,aan (fun h=>hu h.2)]
 rw[show (!(s.2.2.1==x.2.2.2.2.1))=false by simp[hu],aab,aam (fun h=>h ⟨ha,hu⟩)]
 have n1:=yT hx.p
 have n2:=yT hs.pr
 have n3:=yT hx.q
 have m1:(jX x.2.2.2.2.2.1*1000).natAbs≤10 ^ 24*1000:=Iu n1 (by decide)
 have m2:(jX s.2.2.2.2.1*(1000+t.1)).natAbs≤10 ^ 24*2000:=Iu n2 (by omega)
 have m3:(jX s.2.2.2.2.1*(1000+t.1)*x.2.2.2.2.2.2.1).natAbs≤10 ^ 24*2000*100000:=Iu m2 (by have:=hx.per;omega)
 rw[mN hx.p,ZZ,mM 1000 (by omega) (by omega),ZZ,iV _ _ (fF (by omega)) (fF (by omega)),ZZ,mN hs.pr,ZZ,
  Si (by omega) ht1.1 ht1.2,ZZ,mM _ (by have:=hx.per;omega) (by have:=hx.per;omega),ZZ,iV _ _ (fF (by omega)) (fF (by have:=hx.per;omega)),ZZ,
  yA _ _ (fF (by omega)) (fF (by omega)),ZZ]
 dsimp only
 rw[SA]
 by_cases hp:jX s.2.2.2.2.1*(1000+t.1)*x.2.2.2.2.2.2.1<jX x.2.2.2.2.2.1*1000
 ·rw[bh hp,aan hp]
 rw[bw hp,aam hp,mN hx.q,ZZ,hM x.2.1]
 obtain⟨b0,b1⟩:=hb x.2.1
 have m4:(b x.2.1+jX x.2.2.2.1).natAbs≤10 ^ 27:=by omega
 have m5:((b x.2.1+jX x.2.2.2.1)*1000).natAbs≤10 ^ 27*1000:=Iu m4 (by decide)
 have k0:=hs.k0;have k1:=hs.k1
 have m6:(dz s*(1000+t.2)).natAbs≤10 ^ 24*2000:=Iu (by omega) (by omega)
 rw[vV _ _ (fF (by omega)) (fF (by omega)),ZZ,jB,ZZ]
 dsimp only
 rw[Vy]
 by_cases hn:b x.2.1+jX x.2.2.2.1<0
 ·rw[bh hn,aan (.inl hn)]
 rw[bw hn,ZZ,iV _ _ (fF (by omega)) (fF (by omega)),ZZ,N3 hs,ZZ,Si (by omega) ht2.1 ht2.2,ZZ,
  yA _ _ (fF (by omega)) (fF (by omega)),ZZ]
 dsimp only
 rw[SA]
 by_cases hq:dz s*(1000+t.2)<(b x.2.1+jX x.2.2.2.1)*1000
 ·rw[bh hq,aan (.inr hq)]
 ·rw[bw hq,aam (fun h=>h.elim hn hq)]
end Go.Md
set_option linter.all false
namespace Go.Md
open Go.Dn
theorem FJ (st:List ax) (t:Int×Int) (i:Int):∀ (l:List aD) (k:Nat) (b:Int→Int),(kV st t i k l b).1.length≤l.length
 | [],_,_=>ZX _
 | x::r,k,b=>by
  unfold kV
  split
  ·have:=FJ st t i r (k+1) (GY b x.2.1 (b x.2.1+jX x.2.2.2.1))
   simp only[YW];omega
  ·have:=FJ st t i r (k+1) b
   simp only[YW];omega
theorem N5 {o:ai} {l:List aa} {t:aX} {v:List aj} {S:vW} {M:zB} {out:wA} (line kind i:Int) (h:out.length≤1000000):
 fB line kind ((o,l,t,v,S,M,out,()):MB) (i,())=some (((o,l,t,v,S,M,out++[(i,line,kind)],()):MB),(i,()),()):=by
 have DJ:maxLen=9223372036854775807:=rfl
 unfold fB
 dsimp only
 rw[dN (by rw[XN];exact⟨aaf (by omega),aaf (by omega)⟩)]
theorem RG {o:ai} {l:List aa} {t:aX} {v:List aj} (hc:eo o l=0) (ht1:0≤t.1∧t.1≤1000) (ht2:0≤t.2∧t.2≤1000) (i:Int) (y:aj) (ls:List aD) (hls:ls.length≤1000) (hx:∀ x∈ls,SI x):
 ∀ (r:List aD) (k n:Nat) (S:vW) (M:zB) (b:Int→Int) (out:wA),ls.drop k=r→k≤ls.length→r.length<n→lq o l S→BOk M b→BB b→out.length+r.length≤1000000→
  ∃ S' M',lq o l S'∧BOk M' (kV (stF o l y.2.2.1) t i k r b).2∧
   iter (X:=jJ) (β:=jI) n (ls,(ls.length:Int),(k:Int),i,y.1,y.2.1,y.2.2.1,y.2.2.2.1,y.2.2.2.2.1,y.2.2.2.2.2.1,y.2.2.2.2.2.2.1,y.2.2.2.2.2.2.2.1,y.2.2.2.2.2.2.2.2,o.1,o.2.1,o.2.2.1,o.2.2.2.1,o.2.2.2.2.1,o.2.2.2.2.2,l,t.1,t.2,v,S,M,out,()) gK
    =some (Sum.inr (o.1,o.2.1,o.2.2.1,o.2.2.2.1,o.2.2.2.2.1,o.2.2.2.2.2,l,t.1,t.2,v,S',M',out++(kV (stF o l y.2.2.1) t i k r b).1,())):=by
 obtain⟨o1,o2,o3,o4,o5,o6⟩:=o
 obtain⟨t1,t2⟩:=t
 obtain⟨y1,y2,y3,y4,y5,y6,y7,y8,y9⟩:=y
 dsimp only at*
 intro r
 induction r with
 | nil=>
  intro k n S M b out hdr hk hn hS hM hb ho
  have:k=ls.length:=by
   have:=congrArg List.length hdr
   simp at this;omega
  subst this
  obtain⟨n,rfl⟩:∃ m,n=m+1:=⟨n - 1,by omega⟩
  refine⟨S,M,hS,hM, ?_⟩
  rw[cQ]
  unfold gK
  dsimp only
  rw[bw (by omega)]
  simp only[kV,Yo]
 | cons x r ih=>
  intro k n S M b out hdr hk hn hS hM hb ho
  have hxk:ls[k]? =some x:=by
   have:=congrArg (·[0]?) hdr
   simpa [YI] using this
  have hr':ls.drop (k+1)=r:=by
   have:=congrArg List.tail hdr
   simpa [Zp] using this
  have hlt:=(YL.1 hxk).1
  have hbx:=hx x (Zd hxk)
  obtain⟨n,rfl⟩:∃ m,n=m+1:=⟨n - 1,by simp at hn;omega⟩
  simp only[YW] at hn ho
  obtain⟨S1,hS1,e1⟩:=Wb (t:=(t1,t2)) (v:=v) (out:=out) hc ht1 ht2 hS hM hb y3 hbx
  rw[cQ]
  generalize hag:(fun y=>iter n y gK)=again
  unfold gK kV
  dsimp only
  rw[bh (by omega),cK,hxk,ZZ,e1,ZZ]
  dsimp only
  by_cases h0:uY (stF (o1,o2,o3,o4,o5,o6) l y3) (t1,t2) x (b x.2.1+jX x.2.2.2.1)=0
  ·obtain⟨z0,z1⟩:=QS (TD hc y3) ht2.2 h0
   have b1:=hb x.2.1
   have q1:=yT hbx.q
   rw[h0,zne,aab,aan rfl,mN hbx.q,ZZ,hM x.2.1,vV _ _ (fF (by omega)) (fF (by omega)),ZZ,aV (n:=(k:Int)+1) (by omega) (by omega), ← hag,show (k:Int)+1=((k+1:Nat):Int) by omega]
   exact ih (k+1) n S1 _ _ out hr' (by omega) (by omega) hS1 (hM.set x.2.1 _) (R2 hb ⟨z0,z1⟩) (by omega)
  ·rw[eD h0,aac,aam h0,N5 _ _ _ (by omega),ZZ,aV (n:=(k:Int)+1) (by omega) (by omega), ← hag,show (k:Int)+1=((k+1:Nat):Int) by omega]
   obtain⟨S2,M2,g1,g2,g3⟩:=ih (k+1) n S1 M b (out++[(i,(k:Int),uY (stF (o1,o2,o3,o4,o5,o6) l y3) (t1,t2) x (b x.2.1+jX x.2.2.2.1))]) hr' (by omega) (by omega) hS1 hM hb (by simp;omega)
   refine⟨S2,M2,g1,g2,g3.trans ?_⟩
   rw[Yn];rfl
theorem ML {y:aj} (h:jG y=0):(∀ x∈y.2.2.2.2.2.2.2.1,SI x)∧y.2.2.2.2.2.2.2.1.length≤500:=⟨fun x hx=>Xb ((Ik h).lines x hx),(Ik h).ln.2⟩
theorem ME {o:ai} {l:List aa} {t:aX} {v:List aj} {S:vW} {M:zB} {out:wA} {b:Int→Int} (hc:eo o l=0) (ht1:0≤t.1∧t.1≤1000) (ht2:0≤t.2∧t.2≤1000) (hv:v.length≤200) {i:Nat} {y:aj} (hy:v[i]? =some y) (hi:jG y=0)
 (hS:lq o l S) (hM:BOk M b) (hb:BB b) (ho:out.length+500≤1000000):
 ∃ S' M',lq o l S'∧BOk M' (sG o.1 (stF o l) t (v.take i) i y b).2∧ff ((o,l,t,v,S,M,out,()):MB) i=some (((o,l,t,v,S',M',out++(sG o.1 (stF o l) t (v.take i) i y b).1,()):MB),()):=by
 have hlt:=(YL.1 hy).1
 obtain⟨hx,hll⟩:=ML hi
 unfold ff sG
 dsimp only
 rw[cK,hy,ZZ]
 by_cases hn:y.2.1=o.1
 rotate_left
 ·rw[show (!(y.2.1==o.1))=true by simp[hn],aac,aan hn,N5 _ _ _ (by omega),ZZ]
  exact⟨S,M,hS,hM,rfl⟩
 rw[show (!(y.2.1==o.1))=false by simp[hn],aab,aam (fun h=>h hn),dN (by simp;omega),Yi,Yv,Nt _ _ (by rw[Y1];omega),ZZ]
 dsimp only
 cases ha:(v.take i).any fun u=>u.1==y.1 with
 | true=>
  rw[aac,aan rfl,N5 _ _ _ (by omega),ZZ]
  exact⟨S,M,hS,hM,rfl⟩
 | false=>
  rw[aab,aam (by decide)]
  obtain⟨S',M',g1,g2,g3⟩:=RG (v:=v) hc ht1 ht2 (i:Int) y y.2.2.2.2.2.2.2.1 (by omega) hx y.2.2.2.2.2.2.2.1 0 (y.2.2.2.2.2.2.2.1.length+(Int.natAbs ((y.2.2.2.2.2.2.2.1.length:Int))+(Int.natAbs (0:Int)+(Int.natAbs (i:Int)+(y.1.length+(y.2.1.length+(y.2.2.1.natAbs+(y.2.2.2.1.natAbs+(y.2.2.2.2.1.natAbs+(y.2.2.2.2.2.2.1.length+(y.2.2.2.2.2.2.2.1.length+(y.2.2.2.2.2.2.2.2.length+(o.1.length+(o.2.1.length+(o.2.2.1.length+(o.2.2.2.1.natAbs+(o.2.2.2.2.1.natAbs+(o.2.2.2.2.2.length+(List.length l+(t.1.natAbs+(t.2.natAbs+(List.length v+(List.length S+(List.length M+(List.length out+2)))))))))))))))))))))))))
   S M b out rfl (ZX _) (ZH (by with_reducible repeat (first | exact ZY | refine ZG _ ?_))) hS hM hb (by omega)
  refine⟨S',M',g1,g2, ?_⟩
  refine (congrArg (fun q=>aK q _) g3).trans ?_
  rfl
end Go.Md
set_option linter.all false
set_option maxRecDepth 20000
namespace Go.Md
open Go.Dn
theorem UZ (t:aX):jP t=some (D5 t,()):=by
 unfold jP D5
 rw[dP,ZZ]
 dsimp only
 by_cases h1:t.1<0∨1000<t.1
 ·rw[aaf h1,aac,aan (by omega)]
 ·rw[aae h1,aab,dP,ZZ]
  dsimp only
  by_cases h2:t.2<0∨1000<t.2
  ·rw[aaf h2,aac,aan (by omega)]
  ·rw[aae h2,aab,aam (by omega)]
theorem O4 {v:List aj} {i:Nat} (x:aj) (hi:i<v.length) (hv:v.length≤200):
 (bif decide ((i:Int)>0) then Option.bind (idx v (w64 ((i:Int) - 1))) fun y4=>some (decide (x.2.2.1<y4.2.2.1),()) else some (false,()))=some ((cq v i).any fun q=>decide (x.2.2.1<q.2.2.1),()):=by
 cases i with
 | zero=>rfl
 | succ j=>
  have hj:v[j]? =some v[j]:=YJ (by omega)
  rw[bh (by omega),aV (by omega) (by omega),show ((j+1:Nat):Int) - 1=(j:Int) by omega,cK,hj,ZZ]
  show _=some ((v[j]?).any _,())
  rw[hj];rfl
def Tw {γ:Type} (z:Int) (g:γ):((Option Nat)×Int×Unit) ⊕ γ:=if z≠0 then Sum.inl (none,z,()) else Sum.inr g
theorem Oj {γ:Type} {z:Int} (h:z≠0) (g:γ):Tw z g=Sum.inl (none,z,()):=aan h
theorem WY {γ:Type} (g:γ):Tw 0 g=Sum.inr g:=rfl
theorem PG {o:ai} {l:List aa} {t:aX} {v:List aj} (hv:v.length≤200):∀ (r:List aj) (i n:Nat),v.drop i=r→i≤v.length→r.length<n→
 iter (X:=mo) (β:=mm) n (l,v,v,(v.length:Int),(i:Int),o.1,o.2.1,o.2.2.1,o.2.2.2.1,o.2.2.2.2.1,o.2.2.2.2.2,t.1,t.2,()) jc
  =some (Tw (jh (cq v i) r) (l,v,o.1,o.2.1,o.2.2.1,o.2.2.2.1,o.2.2.2.2.1,o.2.2.2.2.2,t.1,t.2,())):=by
 intro r
 induction r with
 | nil=>
  intro i n hdr hi hn
  have:i=v.length:=by
   have:=congrArg List.length hdr
   simp at this;omega
  subst this
  obtain⟨n,rfl⟩:∃ m,n=m+1:=⟨n - 1,by omega⟩
  rw[cQ]
  unfold jc
  dsimp only
  rw[bw (by omega),jh,WY]
 | cons x r ih=>
  intro i n hdr hi hn
  have hxi:v[i]? =some x:=by
   have:=congrArg (·[0]?) hdr
   simpa [YI] using this
  have hr':v.drop (i+1)=r:=by
   have:=congrArg List.tail hdr
   simpa [Zp] using this
  have hlt:=(YL.1 hxi).1
  obtain⟨n,rfl⟩:∃ m,n=m+1:=⟨n - 1,by simp at hn;omega⟩
  simp only[YW] at hn
  have ep:cq v (i+1)=some x:=hxi
  rw[cQ]
  generalize hag:(fun y=>iter n y jc)=again
  unfold jc
  dsimp only
  rw[bh (by omega),cK,hxi,ZZ,mj,ZZ]
  dsimp only
  rw[jh]
  by_cases h0:jG x=0
  rotate_left
  ·rw[eD h0,aac,aan h0,Oj h0]
  rw[aam (fun h=>h h0),h0,zne,aab,O4 x hlt hv,ZZ]
  dsimp only
  cases hp:(cq v i).any fun q=>decide (x.2.2.1<q.2.2.1) with
  | true=>rw[aac,aan rfl,Oj (by decide)]
  | false=>
   rw[aab,aam (by decide),aV (n:=(i:Int)+1) (by omega) (by omega), ← hag,show (i:Int)+1=((i+1:Nat):Int) by omega]
   exact (ih (i+1) n hr' (by omega) (by omega)).trans (by rw[ep])
theorem QX {o:ai} {l:List aa} {t:aX} {v:List aj} (hv:v.length≤200):∀ (r:List aj) (i n:Nat),v.drop i=r→i≤v.length→r.length<n→jh (cq v i) r=0→
 iter (X:=nZ) (β:=nY) n (l,v,v,(v.length:Int),(i:Int),o.1,o.2.1,o.2.2.1,o.2.2.2.1,o.2.2.2.2.1,o.2.2.2.2.2,t.1,t.2,()) kS
  =some (Sum.inr (l,v,o.1,o.2.1,o.2.2.1,o.2.2.2.1,o.2.2.2.2.1,o.2.2.2.2.2,t.1,t.2,())):=by
 intro r
 induction r with
 | nil=>
  intro i n hdr hi hn _
  have:i=v.length:=by
   have:=congrArg List.length hdr
   simp at this;omega
  subst this
  obtain⟨n,rfl⟩:∃ m,n=m+1:=⟨n - 1,by omega⟩
  rw[cQ]
  unfold kS
  dsimp only
  rw[bw (by omega)]
 | cons x r ih=>
  intro i n hdr hi hn hz
  have hxi:v[i]? =some x:=by
   have:=congrArg (·[0]?) hdr
   simpa [YI] using this
  have hr':v.drop (i+1)=r:=by
   have:=congrArg List.tail hdr
   simpa [Zp] using this
  have hlt:=(YL.1 hxi).1
  obtain⟨n,rfl⟩:∃ m,n=m+1:=⟨n - 1,by simp at hn;omega⟩
  simp only[YW] at hn
  have ep:cq v (i+1)=some x:=hxi
  simp only[jh] at hz
  split at hz
  ·rename_i h1;exact absurd hz h1
  rename_i h1
  have h0:jG x=0:=X5 h1
  split at hz
  ·cases hz
  rename_i h2
  rw[cQ]
  generalize hag:(fun y=>iter n y kS)=again
  unfold kS
  dsimp only
  rw[bh (by omega),cK,hxi,ZZ,mj,ZZ]
  dsimp only
  rw[h0,zne,aab,O4 x hlt hv,ZZ]
  dsimp only
  rw[Bool.eq_false_iff.2 h2,aab,aV (n:=(i:Int)+1) (by omega) (by omega), ← hag,show (i:Int)+1=((i+1:Nat):Int) by omega]
  exact ih (i+1) n hr' (by omega) (by omega) (by rw[ep];exact hz)
theorem EJ (o:ai) (l:List aa) (t:aX) (v:List aj):mS o l t v=if mF o l t v≠0 then some (none,mF o l t v,()) else none:=by
 unfold mS mF eo
 rw[nE,ZZ]
 dsimp only
 by_cases h1:mY o=0
 rotate_left
 ·rw[eD h1,aac,aan h1,aan h1,aan h1]
 rw[h1,zne,aab,sJ,ZZ]
 dsimp only
 rw[aam (show ¬((0:Int)≠0) by decide)]
 by_cases h2:rO l=0
 rotate_left
 ·rw[eD h2,aac,aan h2,aan h2]
 rw[h2,zne,aab,UZ,ZZ]
 dsimp only
 rw[aam (show ¬((0:Int)≠0) by decide)]
 by_cases h3:D5 t=0
 rotate_left
 ·rw[eD h3,aac,aan h3,aan h3]
 rw[h3,zne,aab]
 rw[aam (show ¬((0:Int)≠0) by decide)]
 by_cases h4:200<v.length
 ·rw[bh (by omega),aan h4,aan (by decide)]
 rw[bw (by omega),aam h4]
 refine (congrArg (fun q=>aK q _) (PG (o:=o) (l:=l) (t:=t) (v:=v) (by omega) v 0 _ rfl (ZX _) (ZG _ (ZH (by with_reducible repeat (first | exact ZY | refine ZG _ ?_)))))).trans ?_
 show aK (some (Tw (jh none v) _)) _=_
 by_cases h5:jh none v=0
 ·rw[h5];rfl
 ·rw[Oj h5,aan h5];rfl
theorem It {o:ai} {l:List aa} {t:aX} {v:List aj} (h:MOk o l t v):p9 o l t v=some (((o,l,t,v,[],[],[],()):MB),0,()):=by
 obtain⟨h1,h2⟩:=zT h.chk
 have h3:D5 t=0:=by
  unfold D5
  have:=h.t1;have:=h.t2
  rw[aam (by omega)]
 unfold p9
 rw[nE,ZZ]
 dsimp only
 rw[h1,zne,aab,sJ,ZZ]
 dsimp only
 rw[h2,zne,aab,UZ,ZZ]
 dsimp only
 have h4:=h.len
 rw[h3,zne,aab,bw (by omega)]
 refine (congrArg (fun q=>aK q _) (QX (o:=o) (l:=l) (t:=t) (v:=v) h4 v 0 _ rfl (ZX _) (ZG _ (ZH (by with_reducible repeat (first | exact ZY | refine ZG _ ?_)))) h.go)).trans ?_
 rfl
theorem Xl {a r:Nat} (h:a+500*(r+1)≤900000):a+500≤1000000:=by omega
theorem Xm {a r c:Nat} (h:a+500*(r+1)≤900000) (hc:c≤500):a+c+500*r≤900000:=by omega
theorem Ti {o:ai} {l:List aa} {t:aX} {v:List aj} (h:MOk o l t v):∀ (r:List aj) (i n:Nat) (S:vW) (M:zB) (b:Int→Int) (out:wA),v.drop i=r→i≤v.length→r.length<n→lq o l S→BOk M b→BB b→out.length+500*r.length≤900000→
 ∃ S' M',lq o l S'∧BOk M' (tP o.1 (stF o l) t (v.take i) r b).2∧
  iter (X:=wE) (β:=wD) n ((v.length:Int),(i:Int),o.1,o.2.1,o.2.2.1,o.2.2.2.1,o.2.2.2.2.1,o.2.2.2.2.2,l,t.1,t.2,v,S,M,out,()) rN
   =some (Sum.inr (o.1,o.2.1,o.2.2.1,o.2.2.2.1,o.2.2.2.2.1,o.2.2.2.2.2,l,t.1,t.2,v,S',M',out++(tP o.1 (stF o l) t (v.take i) r b).1,())):=by
 intro r
 induction r with
 | nil=>
  intro i n S M b out hdr hi hn hS hM hb ho
  have:i=v.length:=by
   have:=congrArg List.length hdr
   simp at this;omega
  subst this
  obtain⟨n,rfl⟩:∃ m,n=m+1:=⟨n - 1,by omega⟩
  refine⟨S,M,hS,hM, ?_⟩
  rw[cQ]
  unfold rN
  dsimp only
  rw[bw (by omega)]
  simp only[tP,Yo]
 | cons x r ih=>
  intro i n S M b out hdr hi hn hS hM hb ho
  have hxi:v[i]? =some x:=by
   have:=congrArg (·[0]?) hdr
   simpa [YI] using this
  have hr':v.drop (i+1)=r:=by
   have:=congrArg List.tail hdr
   simpa [Zp] using this
  have hlt:=(YL.1 hxi).1
  obtain⟨n,rfl⟩:∃ m,n=m+1:=⟨n - 1,by simp at hn;omega⟩
  simp only[YW] at hn ho
  have hv:=h.len
  have hx0:=FE h.go x (Zd hxi)
  have ho':out.length+500≤1000000:=Xl ho
  obtain⟨S1,M1,g1,g2,g3⟩:=ME (out:=out) h.chk h.t1 h.t2 hv hxi hx0 hS hM hb ho'
  have hb1:BB (sG o.1 (stF o l) t (v.take i) i x b).2:=Sc (TD h.chk) h.t2.2 hb
  have hlen:(sG o.1 (stF o l) t (v.take i) i x b).1.length≤500:=by
   unfold sG
   split
   ·simp
   ·split
    ·simp
    ·have:=FJ (stF o l x.2.2.1) t i x.2.2.2.2.2.2.2.1 0 b
     have:=(ML hx0).2
     omega
  have etl:((v.take i).length:Int)=(i:Int):=by rw[Y1];omega
  rw[cQ]
  generalize hag:(fun y=>iter n y rN)=again
  unfold rN
  simp only[tP]
  rw[bh (show (i:Int)<(v.length:Int) by omega)]
  have g3':ff ((o.1,o.2.1,o.2.2.1,o.2.2.2.1,o.2.2.2.2.1,o.2.2.2.2.2),l,(t.1,t.2),v,S,M,out,()) (i:Int)=_:=g3
  rw[g3',ZZ]
  dsimp only
  rw[aV (n:=(i:Int)+1) (by omega) (by omega), ← hag,show (i:Int)+1=((i+1:Nat):Int) by omega,etl]
  obtain⟨S2,M2,q1,q2,q3⟩:=ih (i+1) n S1 M1 _ (out++(sG o.1 (stF o l) t (v.take i) i x b).1) hr' (by omega) (by omega) g1 g2 hb1 (by rw[YV];exact Xm ho hlen)
  rw[Nf hxi] at q2 q3
  refine⟨S2,M2,q1,q2,q3.trans ?_⟩
  rw[Yn]
theorem RY:BOk [] (fun _=>0):=fun n=>by
 show (false,[])=W 0
 decide
theorem Nk:BB (fun _=>0):=fun n=>by
 exact⟨Int.le_refl _,by show (0:Int)≤10 ^ 26;decide⟩
theorem Ka (o:ai) (l:List aa):lq o l []:=fun d s h=>by cases h
theorem Gj (o:ai) (l:List aa) (t:aX) (v:List aj):x4 o l t v=some (if mF o l t v=0 then (tP o.1 (stF o l) t [] v (fun _=>0)).1 else [],mF o l t v,()):=by
 unfold x4
 rw[EJ]
 by_cases h:mF o l t v=0
 rotate_left
 ·rw[aan h,aam h]
  unfold Jn
  dsimp only
  rw[eD h,aac]
 have hm:=Wi h
 rw[aam (by simpa using h),aan h]
 refine Eq.trans FR ?_
 rw[It hm,ZZ]
 dsimp only
 rw[zne,aab]
 have hl:=hm.len
 obtain⟨S',M',_,_,q3⟩:=Ti hm v 0 (Int.natAbs ((List.length v:Int))+(Int.natAbs (0:Int)+(o.1.length+(o.2.1.length+(o.2.2.1.length+(o.2.2.2.1.natAbs+(o.2.2.2.2.1.natAbs+(o.2.2.2.2.2.length+(List.length l+(t.1.natAbs+(t.2.natAbs+(List.length v+(List.length ([]:vW)+(List.length ([]:zB)+(List.length ([]:wA)+2)))))))))))))))
  [] [] (fun _=>0) [] rfl (ZX _) (by rw[Yc];exact ZH (by with_reducible repeat (first | exact ZY | refine ZG _ ?_))) (Ka o l) RY Nk (by simp;omega)
 refine (congrArg (fun q=>aK q _) q3).trans ?_
 rw[h];rfl
end Go.Md
set_option linter.all false
set_option maxRecDepth 20000
namespace Go.Md
open Go.Dn
theorem DM:Aa=some (true,()):=by kernel_rfl
end Go.Md
set_option linter.all false
set_option maxRecDepth 20000
namespace Go.Md
open Go.Dn
def kqZ (s:ax):Int:=dz s / 1000000
theorem UU {o:ai} {l:List aa} (h:eo o l=0) {d:Int} {s:ax} (hs:s∈stF o l d):dz s=kqZ s*1000000∧0≤kqZ s∧kqZ s≤1000000000000000:=by
 obtain⟨x,hx,hp,rfl⟩:=SD h hs
 have h1:=hx.ret0;have h2:=hx.retr;have h3:=hx.rcvs;have h4:=hx.shp1
 have hk:=MI hx
 unfold kqZ
 rw[hk,Int.mul_ediv_cancel _ (by decide)]
 exact⟨rfl,by omega,by omega⟩
theorem QD {m:Int} (h:m.natAbs≤1000000000000000):jC (W (m*1000000)) 9=some (pT m,0,()):=by
 have e:=BA (m*1000000) (fF (by omega)) 9 (by decide)
 rw[show ((9:Nat):Int)=9 from rfl] at e
 have f:few 9 (m*1000000)=few 3 m:=OG 6 3 m
 rw[f] at e
 obtain⟨h1,h2,h3⟩:=EB 3 m
 rw[aan (by omega)] at e
 exact e
def kR (rate:Bys):Nat→List ax→List aD
 | _,[]=>[]
 | k,s::r=>if dz s≤0 then kR rate k r else (((k:Int)+1),s.1,s.2.1,pT (kqZ s),s.2.2.1,s.2.2.2.2.1,1,[],rate)::kR rate (k+1) r
abbrev Xi:aj:=([],[],0,0,0,false,[],[],[])
def yo (like:aj):Bys:=(like.2.2.2.2.2.2.1.headD ([],(0,0))).1
def cV (o:ai) (l:List aa) (num:Bys) (like:aj):aj:=
 (num,o.1,like.2.2.1,like.2.2.2.1,like.2.2.2.2.1,like.2.2.2.2.2.1,like.2.2.2.2.2.2.1,kR (yo like) 0 (stF o l 3652059),[])
def blF (o:ai) (l:List aa) (num:Bys) (like:aj):Int:=
 if eo o l≠0 then eo o l else if bT num=false then 5 else if jG like≠0 then jG like else if kR (yo like) 0 (stF o l 3652059)=[] then 9 else jG (cV o l num like)
theorem SC {o:ai} {l:List aa} (hc:eo o l=0) (d:Int):(stF o l d).length≤500:=by
 unfold stF
 split
 ·rw[YX,(qM _).length_eq]
  exact (Bz hc 0 d).2.len
 ·simp
theorem Qp {l:List aR} (h0:0<l.length) (h1:l.length≤20):lN l=some (l,()):=by
 have DJ:maxLen=9223372036854775807:=rfl
 unfold lN
 rw[show List.isEmpty l=false by cases l with | nil=>simp at h0 | cons a r=>rfl,aab,dN (by rw[XN];exact⟨aaf (by omega),aaf (by omega)⟩)]
theorem Ri (x:Int):decide (x.sign≤0)=decide (x≤0):=by
 rcases Int.lt_trichotomy x 0 with h | h | h
 ·rw[Yf h,aaf (show x≤0 by omega)];rfl
 ·subst h;rfl
 ·rw[Yg h,aae (show ¬x≤0 by omega)];rfl
theorem Rt {st:List ax} (hst:∀ s∈st,LD s∧dz s=kqZ s*1000000∧0≤kqZ s∧kqZ s≤1000000000000000) (hlen:st.length≤500) {like:aj} {r0:aR} {rr:List aR} (hr:like.2.2.2.2.2.2.1=r0::rr)
 (n1 n2:Bys) (p1 p2 p3:Int) (p4:Bool) (ex:List bK) (q:List aR):
 ∀ (r:List ax) (i n:Nat) (B:List aD),st.drop i=r→i≤st.length→r.length<n→B.length≤i→
 iter (X:=sR) (β:=sQ) n (st,(st.length:Int),(i:Int),like.1,like.2.1,like.2.2.1,like.2.2.2.1,like.2.2.2.2.1,like.2.2.2.2.2.1,like.2.2.2.2.2.2.1,like.2.2.2.2.2.2.2.1,like.2.2.2.2.2.2.2.2,[],[],0,0,0,false,[],[],[],n1,n2,p1,p2,p3,p4,B,ex,q,()) nX
  =some (Sum.inr ([],[],0,0,0,false,[],[],[],n1,n2,p1,p2,p3,p4,B++kR r0.1 B.length r,ex,q,())):=by
 have DJ:maxLen=9223372036854775807:=rfl
 obtain⟨v1,v2,v3,v4,v5,v6,v7,v8,v9⟩:=like
 dsimp only at hr ⊢
 subst hr
 intro r
 induction r with
 | nil=>
  intro i n B hdr hi hn hB
  have:i=st.length:=by
   have:=congrArg List.length hdr
   simp at this;omega
  subst this
  obtain⟨n,rfl⟩:∃ m,n=m+1:=⟨n - 1,by omega⟩
  rw[cQ]
  unfold nX
  dsimp only
  rw[bw (by omega)]
  simp only[kR,Yo]
 | cons s r ih=>
  intro i n B hdr hi hn hB
  have hsi:st[i]? =some s:=by
   have:=congrArg (·[0]?) hdr
   simpa [YI] using this
  have hr':st.drop (i+1)=r:=by
   have:=congrArg List.tail hdr
   simpa [Zp] using this
  have hlt:=(YL.1 hsi).1
  obtain⟨hs,hk,hk0,hk1⟩:=hst s (Zd hsi)
  obtain⟨n,rfl⟩:∃ m,n=m+1:=⟨n - 1,by simp at hn;omega⟩
  simp only[YW] at hn
  rw[cQ]
  generalize hag:(fun y=>iter n y nX)=again
  unfold nX kR
  dsimp only
  rw[bh (by omega),cK,hsi,ZZ,N3 hs,ZZ,jB,ZZ]
  dsimp only
  rw[Ri]
  by_cases h0:dz s≤0
  ·rw[bh h0,aan h0,aV (n:=(i:Int)+1) (by omega) (by omega), ← hag,show (i:Int)+1=((i+1:Nat):Int) by omega]
   exact ih (i+1) n B hr' (by omega) (by omega) (by omega)
  ·rw[bw h0,aam h0,hk,QD (by omega),ZZ]
   dsimp only
   rw[zne,aab,show idx (r0::rr) 0=some r0 from rfl,ZZ,dN (by rw[XN];exact⟨aaf (by omega),aaf (by omega)⟩),aV (n:=(i:Int)+1) (by omega) (by omega),aV (n:=(B.length:Int)+1) (by omega) (by omega), ← hag,show (i:Int)+1=((i+1:Nat):Int) by omega]
   refine (ih (i+1) n _ hr' (by omega) (by omega) (by simp;omega)).trans ?_
   rw[Yn,YV]
   rfl
theorem Nq (o:ai) (l:List aa) (num:Bys) (like:aj):zF o l num like=some (if blF o l num like≠0 then Xi else cV o l num like,blF o l num like,()):=by
 have hln:lnF o l 3652059=eo o l:=by
  unfold lnF
  by_cases h:eo o l=0
  ·rw[aam (fun e=>e h),aan (by omega),h]
  ·rw[aan h]
 unfold zF
 rw[nE,ZZ]
 dsimp only
 by_cases h1:mY o=0
 rotate_left
 ·have:blF o l num like=mY o:=by
   have e:eo o l=mY o:=by unfold eo;rw[aan h1]
   unfold blF;rw[e,aan h1]
  rw[eD h1,aac,this,aan h1]
 rw[h1,zne,aab,Cj,ZZ]
 dsimp only
 rw[hln]
 by_cases h2:eo o l=0
 rotate_left
 ·have:blF o l num like=eo o l:=by unfold blF;rw[aan h2]
  rw[eD h2,aac,this,aan h2]
 have est:(if eo o l=0 then (iB (vn o l 0 3652059).1).map jv else [])=stF o l 3652059:=by unfold stF;rw[hln]
 rw[est,h2,zne,aab,lT,ZZ]
 dsimp only
 have hb:∀ z,blF o l num like=z→True:=fun _ _=>trivial
 cases h3:bT num with
 | false=>
  have:blF o l num like=5:=by unfold blF;rw[aam (fun e=>e h2),h3,aan rfl]
  rw[show (!false)=true from rfl,aac,this,aan (by decide)]
 | true=>
 rw[show (!true)=false from rfl,aab,mj,ZZ]
 dsimp only
 by_cases h4:jG like=0
 rotate_left
 ·have:blF o l num like=jG like:=by unfold blF;rw[aam (fun e=>e h2),h3,aam (by decide),aan h4]
  rw[eD h4,aac,this,aan h4]
 have hrn:=(Ik h4).rn
 rw[h4,zne,aab,Qp hrn.1 hrn.2,ZZ]
 dsimp only
 obtain⟨r0,rr,hr⟩:∃ r0 rr,like.2.2.2.2.2.2.1=r0::rr:=by
  cases hh:like.2.2.2.2.2.2.1 with
  | nil=>rw[hh] at hrn;simp at hrn
  | cons a b=>exact⟨a,b,rfl⟩
 have hrate:yo like=r0.1:=by unfold yo;rw[hr];rfl
 have loop:=Rt (st:=stF o l 3652059) (fun s hs=>⟨IX h2 _ s hs,UU h2 hs⟩) (SC h2 _) hr num o.1 like.2.2.1 like.2.2.2.1 like.2.2.2.2.1 like.2.2.2.2.2.1 [] like.2.2.2.2.2.2.1 (stF o l 3652059) 0
  (List.length (stF o l 3652059)+(Int.natAbs ((List.length (stF o l 3652059):Int))+(Int.natAbs (0:Int)+(List.length like.1+(List.length like.2.1+(Int.natAbs like.2.2.1+(Int.natAbs like.2.2.2.1+(Int.natAbs like.2.2.2.2.1+(List.length like.2.2.2.2.2.2.1+(List.length like.2.2.2.2.2.2.2.1+(List.length like.2.2.2.2.2.2.2.2+(List.length ([]:Bys)+(List.length ([]:Bys)+(Int.natAbs (0:Int)+(Int.natAbs (0:Int)+(Int.natAbs (0:Int)+(List.length ([]:List aR)+(List.length ([]:List aD)+(List.length ([]:List bK)+(List.length num+(o.1.length+(Int.natAbs like.2.2.1+(Int.natAbs like.2.2.2.1+(Int.natAbs like.2.2.2.2.1+(List.length ([]:List aD)+(List.length ([]:List bK)+(List.length like.2.2.2.2.2.2.1+2)))))))))))))))))))))))))))
  [] rfl (ZX _) (ZH (by with_reducible repeat (first | exact ZY | refine ZG _ ?_))) (ZE _)
 refine (congrArg (fun q=>aK q _) loop).trans ?_
 rw[cR]
 dsimp only
 rw[Zh, ← hrate]
 show (bif ((List.length (kR (yo like) 0 (stF o l 3652059)):Int))==0 then _ else _)=_
 by_cases h5:kR (yo like) 0 (stF o l 3652059)=[]
 ·have:blF o l num like=9:=by unfold blF;rw[aam (fun e=>e h2),h3,aam (by decide),aam (fun e=>e h4),aan h5]
  rw[h5,this];rfl
 have hne:((List.length (kR (yo like) 0 (stF o l 3652059)):Int)==0)=false:=by
  rw[Z9]
  intro e
  exact h5 (List.length_eq_zero_iff.1 (by omega))
 have hbl:blF o l num like=jG (cV o l num like):=by unfold blF;rw[aam (fun e=>e h2),h3,aam (by decide),aam (fun e=>e h4),aam h5]
 rw[hne,aab,hbl]
 refine (congrArg (fun q=>Option.bind q _) (mj (cV o l num like))).trans ?_
 rw[ZZ]
 dsimp only
 by_cases h6:jG (cV o l num like)=0
 ·rw[h6];rfl
 ·rw[eD h6,aac,aan h6]
end Go.Md
set_option linter.all false
set_option maxRecDepth 20000
namespace Go.Md
open Go.Dn
theorem Lw {o:ai} {l:List aa} {wt d1 d2:Int}:∀ (r:List aa) (i:Nat) (A:List ak) (ref:List (Int×Int)) (pts:List aH),(∀ d∈r,d.1≤d1∧d.1≤d2)→rq o l wt d1 r i A ref pts=rq o l wt d2 r i A ref pts
 | [],_,_,_,_,_=>rfl
 | d::r,i,A,ref,pts,h=>by
  have h1:=h d Y9
  unfold rq
  rw[aam (show ¬d1<d.1 by omega),aam (show ¬d2<d.1 by omega)]
  by_cases c:(eN o l i d A).1≠0
  ·rw[aan c,aan c]
   exact Lw r _ _ _ _ fun x hx=>h x (Y8 _ hx)
  ·rw[aam c,aam c]
   exact Lw r _ _ _ _ fun x hx=>h x (Y8 _ hx)
theorem VQ {q d:aa} (hq:1≤q.1∧q.1≤3652059) (hd:1≤d.1∧d.1≤3652059) (h:dCw q d<0):q.1≤d.1:=by
 unfold dCw at h
 rw[aV (n:=q.1 - d.1) (by omega) (by omega)] at h
 by_cases c:q.1 - d.1≠0
 ·rw[aan c] at h;omega
 ·omega
theorem HJ:∀ (r:List aa) (p:Option aa) (nb ns:Int),dh r p nb ns=0→(∀ d∈r,1≤d.1∧d.1≤3652059)→(∀ q,p=some q→1≤q.1∧q.1≤3652059)→(∀ q,p=some q→∀ d∈r,q.1≤d.1)∧r.Pairwise fun a b=>a.1≤b.1
 | [],_,_,_,_,_,_=>⟨fun _ _ d hd=>(nomatch hd),.nil⟩
 | d::r,p,nb,ns,h,hr,hp=>by
  simp only[dh] at h
  split at h
  ·rename_i h0;exact absurd h h0
  split at h
  ·cases h
  rename_i hany
  have hd:=hr d Y9
  have hpd:∀ q,p=some q→q.1≤d.1:=fun q hq=>by
   subst hq
   refine VQ (hp q rfl) hd ?_
   have:¬0≤dCw q d:=fun e=>hany (by show decide (0≤dCw q d)=true;exact aaf e)
   omega
  have hrec:∃ a b,dh r (some d) a b=0:=by
   split at h
   ·split at h
    ·cases h
    ·exact⟨_,_,h⟩
   ·split at h
    ·cases h
    ·exact⟨_,_,h⟩
  obtain⟨a,b,h'⟩:=hrec
  obtain⟨g1,g2⟩:=HJ r (some d) a b h' (fun x hx=>hr x (Y8 _ hx)) (fun q hq=>by cases hq;exact hd)
  refine⟨fun q hq x hx=> ?_,Zj.2 ⟨fun x hx=>g1 d rfl x hx,g2⟩⟩
  rcases Y7.1 hx with rfl | hx
  ·exact hpd q hq
  ·exact Int.le_trans (hpd q hq) (g1 d rfl x hx)
def Jh (l:List aa):Int:=match l.getLast? with
 | some d=>d.1
 | none=>1
theorem Oi (l:List aa) (hl:l.length≤1000000):zM l=some (Jh l,()):=by
 unfold zM Jh
 cases hc:l.getLast? with
 | none=>
  have:l=[]:=List.getLast?_eq_none_iff.1 hc
  subst this;rfl
 | some d=>
  have hne:l≠[]:=fun e=>by rw[e] at hc;cases hc
  have hpos:0<l.length:=List.length_pos_iff.2 hne
  rw[show ((l.length:Int)==0)=false by rw[Z9];omega,aab,aV (by omega) (by omega),show (l.length:Int) - 1=((l.length - 1:Nat):Int) by omega,cK, ← List.getLast?_eq_getElem?,hc]
  rfl
theorem OE {o:ai} {l:List aa} (h:eo o l=0):∀ d∈l,d.1≤Jh l∧d.1≤3652059:=by
 obtain⟨_,h2⟩:=zT h
 obtain⟨_,h4⟩:=zI h2
 have hr:∀ d∈l,1≤d.1∧d.1≤3652059:=fun d hd=>(cW (h4 d hd)).1
 have hgo:dh l none 0 0=0:=by
  unfold rO at h2
  split at h2
  ·cases h2
  ·exact h2
 obtain⟨_,hp⟩:=HJ l none 0 0 hgo hr (fun q hq=>by cases hq)
 intro d hd
 refine⟨?_,(hr d hd).2⟩
 unfold Jh
 cases hc:l.getLast? with
 | none=>
  have:l=[]:=List.getLast?_eq_none_iff.1 hc
  subst this;cases hd
 | some x=>
  dsimp only
  obtain⟨ys,rfl⟩:=List.getLast?_eq_some_iff.1 hc
  rcases Y6.1 hd with hd | hd
  ·exact (Zi.1 hp).2.2 d hd x (by simp)
  ·rw[Zg.1 hd];exact Int.le_refl _
theorem Ww {o:ai} {l:List aa} (h:eo o l=0) {d:Int} (hd:1≤d∧d≤3652059) (hl:Jh l≤d):stF o l d=stF o l 3652059:=by
 have e:vn o l 0 d=vn o l 0 3652059:=Lw l 0 _ [] [] fun x hx=>⟨Int.le_trans (OE h x hx).1 hl,(OE h x hx).2⟩
 unfold stF
 rw[e]
 have e1:lnF o l d=0:=by unfold lnF;rw[aam (fun e=>e h),aan hd]
 have e2:lnF o l 3652059=0:=by unfold lnF;rw[aam (fun e=>e h),aan (by omega)]
 rw[e1,e2]
theorem UW {o:ai} {l:List aa} (h:eo o l=0) (d:Int):(stF o l d).Pairwise fun a b=>a.1≠b.1:=by
 unfold stF
 split
 ·rw[Zl]
  exact (Wv (Bz h 0 d).2).imp fun {x y} hxy e=>by
   have:x.no=y.no:=e
   omega
 ·exact .nil
theorem HW {st:List ax} (hnd:st.Pairwise fun a b=>a.1≠b.1):∀ s∈st,st.find? (fun x=>x.1==s.1)=some s:=by
 induction st with
 | nil=>intro s hs;cases hs
 | cons a r ih=>
  intro s hs
  obtain⟨h1,h2⟩:=Zj.1 hnd
  rw[Yz]
  rcases Y7.1 hs with rfl | hs
  ·rw[show (s.1==s.1)=true by simp]
  ·rw[show (a.1==s.1)=false by simp[h1 s hs]]
   exact ih h2 s hs
def By (r:List ax) (b:Int→Int):Int→Int:=fun n=>match r.find? (fun s=>s.1==n) with
 | some s=>if dz s≤0 then b n else dz s
 | none=>b n
theorem Km {st:List ax} {s:ax} {n rate no:_} (hf:st.find? (fun x=>x.1==s.1)=some s) (hk:dz s=kqZ s*1000000) (m:Int):
 uY st (0,0) (((no:Int),s.1,s.2.1,pT (kqZ s),s.2.2.1,s.2.2.2.2.1,1,[],rate):aD) n=if n<0∨dz s*1000<n*1000 then 6 else 0:=by
 unfold uY
 dsimp only
 rw[hf]
 dsimp only
 rw[aam (fun h=>h ⟨rfl,rfl⟩),aam (by omega)]
 simp only[Int.add_zero]
theorem R5 {k:Int} (h0:0≤k) (h1:k≤1000000000000000):jX (pT k)=k*1000000:=(BO (by omega)).2
theorem DN {st:List ax} (hst:∀ s∈st,dz s=kqZ s*1000000∧0≤kqZ s∧kqZ s≤1000000000000000) (hnd:st.Pairwise fun a b=>a.1≠b.1) (i:Int) (rate:Bys):
 ∀ (r:List ax) (k q:Nat) (b:Int→Int),(∀ s∈r,s∈st)→r.Pairwise (fun a b=>a.1≠b.1)→(∀ s∈r,b s.1=0)→
  kV st (0,0) i k (kR rate q r) b=([],By r b)
 | [],k,q,b,_,_,_=>rfl
 | s::r,k,q,b,hr,hp,hb=>by
  obtain⟨p1,p2⟩:=Zj.1 hp
  obtain⟨hk,hk0,hk1⟩:=hst s (hr s Y9)
  unfold kR
  by_cases h0:dz s≤0
  ·rw[aan h0,DN hst hnd i rate r k q b (fun x hx=>hr x (Y8 _ hx)) p2 (fun x hx=>hb x (Y8 _ hx))]
   refine congrArg (Prod.mk _) (funext fun n=> ?_)
   unfold By
   rw[Yz]
   cases hn:(s.1==n) with
   | false=>rfl
   | true=>
    have en:s.1=n:=by simpa using hn
    have hnone:r.find? (fun s=>s.1==n)=none:=by
     rw[YA]
     intro x hx
     have:=p1 x hx
     simp;omega
    rw[hnone]
    dsimp only
    rw[aan h0]
  ·rw[aam h0,kV]
   dsimp only
   have hb0:=hb s Y9
   rw[hb0,Int.zero_add,R5 hk0 hk1, ← hk]
   have hkz:uY st (0,0) ((((q:Int)+1),s.1,s.2.1,pT (kqZ s),s.2.2.1,s.2.2.2.2.1,1,[],rate):aD) (dz s)=0:=by
    rw[Km (HW hnd s (hr s Y9)) hk 0,aam (by omega)]
   rw[aan hkz,
    DN hst hnd i rate r (k+1) (q+1) _ (fun x hx=>hr x (Y8 _ hx)) p2 (fun x hx=>by
     unfold GY
     rw[aam (fun e=>p1 x hx e.symm)]
     exact hb x (Y8 _ hx))]
   refine congrArg (Prod.mk _) (funext fun n=> ?_)
   unfold By GY
   rw[Yz]
   cases hn:(s.1==n) with
   | false=>
    have en:¬n=s.1:=fun e=>by rw[e] at hn;simp at hn
    rw[aam en]
   | true=>
    have en:s.1=n:=by simpa using hn
    have hnone:r.find? (fun s=>s.1==n)=none:=by
     rw[YA]
     intro x hx
     have:=p1 x hx
     simp;omega
    rw[hnone]
    dsimp only
    rw[aan en.symm,aam h0]
theorem DO {st:List ax} (hst:∀ s∈st,dz s=kqZ s*1000000∧0≤kqZ s∧kqZ s≤1000000000000000) (hnd:st.Pairwise fun a b=>a.1≠b.1) (i:Int) (rate:Bys):
 ∀ (r:List ax) (k q:Nat) (b:Int→Int),(∀ s∈r,s∈st)→(∀ s∈r,0<dz s→b s.1=dz s)→
  (kV st (0,0) i k (kR rate q r) b).1.length=(kR rate q r).length
 | [],k,q,b,_,_=>rfl
 | s::r,k,q,b,hr,hb=>by
  obtain⟨hk,hk0,hk1⟩:=hst s (hr s Y9)
  unfold kR
  by_cases h0:dz s≤0
  ·rw[aan h0]
   exact DO hst hnd i rate r k q b (fun x hx=>hr x (Y8 _ hx)) (fun x hx=>hb x (Y8 _ hx))
  ·rw[aam h0,kV]
   dsimp only
   have hb0:=hb s Y9 (by omega)
   rw[hb0,R5 hk0 hk1, ← hk]
   have hkz:uY st (0,0) ((((q:Int)+1),s.1,s.2.1,pT (kqZ s),s.2.2.1,s.2.2.2.2.1,1,[],rate):aD) (dz s+dz s)=6:=by
    rw[Km (HW hnd s (hr s Y9)) hk 0,aan (by omega)]
   rw[aam (by rw[hkz];decide),YW,YW,
    DO hst hnd i rate r (k+1) (q+1) b (fun x hx=>hr x (Y8 _ hx)) (fun x hx=>hb x (Y8 _ hx))]
theorem PW {st:List ax} (hst:∀ s∈st,LD s) (hlen:st.length≤500) {M:zB} {b:Int→Int} (hM:BOk M b) (hb:BB b) (hle:∀ s∈st,dz s≤b s.1)
 (o1 o2 o3:Bys) (o4 o5:Int) (o6:List aQ) (l:List aa) (t1 t2:Int) (v:List aj) (out:wA) (S:vW):
 ∀ n,st.length<n→iter (X:=lX) (β:=pP) n ([],st,(st.length:Int),0,o1,o2,o3,o4,o5,o6,l,t1,t2,v,out,S,M,()) pO=some (Sum.inr ([],())):=by
 intro n hn
 refine jE (Inv:=fun i X=>X=(([],st,(st.length:Int),(i:Int),o1,o2,o3,o4,o5,o6,l,t1,t2,v,out,S,M,()):lX)) st.length (fun r=>r=some (Sum.inr ([],()))) ?_ ?_ n 0 _ rfl (ZX _) (by omega)
 ·rintro i X again hi rfl hag
  unfold pO
  dsimp only
  have hy:st[i]? =some st[i]:=YJ hi
  have hm:st[i]∈st:=List.getElem_mem hi
  have hs:=hst _ hm
  have hle':=hle _ hm
  have hb':=hb (st[i]).1
  have k0:=hs.k0;have k1:=hs.k1
  rw[bh (by omega),cK,hy,ZZ,N3 hs,ZZ,hM (st[i]).1,vU _ _ (fF (by omega)) (fF (by omega)),ZZ,jB,ZZ]
  dsimp only
  rw[Ri,bh (by omega),aV (n:=(i:Int)+1) (by omega) (by omega)]
  exact hag _ rfl
 ·rintro X again rfl
  unfold pO
  dsimp only
  rw[bw (by omega)]
theorem Jz {o:ai} {l:List aa} {t:aX} {x:aj} (h:MOk o l t [x]) (hx:x.2.2.1≤3652059) (hle:∀ s∈stF o l 3652059,dz s≤(sG o.1 (stF o l) t [] 0 x (fun _=>0)).2 s.1):
 wF o l t [x] 3652059=some ([],0,()):=by
 unfold wF
 rw[EJ,VJ h]
 refine Eq.trans FR ?_
 rw[It h,ZZ]
 dsimp only
 rw[zne,aab,mU,ZZ]
 dsimp only
 rw[aaf (show (1:Int)≤3652059∧(3652059:Int)≤3652059 by decide),XY,aab]
 have hi:jG x=0:=FE h.go x (by simp)
 obtain⟨S1,M1,g1,g2,g3⟩:=ME (v:=[x]) (out:=[]) h.chk h.t1 h.t2 (by simp) (i:=0) rfl hi (Ka o l) RY Nk (by simp)
 have hb1:=Sc (num:=o.1) (pre:=[]) (i:=0) (v:=x) (TD h.chk) h.t2.2 Nk
 have g3':ff ((o.1,o.2.1,o.2.2.1,o.2.2.2.1,o.2.2.2.2.1,o.2.2.2.2.2),l,(t.1,t.2),[x],[],[],[],()) 0=_:=g3
 have loop:∀ n,1<n→iter (X:=qS) (β:=qR) n (3652059,[x],1,0,o.1,o.2.1,o.2.2.1,o.2.2.2.1,o.2.2.2.2.1,o.2.2.2.2.2,l,t.1,t.2,[x],[],[],[],()) mR
  =some (Sum.inr (3652059,o.1,o.2.1,o.2.2.1,o.2.2.2.1,o.2.2.2.2.1,o.2.2.2.2.2,l,t.1,t.2,[x],S1,M1,[]++(sG o.1 (stF o l) t [] 0 x (fun _=>0)).1,())):=by
  intro n hn
  obtain⟨n,rfl⟩:∃ m,n=m+1+1:=⟨n - 2,by omega⟩
  rw[cQ]
  generalize hag:(fun y=>iter (n+1) y mR)=again
  unfold mR
  dsimp only
  rw[bh (by decide),show idx [x] 0=some x from rfl,ZZ,bh hx,g3',ZZ]
  dsimp only
  rw[show w64 (0+1)=1 from rfl, ← hag]
  dsimp only
  rw[cQ]
  unfold mR
  dsimp only
  rw[bw (by decide)]
  rfl
 refine (congrArg (fun q=>aK q _) (loop _ (ZG _ (ZH (by with_reducible repeat (first | exact ZY | refine ZG _ ?_)))))).trans ?_
 rw[cR]
 dsimp only
 obtain⟨S2,hS2,e2⟩:=Ku (t:=t) (v:=[x]) (M:=M1) (out:=[]++(sG o.1 (stF o l) t [] 0 x (fun _=>0)).1) g1 3652059
 refine (congrArg (fun q=>Option.bind q _) e2).trans ?_
 rw[ZZ]
 dsimp only
 refine (congrArg (fun q=>aK q _) (PW (IX h.chk 3652059) (SC h.chk _) g2 hb1 hle _ _ _ _ _ _ _ _ _ _ _ _ _ (ZG _ (ZH (by with_reducible repeat (first | exact ZY | refine ZG _ ?_)))))).trans ?_
 rfl
theorem V6 {v:aj} (h:jG v=0):1≤v.2.2.1∧v.2.2.1≤3652059:=by
 unfold jG at h
 split at h
 ·cases h
 split at h
 ·cases h
 split at h
 ·cases h
 rename_i h3
 exact X5 h3
theorem Tb {x y:aj} (hx:jG x=0) (hd:¬y.2.2.1<x.2.2.1):jh none [x,y]=jG y:=by
 have a1:(Option.any (fun q:aj=>decide (x.2.2.1<q.2.2.1)) none)=false:=rfl
 have a2:(Option.any (fun q:aj=>decide (y.2.2.1<q.2.2.1)) (some x))=false:=aae hd
 rw[jh,aam (fun e=>e hx),a1,aam (by decide),jh,a2]
 by_cases c:jG y=0
 ·rw[aam (fun e=>e c),aam (by decide),c];rfl
 ·rw[aan c]
theorem WO {s:Bys} (h:bT s=true):s.length≤1000:=by
 apply Decidable.byContradiction
 intro hc
 unfold bT at h
 have e:bW s=some (false,()):=by
  unfold bW
  rw[bw (by omega),bh (by omega)]
 rw[e] at h
 cases h
theorem law_BillBilledMatches (o:ai) (l:List aa) (num:Bys) (like:aj):lD o l num like=some (true,()):=by
 unfold lD
 rw[Nq,ZZ]
 dsimp only
 by_cases h:blF o l num like=0
 rotate_left
 ·rw[eD h,aac,aan h,DM]
  rfl
 rw[h,zne,aab,aam (fun e=>e rfl)]
 have hc:eo o l=0:=by
  apply Decidable.byContradiction
  intro e
  unfold blF at h;rw[aan e] at h;exact e h
 have h':=h
 unfold blF at h'
 rw[aam (fun e=>e hc)] at h'
 have hnm:bT num=true:=by
  cases hq:bT num with
  | true=>rfl
  | false=>rw[hq,aan rfl] at h';cases h'
 rw[hnm,aam (by decide)] at h'
 have hlk:jG like=0:=by
  apply Decidable.byContradiction
  intro e
  rw[aan e] at h';exact e h'
 rw[aam (fun e=>e hlk)] at h'
 have hne:kR (yo like) 0 (stF o l 3652059)≠[]:=fun e=>by rw[aan e] at h';cases h'
 rw[aam hne] at h'
 obtain⟨_,h2⟩:=zT hc
 have hll:l.length≤2000:=(zI h2).1
 rw[Oi l (by omega),ZZ]
 dsimp only
 by_cases hday:(cV o l num like).2.2.1<Jh l
 ·rw[bh hday,DM];rfl
 rw[bw hday]
 have hdr:=V6 h'
 have est:stF o l (cV o l num like).2.2.1=stF o l 3652059:=Ww hc hdr (by omega)
 have hst:∀ s∈stF o l 3652059,dz s=kqZ s*1000000∧0≤kqZ s∧kqZ s≤1000000000000000:=fun s hs=>UU hc hs
 have hnd:=UW hc 3652059
 have hv1:MOk o l (0,0) [cV o l num like]:=⟨hc,by decide,by decide,by simp,by simp[jh,h']⟩
 have hinv:∀ b i,(∀ s∈stF o l 3652059,b s.1=0)→sG o.1 (stF o l) (0,0) [] i (cV o l num like) b=([],By (stF o l 3652059) b):=fun b i hb=>by
  unfold sG
  rw[aam (show ¬((cV o l num like).2.1≠o.1) from fun e=>e rfl),aam (by simp),est]
  exact DN hst hnd i (yo like) (stF o l 3652059) 0 0 b (fun _ hs=>hs) hnd hb
 have hi0:=hinv (fun _=>0) 0 (fun _ _=>rfl)
 have hm1:(tP o.1 (stF o l) (0,0) [] [cV o l num like] (fun _=>0)).1=[]:=by
  simp only[tP]
  rw[show (([]:List aj).length:Int)=0 from rfl,hi0];rfl
 rw[Gj,ZZ,VJ hv1]
 dsimp only
 rw[zne,aab,aan rfl,hm1]
 rw[show ((([]:wA).length:Int) != 0)=false from rfl,aab,DM,ZZ]
 dsimp only
 rw[XY,aab]
 have haft:∀ s∈stF o l 3652059,(dz s≤0→By (stF o l 3652059) (fun _=>0) s.1=0)∧(0<dz s→By (stF o l 3652059) (fun _=>0) s.1=dz s):=fun s hs=>by
  unfold By
  rw[HW hnd s hs]
  dsimp only
  exact⟨fun h0=>aan h0,fun h0=>aam (by omega)⟩
 rw[Jz hv1 hdr.2 (fun s hs=>by
  rw[hi0]
  dsimp only
  obtain⟨q1,q2⟩:=haft s hs
  by_cases h0:dz s≤0
  ·rw[q1 h0];exact h0
  ·rw[q2 (by omega)];exact Int.le_refl _),ZZ]
 dsimp only
 rw[zne,aab,show ((([]:List qN).length:Int) != 0)=false from rfl,aab]
 have DJ:maxLen=9223372036854775807:=rfl
 have hnl:=WO hnm
 rw[dN (aaf (by simp;omega)),Gj,ZZ]
 dsimp only
 have hmF:mF o l (0,0) [cV o l num like,(num++[50],(cV o l num like).2)]=if bT (num++[50])=false then 5 else 0:=by
  unfold mF
  rw[aam (fun e=>e hc),aam (by decide),aam (by simp)]
  rw[Tb h' (by show ¬(cV o l num like).2.2.1<(cV o l num like).2.2.1;omega)]
  have e2:jG (num++[50],(cV o l num like).2)=if bT (num++[50])=false then 5 else 0:=by
   have e3:jG (num,(cV o l num like).2)=0:=h'
   unfold jG at e3 ⊢
   dsimp only at e3 ⊢
   rw[hnm,aam (by decide)] at e3
   by_cases c:bT (num++[50])=false
   ·rw[aan c,aan c]
   ·rw[aam c,aam c];exact e3
  exact e2
 by_cases c:bT (num++[50])=false
 ·rw[hmF,aan c];rfl
 have h0:mF o l (0,0) [cV o l num like,(num++[50],(cV o l num like).2)]=0:=by rw[hmF,aam c]
 rw[h0,zne,aab,aan rfl]
 have hm2:(tP o.1 (stF o l) (0,0) [] [cV o l num like,(num++[50],(cV o l num like).2)] (fun _=>0)).1.length=(cV o l num like).2.2.2.2.2.2.2.1.length:=by
  simp only[tP]
  rw[show (([]:List aj).length:Int)=0 from rfl,hi0]
  dsimp only
  rw[Zh,Yo,Zh]
  unfold sG
  rw[aam (show ¬((cV o l num like).2.1≠o.1) from fun e=>e rfl),aam (by
   show ¬(([cV o l num like]:List aj).any (fun u=>u.1==num++[50])=true)
   have:((cV o l num like).1==num++[50])=false:=by
    show (num==num++[50])=false
    rw[Z9]
    intro e
    have:=congrArg List.length e
    simp at this
   simp[this])]
  show (kV (stF o l (cV o l num like).2.2.1) (0,0) _ 0 (kR (yo like) 0 (stF o l 3652059)) _).1.length=_
  rw[est]
  exact DO hst hnd _ (yo like) (stF o l 3652059) 0 0 _ (fun _ hs=>hs) (fun s hs h0=>(haft s hs).2 h0)
 rw[hm2]
 show some (((cV o l num like).2.2.2.2.2.2.2.1.length:Int)==((cV o l num like).2.2.2.2.2.2.2.1.length:Int),())=_
 simp
end Go.Md
