/-
  Plain facts: invoices laid beside an order; the plain laws are true of all data. No condition.
-/
import Derived.Test.YtcpmaicaibdafaaGreatDoorZk
import Derived.Test.YtcpmaicaibdafaaGreatDoorZr
import Derived.Test.YtcpmaicaibdafaaGreatDoorZx
import Derived.Test.YtcpmaicaibdafaaGreatDoorZq
set_option linter.all false
set_option linter.all false
namespace Go.Md
open Go.Dn
def dU (s:aF):Int:=ko s.2.2.2.2.2.2.2.1 - ko s.2.2.2.2.2.2.2.2.1
def zK (st:List aF) (t:Int×Int) (x:au) (n:Int):Int:=
 match st.find? (fun s=>s.1==x.2.1) with
 | none=>3
 | some s=>if ¬(s.2.1=x.2.2.1∧s.2.2.1=x.2.2.2.2.1) then 4
  else if ko s.2.2.2.2.1*(1000+t.1)*x.2.2.2.2.2.2.1<ko x.2.2.2.2.2.1*1000 then 5
  else if n<0∨dU s*(1000+t.2)<n*1000 then 6 else 0
abbrev CB:=List (Int×Int×Int)
def DA (b:Int→Int) (k z:Int):Int→Int:=fun n=>if n=k then z else b n
def nA (st:List aF) (t:Int×Int) (i:Int):Nat→List au→(Int→Int)→CB×(Int→Int)
 | _,[],b=>([],b)
 | k,x::r,b=>if zK st t x (b x.2.1+ko x.2.2.2.1)=0 then nA st t i (k+1) r (DA b x.2.1 (b x.2.1+ko x.2.2.2.1))
  else ((i,(k:Int),zK st t x (b x.2.1+ko x.2.2.2.1))::(nA st t i (k+1) r b).1,(nA st t i (k+1) r b).2)
def vK (num:Bys) (stf:Int→List aF) (t:Int×Int) (pre:List ah) (i:Int) (v:ah) (b:Int→Int):CB×(Int→Int):=
 if v.2.1≠num then ([(i, -1,1)],b)
 else if (pre.any fun u=>u.1==v.1)=true then ([(i, -1,2)],b)
 else nA (stf v.2.2.1) t i 0 v.2.2.2.2.2.2.2.1 b
def yA (num:Bys) (stf:Int→List aF) (t:Int×Int):List ah→List ah→(Int→Int)→CB×(Int→Int)
 | _,[],b=>([],b)
 | pre,v::r,b=>((vK num stf t pre pre.length v b).1++(yA num stf t (pre++[v]) r (vK num stf t pre pre.length v b).2).1,(yA num stf t (pre++[v]) r (vK num stf t pre pre.length v b).2).2)
def BB (b:Int→Int):Prop:=∀ n,0≤b n∧b n≤10 ^ 26
def StB (st:List aF):Prop:=∀ s∈st,0≤dU s∧dU s≤10 ^ 24
theorem aaX {st:List aF} {t:Int×Int} {x:au} {n:Int} (h:zK st t x n=0):∃ s,st.find? (fun s=>s.1==x.2.1)=some s∧0≤n∧n*1000≤dU s*(1000+t.2):=by
 unfold zK at h
 split at h
 ·cases h
 ·rename_i s hs
  split at h
  ·cases h
  split at h
  ·cases h
  split at h
  ·cases h
  ·exact⟨s,hs,by omega,by omega⟩
theorem XK {st:List aF} {t:Int×Int} {x:au} {n:Int} (hst:StB st) (ht:t.2≤1000) (h:zK st t x n=0):0≤n∧n≤10 ^ 26:=by
 obtain⟨s,hs,h1,h2⟩:=aaX h
 obtain⟨h3,h4⟩:=hst s (List.mem_of_find?_eq_some hs)
 have h5:dU s*(1000+t.2)≤dU s*2000:=agY (by omega) h3
 exact⟨h1,by omega⟩
theorem ZF {b:Int→Int} {k z:Int} (h:BB b) (hz:0≤z∧z≤10 ^ 26):BB (DA b k z):=fun n=>by
 unfold DA
 split
 ·exact hz
 ·exact h n
theorem Oa {st:List aF} {t:Int×Int} {i:Int} (hst:StB st) (ht:t.2≤1000):∀ (l:List au) (k:Nat) (b:Int→Int),BB b→BB (nA st t i k l b).2
 | [],_,_,h=>h
 | x::r,k,b,h=>by
  unfold nA
  split
  ·rename_i h0
   exact Oa hst ht r _ _ (ZF h (XK hst ht h0))
  ·exact Oa hst ht r _ _ h
theorem ZS {num:Bys} {stf:Int→List aF} {t:Int×Int} {pre:List ah} {i:Int} {v:ah} {b:Int→Int} (hst:∀ d,StB (stf d)) (ht:t.2≤1000) (h:BB b):BB (vK num stf t pre i v b).2:=by
 unfold vK
 split
 ·exact h
 ·split
  ·exact h
  ·exact Oa (hst _) ht _ _ _ h
theorem Vs {num:Bys} {stf:Int→List aF} {t:Int×Int} (hst:∀ d,StB (stf d)) (ht:t.2≤1000):∀ (l pre:List ah) (b:Int→Int),BB b→BB (yA num stf t pre l b).2
 | [],_,_,h=>h
 | v::r,pre,b,h=>Vs hst ht r _ _ (ZS hst ht h)
def JF (t:Int×Int):Int:=if t.1<0∨1000<t.1∨t.2<0∨1000<t.2 then 1 else 0
def kT:Option ah→List ah→Int
 | _,[]=>0
 | p,x::r=>if eH x≠0 then eH x else if (p.any fun q=>decide (x.2.2.1<q.2.2.1))=true then 8 else kT (some x) r
def mF (o:av) (l:List aj) (t:Int×Int) (v:List ah):Int:=
 if gA o l≠0 then gA o l else if JF t≠0 then JF t else if 200<v.length then 2 else kT none v
structure MOk (o:av) (l:List aj) (t:Int×Int) (v:List ah):Prop where
 chk:gA o l=0
 t1:0≤t.1∧t.1≤1000
 t2:0≤t.2∧t.2≤1000
 len:v.length≤200
 go:kT none v=0
theorem ae1 {o:av} {l:List aj} {t:Int×Int} {v:List ah} (h:mF o l t v=0):MOk o l t v:=by
 unfold mF at h
 split at h
 ·omega
 rename_i h1
 split at h
 ·omega
 rename_i h2
 split at h
 ·omega
 rename_i h3
 have h2':JF t=0:=by omega
 unfold JF at h2'
 split at h2'
 ·cases h2'
 ·exact⟨by omega,by omega,by omega,by omega,h⟩
theorem aa2 {o:av} {l:List aj} {t:Int×Int} {v:List ah} (h:MOk o l t v):mF o l t v=0:=by
 obtain⟨h1,h2,h3,h4,h5⟩:=h
 unfold mF
 rw[ajy (by omega),ajy,ajy (by omega),h5]
 unfold JF
 rw[ajy (by omega)]
 decide
theorem SU:∀ (a c:List ah) (p:Option ah),kT p (a++c)=0→kT p a=0
 | [],_,_,_=>rfl
 | x::a,c,p,h=>by
  simp only[ahk,kT] at h ⊢
  split at h
  ·rename_i h1;rw[ajz h1];exact h
  ·rename_i h1
   rw[ajy h1]
   split at h
   ·cases h
   ·rename_i h2;rw[ajy h2];exact SU a c _ h
theorem Lj:∀ {v:List ah} {p:Option ah},kT p v=0→∀ x∈v,eH x=0
 | [],_,_,x,hx=>by cases hx
 | y::r,p,h,x,hx=>by
  simp only[kT] at h
  split at h
  ·rename_i h1;exact absurd h h1
  rename_i h1
  split at h
  ·cases h
  rcases ah7.1 hx with rfl | hx
  ·exact agT h1
  ·exact Lj h x hx
theorem MOk.take {o:av} {l:List aj} {t:Int×Int} {v:List ah} (h:MOk o l t v) (k:Nat):MOk o l t (v.take k):=
 ⟨h.chk,h.t1,h.t2,by rw[ahZ];have:=h.len;omega,SU _ (v.drop k) _ (by rw[aiA];exact h.go)⟩
def stF (o:av) (l:List aj) (d:Int):List aF:=if lnF o l d=0 then (kF (yg o l 0 d).1).map jO else []
structure StaOk (s:aF):Prop where
 pr:cA s.2.2.2.2.1
 rc:cA s.2.2.2.2.2.2.2.1
 rt:cA s.2.2.2.2.2.2.2.2.1
 k0:0≤dU s
 k1:dU s≤10 ^ 24
theorem UT {o:av} {l:List aj} {d:Int} {s:aF} (h:gA o l=0) (hs:s∈stF o l d):∃ x,LOk x∧IB x∧s=jO x:=by
 unfold stF at hs
 split at hs
 ·obtain⟨x,hx,rfl⟩:=aid.1 hs
  have hx':=(vl _).mem_iff.1 hx
  have hg:=(Gq h 0 d).1
  exact⟨x,(hg.sound.line x hx').1,hg.pr x hx',rfl⟩
 ·cases hs
theorem Lp {x:az} (hx:LOk x):dU (jO x)=(x.rcv - x.ret)*1000000:=by
 have h1:=hx.ret0;have h2:=hx.retr;have h3:=hx.rcvs;have h4:=hx.shp1
 show ko (nu x.rcv) - ko (nu x.ret)=_
 rw[(GH (n:=x.rcv) (by omega)).2,(GH (n:=x.ret) (by omega)).2]
 omega
theorem Yo {x:az} (hx:LOk x) (hp:IB x):StaOk (jO x):=by
 have h1:=hx.ret0;have h2:=hx.retr;have h3:=hx.rcvs;have h4:=hx.shp1
 obtain⟨p1,p2,p3,p4⟩:=hp
 obtain⟨g1,g2,g3⟩:=Ge x.price.2.toNat x.price.1
 have hk:=Lp hx
 refine⟨⟨by show (few x.price.2.toNat x.price.1).1.natAbs≤_;omega,by show (0:Int)≤((few x.price.2.toNat x.price.1).2:Int);omega,by show ((few x.price.2.toNat x.price.1).2:Int)≤9;omega⟩,(GH (n:=x.rcv) (by omega)).1,(GH (n:=x.ret) (by omega)).1,by rw[hk];omega,by rw[hk];omega⟩
theorem TC {o:av} {l:List aj} (h:gA o l=0) (d:Int):∀ s∈stF o l d,StaOk s:=fun s hs=>by
 obtain⟨x,hx,hp,rfl⟩:=UT h hs
 exact Yo hx hp
theorem abq {o:av} {l:List aj} (h:gA o l=0) (d:Int):StB (stF o l d):=fun s hs=>⟨(TC h d s hs).k0,(TC h d s hs).k1⟩
theorem DH {d:ai} (h:cA d):(ko d).natAbs≤10 ^ 24:=by
 unfold ko
 have h1:=h.1
 rw[ag0]
 have h2:((10:Int) ^ (9 - d.2).toNat).natAbs≤10 ^ 9:=by
  rw[ag3]
  exact ai5 (by decide) (by have:=h.2.1;omega)
 have h3:=ai0 h1 h2
 omega
theorem jd {n:Nat} (h:n≤10 ^ 60):n<4294967296 ^ 99:=by
 have h1:(10:Nat) ^ 60<4294967296 ^ 99:=by decide
 omega
theorem qz {d:ai} (h:cA d):l8 d=some (W (ko d),()):=by
 obtain⟨h1,h2,h3⟩:=h
 unfold l8
 rw[vq d 9 (by omega) (by omega) (by omega) (by omega) (by omega),ajb]
 rfl
end Go.Md
set_option linter.all false
namespace Go.Md
open Go.Dn
abbrev MB:=av×(List aj)×bw×(List ah)×(List (Int×(List aF)))×(List (Int×aa))×(List cQ)×Unit
abbrev Ax:=List (Int×List aF)
abbrev Ed:=List (Int×aa)
def oM (o:av) (l:List aj) (S:Ax):Prop:=∀ d s,cz (k:=tI) (v:= .slice cc) S d=some s→s=stF o l d
def BOk (M:Ed) (b:Int→Int):Prop:=∀ n,Option.getD (α:=aa) (cz (k:=tI) (v:=aq) M n) (false,[])=W (b n)
theorem Cj (a b:(tI).den):Ty.beq tI a b=true↔a=b:=by
 show ((show Int from a)==(show Int from b))=true↔_
 exact beq_iff_eq
theorem oM.set {o:av} {l:List aj} {S:Ax} (h:oM o l S) (d:Int):oM o l (nM (k:=tI) (v:= .slice cc) S d (stF o l d)):=fun n s hs=>by
 have e:= @Oc tI (.slice cc) Cj S d (stF o l d) n
 replace hs:=e.symm.trans hs
 cases hb:Ty.beq tI d n with
 | true=>
  rw[hb,ajo] at hs
  have:=(Cj d n).1 hb
  subst this
  cases hs;rfl
 | false=>
  rw[hb,ajn] at hs
  exact h n s hs
theorem BOk.set {M:Ed} {b:Int→Int} (h:BOk M b) (k z:Int):BOk (nM (k:=tI) (v:=aq) M k (W z)) (DA b k z):=fun n=>by
 have e:= @Oc tI aq Cj M k (W z) n
 refine (congrArg (fun q=>Option.getD (α:=aa) q (false,[])) e).trans ?_
 unfold DA
 cases hb:Ty.beq tI k n with
 | true=>
  have:=(Cj k n).1 hb
  subst this
  rw[ajo,ajz rfl];rfl
 | false=>
  have hne:¬n=k:=fun e=>by
   subst e
   have:=(Cj n n).2 rfl
   rw[hb] at this;cases this
  rw[ajn]
  exact (h n).trans (congrArg W (ajy hne).symm)
theorem Qp {o:av} {l:List aj} {t:bw} {v:List ah} {S:Ax} {M:Ed} {out:CB} (hS:oM o l S) (day:Int):
 ∃ S',oM o l S'∧lH ((o,l,t,v,S,M,out,()):MB) day=some (stF o l day,((o,l,t,v,S',M,out,()):MB),()):=by
 unfold lH
 dsimp only
 cases hg:cz (k:=tI) (v:= .slice cc) S day with
 | none=>
  refine⟨_,hS.set day, ?_⟩
  change (bif true then _ else _)=_
  rw[ajo,BL,ajb]
  rfl
 | some s=>
  refine⟨S,hS, ?_⟩
  change (bif false then _ else _)=_
  rw[ajn, ← hS day s hg]
  rfl
theorem Xx {α:Type} (p:α→Bool):∀ l:List α,(l.findIdx? p=none∧l.find? p=none)∨∃ (k:Nat) (s:α),l.findIdx? p=some k∧l[k]? =some s∧l.find? p=some s
 | []=> .inl ⟨rfl,rfl⟩
 | a::r=>by
  rw[ahx,ahv]
  cases hp:p a with
  | true=>exact .inr ⟨0,a,rfl,rfl,rfl⟩
  | false=>
   rcases Xx p r with ⟨h1,h2⟩ | ⟨k,s,h1,h2,h3⟩
   ·exact .inl ⟨by simp[h1],h2⟩
   ·exact .inr ⟨k+1,s,by simp[h1],by simpa using h2,h3⟩
theorem Wo (st:List aF) (x:au) (hl:st.length<1000000000):kX st x=some (match st.findIdx? (fun s=>s.1==x.2.1) with | some k=>(k:Int) | none=> -1,()):=by
 unfold kX
 have loop:∀ (r:List aF) (i n:Nat),st.drop i=r→i≤st.length→r.length<n→
  iter (X:=jv) (β:=jt) n (st,x,(st.length:Int),(i:Int),()) ic=some (match r.findIdx? (fun s=>s.1==x.2.1) with | some k=>Sum.inl (((i+k:Nat):Int),()) | none=>Sum.inr ()):=by
  intro r
  induction r with
  | nil=>
   intro i n hdr hi hn
   have:i=st.length:=by
    have:=congrArg List.length hdr
    simp at this;omega
   subst this
   obtain⟨n,rfl⟩:∃ m,n=m+1:=⟨n - 1,by omega⟩
   rw[bY]
   unfold ic
   dsimp only
   rw[aO (by omega)]
   rfl
  | cons y r ih=>
   intro i n hdr hi hn
   have hy:st[i]? =some y:=by
    have:=congrArg (·[0]?) hdr
    simpa [ahE] using this
   have hr':st.drop (i+1)=r:=by
    have:=congrArg List.tail hdr
    simpa [aix] using this
   have hlt:=(ahH.1 hy).1
   obtain⟨n,rfl⟩:∃ m,n=m+1:=⟨n - 1,by simp at hn;omega⟩
   rw[bY]
   generalize hag:(fun y=>iter n y ic)=again
   unfold ic
   dsimp only
   rw[aP (by omega),bQ,hy,ajb]
   unfold xm
   rw[ajb]
   dsimp only
   rw[ahx]
   cases hb:(y.1==x.2.1) with
   | true=>rfl
   | false=>
    rw[ajn,aC (n:=(i:Int)+1) (by omega) (by omega), ← hag,show (i:Int)+1=((i+1:Nat):Int) by omega]
    refine (ih (i+1) n hr' (by omega) (by simp at hn;omega)).trans ?_
    cases hq:r.findIdx? (fun s=>s.1==x.2.1) with
    | none=>simp
    | some q=>simp;omega
 have:=loop st 0 (List.length st+(Int.natAbs ((List.length st:Int))+(Int.natAbs (0:Int)+2))) rfl (ai8 _) (by omega)
 rw[show ((0:Nat):Int)=0 from rfl] at this
 rw[this]
 cases hq:st.findIdx? (fun s=>s.1==x.2.1) with
 | none=>rfl
 | some q=>simp[aT]
theorem TX (l:List ah) (y:ah) (hl:l.length<1000000000):iW l y=some (l.any (fun o=>o.1==y.1),()):=by
 unfold iW nR
 have loop:iter (X:=gd) (β:=fZ) (List.length l+(Int.natAbs ((List.length l:Int))+(Int.natAbs (0:Int)+2))) (l,y,(List.length l:Int),0,()) fW=some (Sum.inr ())∧l.any (fun o=>o.1==y.1)=false∨
  ∃ i:Nat,iter (X:=gd) (β:=fZ) (List.length l+(Int.natAbs ((List.length l:Int))+(Int.natAbs (0:Int)+2))) (l,y,(List.length l:Int),0,()) fW=some (Sum.inl ((i:Int),()))∧l.any (fun o=>o.1==y.1)=true:=by
  refine bX (Inv:=fun i x=>x=(l,y,(List.length l:Int),(i:Int),())∧(l.take i).any (fun o=>o.1==y.1)=false) l.length (fun r=>r=some (Sum.inr ())∧l.any (fun o=>o.1==y.1)=false∨∃ i:Nat,r=some (Sum.inl ((i:Int),()))∧l.any (fun o=>o.1==y.1)=true) ?_ ?_ _ 0 _ ⟨rfl,by simp⟩ (by omega) (by omega)
  ·rintro i _ again hi ⟨rfl,hn⟩ ih
   unfold fW
   dsimp only
   have hy:l[i]? =some l[i]:=bu hi
   rw[aP (by omega),bQ,hy,ajb]
   unfold tw
   rw[ajb]
   dsimp only
   cases hb:(l[i].1==y.1) with
   | true=>
    right
    exact⟨i,rfl,ahh.2 ⟨l[i],ahR _,hb⟩⟩
   | false=>
    rw[ajn,aC (by omega) (by omega)]
    refine ih _ ⟨rfl, ?_⟩
    rw[aiz,hy,List.any_append,hn]
    simp[hb]
  ·rintro _ again ⟨rfl,hn⟩
   unfold fW
   dsimp only
   rw[aO (by omega)]
   rw[aiC (aiN _)] at hn
   exact .inl ⟨rfl,hn⟩
 rcases loop with ⟨h1,h2⟩ | ⟨i,h1,h2⟩
 ·rw[h1,aS,ajb,h2];rfl
 ·rw[h1,mU,ajb,h2];simp
theorem Od {a b:Int} {m n:Nat} (ha:a.natAbs≤m) (hb:b.natAbs≤n):(a*b).natAbs≤m*n:=by
 rw[ag0];exact ai0 ha hb
theorem aaj (x y:Int):decide ((x - y).sign>0)=decide (y<x):=by
 rcases Int.lt_trichotomy y x with h | h | h
 ·rw[aha (by omega),ajr h];rfl
 ·subst h;rw[Int.sub_self];simp
 ·rw[ag9 (by omega),ajq (show ¬y<x by omega)];rfl
theorem ad8 (x:Int):decide (x.sign<0)=decide (x<0):=by
 rcases Int.lt_trichotomy x 0 with h | h | h
 ·rw[ag9 h,ajr h];rfl
 ·subst h;rfl
 ·rw[aha h,ajq (show ¬x<0 by omega)];rfl
theorem ZY {z:Int} (hz:z.natAbs≤10 ^ 30) {t:Int} (h0:0≤t) (h1:t≤1000):Ev (W z) t=some (W (z*(1000+t)),()):=by
 unfold Ev
 rw[aC (by omega) (by omega),di _ (by omega) (by omega),ajb,dB _ _ (jd (by omega)) (jd (by omega)),ajb]
theorem Uv {s:aF} (h:StaOk s):B5 s=some (W (dU s),()):=by
 unfold B5
 rw[qz h.rc,ajb,qz h.rt,ajb,Aw _ _ (jd (by have:=DH h.rc;omega)) (jd (by have:=DH h.rt;omega)),ajb]
 rfl
structure TO (x:au):Prop where
 q:cA x.2.2.2.1
 p:cA x.2.2.2.2.2.1
 per:1≤x.2.2.2.2.2.2.1∧x.2.2.2.2.2.2.1≤100000
theorem aee {pl:Int} {rates:List aD} {x:au} (h:yf pl rates x):TO x:=⟨h.q,h.p,h.per⟩
theorem aeT {o:av} {l:List aj} {t:bw} {v:List ah} {S:Ax} {M:Ed} {out:CB} {b:Int→Int} (hc:gA o l=0) (ht1:0≤t.1∧t.1≤1000) (ht2:0≤t.2∧t.2≤1000)
 (hS:oM o l S) (hM:BOk M b) (hb:BB b) (day:Int) {x:au} (hx:TO x):
 ∃ S',oM o l S'∧ur ((o,l,t,v,S,M,out,()):MB) day x=some (zK (stF o l day) t x (b x.2.1+ko x.2.2.2.1),((o,l,t,v,S',M,out,()):MB),()):=by
 obtain⟨S',hS',e⟩:=Qp (t:=t) (v:=v) (M:=M) (out:=out) hS day
 refine⟨S',hS', ?_⟩
 have hlen:(stF o l day).length<1000000000:=by
  unfold stF
  split
  ·rw[ahU,(vl _).length_eq]
   have:=(Gq hc 0 day).2.len
   omega
  ·simp
 unfold ur zK
 dsimp only
 rw[e,ajb]
 dsimp only
 rw[Wo _ _ hlen,ajb]
 rcases Xx (fun s:aF=>s.1==x.2.1) (stF o l day) with ⟨h1,h2⟩ | ⟨k,s,h1,h2,h3⟩
 ·rw[h1,h2];rfl
 rw[h1,h3]
 dsimp only
 have hs:=TC hc day s (aie h2)
 rw[aO (show ¬((k:Int)<0) from Int.not_lt.2 (ag5 k)),bQ,h2,ajb]
 by_cases ha:s.2.1=x.2.2.1
 rotate_left
 ·rw[show (!(s.2.1==x.2.2.1))=true by simp[ha],ajo,ajz (fun h=>ha h.1)]
 rw[show (!(s.2.1==x.2.2.1))=false by simp[ha],ajn]
 by_cases hu:s.2.2.1=x.2.2.2.2.1
 rotate_left
 ·rw[show (!(s.2.2.1==x.2.2.2.2.1))=true by simp[hu],ajo,ajz (fun h=>hu h.2)]
 rw[show (!(s.2.2.1==x.2.2.2.2.1))=false by simp[hu],ajn,ajy (fun h=>h ⟨ha,hu⟩)]
 have n1:=DH hx.p
 have n2:=DH hs.pr
 have n3:=DH hx.q
 have m1:(ko x.2.2.2.2.2.1*1000).natAbs≤10 ^ 24*1000:=Od n1 (by decide)
 have m2:(ko s.2.2.2.2.1*(1000+t.1)).natAbs≤10 ^ 24*2000:=Od n2 (by omega)
 have m3:(ko s.2.2.2.2.1*(1000+t.1)*x.2.2.2.2.2.2.1).natAbs≤10 ^ 24*2000*100000:=Od m2 (by have:=hx.per;omega)
 rw[qz hx.p,ajb,di 1000 (by omega) (by omega),ajb,dB _ _ (jd (by omega)) (jd (by omega)),ajb,qz hs.pr,ajb,
  ZY (by omega) ht1.1 ht1.2,ajb,di _ (by have:=hx.per;omega) (by have:=hx.per;omega),ajb,dB _ _ (jd (by omega)) (jd (by have:=hx.per;omega)),ajb,
  qv _ _ (jd (by omega)) (jd (by omega)),ajb]
 dsimp only
 rw[aaj]
 by_cases hp:ko s.2.2.2.2.1*(1000+t.1)*x.2.2.2.2.2.2.1<ko x.2.2.2.2.2.1*1000
 ·rw[aP hp,ajz hp]
 rw[aO hp,ajy hp,qz hx.q,ajb,hM x.2.1]
 obtain⟨b0,b1⟩:=hb x.2.1
 have m4:(b x.2.1+ko x.2.2.2.1).natAbs≤10 ^ 27:=by omega
 have m5:((b x.2.1+ko x.2.2.2.1)*1000).natAbs≤10 ^ 27*1000:=Od m4 (by decide)
 have k0:=hs.k0;have k1:=hs.k1
 have m6:(dU s*(1000+t.2)).natAbs≤10 ^ 24*2000:=Od (by omega) (by omega)
 rw[cO _ _ (jd (by omega)) (jd (by omega)),ajb,iu,ajb]
 dsimp only
 rw[ad8]
 by_cases hn:b x.2.1+ko x.2.2.2.1<0
 ·rw[aP hn,ajz (.inl hn)]
 rw[aO hn,ajb,dB _ _ (jd (by omega)) (jd (by omega)),ajb,Uv hs,ajb,ZY (by omega) ht2.1 ht2.2,ajb,
  qv _ _ (jd (by omega)) (jd (by omega)),ajb]
 dsimp only
 rw[aaj]
 by_cases hq:dU s*(1000+t.2)<(b x.2.1+ko x.2.2.2.1)*1000
 ·rw[aP hq,ajz (.inr hq)]
 ·rw[aO hq,ajy (fun h=>h.elim hn hq)]
end Go.Md
set_option linter.all false
namespace Go.Md
open Go.Dn
theorem Lr (st:List aF) (t:Int×Int) (i:Int):∀ (l:List au) (k:Nat) (b:Int→Int),(nA st t i k l b).1.length≤l.length
 | [],_,_=>ai8 _
 | x::r,k,b=>by
  unfold nA
  split
  ·have:=Lr st t i r (k+1) (DA b x.2.1 (b x.2.1+ko x.2.2.2.1))
   simp only[ahT];omega
  ·have:=Lr st t i r (k+1) b
   simp only[ahT];omega
theorem Uz {o:av} {l:List aj} {t:bw} {v:List ah} {S:Ax} {M:Ed} {out:CB} (line kind i:Int) (h:out.length≤1000000):
 jb line kind ((o,l,t,v,S,M,out,()):MB) (i,())=some (((o,l,t,v,S,M,out++[(i,line,kind)],()):MB),(i,()),()):=by
 have BE:maxLen=9223372036854775807:=rfl
 unfold jb
 dsimp only
 rw[aW (by rw[agC];exact⟨ajr (by omega),ajr (by omega)⟩)]
theorem Zc {o:av} {l:List aj} {t:bw} {v:List ah} (hc:gA o l=0) (ht1:0≤t.1∧t.1≤1000) (ht2:0≤t.2∧t.2≤1000) (i:Int) (y:ah) (ls:List au) (hls:ls.length≤1000) (hx:∀ x∈ls,TO x):
 ∀ (r:List au) (k n:Nat) (S:Ax) (M:Ed) (b:Int→Int) (out:CB),ls.drop k=r→k≤ls.length→r.length<n→oM o l S→BOk M b→BB b→out.length+r.length≤1000000→
  ∃ S' M',oM o l S'∧BOk M' (nA (stF o l y.2.2.1) t i k r b).2∧
   iter (X:=nr) (β:=nq) n (ls,(ls.length:Int),(k:Int),i,y.1,y.2.1,y.2.2.1,y.2.2.2.1,y.2.2.2.2.1,y.2.2.2.2.2.1,y.2.2.2.2.2.2.1,y.2.2.2.2.2.2.2.1,y.2.2.2.2.2.2.2.2,o.1,o.2.1,o.2.2.1,o.2.2.2.1,o.2.2.2.2.1,o.2.2.2.2.2,l,t.1,t.2,v,S,M,out,()) kj
    =some (Sum.inr (o.1,o.2.1,o.2.2.1,o.2.2.2.1,o.2.2.2.2.1,o.2.2.2.2.2,l,t.1,t.2,v,S',M',out++(nA (stF o l y.2.2.1) t i k r b).1,())):=by
 obtain⟨o1,o2,o3,o4,o5,o6⟩:=o
 obtain⟨t1,t2⟩:=t
 obtain⟨y1,y2,y3,y4,y5,y6,y7,y8,y9⟩:=y
 dsimp only at*
 intro r
 induction r with
 | nil=>
  intro k n S M b out hdr hk hn hS hM hb ho
  have:k=ls.length:=by
   have:=congrArg List.length hdr
   simp at this;omega
  subst this
  obtain⟨n,rfl⟩:∃ m,n=m+1:=⟨n - 1,by omega⟩
  refine⟨S,M,hS,hM, ?_⟩
  rw[bY]
  unfold kj
  dsimp only
  rw[aO (by omega)]
  simp only[nA,ahj]
 | cons x r ih=>
  intro k n S M b out hdr hk hn hS hM hb ho
  have hxk:ls[k]? =some x:=by
   have:=congrArg (·[0]?) hdr
   simpa [ahE] using this
  have hr':ls.drop (k+1)=r:=by
   have:=congrArg List.tail hdr
   simpa [aix] using this
  have hlt:=(ahH.1 hxk).1
  have hbx:=hx x (aie hxk)
  obtain⟨n,rfl⟩:∃ m,n=m+1:=⟨n - 1,by simp at hn;omega⟩
  simp only[ahT] at hn ho
  obtain⟨S1,hS1,e1⟩:=aeT (t:=(t1,t2)) (v:=v) (out:=out) hc ht1 ht2 hS hM hb y3 hbx
  rw[bY]
  generalize hag:(fun y=>iter n y kj)=again
  unfold kj nA
  dsimp only
  rw[aP (by omega),bQ,hxk,ajb,e1,ajb]
  dsimp only
  by_cases h0:zK (stF (o1,o2,o3,o4,o5,o6) l y3) (t1,t2) x (b x.2.1+ko x.2.2.2.1)=0
  ·obtain⟨z0,z1⟩:=XK (abq hc y3) ht2.2 h0
   have b1:=hb x.2.1
   have q1:=DH hbx.q
   rw[h0,zne,ajn,ajz rfl,qz hbx.q,ajb,hM x.2.1,cO _ _ (jd (by omega)) (jd (by omega)),ajb,aC (n:=(k:Int)+1) (by omega) (by omega), ← hag,show (k:Int)+1=((k+1:Nat):Int) by omega]
   exact ih (k+1) n S1 _ _ out hr' (by omega) (by omega) hS1 (hM.set x.2.1 _) (ZF hb ⟨z0,z1⟩) (by omega)
  ·rw[dM h0,ajo,ajy h0,Uz _ _ _ (by omega),ajb,aC (n:=(k:Int)+1) (by omega) (by omega), ← hag,show (k:Int)+1=((k+1:Nat):Int) by omega]
   obtain⟨S2,M2,g1,g2,g3⟩:=ih (k+1) n S1 M b (out++[(i,(k:Int),zK (stF (o1,o2,o3,o4,o5,o6) l y3) (t1,t2) x (b x.2.1+ko x.2.2.2.1))]) hr' (by omega) (by omega) hS1 hM hb (by simp;omega)
   refine⟨S2,M2,g1,g2,g3.trans ?_⟩
   rw[ahi];rfl
theorem S7 {y:ah} (h:eH y=0):(∀ x∈y.2.2.2.2.2.2.2.1,TO x)∧y.2.2.2.2.2.2.2.1.length≤500:=⟨fun x hx=>aee ((sN h).lines x hx),(sN h).ln.2⟩
theorem aaV {o:av} {l:List aj} {t:bw} {v:List ah} {S:Ax} {M:Ed} {out:CB} {b:Int→Int} (hc:gA o l=0) (ht1:0≤t.1∧t.1≤1000) (ht2:0≤t.2∧t.2≤1000) (hv:v.length≤200) {i:Nat} {y:ah} (hy:v[i]? =some y) (hi:eH y=0)
 (hS:oM o l S) (hM:BOk M b) (hb:BB b) (ho:out.length+500≤1000000):
 ∃ S' M',oM o l S'∧BOk M' (vK o.1 (stF o l) t (v.take i) i y b).2∧me ((o,l,t,v,S,M,out,()):MB) i=some (((o,l,t,v,S',M',out++(vK o.1 (stF o l) t (v.take i) i y b).1,()):MB),()):=by
 have hlt:=(ahH.1 hy).1
 obtain⟨hx,hll⟩:=S7 hi
 unfold me vK
 dsimp only
 rw[bQ,hy,ajb]
 by_cases hn:y.2.1=o.1
 rotate_left
 ·rw[show (!(y.2.1==o.1))=true by simp[hn],ajo,ajz hn,Uz _ _ _ (by omega),ajb]
  exact⟨S,M,hS,hM,rfl⟩
 rw[show (!(y.2.1==o.1))=false by simp[hn],ajn,ajy (fun h=>h hn),aW (by simp;omega),ahc,ahq,TX _ _ (by rw[ahZ];omega),ajb]
 dsimp only
 cases ha:(v.take i).any fun u=>u.1==y.1 with
 | true=>
  rw[ajo,ajz rfl,Uz _ _ _ (by omega),ajb]
  exact⟨S,M,hS,hM,rfl⟩
 | false=>
  rw[ajn,ajy (by decide)]
  obtain⟨S',M',g1,g2,g3⟩:=Zc (v:=v) hc ht1 ht2 (i:Int) y y.2.2.2.2.2.2.2.1 (by omega) hx y.2.2.2.2.2.2.2.1 0 (y.2.2.2.2.2.2.2.1.length+(Int.natAbs ((y.2.2.2.2.2.2.2.1.length:Int))+(Int.natAbs (0:Int)+(Int.natAbs (i:Int)+(y.1.length+(y.2.1.length+(y.2.2.1.natAbs+(y.2.2.2.1.natAbs+(y.2.2.2.2.1.natAbs+(y.2.2.2.2.2.2.1.length+(y.2.2.2.2.2.2.2.1.length+(y.2.2.2.2.2.2.2.2.length+(o.1.length+(o.2.1.length+(o.2.2.1.length+(o.2.2.2.1.natAbs+(o.2.2.2.2.1.natAbs+(o.2.2.2.2.2.length+(List.length l+(t.1.natAbs+(t.2.natAbs+(List.length v+(List.length S+(List.length M+(List.length out+2)))))))))))))))))))))))))
   S M b out rfl (ai8 _) (aiQ (by with_reducible repeat (first | exact ai9 | refine aiP _ ?_))) hS hM hb (by omega)
  refine⟨S',M',g1,g2, ?_⟩
  refine (congrArg (fun q=>aT q _) g3).trans ?_
  rfl
end Go.Md
set_option linter.all false
set_option maxRecDepth 20000
namespace Go.Md
open Go.Dn
theorem adk (t:bw):nw t=some (JF t,()):=by
 unfold nw JF
 rw[eD,ajb]
 dsimp only
 by_cases h1:t.1<0∨1000<t.1
 ·rw[ajr h1,ajo,ajz (by omega)]
 ·rw[ajq h1,ajn,eD,ajb]
  dsimp only
  by_cases h2:t.2<0∨1000<t.2
  ·rw[ajr h2,ajo,ajz (by omega)]
  ·rw[ajq h2,ajn,ajy (by omega)]
theorem VF {v:List ah} {i:Nat} (x:ah) (hi:i<v.length) (hv:v.length≤200):
 (bif decide ((i:Int)>0) then Option.bind (idx v (w64 ((i:Int) - 1))) fun y4=>some (decide (x.2.2.1<y4.2.2.1),()) else some (false,()))=some ((de v i).any fun q=>decide (x.2.2.1<q.2.2.1),()):=by
 cases i with
 | zero=>rfl
 | succ j=>
  have hj:v[j]? =some v[j]:=ahF (by omega)
  rw[aP (by omega),aC (by omega) (by omega),show ((j+1:Nat):Int) - 1=(j:Int) by omega,bQ,hj,ajb]
  show _=some ((v[j]?).any _,())
  rw[hj];rfl
def abk {γ:Type} (z:Int) (g:γ):((Option Nat)×Int×Unit) ⊕ γ:=if z≠0 then Sum.inl (none,z,()) else Sum.inr g
theorem UM {γ:Type} {z:Int} (h:z≠0) (g:γ):abk z g=Sum.inl (none,z,()):=ajz h
theorem afN {γ:Type} (g:γ):abk 0 g=Sum.inr g:=rfl
theorem Wr {o:av} {l:List aj} {t:bw} {v:List ah} (hv:v.length≤200):∀ (r:List ah) (i n:Nat),v.drop i=r→i≤v.length→r.length<n→
 iter (X:=p8) (β:=pZ) n (l,v,v,(v.length:Int),(i:Int),o.1,o.2.1,o.2.2.1,o.2.2.2.1,o.2.2.2.2.1,o.2.2.2.2.2,t.1,t.2,()) mc
  =some (abk (kT (de v i) r) (l,v,o.1,o.2.1,o.2.2.1,o.2.2.2.1,o.2.2.2.2.1,o.2.2.2.2.2,t.1,t.2,())):=by
 intro r
 induction r with
 | nil=>
  intro i n hdr hi hn
  have:i=v.length:=by
   have:=congrArg List.length hdr
   simp at this;omega
  subst this
  obtain⟨n,rfl⟩:∃ m,n=m+1:=⟨n - 1,by omega⟩
  rw[bY]
  unfold mc
  dsimp only
  rw[aO (by omega),kT,afN]
 | cons x r ih=>
  intro i n hdr hi hn
  have hxi:v[i]? =some x:=by
   have:=congrArg (·[0]?) hdr
   simpa [ahE] using this
  have hr':v.drop (i+1)=r:=by
   have:=congrArg List.tail hdr
   simpa [aix] using this
  have hlt:=(ahH.1 hxi).1
  obtain⟨n,rfl⟩:∃ m,n=m+1:=⟨n - 1,by simp at hn;omega⟩
  simp only[ahT] at hn
  have ep:de v (i+1)=some x:=hxi
  rw[bY]
  generalize hag:(fun y=>iter n y mc)=again
  unfold mc
  dsimp only
  rw[aP (by omega),bQ,hxi,ajb,gz,ajb]
  dsimp only
  rw[kT]
  by_cases h0:eH x=0
  rotate_left
  ·rw[dM h0,ajo,ajz h0,UM h0]
  rw[ajy (fun h=>h h0),h0,zne,ajn,VF x hlt hv,ajb]
  dsimp only
  cases hp:(de v i).any fun q=>decide (x.2.2.1<q.2.2.1) with
  | true=>rw[ajo,ajz rfl,UM (by decide)]
  | false=>
   rw[ajn,ajy (by decide),aC (n:=(i:Int)+1) (by omega) (by omega), ← hag,show (i:Int)+1=((i+1:Nat):Int) by omega]
   exact (ih (i+1) n hr' (by omega) (by omega)).trans (by rw[ep])
theorem XQ {o:av} {l:List aj} {t:bw} {v:List ah} (hv:v.length≤200):∀ (r:List ah) (i n:Nat),v.drop i=r→i≤v.length→r.length<n→kT (de v i) r=0→
 iter (X:=sA) (β:=sw) n (l,v,v,(v.length:Int),(i:Int),o.1,o.2.1,o.2.2.1,o.2.2.2.1,o.2.2.2.2.1,o.2.2.2.2.2,t.1,t.2,()) oB
  =some (Sum.inr (l,v,o.1,o.2.1,o.2.2.1,o.2.2.2.1,o.2.2.2.2.1,o.2.2.2.2.2,t.1,t.2,())):=by
 intro r
 induction r with
 | nil=>
  intro i n hdr hi hn _
  have:i=v.length:=by
   have:=congrArg List.length hdr
   simp at this;omega
  subst this
  obtain⟨n,rfl⟩:∃ m,n=m+1:=⟨n - 1,by omega⟩
  rw[bY]
  unfold oB
  dsimp only
  rw[aO (by omega)]
 | cons x r ih=>
  intro i n hdr hi hn hz
  have hxi:v[i]? =some x:=by
   have:=congrArg (·[0]?) hdr
   simpa [ahE] using this
  have hr':v.drop (i+1)=r:=by
   have:=congrArg List.tail hdr
   simpa [aix] using this
  have hlt:=(ahH.1 hxi).1
  obtain⟨n,rfl⟩:∃ m,n=m+1:=⟨n - 1,by simp at hn;omega⟩
  simp only[ahT] at hn
  have ep:de v (i+1)=some x:=hxi
  simp only[kT] at hz
  split at hz
  ·rename_i h1;exact absurd hz h1
  rename_i h1
  have h0:eH x=0:=agT h1
  split at hz
  ·cases hz
  rename_i h2
  rw[bY]
  generalize hag:(fun y=>iter n y oB)=again
  unfold oB
  dsimp only
  rw[aP (by omega),bQ,hxi,ajb,gz,ajb]
  dsimp only
  rw[h0,zne,ajn,VF x hlt hv,ajb]
  dsimp only
  rw[Bool.eq_false_iff.2 h2,ajn,aC (n:=(i:Int)+1) (by omega) (by omega), ← hag,show (i:Int)+1=((i+1:Nat):Int) by omega]
  exact ih (i+1) n hr' (by omega) (by omega) (by rw[ep];exact hz)
theorem Ux (o:av) (l:List aj) (t:bw) (v:List ah):vz o l t v=if mF o l t v≠0 then some (none,mF o l t v,()) else none:=by
 unfold vz mF gA
 rw[rH,ajb]
 dsimp only
 by_cases h1:qO o=0
 rotate_left
 ·rw[dM h1,ajo,ajz h1,ajz h1,ajz h1]
 rw[h1,zne,ajn,xD,ajb]
 dsimp only
 rw[ajy (show ¬((0:Int)≠0) by decide)]
 by_cases h2:wF l=0
 rotate_left
 ·rw[dM h2,ajo,ajz h2,ajz h2]
 rw[h2,zne,ajn,adk,ajb]
 dsimp only
 rw[ajy (show ¬((0:Int)≠0) by decide)]
 by_cases h3:JF t=0
 rotate_left
 ·rw[dM h3,ajo,ajz h3,ajz h3]
 rw[h3,zne,ajn]
 rw[ajy (show ¬((0:Int)≠0) by decide)]
 by_cases h4:200<v.length
 ·rw[aP (by omega),ajz h4,ajz (by decide)]
 rw[aO (by omega),ajy h4]
 refine (congrArg (fun q=>aT q _) (Wr (o:=o) (l:=l) (t:=t) (v:=v) (by omega) v 0 _ rfl (ai8 _) (aiP _ (aiQ (by with_reducible repeat (first | exact ai9 | refine aiP _ ?_)))))).trans ?_
 show aT (some (abk (kT none v) _)) _=_
 by_cases h5:kT none v=0
 ·rw[h5];rfl
 ·rw[UM h5,ajz h5];rfl
theorem XP {o:av} {l:List aj} {t:bw} {v:List ah} (h:MOk o l t v):zy o l t v=some (((o,l,t,v,[],[],[],()):MB),0,()):=by
 obtain⟨h1,h2⟩:=Ew h.chk
 have h3:JF t=0:=by
  unfold JF
  have:=h.t1;have:=h.t2
  rw[ajy (by omega)]
 unfold zy
 rw[rH,ajb]
 dsimp only
 rw[h1,zne,ajn,xD,ajb]
 dsimp only
 rw[h2,zne,ajn,adk,ajb]
 dsimp only
 have h4:=h.len
 rw[h3,zne,ajn,aO (by omega)]
 refine (congrArg (fun q=>aT q _) (XQ (o:=o) (l:=l) (t:=t) (v:=v) h4 v 0 _ rfl (ai8 _) (aiP _ (aiQ (by with_reducible repeat (first | exact ai9 | refine aiP _ ?_)))) h.go)).trans ?_
 rfl
theorem af6 {a r:Nat} (h:a+500*(r+1)≤900000):a+500≤1000000:=by omega
theorem af7 {a r c:Nat} (h:a+500*(r+1)≤900000) (hc:c≤500):a+c+500*r≤900000:=by omega
theorem aes:BOk [] (fun _=>0):=fun n=>by
 show (false,[])=W 0
 decide
theorem ZD:BB (fun _=>0):=fun n=>by
 exact⟨agV _,by show (0:Int)≤10 ^ 26;decide⟩
theorem YK (o:av) (l:List aj):oM o l []:=fun d s h=>by cases h
end Go.Md
set_option linter.all false
set_option maxRecDepth 20000
namespace Go.Md
open Go.Dn
theorem adG {num:Bys} {stf:Int→List aF} {t:Int×Int} {pre:List ah} {i:Int} {x:ah} {b:Int→Int} (h:eH x=0):(vK num stf t pre i x b).1.length≤500:=by
 unfold vK
 split
 ·simp
 ·split
  ·simp
  ·have:=Lr (stf x.2.2.1) t i x.2.2.2.2.2.2.2.1 0 b
   have:=(S7 h).2
   omega
end Go.Md
set_option linter.all false
set_option maxRecDepth 20000
namespace Go.Md
open Go.Dn
def kqZ (s:aF):Int:=dU s / 1000000
theorem Ym {o:av} {l:List aj} (h:gA o l=0) {d:Int} {s:aF} (hs:s∈stF o l d):dU s=kqZ s*1000000∧0≤kqZ s∧kqZ s≤1000000000000000:=by
 obtain⟨x,hx,hp,rfl⟩:=UT h hs
 have h1:=hx.ret0;have h2:=hx.retr;have h3:=hx.rcvs;have h4:=hx.shp1
 have hk:=Lp hx
 unfold kqZ
 rw[hk,Int.mul_ediv_cancel _ (by decide)]
 exact⟨rfl,by omega,by omega⟩
theorem NL {m:Int} (h:m.natAbs≤1000000000000000):pE (W (m*1000000)) 9=some (nu m,0,()):=by
 have e:=Gr (m*1000000) (jd (by omega)) 9 (by decide)
 rw[show ((9:Nat):Int)=9 from rfl] at e
 have f:few 9 (m*1000000)=few 3 m:=Vd 6 3 m
 rw[f] at e
 obtain⟨h1,h2,h3⟩:=Ge 3 m
 rw[ajz (by omega)] at e
 exact e
def kP (rate:Bys):Nat→List aF→List au
 | _,[]=>[]
 | k,s::r=>if dU s≤0 then kP rate k r else (((k:Int)+1),s.1,s.2.1,nu (kqZ s),s.2.2.1,s.2.2.2.2.1,1,[],rate)::kP rate (k+1) r
theorem KM (rate:Bys):∀ (st:List aF) (k:Nat),(kP rate k st).length≤st.length
 | [],_=>aiN _
 | s::r,k=>by
  unfold kP
  split
  ·have:=KM rate r k;simp only[ahT];omega
  ·have:=KM rate r (k+1);simp only[ahT];omega
abbrev af3:ah:=([],[],0,0,0,false,[],[],[])
def zR (like:ah):Bys:=(like.2.2.2.2.2.2.1.headD ([],(0,0))).1
def Gc (o:av) (l:List aj) (num:Bys) (like:ah):ah:=
 (num,o.1,like.2.2.1,like.2.2.2.1,like.2.2.2.2.1,like.2.2.2.2.2.1,like.2.2.2.2.2.2.1,kP (zR like) 0 (stF o l 3652059),[])
def blF (o:av) (l:List aj) (num:Bys) (like:ah):Int:=
 if gA o l≠0 then gA o l else if cM num=false then 5 else if eH like≠0 then eH like else if kP (zR like) 0 (stF o l 3652059)=[] then 9 else eH (Gc o l num like)
theorem US {o:av} {l:List aj} (hc:gA o l=0) (d:Int):(stF o l d).length≤500:=by
 unfold stF
 split
 ·rw[ahU,(vl _).length_eq]
  exact (Gq hc 0 d).2.len
 ·simp
theorem Xd {l:List aD} (h0:0<l.length) (h1:l.length≤20):fR l=some (l,()):=by
 have BE:maxLen=9223372036854775807:=rfl
 unfold fR
 rw[show List.isEmpty l=false by cases l with | nil=>simp at h0 | cons a r=>rfl,ajn,aW (by rw[agC];exact⟨ajr (by omega),ajr (by omega)⟩)]
theorem Yk (x:Int):decide (x.sign≤0)=decide (x≤0):=by
 rcases Int.lt_trichotomy x 0 with h | h | h
 ·rw[ag9 h,ajr (show x≤0 by omega)];rfl
 ·subst h;rfl
 ·rw[aha h,ajq (show ¬x≤0 by omega)];rfl
theorem YS {st:List aF} (hst:∀ s∈st,StaOk s∧dU s=kqZ s*1000000∧0≤kqZ s∧kqZ s≤1000000000000000) (hlen:st.length≤500) {like:ah} {r0:aD} {rr:List aD} (hr:like.2.2.2.2.2.2.1=r0::rr)
 (n1 n2:Bys) (p1 p2 p3:Int) (p4:Bool) (ex:List ax) (q:List aD):
 ∀ (r:List aF) (i n:Nat) (B:List au),st.drop i=r→i≤st.length→r.length<n→B.length≤i→
 iter (X:=xR) (β:=xQ) n (st,(st.length:Int),(i:Int),like.1,like.2.1,like.2.2.1,like.2.2.2.1,like.2.2.2.2.1,like.2.2.2.2.2.1,like.2.2.2.2.2.2.1,like.2.2.2.2.2.2.2.1,like.2.2.2.2.2.2.2.2,[],[],0,0,0,false,[],[],[],n1,n2,p1,p2,p3,p4,B,ex,q,()) su
  =some (Sum.inr ([],[],0,0,0,false,[],[],[],n1,n2,p1,p2,p3,p4,B++kP r0.1 B.length r,ex,q,())):=by
 have BE:maxLen=9223372036854775807:=rfl
 obtain⟨v1,v2,v3,v4,v5,v6,v7,v8,v9⟩:=like
 dsimp only at hr ⊢
 subst hr
 intro r
 induction r with
 | nil=>
  intro i n B hdr hi hn hB
  have:i=st.length:=by
   have:=congrArg List.length hdr
   simp at this;omega
  subst this
  obtain⟨n,rfl⟩:∃ m,n=m+1:=⟨n - 1,by omega⟩
  rw[bY]
  unfold su
  dsimp only
  rw[aO (by omega)]
  simp only[kP,ahj]
 | cons s r ih=>
  intro i n B hdr hi hn hB
  have hsi:st[i]? =some s:=by
   have:=congrArg (·[0]?) hdr
   simpa [ahE] using this
  have hr':st.drop (i+1)=r:=by
   have:=congrArg List.tail hdr
   simpa [aix] using this
  have hlt:=(ahH.1 hsi).1
  obtain⟨hs,hk,hk0,hk1⟩:=hst s (aie hsi)
  obtain⟨n,rfl⟩:∃ m,n=m+1:=⟨n - 1,by simp at hn;omega⟩
  simp only[ahT] at hn
  rw[bY]
  generalize hag:(fun y=>iter n y su)=again
  unfold su kP
  dsimp only
  rw[aP (by omega),bQ,hsi,ajb,Uv hs,ajb,iu,ajb]
  dsimp only
  rw[Yk]
  by_cases h0:dU s≤0
  ·rw[aP h0,ajz h0,aC (n:=(i:Int)+1) (by omega) (by omega), ← hag,show (i:Int)+1=((i+1:Nat):Int) by omega]
   exact ih (i+1) n B hr' (by omega) (by omega) (by omega)
  ·rw[aO h0,ajy h0,hk,NL (by omega),ajb]
   dsimp only
   rw[zne,ajn,show idx (r0::rr) 0=some r0 from rfl,ajb,aW (by rw[agC];exact⟨ajr (by omega),ajr (by omega)⟩),aC (n:=(i:Int)+1) (by omega) (by omega),aC (n:=(B.length:Int)+1) (by omega) (by omega), ← hag,show (i:Int)+1=((i+1:Nat):Int) by omega]
   refine (ih (i+1) n _ hr' (by omega) (by omega) (by simp;omega)).trans ?_
   rw[ahi,ahS]
   rfl
theorem TT (o:av) (l:List aj) (num:Bys) (like:ah):Ej o l num like=some (if blF o l num like≠0 then af3 else Gc o l num like,blF o l num like,()):=by
 have hln:lnF o l 3652059=gA o l:=by
  unfold lnF
  by_cases h:gA o l=0
  ·rw[ajy (fun e=>e h),ajz (by omega),h]
  ·rw[ajz h]
 unfold Ej
 rw[rH,ajb]
 dsimp only
 by_cases h1:qO o=0
 rotate_left
 ·have:blF o l num like=qO o:=by
   have e:gA o l=qO o:=by unfold gA;rw[ajz h1]
   unfold blF;rw[e,ajz h1]
  rw[dM h1,ajo,this,ajz h1]
 rw[h1,zne,ajn,BL,ajb]
 dsimp only
 rw[hln]
 by_cases h2:gA o l=0
 rotate_left
 ·have:blF o l num like=gA o l:=by unfold blF;rw[ajz h2]
  rw[dM h2,ajo,this,ajz h2]
 have est:(if gA o l=0 then (kF (yg o l 0 3652059).1).map jO else [])=stF o l 3652059:=by unfold stF;rw[hln]
 rw[est,h2,zne,ajn,mW,ajb]
 dsimp only
 have hb:∀ z,blF o l num like=z→True:=fun _ _=>trivial
 cases h3:cM num with
 | false=>
  have:blF o l num like=5:=by unfold blF;rw[ajy (fun e=>e h2),h3,ajz rfl]
  rw[show (!false)=true from rfl,ajo,this,ajz (by decide)]
 | true=>
 rw[show (!true)=false from rfl,ajn,gz,ajb]
 dsimp only
 by_cases h4:eH like=0
 rotate_left
 ·have:blF o l num like=eH like:=by unfold blF;rw[ajy (fun e=>e h2),h3,ajy (by decide),ajz h4]
  rw[dM h4,ajo,this,ajz h4]
 have hrn:=(sN h4).rn
 rw[h4,zne,ajn,Xd hrn.1 hrn.2,ajb]
 dsimp only
 obtain⟨r0,rr,hr⟩:∃ r0 rr,like.2.2.2.2.2.2.1=r0::rr:=by
  cases hh:like.2.2.2.2.2.2.1 with
  | nil=>rw[hh] at hrn;simp at hrn
  | cons a b=>exact⟨a,b,rfl⟩
 have hrate:zR like=r0.1:=by unfold zR;rw[hr];rfl
 have loop:=YS (st:=stF o l 3652059) (fun s hs=>⟨TC h2 _ s hs,Ym h2 hs⟩) (US h2 _) hr num o.1 like.2.2.1 like.2.2.2.1 like.2.2.2.2.1 like.2.2.2.2.2.1 [] like.2.2.2.2.2.2.1 (stF o l 3652059) 0
  (List.length (stF o l 3652059)+(Int.natAbs ((List.length (stF o l 3652059):Int))+(Int.natAbs (0:Int)+(List.length like.1+(List.length like.2.1+(Int.natAbs like.2.2.1+(Int.natAbs like.2.2.2.1+(Int.natAbs like.2.2.2.2.1+(List.length like.2.2.2.2.2.2.1+(List.length like.2.2.2.2.2.2.2.1+(List.length like.2.2.2.2.2.2.2.2+(List.length ([]:Bys)+(List.length ([]:Bys)+(Int.natAbs (0:Int)+(Int.natAbs (0:Int)+(Int.natAbs (0:Int)+(List.length ([]:List aD)+(List.length ([]:List au)+(List.length ([]:List ax)+(List.length num+(o.1.length+(Int.natAbs like.2.2.1+(Int.natAbs like.2.2.2.1+(Int.natAbs like.2.2.2.2.1+(List.length ([]:List au)+(List.length ([]:List ax)+(List.length like.2.2.2.2.2.2.1+2)))))))))))))))))))))))))))
  [] rfl (ai8 _) (aiQ (by with_reducible repeat (first | exact ai9 | refine aiP _ ?_))) (aiN _)
 refine (congrArg (fun q=>aT q _) loop).trans ?_
 rw[aS]
 dsimp only
 rw[aik, ← hrate]
 show (bif ((List.length (kP (zR like) 0 (stF o l 3652059)):Int))==0 then _ else _)=_
 by_cases h5:kP (zR like) 0 (stF o l 3652059)=[]
 ·have:blF o l num like=9:=by unfold blF;rw[ajy (fun e=>e h2),h3,ajy (by decide),ajy (fun e=>e h4),ajz h5]
  rw[h5,this];rfl
 have hne:((List.length (kP (zR like) 0 (stF o l 3652059)):Int)==0)=false:=by
  rw[ajl]
  intro e
  exact h5 (List.length_eq_zero_iff.1 (by omega))
 have hbl:blF o l num like=eH (Gc o l num like):=by unfold blF;rw[ajy (fun e=>e h2),h3,ajy (by decide),ajy (fun e=>e h4),ajy h5]
 rw[hne,ajn,hbl]
 refine (congrArg (fun q=>Option.bind q _) (gz (Gc o l num like))).trans ?_
 rw[ajb]
 dsimp only
 by_cases h6:eH (Gc o l num like)=0
 ·rw[h6];rfl
 ·rw[dM h6,ajo,ajz h6]
end Go.Md
set_option linter.all false
set_option maxRecDepth 20000
namespace Go.Md
open Go.Dn
theorem RF {o:av} {l:List aj} {wt d1 d2:Int}:∀ (r:List aj) (i:Nat) (A:List az) (ref:List (Int×Int)) (pts:List aX),(∀ d∈r,d.1≤d1∧d.1≤d2)→vW o l wt d1 r i A ref pts=vW o l wt d2 r i A ref pts
 | [],_,_,_,_,_=>rfl
 | d::r,i,A,ref,pts,h=>by
  have h1:=h d ah9
  unfold vW
  rw[ajy (show ¬d1<d.1 by omega),ajy (show ¬d2<d.1 by omega)]
  by_cases c:(iD o l i d A).1≠0
  ·rw[ajz c,ajz c]
   exact RF r _ _ _ _ fun x hx=>h x (ah8 _ hx)
  ·rw[ajy c,ajy c]
   exact RF r _ _ _ _ fun x hx=>h x (ah8 _ hx)
theorem aey {q d:aj} (hq:1≤q.1∧q.1≤3652059) (hd:1≤d.1∧d.1≤3652059) (h:dCw q d<0):q.1≤d.1:=by
 unfold dCw at h
 rw[aC (n:=q.1 - d.1) (by omega) (by omega)] at h
 by_cases c:q.1 - d.1≠0
 ·rw[ajz c] at h;omega
 ·omega
theorem Nw:∀ (r:List aj) (p:Option aj) (nb ns:Int),eX r p nb ns=0→(∀ d∈r,1≤d.1∧d.1≤3652059)→(∀ q,p=some q→1≤q.1∧q.1≤3652059)→(∀ q,p=some q→∀ d∈r,q.1≤d.1)∧r.Pairwise fun a b=>a.1≤b.1
 | [],_,_,_,_,_,_=>⟨fun _ _ d hd=>(nomatch hd),.nil⟩
 | d::r,p,nb,ns,h,hr,hp=>by
  simp only[eX] at h
  split at h
  ·rename_i h0;exact absurd h h0
  split at h
  ·cases h
  rename_i hany
  have hd:=hr d ah9
  have hpd:∀ q,p=some q→q.1≤d.1:=fun q hq=>by
   subst hq
   refine aey (hp q rfl) hd ?_
   have:¬0≤dCw q d:=fun e=>hany (by show decide (0≤dCw q d)=true;exact ajr e)
   omega
  have hrec:∃ a b,eX r (some d) a b=0:=by
   split at h
   ·split at h
    ·cases h
    ·exact⟨_,_,h⟩
   ·split at h
    ·cases h
    ·exact⟨_,_,h⟩
  obtain⟨a,b,h'⟩:=hrec
  obtain⟨g1,g2⟩:=Nw r (some d) a b h' (fun x hx=>hr x (ah8 _ hx)) (fun q hq=>by cases hq;exact hd)
  refine⟨fun q hq x hx=> ?_,ain.2 ⟨fun x hx=>g1 d rfl x hx,g2⟩⟩
  rcases ah7.1 hx with rfl | hx
  ·exact hpd q hq
  ·exact Int.le_trans (hpd q hq) (g1 d rfl x hx)
def Ep (l:List aj):Int:=match l.getLast? with
 | some d=>d.1
 | none=>1
theorem Va {o:av} {l:List aj} (h:gA o l=0):∀ d∈l,d.1≤Ep l∧d.1≤3652059:=by
 obtain⟨_,h2⟩:=Ew h
 obtain⟨_,h4⟩:=En h2
 have hr:∀ d∈l,1≤d.1∧d.1≤3652059:=fun d hd=>(eP (h4 d hd)).1
 have hgo:eX l none 0 0=0:=by
  unfold wF at h2
  split at h2
  ·cases h2
  ·exact h2
 obtain⟨_,hp⟩:=Nw l none 0 0 hgo hr (fun q hq=>by cases hq)
 intro d hd
 refine⟨?_,(hr d hd).2⟩
 unfold Ep
 cases hc:l.getLast? with
 | none=>
  have:l=[]:=List.getLast?_eq_none_iff.1 hc
  subst this;cases hd
 | some x=>
  dsimp only
  obtain⟨ys,rfl⟩:=List.getLast?_eq_some_iff.1 hc
  rcases ah6.1 hd with hd | hd
  ·exact (aim.1 hp).2.2 d hd x (by simp)
  ·rw[aij.1 hd];exact agV _
theorem aal {o:av} {l:List aj} (h:gA o l=0) {d:Int} (hd:1≤d∧d≤3652059) (hl:Ep l≤d):stF o l d=stF o l 3652059:=by
 have e:yg o l 0 d=yg o l 0 3652059:=RF l 0 _ [] [] fun x hx=>⟨Int.le_trans (Va h x hx).1 hl,(Va h x hx).2⟩
 unfold stF
 rw[e]
 have e1:lnF o l d=0:=by unfold lnF;rw[ajy (fun e=>e h),ajz hd]
 have e2:lnF o l 3652059=0:=by unfold lnF;rw[ajy (fun e=>e h),ajz (by omega)]
 rw[e1,e2]
theorem ada {o:av} {l:List aj} (h:gA o l=0) (d:Int):(stF o l d).Pairwise fun a b=>a.1≠b.1:=by
 unfold stF
 split
 ·rw[aip]
  exact (afh (Gq h 0 d).2).imp fun {x y} hxy e=>by
   have:x.no=y.no:=e
   omega
 ·exact .nil
theorem NM {st:List aF} (hnd:st.Pairwise fun a b=>a.1≠b.1):∀ s∈st,st.find? (fun x=>x.1==s.1)=some s:=by
 induction st with
 | nil=>intro s hs;cases hs
 | cons a r ih=>
  intro s hs
  obtain⟨h1,h2⟩:=ain.1 hnd
  rw[ahv]
  rcases ah7.1 hs with rfl | hs
  ·rw[show (s.1==s.1)=true by simp]
  ·rw[show (a.1==s.1)=false by simp[h1 s hs]]
   exact ih h2 s hs
def Ay (r:List aF) (b:Int→Int):Int→Int:=fun n=>match r.find? (fun s=>s.1==n) with
 | some s=>if dU s≤0 then b n else dU s
 | none=>b n
theorem Qg {st:List aF} {s:aF} {n rate no:_} (hf:st.find? (fun x=>x.1==s.1)=some s) (hk:dU s=kqZ s*1000000) (m:Int):
 zK st (0,0) (((no:Int),s.1,s.2.1,nu (kqZ s),s.2.2.1,s.2.2.2.2.1,1,[],rate):au) n=if n<0∨dU s*1000<n*1000 then 6 else 0:=by
 unfold zK
 dsimp only
 rw[hf]
 dsimp only
 rw[ajy (fun h=>h ⟨rfl,rfl⟩),ajy (by omega)]
 simp only[Int.add_zero]
theorem ZL {k:Int} (h0:0≤k) (h1:k≤1000000000000000):ko (nu k)=k*1000000:=(GH (by omega)).2
theorem Jh {st:List aF} (hst:∀ s∈st,dU s=kqZ s*1000000∧0≤kqZ s∧kqZ s≤1000000000000000) (hnd:st.Pairwise fun a b=>a.1≠b.1) (i:Int) (rate:Bys):
 ∀ (r:List aF) (k q:Nat) (b:Int→Int),(∀ s∈r,s∈st)→r.Pairwise (fun a b=>a.1≠b.1)→(∀ s∈r,b s.1=0)→
  nA st (0,0) i k (kP rate q r) b=([],Ay r b)
 | [],k,q,b,_,_,_=>rfl
 | s::r,k,q,b,hr,hp,hb=>by
  obtain⟨p1,p2⟩:=ain.1 hp
  obtain⟨hk,hk0,hk1⟩:=hst s (hr s ah9)
  unfold kP
  by_cases h0:dU s≤0
  ·rw[ajz h0,Jh hst hnd i rate r k q b (fun x hx=>hr x (ah8 _ hx)) p2 (fun x hx=>hb x (ah8 _ hx))]
   refine congrArg (Prod.mk _) (funext fun n=> ?_)
   unfold Ay
   rw[ahv]
   cases hn:(s.1==n) with
   | false=>rfl
   | true=>
    have en:s.1=n:=by simpa using hn
    have hnone:r.find? (fun s=>s.1==n)=none:=by
     rw[ahw]
     intro x hx
     have:=p1 x hx
     simp;omega
    rw[hnone]
    dsimp only
    rw[ajz h0]
  ·rw[ajy h0,nA]
   dsimp only
   have hb0:=hb s ah9
   rw[hb0,Int.zero_add,ZL hk0 hk1, ← hk]
   have hkz:zK st (0,0) ((((q:Int)+1),s.1,s.2.1,nu (kqZ s),s.2.2.1,s.2.2.2.2.1,1,[],rate):au) (dU s)=0:=by
    rw[Qg (NM hnd s (hr s ah9)) hk 0,ajy (by omega)]
   rw[ajz hkz,
    Jh hst hnd i rate r (k+1) (q+1) _ (fun x hx=>hr x (ah8 _ hx)) p2 (fun x hx=>by
     unfold DA
     rw[ajy (fun e=>p1 x hx e.symm)]
     exact hb x (ah8 _ hx))]
   refine congrArg (Prod.mk _) (funext fun n=> ?_)
   unfold Ay DA
   rw[ahv]
   cases hn:(s.1==n) with
   | false=>
    have en:¬n=s.1:=fun e=>by rw[e] at hn;simp at hn
    rw[ajy en]
   | true=>
    have en:s.1=n:=by simpa using hn
    have hnone:r.find? (fun s=>s.1==n)=none:=by
     rw[ahw]
     intro x hx
     have:=p1 x hx
     simp;omega
    rw[hnone]
    dsimp only
    rw[ajz en.symm,ajy h0]
theorem aeO {v:ah} (h:eH v=0):1≤v.2.2.1∧v.2.2.1≤3652059:=by
 unfold eH at h
 split at h
 ·cases h
 split at h
 ·cases h
 split at h
 ·cases h
 rename_i h3
 exact agT h3
theorem aaW {x y:ah} (hx:eH x=0) (hd:¬y.2.2.1<x.2.2.1):kT none [x,y]=eH y:=by
 have a1:(Option.any (fun q:ah=>decide (x.2.2.1<q.2.2.1)) none)=false:=rfl
 have a2:(Option.any (fun q:ah=>decide (y.2.2.1<q.2.2.1)) (some x))=false:=ajq hd
 rw[kT,ajy (fun e=>e hx),a1,ajy (by decide),kT,a2]
 by_cases c:eH y=0
 ·rw[ajy (fun e=>e c),ajy (by decide),c];rfl
 ·rw[ajz c]
end Go.Md
