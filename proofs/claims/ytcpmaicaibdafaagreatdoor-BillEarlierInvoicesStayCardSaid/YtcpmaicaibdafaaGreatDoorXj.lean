/-
  Plain facts: invoices laid beside an order; the plain law is true of all data. No condition.
-/
import Derived.Test.YtcpmaicaibdafaaGreatDoorXk
import Derived.Test.YtcpmaicaibdafaaGreatDoorXr
import Derived.Test.YtcpmaicaibdafaaGreatDoorXx
import Derived.Test.YtcpmaicaibdafaaGreatDoorXq
set_option linter.all false
set_option linter.all false
namespace Go.Md
open Go.Dn
def yX (s:aF):Int:=nx s.2.2.2.2.2.2.2.1 - nx s.2.2.2.2.2.2.2.2.1
def D8 (st:List aF) (t:Int×Int) (x:aT) (n:Int):Int:=
 match st.find? (fun s=>s.1==x.2.1) with
 | none=>3
 | some s=>if ¬(s.2.1=x.2.2.1∧s.2.2.1=x.2.2.2.2.1) then 4
  else if nx s.2.2.2.2.1*(1000+t.1)*x.2.2.2.2.2.2.1<nx x.2.2.2.2.2.1*1000 then 5
  else if n<0∨yX s*(1000+t.2)<n*1000 then 6 else 0
abbrev yL:=List (Int×Int×Int)
def Py (b:Int→Int) (k z:Int):Int→Int:=fun n=>if n=k then z else b n
def pR (st:List aF) (t:Int×Int) (i:Int):Nat→List aT→(Int→Int)→yL×(Int→Int)
 | _,[],b=>([],b)
 | k,x::r,b=>if D8 st t x (b x.2.1+nx x.2.2.2.1)=0 then pR st t i (k+1) r (Py b x.2.1 (b x.2.1+nx x.2.2.2.1))
  else ((i,(k:Int),D8 st t x (b x.2.1+nx x.2.2.2.1))::(pR st t i (k+1) r b).1,(pR st t i (k+1) r b).2)
def x2 (num:Bys) (stf:Int→List aF) (t:Int×Int) (pre:List aj) (i:Int) (v:aj) (b:Int→Int):yL×(Int→Int):=
 if v.2.1≠num then ([(i, -1,1)],b)
 else if (pre.any fun u=>u.1==v.1)=true then ([(i, -1,2)],b)
 else pR (stf v.2.2.1) t i 0 v.2.2.2.2.2.2.2.1 b
def fQ (num:Bys) (stf:Int→List aF) (t:Int×Int):List aj→List aj→(Int→Int)→yL×(Int→Int)
 | _,[],b=>([],b)
 | pre,v::r,b=>((x2 num stf t pre pre.length v b).1++(fQ num stf t (pre++[v]) r (x2 num stf t pre pre.length v b).2).1,(fQ num stf t (pre++[v]) r (x2 num stf t pre pre.length v b).2).2)
theorem OO (num:Bys) (stf:Int→List aF) (t:Int×Int):∀ (a pre c:List aj) (b:Int→Int),
 fQ num stf t pre (a++c) b=((fQ num stf t pre a b).1++(fQ num stf t (pre++a) c (fQ num stf t pre a b).2).1,(fQ num stf t (pre++a) c (fQ num stf t pre a b).2).2)
 | [],pre,c,b=>by simp[fQ]
 | v::a,pre,c,b=>by
  simp only[aaF,fQ]
  rw[OO num stf t a (pre++[v]) c,aaD,aaD]
  rfl
theorem IP (st:List aF) (t:Int×Int) (i:Int):∀ (l:List aT) (k:Nat) (b:Int→Int) (m:Int×Int×Int),m∈(pR st t i k l b).1→m.1=i
 | [],_,_,m,h=>by simp[pR] at h
 | x::r,k,b,m,h=>by
  unfold pR at h
  split at h
  ·exact IP st t i r _ _ m h
  ·rcases abp.1 h with rfl | h
   ·rfl
   ·exact IP st t i r _ _ m h
theorem Xs {num:Bys} {stf:Int→List aF} {t:Int×Int} {pre:List aj} {i:Int} {v:aj} {b:Int→Int} {m:Int×Int×Int} (h:m∈(x2 num stf t pre i v b).1):m.1=i:=by
 unfold x2 at h
 split at h
 ·rw[abz.1 h]
 ·split at h
  ·rw[abz.1 h]
  ·exact IP _ _ _ _ _ _ _ h
theorem QS (num:Bys) (stf:Int→List aF) (t:Int×Int):∀ (l pre:List aj) (b:Int→Int) (m:Int×Int×Int),m∈(fQ num stf t pre l b).1→(pre.length:Int)≤m.1
 | [],_,_,m,h=>by simp[fQ] at h
 | v::r,pre,b,m,h=>by
  simp only[fQ] at h
  rcases abo.1 h with h | h
  ·rw[Xs h];exact aak _
  ·have:=QS num stf t r (pre++[v]) _ m h
   rw[abd,List.length_singleton] at this
   omega
def BB (b:Int→Int):Prop:=∀ n,0≤b n∧b n≤10 ^ 26
def StB (st:List aF):Prop:=∀ s∈st,0≤yX s∧yX s≤10 ^ 24
theorem Vd {st:List aF} {t:Int×Int} {x:aT} {n:Int} (h:D8 st t x n=0):∃ s,st.find? (fun s=>s.1==x.2.1)=some s∧0≤n∧n*1000≤yX s*(1000+t.2):=by
 unfold D8 at h
 split at h
 ·cases h
 ·rename_i s hs
  split at h
  ·cases h
  split at h
  ·cases h
  split at h
  ·cases h
  ·exact⟨s,hs,by omega,by omega⟩
theorem SB {st:List aF} {t:Int×Int} {x:aT} {n:Int} (hst:StB st) (ht:t.2≤1000) (h:D8 st t x n=0):0≤n∧n≤10 ^ 26:=by
 obtain⟨s,hs,h1,h2⟩:=Vd h
 obtain⟨h3,h4⟩:=hst s (List.mem_of_find?_eq_some hs)
 have h5:yX s*(1000+t.2)≤yX s*2000:=aan (by omega) h3
 exact⟨h1,by omega⟩
theorem T4 {b:Int→Int} {k z:Int} (h:BB b) (hz:0≤z∧z≤10 ^ 26):BB (Py b k z):=fun n=>by
 unfold Py
 split
 ·exact hz
 ·exact h n
theorem K4 {st:List aF} {t:Int×Int} {i:Int} (hst:StB st) (ht:t.2≤1000):∀ (l:List aT) (k:Nat) (b:Int→Int),BB b→BB (pR st t i k l b).2
 | [],_,_,h=>h
 | x::r,k,b,h=>by
  unfold pR
  split
  ·rename_i h0
   exact K4 hst ht r _ _ (T4 h (SB hst ht h0))
  ·exact K4 hst ht r _ _ h
theorem Yp {num:Bys} {stf:Int→List aF} {t:Int×Int} {pre:List aj} {i:Int} {v:aj} {b:Int→Int} (hst:∀ d,StB (stf d)) (ht:t.2≤1000) (h:BB b):BB (x2 num stf t pre i v b).2:=by
 unfold x2
 split
 ·exact h
 ·split
  ·exact h
  ·exact K4 (hst _) ht _ _ _ h
def G6 (t:Int×Int):Int:=if t.1<0∨1000<t.1∨t.2<0∨1000<t.2 then 1 else 0
def pQ:Option aj→List aj→Int
 | _,[]=>0
 | p,x::r=>if BM x≠0 then BM x else if (p.any fun q=>decide (x.2.2.1<q.2.2.1))=true then 8 else pQ (some x) r
def mF (o:ai) (l:List aa) (t:Int×Int) (v:List aj):Int:=
 if mo o l≠0 then mo o l else if G6 t≠0 then G6 t else if 200<v.length then 2 else pQ none v
structure MOk (o:ai) (l:List aa) (t:Int×Int) (v:List aj):Prop where
 chk:mo o l=0
 t1:0≤t.1∧t.1≤1000
 t2:0≤t.2∧t.2≤1000
 len:v.length≤200
 go:pQ none v=0
theorem Ui {o:ai} {l:List aa} {t:Int×Int} {v:List aj} (h:mF o l t v=0):MOk o l t v:=by
 unfold mF at h
 split at h
 ·omega
 rename_i h1
 split at h
 ·omega
 rename_i h2
 split at h
 ·omega
 rename_i h3
 have h2':G6 t=0:=by omega
 unfold G6 at h2'
 split at h2'
 ·cases h2'
 ·exact⟨by omega,by omega,by omega,by omega,h⟩
theorem Zw {o:ai} {l:List aa} {t:Int×Int} {v:List aj} (h:MOk o l t v):mF o l t v=0:=by
 obtain⟨h1,h2,h3,h4,h5⟩:=h
 unfold mF
 rw[acM (by omega),acM,acM (by omega),h5]
 unfold G6
 rw[acM (by omega)]
 decide
theorem OI:∀ (a c:List aj) (p:Option aj),pQ p (a++c)=0→pQ p a=0
 | [],_,_,_=>rfl
 | x::a,c,p,h=>by
  simp only[aaF,pQ] at h ⊢
  split at h
  ·rename_i h1;rw[acN h1];exact h
  ·rename_i h1
   rw[acM h1]
   split at h
   ·cases h
   ·rename_i h2;rw[acM h2];exact OI a c _ h
theorem IJ:∀ {v:List aj} {p:Option aj},pQ p v=0→∀ x∈v,BM x=0
 | [],_,_,x,hx=>by cases hx
 | y::r,p,h,x,hx=>by
  simp only[pQ] at h
  split at h
  ·rename_i h1;exact absurd h h1
  rename_i h1
  split at h
  ·cases h
  rcases abp.1 hx with rfl | hx
  ·exact aai h1
  ·exact IJ h x hx
theorem MOk.take {o:ai} {l:List aa} {t:Int×Int} {v:List aj} (h:MOk o l t v) (k:Nat):MOk o l t (v.take k):=
 ⟨h.chk,h.t1,h.t2,by rw[abj];have:=h.len;omega,OI _ (v.drop k) _ (by rw[abK];exact h.go)⟩
def stF (o:ai) (l:List aa) (d:Int):List aF:=if lnF o l d=0 then (mq (BF o l 0 d).1).map mK else []
structure UL (s:aF):Prop where
 pr:fq s.2.2.2.2.1
 rc:fq s.2.2.2.2.2.2.2.1
 rt:fq s.2.2.2.2.2.2.2.2.1
 k0:0≤yX s
 k1:yX s≤10 ^ 24
theorem YN {o:ai} {l:List aa} {d:Int} {s:aF} (h:mo o l=0) (hs:s∈stF o l d):∃ x,LOk x∧Gx x∧s=mK x:=by
 unfold stF at hs
 split at hs
 ·obtain⟨x,hx,rfl⟩:=abv.1 hs
  have hx':=(Aa _).mem_iff.1 hx
  have hg:=(M9 h 0 d).1
  exact⟨x,(hg.sound.line x hx').1,hg.pr x hx',rfl⟩
 ·cases hs
theorem Vc {x:ak} (hx:LOk x):yX (mK x)=(x.rcv - x.ret)*1000000:=by
 have h1:=hx.ret0;have h2:=hx.retr;have h3:=hx.rcvs;have h4:=hx.shp1
 show nx (Cj x.rcv) - nx (Cj x.ret)=_
 rw[(Ir (n:=x.rcv) (by omega)).2,(Ir (n:=x.ret) (by omega)).2]
 omega
theorem XQ {x:ak} (hx:LOk x) (hp:Gx x):UL (mK x):=by
 have h1:=hx.ret0;have h2:=hx.retr;have h3:=hx.rcvs;have h4:=hx.shp1
 obtain⟨p1,p2,p3,p4⟩:=hp
 obtain⟨g1,g2,g3⟩:=HL x.price.2.toNat x.price.1
 have hk:=Vc hx
 refine⟨⟨by show (few x.price.2.toNat x.price.1).1.natAbs≤_;omega,by show (0:Int)≤((few x.price.2.toNat x.price.1).2:Int);omega,by show ((few x.price.2.toNat x.price.1).2:Int)≤9;omega⟩,(Ir (n:=x.rcv) (by omega)).1,(Ir (n:=x.ret) (by omega)).1,by rw[hk];omega,by rw[hk];omega⟩
theorem Tc {o:ai} {l:List aa} (h:mo o l=0) (d:Int):∀ s∈stF o l d,UL s:=fun s hs=>by
 obtain⟨x,hx,hp,rfl⟩:=YN h hs
 exact XQ hx hp
theorem X6 {o:ai} {l:List aa} (h:mo o l=0) (d:Int):StB (stF o l d):=fun s hs=>⟨(Tc h d s hs).k0,(Tc h d s hs).k1⟩
theorem BI {d:ah} (h:fq d):(nx d).natAbs≤10 ^ 24:=by
 unfold nx
 have h1:=h.1
 rw[aaq]
 have h2:((10:Int) ^ (9 - d.2).toNat).natAbs≤10 ^ 9:=by
  rw[Int.natAbs_pow]
  exact acg (by decide) (by have:=h.2.1;omega)
 have h3:=Nat.mul_le_mul h1 h2
 omega
theorem jE {n:Nat} (h:n≤10 ^ 60):n<4294967296 ^ 99:=by
 have h1:(10:Nat) ^ 60<4294967296 ^ 99:=by decide
 omega
theorem pK {d:ah} (h:fq d):lF d=some (W (nx d),()):=by
 obtain⟨h1,h2,h3⟩:=h
 unfold lF
 rw[Na d 9 (by omega) (by omega) (by omega) (by omega) (by omega),acn]
 rfl
end Go.Md
set_option linter.all false
namespace Go.Md
open Go.Dn
abbrev MB:=ai×(List aa)×aW×(List aj)×(List (Int×(List aF)))×(List (Int×aG))×(List bK)×Unit
abbrev Ai:=List (Int×List aF)
abbrev DS:=List (Int×aG)
def nS (o:ai) (l:List aa) (S:Ai):Prop:=∀ d s,bR (k:=tI) (v:= .slice b8) S d=some s→s=stF o l d
def BOk (M:DS) (b:Int→Int):Prop:=∀ n,Option.getD (α:=aG) (bR (k:=tI) (v:=aX) M n) (false,[])=W (b n)
theorem Ii (a b:(tI).den):Ty.beq tI a b=true↔a=b:=by
 show ((show Int from a)==(show Int from b))=true↔_
 exact acz
theorem nS.set {o:ai} {l:List aa} {S:Ai} (h:nS o l S) (d:Int):nS o l (lP (k:=tI) (v:= .slice b8) S d (stF o l d)):=fun n s hs=>by
 have e:= @K5 tI (.slice b8) Ii S d (stF o l d) n
 replace hs:=e.symm.trans hs
 cases hb:Ty.beq tI d n with
 | true=>
  rw[hb,acC] at hs
  have:=(Ii d n).1 hb
  subst this
  cases hs;rfl
 | false=>
  rw[hb,acB] at hs
  exact h n s hs
theorem BOk.set {M:DS} {b:Int→Int} (h:BOk M b) (k z:Int):BOk (lP (k:=tI) (v:=aX) M k (W z)) (Py b k z):=fun n=>by
 have e:= @K5 tI aX Ii M k (W z) n
 refine (congrArg (fun q=>Option.getD (α:=aG) q (false,[])) e).trans ?_
 unfold Py
 cases hb:Ty.beq tI k n with
 | true=>
  have:=(Ii k n).1 hb
  subst this
  rw[acC,acN rfl];rfl
 | false=>
  have hne:¬n=k:=fun e=>by
   subst e
   have:=(Ii n n).2 rfl
   rw[hb] at this;cases this
  rw[acB]
  exact (h n).trans (congrArg W (acM hne).symm)
theorem TY {o:ai} {l:List aa} {t:aW} {v:List aj} {S:Ai} {M:DS} {out:yL} (hS:nS o l S) (day:Int):
 ∃ S',nS o l S'∧nX ((o,l,t,v,S,M,out,()):MB) day=some (stF o l day,((o,l,t,v,S',M,out,()):MB),()):=by
 unfold nX
 dsimp only
 cases hg:bR (k:=tI) (v:= .slice b8) S day with
 | none=>
  refine⟨_,hS.set day, ?_⟩
  change (bif true then _ else _)=_
  rw[acC,NL,acn]
  rfl
 | some s=>
  refine⟨S,hS, ?_⟩
  change (bif false then _ else _)=_
  rw[acB, ← hS day s hg]
  rfl
theorem Sk {α:Type} (p:α→Bool):∀ l:List α,(l.findIdx? p=none∧l.find? p=none)∨∃ (k:Nat) (s:α),l.findIdx? p=some k∧l[k]? =some s∧l.find? p=some s
 | []=> .inl ⟨rfl,rfl⟩
 | a::r=>by
  rw[aaR,List.find?_cons]
  cases hp:p a with
  | true=>exact .inr ⟨0,a,rfl,rfl,rfl⟩
  | false=>
   rcases Sk p r with ⟨h1,h2⟩ | ⟨k,s,h1,h2,h3⟩
   ·exact .inl ⟨by simp[h1],h2⟩
   ·exact .inr ⟨k+1,s,by simp[h1],by simpa using h2,h3⟩
theorem Rt (st:List aF) (x:aT) (hl:st.length<1000000000):kg st x=some (match st.findIdx? (fun s=>s.1==x.2.1) with | some k=>(k:Int) | none=> -1,()):=by
 unfold kg
 have loop:∀ (r:List aF) (i n:Nat),st.drop i=r→i≤st.length→r.length<n→
  iter (X:=iO) (β:=iN) n (st,x,(st.length:Int),(i:Int),()) fR=some (match r.findIdx? (fun s=>s.1==x.2.1) with | some k=>Sum.inl (((i+k:Nat):Int),()) | none=>Sum.inr ()):=by
  intro r
  induction r with
  | nil=>
   intro i n hdr hi hn
   have:i=st.length:=by
    have:=congrArg List.length hdr
    simp at this;omega
   subst this
   obtain⟨n,rfl⟩:∃ m,n=m+1:=⟨n - 1,by omega⟩
   rw[bQ]
   unfold fR
   dsimp only
   rw[aB (by omega)]
   rfl
  | cons y r ih=>
   intro i n hdr hi hn
   have hy:st[i]? =some y:=by
    have:=congrArg (·[0]?) hdr
    simpa [aaZ] using this
   have hr':st.drop (i+1)=r:=by
    have:=congrArg List.tail hdr
    simpa [abI] using this
   have hlt:=(aa2.1 hy).1
   obtain⟨n,rfl⟩:∃ m,n=m+1:=⟨n - 1,by simp at hn;omega⟩
   rw[bQ]
   generalize hag:(fun y=>iter n y fR)=again
   unfold fR
   dsimp only
   rw[aC (by omega),bS,hy,acn]
   unfold ve
   rw[acn]
   dsimp only
   rw[aaR]
   cases hb:(y.1==x.2.1) with
   | true=>rfl
   | false=>
    rw[acB,au (n:=(i:Int)+1) (by omega) (by omega), ← hag,show (i:Int)+1=((i+1:Nat):Int) by omega]
    refine (ih (i+1) n hr' (by omega) (by simp at hn;omega)).trans ?_
    cases hq:r.findIdx? (fun s=>s.1==x.2.1) with
    | none=>simp
    | some q=>simp;omega
 have:=loop st 0 (List.length st+(Int.natAbs ((List.length st:Int))+(Int.natAbs (0:Int)+2))) rfl (acj _) (by omega)
 rw[show ((0:Nat):Int)=0 from rfl] at this
 rw[this]
 cases hq:st.findIdx? (fun s=>s.1==x.2.1) with
 | none=>rfl
 | some q=>simp[aM]
theorem PC (l:List aj) (y:aj) (hl:l.length<1000000000):gR l y=some (l.any (fun o=>o.1==y.1),()):=by
 unfold gR mQ
 have loop:iter (X:=eE) (β:=eD) (List.length l+(Int.natAbs ((List.length l:Int))+(Int.natAbs (0:Int)+2))) (l,y,(List.length l:Int),0,()) eC=some (Sum.inr ())∧l.any (fun o=>o.1==y.1)=false∨
  ∃ i:Nat,iter (X:=eE) (β:=eD) (List.length l+(Int.natAbs ((List.length l:Int))+(Int.natAbs (0:Int)+2))) (l,y,(List.length l:Int),0,()) eC=some (Sum.inl ((i:Int),()))∧l.any (fun o=>o.1==y.1)=true:=by
  refine dR (Inv:=fun i x=>x=(l,y,(List.length l:Int),(i:Int),())∧(l.take i).any (fun o=>o.1==y.1)=false) l.length (fun r=>r=some (Sum.inr ())∧l.any (fun o=>o.1==y.1)=false∨∃ i:Nat,r=some (Sum.inl ((i:Int),()))∧l.any (fun o=>o.1==y.1)=true) ?_ ?_ _ 0 _ ⟨rfl,by simp⟩ (by omega) (by omega)
  ·rintro i _ again hi ⟨rfl,hn⟩ ih
   unfold eC
   dsimp only
   have hy:l[i]? =some l[i]:=bu hi
   rw[aC (by omega),bS,hy,acn]
   unfold rK
   rw[acn]
   dsimp only
   cases hb:(l[i].1==y.1) with
   | true=>
    right
    exact⟨i,rfl,aaC.2 ⟨l[i],abc _,hb⟩⟩
   | false=>
    rw[acB,au (by omega) (by omega)]
    refine ih _ ⟨rfl, ?_⟩
    rw[abJ,hy,List.any_append,hn]
    simp[hb]
  ·rintro _ again ⟨rfl,hn⟩
   unfold eC
   dsimp only
   rw[aB (by omega)]
   rw[abM (abX _)] at hn
   exact .inl ⟨rfl,hn⟩
 rcases loop with ⟨h1,h2⟩ | ⟨i,h1,h2⟩
 ·rw[h1,bg,acn,h2];rfl
 ·rw[h1,pJ,acn,h2];simp
theorem K6 {a b:Int} {m n:Nat} (ha:a.natAbs≤m) (hb:b.natAbs≤n):(a*b).natAbs≤m*n:=by
 rw[aaq];exact Nat.mul_le_mul ha hb
theorem UB (x y:Int):decide ((x - y).sign>0)=decide (y<x):=by
 rcases Int.lt_trichotomy y x with h | h | h
 ·rw[aaw (by omega),acF h];rfl
 ·subst h;rw[Int.sub_self];simp
 ·rw[aav (by omega),acE (show ¬y<x by omega)];rfl
theorem XN (x:Int):decide (x.sign<0)=decide (x<0):=by
 rcases Int.lt_trichotomy x 0 with h | h | h
 ·rw[aav h,acF h];rfl
 ·subst h;rfl
 ·rw[aaw h,acE (show ¬x<0 by omega)];rfl
theorem Uj {z:Int} (hz:z.natAbs≤10 ^ 30) {t:Int} (h0:0≤t) (h1:t≤1000):Cy (W z) t=some (W (z*(1000+t)),()):=by
 unfold Cy
 rw[au (by omega) (by omega),nr _ (by omega) (by omega),acn,lg _ _ (jE (by omega)) (jE (by omega)),acn]
theorem Ys {s:aF} (h:UL s):F5 s=some (W (yX s),()):=by
 unfold F5
 rw[pK h.rc,acn,pK h.rt,acn,DR _ _ (jE (by have:=BI h.rc;omega)) (jE (by have:=BI h.rt;omega)),acn]
 rfl
structure UH (x:aT):Prop where
 q:fq x.2.2.2.1
 p:fq x.2.2.2.2.2.1
 per:1≤x.2.2.2.2.2.2.1∧x.2.2.2.2.2.2.1≤100000
theorem Zp {pl:Int} {rates:List bD} {x:aT} (h:RY pl rates x):UH x:=⟨h.q,h.p,h.per⟩
theorem Yv {o:ai} {l:List aa} {t:aW} {v:List aj} {S:Ai} {M:DS} {out:yL} {b:Int→Int} (hc:mo o l=0) (ht1:0≤t.1∧t.1≤1000) (ht2:0≤t.2∧t.2≤1000)
 (hS:nS o l S) (hM:BOk M b) (hb:BB b) (day:Int) {x:aT} (hx:UH x):
 ∃ S',nS o l S'∧sd ((o,l,t,v,S,M,out,()):MB) day x=some (D8 (stF o l day) t x (b x.2.1+nx x.2.2.2.1),((o,l,t,v,S',M,out,()):MB),()):=by
 obtain⟨S',hS',e⟩:=TY (t:=t) (v:=v) (M:=M) (out:=out) hS day
 refine⟨S',hS', ?_⟩
 have hlen:(stF o l day).length<1000000000:=by
  unfold stF
  split
  ·rw[abf,(Aa _).length_eq]
   have:=(M9 hc 0 day).2.len
   omega
  ·simp
 unfold sd D8
 dsimp only
 rw[e,acn]
 dsimp only
 rw[Rt _ _ hlen,acn]
 rcases Sk (fun s:aF=>s.1==x.2.1) (stF o l day) with ⟨h1,h2⟩ | ⟨k,s,h1,h2,h3⟩
 ·rw[h1,h2];rfl
 rw[h1,h3]
 dsimp only
 have hs:=Tc hc day s (abw h2)
 rw[aB (show ¬((k:Int)<0) from Int.not_lt.2 (aas k)),bS,h2,acn]
 by_cases ha:s.2.1=x.2.2.1
 rotate_left
 ·rw[show (!(s.2.1==x.2.2.1))=true by simp[ha],acC,acN (fun h=>ha h.1)]
 rw[show (!(s.2.1==x.2.2.1))=false by simp[ha],acB]
 by_cases hu:s.2.2.1=x.2.2.2.2.1
 rotate_left
 ·rw[show (!(s.2.2.1==x.2.2.2.2.1))=true by simp[hu],acC,acN (fun h=>hu h.2)]
 rw[show (!(s.2.2.1==x.2.2.2.2.1))=false by simp[hu],acB,acM (fun h=>h ⟨ha,hu⟩)]
 have n1:=BI hx.p
 have n2:=BI hs.pr
 have n3:=BI hx.q
 have m1:(nx x.2.2.2.2.2.1*1000).natAbs≤10 ^ 24*1000:=K6 n1 (by decide)
 have m2:(nx s.2.2.2.2.1*(1000+t.1)).natAbs≤10 ^ 24*2000:=K6 n2 (by omega)
 have m3:(nx s.2.2.2.2.1*(1000+t.1)*x.2.2.2.2.2.2.1).natAbs≤10 ^ 24*2000*100000:=K6 m2 (by have:=hx.per;omega)
 rw[pK hx.p,acn,nr 1000 (by omega) (by omega),acn,lg _ _ (jE (by omega)) (jE (by omega)),acn,pK hs.pr,acn,
  Uj (by omega) ht1.1 ht1.2,acn,nr _ (by have:=hx.per;omega) (by have:=hx.per;omega),acn,lg _ _ (jE (by omega)) (jE (by have:=hx.per;omega)),acn,
  Bb _ _ (jE (by omega)) (jE (by omega)),acn]
 dsimp only
 rw[UB]
 by_cases hp:nx s.2.2.2.2.1*(1000+t.1)*x.2.2.2.2.2.2.1<nx x.2.2.2.2.2.1*1000
 ·rw[aC hp,acN hp]
 rw[aB hp,acM hp,pK hx.q,acn,hM x.2.1]
 obtain⟨b0,b1⟩:=hb x.2.1
 have m4:(b x.2.1+nx x.2.2.2.1).natAbs≤10 ^ 27:=by omega
 have m5:((b x.2.1+nx x.2.2.2.1)*1000).natAbs≤10 ^ 27*1000:=K6 m4 (by decide)
 have k0:=hs.k0;have k1:=hs.k1
 have m6:(yX s*(1000+t.2)).natAbs≤10 ^ 24*2000:=K6 (by omega) (by omega)
 rw[yb _ _ (jE (by omega)) (jE (by omega)),acn,sE,acn]
 dsimp only
 rw[XN]
 by_cases hn:b x.2.1+nx x.2.2.2.1<0
 ·rw[aC hn,acN (.inl hn)]
 rw[aB hn,acn,lg _ _ (jE (by omega)) (jE (by omega)),acn,Ys hs,acn,Uj (by omega) ht2.1 ht2.2,acn,
  Bb _ _ (jE (by omega)) (jE (by omega)),acn]
 dsimp only
 rw[UB]
 by_cases hq:yX s*(1000+t.2)<(b x.2.1+nx x.2.2.2.1)*1000
 ·rw[aC hq,acN (.inr hq)]
 ·rw[aB hq,acM (fun h=>h.elim hn hq)]
end Go.Md
set_option linter.all false
namespace Go.Md
open Go.Dn
theorem D9 (st:List aF) (t:Int×Int) (i:Int):∀ (l:List aT) (k:Nat) (b:Int→Int),(pR st t i k l b).1.length≤l.length
 | [],_,_=>acj _
 | x::r,k,b=>by
  unfold pR
  split
  ·have:=D9 st t i r (k+1) (Py b x.2.1 (b x.2.1+nx x.2.2.2.1))
   simp only[abe];omega
  ·have:=D9 st t i r (k+1) b
   simp only[abe];omega
theorem Qb {o:ai} {l:List aa} {t:aW} {v:List aj} {S:Ai} {M:DS} {out:yL} (line kind i:Int) (h:out.length≤1000000):
 gV line kind ((o,l,t,v,S,M,out,()):MB) (i,())=some (((o,l,t,v,S,M,out++[(i,line,kind)],()):MB),(i,()),()):=by
 have Nx:maxLen=9223372036854775807:=rfl
 unfold gV
 dsimp only
 rw[bq (by rw[Z2];exact⟨acF (by omega),acF (by omega)⟩)]
theorem TF {o:ai} {l:List aa} {t:aW} {v:List aj} (hc:mo o l=0) (ht1:0≤t.1∧t.1≤1000) (ht2:0≤t.2∧t.2≤1000) (i:Int) (y:aj) (ls:List aT) (hls:ls.length≤1000) (hx:∀ x∈ls,UH x):
 ∀ (r:List aT) (k n:Nat) (S:Ai) (M:DS) (b:Int→Int) (out:yL),ls.drop k=r→k≤ls.length→r.length<n→nS o l S→BOk M b→BB b→out.length+r.length≤1000000→
  ∃ S' M',nS o l S'∧BOk M' (pR (stF o l y.2.2.1) t i k r b).2∧
   iter (X:=mw) (β:=mu) n (ls,(ls.length:Int),(k:Int),i,y.1,y.2.1,y.2.2.1,y.2.2.2.1,y.2.2.2.2.1,y.2.2.2.2.2.1,y.2.2.2.2.2.2.1,y.2.2.2.2.2.2.2.1,y.2.2.2.2.2.2.2.2,o.1,o.2.1,o.2.2.1,o.2.2.2.1,o.2.2.2.2.1,o.2.2.2.2.2,l,t.1,t.2,v,S,M,out,()) jt
    =some (Sum.inr (o.1,o.2.1,o.2.2.1,o.2.2.2.1,o.2.2.2.2.1,o.2.2.2.2.2,l,t.1,t.2,v,S',M',out++(pR (stF o l y.2.2.1) t i k r b).1,())):=by
 obtain⟨o1,o2,o3,o4,o5,o6⟩:=o
 obtain⟨t1,t2⟩:=t
 obtain⟨y1,y2,y3,y4,y5,y6,y7,y8,y9⟩:=y
 dsimp only at*
 intro r
 induction r with
 | nil=>
  intro k n S M b out hdr hk hn hS hM hb ho
  have:k=ls.length:=by
   have:=congrArg List.length hdr
   simp at this;omega
  subst this
  obtain⟨n,rfl⟩:∃ m,n=m+1:=⟨n - 1,by omega⟩
  refine⟨S,M,hS,hM, ?_⟩
  rw[bQ]
  unfold jt
  dsimp only
  rw[aB (by omega)]
  simp only[pR,aaE]
 | cons x r ih=>
  intro k n S M b out hdr hk hn hS hM hb ho
  have hxk:ls[k]? =some x:=by
   have:=congrArg (·[0]?) hdr
   simpa [aaZ] using this
  have hr':ls.drop (k+1)=r:=by
   have:=congrArg List.tail hdr
   simpa [abI] using this
  have hlt:=(aa2.1 hxk).1
  have hbx:=hx x (abw hxk)
  obtain⟨n,rfl⟩:∃ m,n=m+1:=⟨n - 1,by simp at hn;omega⟩
  simp only[abe] at hn ho
  obtain⟨S1,hS1,e1⟩:=Yv (t:=(t1,t2)) (v:=v) (out:=out) hc ht1 ht2 hS hM hb y3 hbx
  rw[bQ]
  generalize hag:(fun y=>iter n y jt)=again
  unfold jt pR
  dsimp only
  rw[aC (by omega),bS,hxk,acn,e1,acn]
  dsimp only
  by_cases h0:D8 (stF (o1,o2,o3,o4,o5,o6) l y3) (t1,t2) x (b x.2.1+nx x.2.2.2.1)=0
  ·obtain⟨z0,z1⟩:=SB (X6 hc y3) ht2.2 h0
   have b1:=hb x.2.1
   have q1:=BI hbx.q
   rw[h0,zne,acB,acN rfl,pK hbx.q,acn,hM x.2.1,yb _ _ (jE (by omega)) (jE (by omega)),acn,au (n:=(k:Int)+1) (by omega) (by omega), ← hag,show (k:Int)+1=((k+1:Nat):Int) by omega]
   exact ih (k+1) n S1 _ _ out hr' (by omega) (by omega) hS1 (hM.set x.2.1 _) (T4 hb ⟨z0,z1⟩) (by omega)
  ·rw[jy h0,acC,acM h0,Qb _ _ _ (by omega),acn,au (n:=(k:Int)+1) (by omega) (by omega), ← hag,show (k:Int)+1=((k+1:Nat):Int) by omega]
   obtain⟨S2,M2,g1,g2,g3⟩:=ih (k+1) n S1 M b (out++[(i,(k:Int),D8 (stF (o1,o2,o3,o4,o5,o6) l y3) (t1,t2) x (b x.2.1+nx x.2.2.2.1))]) hr' (by omega) (by omega) hS1 hM hb (by simp;omega)
   refine⟨S2,M2,g1,g2,g3.trans ?_⟩
   rw[aaD];rfl
theorem IQ {y:aj} (h:BM y=0):(∀ x∈y.2.2.2.2.2.2.2.1,UH x)∧y.2.2.2.2.2.2.2.1.length≤500:=⟨fun x hx=>Zp ((QJ h).lines x hx),(QJ h).ln.2⟩
theorem Vb {o:ai} {l:List aa} {t:aW} {v:List aj} {S:Ai} {M:DS} {out:yL} {b:Int→Int} (hc:mo o l=0) (ht1:0≤t.1∧t.1≤1000) (ht2:0≤t.2∧t.2≤1000) (hv:v.length≤200) {i:Nat} {y:aj} (hy:v[i]? =some y) (hi:BM y=0)
 (hS:nS o l S) (hM:BOk M b) (hb:BB b) (ho:out.length+500≤1000000):
 ∃ S' M',nS o l S'∧BOk M' (x2 o.1 (stF o l) t (v.take i) i y b).2∧lH ((o,l,t,v,S,M,out,()):MB) i=some (((o,l,t,v,S',M',out++(x2 o.1 (stF o l) t (v.take i) i y b).1,()):MB),()):=by
 have hlt:=(aa2.1 hy).1
 obtain⟨hx,hll⟩:=IQ hi
 unfold lH x2
 dsimp only
 rw[bS,hy,acn]
 by_cases hn:y.2.1=o.1
 rotate_left
 ·rw[show (!(y.2.1==o.1))=true by simp[hn],acC,acN hn,Qb _ _ _ (by omega),acn]
  exact⟨S,M,hS,hM,rfl⟩
 rw[show (!(y.2.1==o.1))=false by simp[hn],acB,acM (fun h=>h hn),bq (by simp;omega),aay,aaM,PC _ _ (by rw[abj];omega),acn]
 dsimp only
 cases ha:(v.take i).any fun u=>u.1==y.1 with
 | true=>
  rw[acC,acN rfl,Qb _ _ _ (by omega),acn]
  exact⟨S,M,hS,hM,rfl⟩
 | false=>
  rw[acB,acM (by decide)]
  obtain⟨S',M',g1,g2,g3⟩:=TF (v:=v) hc ht1 ht2 (i:Int) y y.2.2.2.2.2.2.2.1 (by omega) hx y.2.2.2.2.2.2.2.1 0 (y.2.2.2.2.2.2.2.1.length+(Int.natAbs ((y.2.2.2.2.2.2.2.1.length:Int))+(Int.natAbs (0:Int)+(Int.natAbs (i:Int)+(y.1.length+(y.2.1.length+(y.2.2.1.natAbs+(y.2.2.2.1.natAbs+(y.2.2.2.2.1.natAbs+(y.2.2.2.2.2.2.1.length+(y.2.2.2.2.2.2.2.1.length+(y.2.2.2.2.2.2.2.2.length+(o.1.length+(o.2.1.length+(o.2.2.1.length+(o.2.2.2.1.natAbs+(o.2.2.2.2.1.natAbs+(o.2.2.2.2.2.length+(List.length l+(t.1.natAbs+(t.2.natAbs+(List.length v+(List.length S+(List.length M+(List.length out+2)))))))))))))))))))))))))
   S M b out rfl (acj _) (ab0 (by with_reducible repeat (first | exact ack | refine abZ _ ?_))) hS hM hb (by omega)
  refine⟨S',M',g1,g2, ?_⟩
  refine (congrArg (fun q=>aM q _) g3).trans ?_
  rfl
end Go.Md
set_option linter.all false
set_option maxRecDepth 20000
namespace Go.Md
open Go.Dn
theorem Xc (t:aW):mD t=some (G6 t,()):=by
 unfold mD G6
 rw[cT,acn]
 dsimp only
 by_cases h1:t.1<0∨1000<t.1
 ·rw[acF h1,acC,acN (by omega)]
 ·rw[acE h1,acB,cT,acn]
  dsimp only
  by_cases h2:t.2<0∨1000<t.2
  ·rw[acF h2,acC,acN (by omega)]
  ·rw[acE h2,acB,acM (by omega)]
theorem Q5 {v:List aj} {i:Nat} (x:aj) (hi:i<v.length) (hv:v.length≤200):
 (bif decide ((i:Int)>0) then Option.bind (idx v (w64 ((i:Int) - 1))) fun y4=>some (decide (x.2.2.1<y4.2.2.1),()) else some (false,()))=some ((cB v i).any fun q=>decide (x.2.2.1<q.2.2.1),()):=by
 cases i with
 | zero=>rfl
 | succ j=>
  have hj:v[j]? =some v[j]:=aa0 (by omega)
  rw[aC (by omega),au (by omega) (by omega),show ((j+1:Nat):Int) - 1=(j:Int) by omega,bS,hj,acn]
  show _=some ((v[j]?).any _,())
  rw[hj];rfl
def Vy {γ:Type} (z:Int) (g:γ):((Option Nat)×Int×Unit) ⊕ γ:=if z≠0 then Sum.inl (none,z,()) else Sum.inr g
theorem Qm {γ:Type} {z:Int} (h:z≠0) (g:γ):Vy z g=Sum.inl (none,z,()):=acN h
theorem Zf {γ:Type} (g:γ):Vy 0 g=Sum.inr g:=rfl
theorem Rw {o:ai} {l:List aa} {t:aW} {v:List aj} (hv:v.length≤200):∀ (r:List aj) (i n:Nat),v.drop i=r→i≤v.length→r.length<n→
 iter (X:=oT) (β:=oS) n (l,v,v,(v.length:Int),(i:Int),o.1,o.2.1,o.2.2.1,o.2.2.2.1,o.2.2.2.2.1,o.2.2.2.2.2,t.1,t.2,()) lG
  =some (Vy (pQ (cB v i) r) (l,v,o.1,o.2.1,o.2.2.1,o.2.2.2.1,o.2.2.2.2.1,o.2.2.2.2.2,t.1,t.2,())):=by
 intro r
 induction r with
 | nil=>
  intro i n hdr hi hn
  have:i=v.length:=by
   have:=congrArg List.length hdr
   simp at this;omega
  subst this
  obtain⟨n,rfl⟩:∃ m,n=m+1:=⟨n - 1,by omega⟩
  rw[bQ]
  unfold lG
  dsimp only
  rw[aB (by omega),pQ,Zf]
 | cons x r ih=>
  intro i n hdr hi hn
  have hxi:v[i]? =some x:=by
   have:=congrArg (·[0]?) hdr
   simpa [aaZ] using this
  have hr':v.drop (i+1)=r:=by
   have:=congrArg List.tail hdr
   simpa [abI] using this
  have hlt:=(aa2.1 hxi).1
  obtain⟨n,rfl⟩:∃ m,n=m+1:=⟨n - 1,by simp at hn;omega⟩
  simp only[abe] at hn
  have ep:cB v (i+1)=some x:=hxi
  rw[bQ]
  generalize hag:(fun y=>iter n y lG)=again
  unfold lG
  dsimp only
  rw[aC (by omega),bS,hxi,acn,AA,acn]
  dsimp only
  rw[pQ]
  by_cases h0:BM x=0
  rotate_left
  ·rw[jy h0,acC,acN h0,Qm h0]
  rw[acM (fun h=>h h0),h0,zne,acB,Q5 x hlt hv,acn]
  dsimp only
  cases hp:(cB v i).any fun q=>decide (x.2.2.1<q.2.2.1) with
  | true=>rw[acC,acN rfl,Qm (by decide)]
  | false=>
   rw[acB,acM (by decide),au (n:=(i:Int)+1) (by omega) (by omega), ← hag,show (i:Int)+1=((i+1:Nat):Int) by omega]
   exact (ih (i+1) n hr' (by omega) (by omega)).trans (by rw[ep])
theorem SI {o:ai} {l:List aa} {t:aW} {v:List aj} (hv:v.length≤200):∀ (r:List aj) (i n:Nat),v.drop i=r→i≤v.length→r.length<n→pQ (cB v i) r=0→
 iter (X:=qR) (β:=qQ) n (l,v,v,(v.length:Int),(i:Int),o.1,o.2.1,o.2.2.1,o.2.2.2.1,o.2.2.2.2.1,o.2.2.2.2.2,t.1,t.2,()) nw
  =some (Sum.inr (l,v,o.1,o.2.1,o.2.2.1,o.2.2.2.1,o.2.2.2.2.1,o.2.2.2.2.2,t.1,t.2,())):=by
 intro r
 induction r with
 | nil=>
  intro i n hdr hi hn _
  have:i=v.length:=by
   have:=congrArg List.length hdr
   simp at this;omega
  subst this
  obtain⟨n,rfl⟩:∃ m,n=m+1:=⟨n - 1,by omega⟩
  rw[bQ]
  unfold nw
  dsimp only
  rw[aB (by omega)]
 | cons x r ih=>
  intro i n hdr hi hn hz
  have hxi:v[i]? =some x:=by
   have:=congrArg (·[0]?) hdr
   simpa [aaZ] using this
  have hr':v.drop (i+1)=r:=by
   have:=congrArg List.tail hdr
   simpa [abI] using this
  have hlt:=(aa2.1 hxi).1
  obtain⟨n,rfl⟩:∃ m,n=m+1:=⟨n - 1,by simp at hn;omega⟩
  simp only[abe] at hn
  have ep:cB v (i+1)=some x:=hxi
  simp only[pQ] at hz
  split at hz
  ·rename_i h1;exact absurd hz h1
  rename_i h1
  have h0:BM x=0:=aai h1
  split at hz
  ·cases hz
  rename_i h2
  rw[bQ]
  generalize hag:(fun y=>iter n y nw)=again
  unfold nw
  dsimp only
  rw[aC (by omega),bS,hxi,acn,AA,acn]
  dsimp only
  rw[h0,zne,acB,Q5 x hlt hv,acn]
  dsimp only
  rw[Bool.eq_false_iff.2 h2,acB,au (n:=(i:Int)+1) (by omega) (by omega), ← hag,show (i:Int)+1=((i+1:Nat):Int) by omega]
  exact ih (i+1) n hr' (by omega) (by omega) (by rw[ep];exact hz)
theorem P8 (o:ai) (l:List aa) (t:aW) (v:List aj):tU o l t v=if mF o l t v≠0 then some (none,mF o l t v,()) else none:=by
 unfold tU mF mo
 rw[vn,acn]
 dsimp only
 by_cases h1:s7 o=0
 rotate_left
 ·rw[jy h1,acC,acN h1,acN h1,acN h1]
 rw[h1,zne,acB,vm,acn]
 dsimp only
 rw[acM (show ¬((0:Int)≠0) by decide)]
 by_cases h2:wz l=0
 rotate_left
 ·rw[jy h2,acC,acN h2,acN h2]
 rw[h2,zne,acB,Xc,acn]
 dsimp only
 rw[acM (show ¬((0:Int)≠0) by decide)]
 by_cases h3:G6 t=0
 rotate_left
 ·rw[jy h3,acC,acN h3,acN h3]
 rw[h3,zne,acB]
 rw[acM (show ¬((0:Int)≠0) by decide)]
 by_cases h4:200<v.length
 ·rw[aC (by omega),acN h4,acN (by decide)]
 rw[aB (by omega),acM h4]
 refine (congrArg (fun q=>aM q _) (Rw (o:=o) (l:=l) (t:=t) (v:=v) (by omega) v 0 _ rfl (acj _) (abZ _ (ab0 (by with_reducible repeat (first | exact ack | refine abZ _ ?_)))))).trans ?_
 show aM (some (Vy (pQ none v) _)) _=_
 by_cases h5:pQ none v=0
 ·rw[h5];rfl
 ·rw[Qm h5,acN h5];rfl
theorem SH {o:ai} {l:List aa} {t:aW} {v:List aj} (h:MOk o l t v):xg o l t v=some (((o,l,t,v,[],[],[],()):MB),0,()):=by
 obtain⟨h1,h2⟩:=Kf h.chk
 have h3:G6 t=0:=by
  unfold G6
  have:=h.t1;have:=h.t2
  rw[acM (by omega)]
 unfold xg
 rw[vn,acn]
 dsimp only
 rw[h1,zne,acB,vm,acn]
 dsimp only
 rw[h2,zne,acB,Xc,acn]
 dsimp only
 have h4:=h.len
 rw[h3,zne,acB,aB (by omega)]
 refine (congrArg (fun q=>aM q _) (SI (o:=o) (l:=l) (t:=t) (v:=v) h4 v 0 _ rfl (acj _) (abZ _ (ab0 (by with_reducible repeat (first | exact ack | refine abZ _ ?_)))) h.go)).trans ?_
 rfl
theorem Zz {a r:Nat} (h:a+500*(r+1)≤900000):a+500≤1000000:=by omega
theorem ZA {a r c:Nat} (h:a+500*(r+1)≤900000) (hc:c≤500):a+c+500*r≤900000:=by omega
theorem Vj {o:ai} {l:List aa} {t:aW} {v:List aj} (h:MOk o l t v):∀ (r:List aj) (i n:Nat) (S:Ai) (M:DS) (b:Int→Int) (out:yL),v.drop i=r→i≤v.length→r.length<n→nS o l S→BOk M b→BB b→out.length+500*r.length≤900000→
 ∃ S' M',nS o l S'∧BOk M' (fQ o.1 (stF o l) t (v.take i) r b).2∧
  iter (X:=yP) (β:=yO) n ((v.length:Int),(i:Int),o.1,o.2.1,o.2.2.1,o.2.2.2.1,o.2.2.2.2.1,o.2.2.2.2.2,l,t.1,t.2,v,S,M,out,()) uC
   =some (Sum.inr (o.1,o.2.1,o.2.2.1,o.2.2.2.1,o.2.2.2.2.1,o.2.2.2.2.2,l,t.1,t.2,v,S',M',out++(fQ o.1 (stF o l) t (v.take i) r b).1,())):=by
 intro r
 induction r with
 | nil=>
  intro i n S M b out hdr hi hn hS hM hb ho
  have:i=v.length:=by
   have:=congrArg List.length hdr
   simp at this;omega
  subst this
  obtain⟨n,rfl⟩:∃ m,n=m+1:=⟨n - 1,by omega⟩
  refine⟨S,M,hS,hM, ?_⟩
  rw[bQ]
  unfold uC
  dsimp only
  rw[aB (by omega)]
  simp only[fQ,aaE]
 | cons x r ih=>
  intro i n S M b out hdr hi hn hS hM hb ho
  have hxi:v[i]? =some x:=by
   have:=congrArg (·[0]?) hdr
   simpa [aaZ] using this
  have hr':v.drop (i+1)=r:=by
   have:=congrArg List.tail hdr
   simpa [abI] using this
  have hlt:=(aa2.1 hxi).1
  obtain⟨n,rfl⟩:∃ m,n=m+1:=⟨n - 1,by simp at hn;omega⟩
  simp only[abe] at hn ho
  have hv:=h.len
  have hx0:=IJ h.go x (abw hxi)
  have ho':out.length+500≤1000000:=Zz ho
  obtain⟨S1,M1,g1,g2,g3⟩:=Vb (out:=out) h.chk h.t1 h.t2 hv hxi hx0 hS hM hb ho'
  have hb1:BB (x2 o.1 (stF o l) t (v.take i) i x b).2:=Yp (X6 h.chk) h.t2.2 hb
  have hlen:(x2 o.1 (stF o l) t (v.take i) i x b).1.length≤500:=by
   unfold x2
   split
   ·simp
   ·split
    ·simp
    ·have:=D9 (stF o l x.2.2.1) t i x.2.2.2.2.2.2.2.1 0 b
     have:=(IQ hx0).2
     omega
  have etl:((v.take i).length:Int)=(i:Int):=by rw[abj];omega
  rw[bQ]
  generalize hag:(fun y=>iter n y uC)=again
  unfold uC
  simp only[fQ]
  rw[aC (show (i:Int)<(v.length:Int) by omega)]
  have g3':lH ((o.1,o.2.1,o.2.2.1,o.2.2.2.1,o.2.2.2.2.1,o.2.2.2.2.2),l,(t.1,t.2),v,S,M,out,()) (i:Int)=_:=g3
  rw[g3',acn]
  dsimp only
  rw[au (n:=(i:Int)+1) (by omega) (by omega), ← hag,show (i:Int)+1=((i+1:Nat):Int) by omega,etl]
  obtain⟨S2,M2,q1,q2,q3⟩:=ih (i+1) n S1 M1 _ (out++(x2 o.1 (stF o l) t (v.take i) i x b).1) hr' (by omega) (by omega) g1 g2 hb1 (by rw[abd];exact ZA ho hlen)
  rw[Pq hxi] at q2 q3
  refine⟨S2,M2,q1,q2,q3.trans ?_⟩
  rw[aaD]
theorem X8:BOk [] (fun _=>0):=fun n=>by
 show (false,[])=W 0
 decide
theorem X7:BB (fun _=>0):=fun n=>by
 exact⟨aak _,by show (0:Int)≤10 ^ 26;decide⟩
theorem To (o:ai) (l:List aa):nS o l []:=fun d s h=>by cases h
theorem Jo (o:ai) (l:List aa) (t:aW) (v:List aj):AB o l t v=some (if mF o l t v=0 then (fQ o.1 (stF o l) t [] v (fun _=>0)).1 else [],mF o l t v,()):=by
 unfold AB
 rw[P8]
 by_cases h:mF o l t v=0
 rotate_left
 ·rw[acN h,acM h]
  unfold OY
  dsimp only
  rw[jy h,acC]
 have hm:=Ui h
 rw[acM (by simpa using h),acN h]
 refine Eq.trans OZ ?_
 rw[SH hm,acn]
 dsimp only
 rw[zne,acB]
 have hl:=hm.len
 obtain⟨S',M',_,_,q3⟩:=Vj hm v 0 (Int.natAbs ((List.length v:Int))+(Int.natAbs (0:Int)+(o.1.length+(o.2.1.length+(o.2.2.1.length+(o.2.2.2.1.natAbs+(o.2.2.2.2.1.natAbs+(o.2.2.2.2.2.length+(List.length l+(t.1.natAbs+(t.2.natAbs+(List.length v+(List.length ([]:Ai)+(List.length ([]:DS)+(List.length ([]:yL)+2)))))))))))))))
  [] [] (fun _=>0) [] rfl (acj _) (by rw[aar];exact ab0 (by with_reducible repeat (first | exact ack | refine abZ _ ?_))) (To o l) X8 X7 (by simp;omega)
 refine (congrArg (fun q=>aM q _) q3).trans ?_
 rw[h];rfl
end Go.Md
set_option linter.all false
set_option maxRecDepth 20000
namespace Go.Md
open Go.Dn
theorem Xt {num:Bys} {stf:Int→List aF} {t:Int×Int} {pre:List aj} {i:Int} {x:aj} {b:Int→Int} (h:BM x=0):(x2 num stf t pre i x b).1.length≤500:=by
 unfold x2
 split
 ·simp
 ·split
  ·simp
  ·have:=D9 (stf x.2.2.1) t i x.2.2.2.2.2.2.2.1 0 b
   have:=(IQ h).2
   omega
theorem ZB {a b r:Nat} (h1:a≤500) (h2:b≤500*r):a+b≤500*(r+1):=by omega
theorem OP (num:Bys) (stf:Int→List aF) (t:Int×Int):∀ (l pre:List aj) (b:Int→Int),(∀ x∈l,BM x=0)→(fQ num stf t pre l b).1.length≤500*l.length
 | [],_,_,_=>acj _
 | x::r,pre,b,h=>by
  simp only[fQ,abd,abe]
  exact ZB (Xt (h x List.mem_cons_self)) (OP num stf t r _ _ fun y hy=>h y (abq _ hy))
theorem Qa (a:yL) (ha:a.length≤1000000000):lu a a=some (true,()):=by
 unfold lu
 rw[show ((a.length:Int) != (a.length:Int))=false by simp,acB]
 have loop:∀ n,a.length<n→iter (X:=gy) (β:=jj) n (a,a,(a.length:Int),0,()) ji=some (Sum.inr ()):=by
  intro n hn
  refine dR (Inv:=fun i X=>X=((a,a,(a.length:Int),(i:Int),()):gy)) a.length (fun z=>z=some (Sum.inr ())) ?_ ?_ n 0 _ rfl (acj _) (by omega)
  ·rintro i X again hi rfl hag
   unfold ji
   dsimp only
   have hy:a[i]? =some a[i]:=aa0 hi
   rw[aC (by omega),bS,hy,acn,acn]
   rw[show (!(((a[i]).1==(a[i]).1)&&(((a[i]).2.1==(a[i]).2.1)&&(((a[i]).2.2==(a[i]).2.2)&&true))))=false by simp,acB,au (n:=(i:Int)+1) (by omega) (by omega)]
   exact hag _ rfl
  ·rintro X again rfl
   unfold ji
   dsimp only
   rw[aB (by omega)]
 rw[loop _ (ab0 (by with_reducible repeat (first | exact ack | refine abZ _ ?_)))]
 rfl
theorem RD (x:Int) (len:Nat) (hl:len≤1000000000):∃ k:Nat,Lw x (w64 ((len:Int)+1))=some ((k:Int),())∧k≤len:=by
 rw[au (by omega) (by omega)]
 obtain⟨k,h1,h2,h3⟩:=TS x ((len:Int)+1) (by omega) (by omega)
 obtain⟨m,rfl⟩:∃ m:Nat,k=m:=⟨k.toNat,by omega⟩
 exact⟨m,h1,by omega⟩
theorem W9 (j:Int) (z:yL) (hz:z.length≤1000000000) (h:∀ m∈z,j≤m.1):∀ n,z.length<n→iter (X:=fB) (β:=iC) n (j,z,(z.length:Int),0,()) iB=some (Sum.inr ()):=by
 intro n hn
 refine dR (Inv:=fun i X=>X=((j,z,(z.length:Int),(i:Int),()):fB)) z.length (fun r=>r=some (Sum.inr ())) ?_ ?_ n 0 _ rfl (acj _) (by omega)
 ·rintro i X again hi rfl hag
  unfold iB
  dsimp only
  have hy:z[i]? =some z[i]:=aa0 hi
  have hj:=h z[i] (abc hi)
  rw[aC (by omega),bS,hy,acn,aB (by omega),au (n:=(i:Int)+1) (by omega) (by omega)]
  exact hag _ rfl
 ·rintro X again rfl
  unfold iB
  dsimp only
  rw[aB (by omega)]
theorem law_BillEarlierInvoicesStay (o:ai) (l:List aa) (t:aW) (v:List aj) (k:Int):jA o l t v k=some (true,()):=by
 unfold jA
 rw[Jo,acn]
 dsimp only
 by_cases h:mF o l t v=0
 rotate_left
 ·rw[jy h,acC,acM h,KY]
  rfl
 have hm:=Ui h
 have hv:=hm.len
 rw[h,zne,acB,acN rfl]
 obtain⟨j,hj,hjl⟩:=RD k v.length (by omega)
 rw[hj,acn]
 dsimp only
 rw[bq (by simp;omega),aay,aaM,Jo,acn,Zw (hm.take j)]
 dsimp only
 rw[zne,acB,acN rfl]
 have hmx:=OP o.1 (stF o l) t v [] (fun _=>0) (IJ hm.go)
 have hsplit:=OO o.1 (stF o l) t (v.take j) [] (v.drop j) (fun _=>0)
 rw[abK,abA] at hsplit
 have hge:=QS o.1 (stF o l) t (v.drop j) (v.take j) (fQ o.1 (stF o l) t [] (v.take j) (fun _=>0)).2
 rw[abj,ab6 hjl] at hge
 have h1:(fQ o.1 (stF o l) t [] v (fun _=>0)).1=(fQ o.1 (stF o l) t [] (v.take j) (fun _=>0)).1++(fQ o.1 (stF o l) t (v.take j) (v.drop j) (fQ o.1 (stF o l) t [] (v.take j) (fun _=>0)).2).1:=by rw[hsplit]
 rw[h1] at hmx ⊢
 generalize (fQ o.1 (stF o l) t [] (v.take j) (fun _=>0)).1=y at hmx ⊢
 generalize (fQ o.1 (stF o l) t (v.take j) (v.drop j) (fQ o.1 (stF o l) t [] (v.take j) (fun _=>0)).2).1=z at hmx hge ⊢
 rw[abd] at hmx
 have hmy:y.length+z.length≤100000:=abY hmx (abY (Nat.mul_le_mul_left 500 hv) (by decide))
 have hyl:y.length≤100000:=abY (Nat.le_add_right _ _) hmy
 have hzl:z.length≤100000:=abY (Nat.le_add_left _ _) hmy
 rw[aB (by rw[abd];omega),bq (by rw[abd];simp only[Z2,acG];omega),aay,aaM,abL,Qa y (by omega),acn]
 dsimp only
 rw[show (!true)=false from rfl,acB,KY,acn]
 dsimp only
 rw[show (!true)=false from rfl,acB,bq (by rw[abd];simp only[Z2,acG];omega),aay,List.take_length,aaK]
 refine (congrArg (fun q=>aM q _) (W9 (j:Int) z (by omega) hge _ (abZ _ (ab0 (by with_reducible repeat (first | exact ack | refine abZ _ ?_)))))).trans ?_
 rfl
end Go.Md
