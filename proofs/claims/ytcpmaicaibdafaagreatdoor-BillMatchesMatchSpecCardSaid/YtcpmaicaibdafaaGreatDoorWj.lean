/-
  Plain facts: invoices laid beside an order; the plain laws are true of all data. No condition.
-/
import Derived.Test.YtcpmaicaibdafaaGreatDoorWk
import Derived.Test.YtcpmaicaibdafaaGreatDoorWr
import Derived.Test.YtcpmaicaibdafaaGreatDoorWx
import Derived.Test.YtcpmaicaibdafaaGreatDoorWq
set_option linter.all false
set_option linter.all false
namespace Go.Md
open Go.Dn
def oo (s:ax):Int:=bX s.2.2.2.2.2.2.2.1 - bX s.2.2.2.2.2.2.2.2.1
def sJ (st:List ax) (t:Int×Int) (x:aD) (n:Int):Int:=
 match st.find? (fun s=>s.1==x.2.1) with
 | none=>3
 | some s=>if ¬(s.2.1=x.2.2.1∧s.2.2.1=x.2.2.2.2.1) then 4
  else if bX s.2.2.2.2.1*(1000+t.1)*x.2.2.2.2.2.2.1<bX x.2.2.2.2.2.1*1000 then 5
  else if n<0∨oo s*(1000+t.2)<n*1000 then 6 else 0
abbrev kj:=List (Int×Int×Int)
def Fc (b:Int→Int) (k z:Int):Int→Int:=fun n=>if n=k then z else b n
def eZ (st:List ax) (t:Int×Int) (i:Int):Nat→List aD→(Int→Int)→kj×(Int→Int)
 | _,[],b=>([],b)
 | k,x::r,b=>if sJ st t x (b x.2.1+bX x.2.2.2.1)=0 then eZ st t i (k+1) r (Fc b x.2.1 (b x.2.1+bX x.2.2.2.1))
  else ((i,(k:Int),sJ st t x (b x.2.1+bX x.2.2.2.1))::(eZ st t i (k+1) r b).1,(eZ st t i (k+1) r b).2)
def ff (num:Bys) (stf:Int→List ax) (t:Int×Int) (pre:List ai) (i:Int) (v:ai) (b:Int→Int):kj×(Int→Int):=
 if v.2.1≠num then ([(i, -1,1)],b)
 else if (pre.any fun u=>u.1==v.1)=true then ([(i, -1,2)],b)
 else eZ (stf v.2.2.1) t i 0 v.2.2.2.2.2.2.2.1 b
def fO (num:Bys) (stf:Int→List ax) (t:Int×Int):List ai→List ai→(Int→Int)→kj×(Int→Int)
 | _,[],b=>([],b)
 | pre,v::r,b=>((ff num stf t pre pre.length v b).1++(fO num stf t (pre++[v]) r (ff num stf t pre pre.length v b).2).1,(fO num stf t (pre++[v]) r (ff num stf t pre pre.length v b).2).2)
theorem Ku (st:List ax) (t:Int×Int) (i:Int):∀ (l:List aD) (k:Nat) (b:Int→Int) (m:Int×Int×Int),m∈(eZ st t i k l b).1→m.1=i
 | [],_,_,m,h=>by simp[eZ] at h
 | x::r,k,b,m,h=>by
  unfold eZ at h
  split at h
  ·exact Ku st t i r _ _ m h
  ·rcases ag4.1 h with rfl | h
   ·rfl
   ·exact Ku st t i r _ _ m h
theorem WU {num:Bys} {stf:Int→List ax} {t:Int×Int} {pre:List ai} {i:Int} {v:ai} {b:Int→Int} {m:Int×Int×Int} (h:m∈(ff num stf t pre i v b).1):m.1=i:=by
 unfold ff at h
 split at h
 ·rw[ahf.1 h]
 ·split at h
  ·rw[ahf.1 h]
  ·exact Ku _ _ _ _ _ _ _ h
theorem UC (num:Bys) (stf:Int→List ax) (t:Int×Int):∀ (l pre:List ai) (b:Int→Int) (m:Int×Int×Int),m∈(fO num stf t pre l b).1→(pre.length:Int)≤m.1
 | [],_,_,m,h=>by simp[fO] at h
 | v::r,pre,b,m,h=>by
  simp only[fO] at h
  rcases ag1.1 h with h | h
  ·rw[WU h];exact afM _
  ·have:=UC num stf t r (pre++[v]) _ m h
   rw[agN,agU] at this
   omega
def BB (b:Int→Int):Prop:=∀ n,0≤b n∧b n≤10 ^ 26
def StB (st:List ax):Prop:=∀ s∈st,0≤oo s∧oo s≤10 ^ 24
theorem RX {st:List ax} {t:Int×Int} {x:aD} {n:Int} (h:sJ st t x n=0):∃ s,st.find? (fun s=>s.1==x.2.1)=some s∧0≤n∧n*1000≤oo s*(1000+t.2):=by
 unfold sJ at h
 split at h
 ·cases h
 ·rename_i s hs
  split at h
  ·cases h
  split at h
  ·cases h
  split at h
  ·cases h
  ·exact⟨s,hs,by omega,by omega⟩
theorem W3 {st:List ax} {t:Int×Int} {x:aD} {n:Int} (hst:StB st) (ht:t.2≤1000) (h:sJ st t x n=0):0≤n∧n≤10 ^ 26:=by
 obtain⟨s,hs,h1,h2⟩:=RX h
 obtain⟨h3,h4⟩:=hst s (aha hs)
 have h5:oo s*(1000+t.2)≤oo s*2000:=afP (by omega) h3
 exact⟨h1,by omega⟩
theorem YG {b:Int→Int} {k z:Int} (h:BB b) (hz:0≤z∧z≤10 ^ 26):BB (Fc b k z):=fun n=>by
 unfold Fc
 split
 ·exact hz
 ·exact h n
theorem M9 {st:List ax} {t:Int×Int} {i:Int} (hst:StB st) (ht:t.2≤1000):∀ (l:List aD) (k:Nat) (b:Int→Int),BB b→BB (eZ st t i k l b).2
 | [],_,_,h=>h
 | x::r,k,b,h=>by
  unfold eZ
  split
  ·rename_i h0
   exact M9 hst ht r _ _ (YG h (W3 hst ht h0))
  ·exact M9 hst ht r _ _ h
theorem YU {num:Bys} {stf:Int→List ax} {t:Int×Int} {pre:List ai} {i:Int} {v:ai} {b:Int→Int} (hst:∀ d,StB (stf d)) (ht:t.2≤1000) (h:BB b):BB (ff num stf t pre i v b).2:=by
 unfold ff
 split
 ·exact h
 ·split
  ·exact h
  ·exact M9 (hst _) ht _ _ _ h
def D9 (t:Int×Int):Int:=if t.1<0∨1000<t.1∨t.2<0∨1000<t.2 then 1 else 0
def ji:Option ai→List ai→Int
 | _,[]=>0
 | p,x::r=>if vJ x≠0 then vJ x else if (p.any fun q=>decide (x.2.2.1<q.2.2.1))=true then 8 else ji (some x) r
def mF (o:aj) (l:List aa) (t:Int×Int) (v:List ai):Int:=
 if fL o l≠0 then fL o l else if D9 t≠0 then D9 t else if 200<v.length then 2 else ji none v
structure MOk (o:aj) (l:List aa) (t:Int×Int) (v:List ai):Prop where
 chk:fL o l=0
 t1:0≤t.1∧t.1≤1000
 t2:0≤t.2∧t.2≤1000
 len:v.length≤200
 go:ji none v=0
theorem Jj {o:aj} {l:List aa} {t:Int×Int} {v:List ai} (h:mF o l t v=0):MOk o l t v:=by
 unfold mF at h
 split at h
 ·omega
 rename_i h1
 split at h
 ·omega
 rename_i h2
 split at h
 ·omega
 rename_i h3
 have h2':D9 t=0:=by omega
 unfold D9 at h2'
 split at h2'
 ·cases h2'
 ·exact⟨by omega,by omega,by omega,by omega,h⟩
theorem RS:∀ (a c:List ai) (p:Option ai),ji p (a++c)=0→ji p a=0
 | [],_,_,_=>rfl
 | x::a,c,p,h=>by
  simp only[agd,ji] at h ⊢
  split at h
  ·rename_i h1;rw[aiv h1];exact h
  ·rename_i h1
   rw[aiu h1]
   split at h
   ·cases h
   ·rename_i h2;rw[aiu h2];exact RS a c _ h
theorem sI:∀ {v:List ai} {p:Option ai},ji p v=0→∀ x∈v,vJ x=0
 | [],_,_,x,hx=>by cases hx
 | y::r,p,h,x,hx=>by
  simp only[ji] at h
  split at h
  ·rename_i h1;exact absurd h h1
  rename_i h1
  split at h
  ·cases h
  rcases ag4.1 hx with rfl | hx
  ·exact afK h1
  ·exact sI h x hx
theorem MOk.take {o:aj} {l:List aa} {t:Int×Int} {v:List ai} (h:MOk o l t v) (k:Nat):MOk o l t (v.take k):=
 ⟨h.chk,h.t1,h.t2,by rw[agV];have:=h.len;omega,RS _ (v.drop k) _ (by rw[ahq];exact h.go)⟩
def stF (o:aj) (l:List aa) (d:Int):List ax:=if lnF o l d=0 then (bT (vA o l 0 d).1).map bL else []
structure VL (s:ax):Prop where
 pr:b8 s.2.2.2.2.1
 rc:b8 s.2.2.2.2.2.2.2.1
 rt:b8 s.2.2.2.2.2.2.2.2.1
 k0:0≤oo s
 k1:oo s≤10 ^ 24
theorem T6 {o:aj} {l:List aa} {d:Int} {s:ax} (h:fL o l=0) (hs:s∈stF o l d):∃ x,LOk x∧HL x∧s=bL x:=by
 unfold stF at hs
 split at hs
 ·obtain⟨x,hx,rfl⟩:=ag9.1 hs
  have hx':=(eN _).mem_iff.1 hx
  have hg:=(Fe h 0 d).1
  exact⟨x,(hg.sound.line x hx').1,hg.pr x hx',rfl⟩
 ·cases hs
theorem Kt {x:ak} (hx:LOk x):oo (bL x)=(x.rcv - x.ret)*1000000:=by
 have h1:=hx.ret0;have h2:=hx.retr;have h3:=hx.rcvs;have h4:=hx.shp1
 show bX (bR x.rcv) - bX (bR x.ret)=_
 rw[(J3 (n:=x.rcv) (by omega)).2,(J3 (n:=x.ret) (by omega)).2]
 omega
theorem Xu {x:ak} (hx:LOk x) (hp:HL x):VL (bL x):=by
 have h1:=hx.ret0;have h2:=hx.retr;have h3:=hx.rcvs;have h4:=hx.shp1
 obtain⟨p1,p2,p3,p4⟩:=hp
 obtain⟨g1,g2,g3⟩:=EY x.price.2.toNat x.price.1
 have hk:=Kt hx
 refine⟨⟨by show (few x.price.2.toNat x.price.1).1.natAbs≤_;omega,by show (0:Int)≤((few x.price.2.toNat x.price.1).2:Int);omega,by show ((few x.price.2.toNat x.price.1).2:Int)≤9;omega⟩,(J3 (n:=x.rcv) (by omega)).1,(J3 (n:=x.ret) (by omega)).1,by rw[hk];omega,by rw[hk];omega⟩
theorem Xt {o:aj} {l:List aa} (h:fL o l=0) (d:Int):∀ s∈stF o l d,VL s:=fun s hs=>by
 obtain⟨x,hx,hp,rfl⟩:=T6 h hs
 exact Xu hx hp
theorem aaA {o:aj} {l:List aa} (h:fL o l=0) (d:Int):StB (stF o l d):=fun s hs=>⟨(Xt h d s hs).k0,(Xt h d s hs).k1⟩
theorem vG {d:ah} (h:b8 d):(bX d).natAbs≤10 ^ 24:=by
 unfold bX
 have h1:=h.1
 rw[afT]
 have h2:((10:Int) ^ (9 - d.2).toNat).natAbs≤10 ^ 9:=by
  rw[afV]
  exact ahZ (by decide) (by have:=h.2.1;omega)
 have h3:=ahT h1 h2
 omega
theorem iK {n:Nat} (h:n≤10 ^ 60):n<4294967296 ^ 99:=by
 have h1:(10:Nat) ^ 60<4294967296 ^ 99:=by decide
 omega
theorem nB {d:ah} (h:b8 d):jB d=some (W (bX d),()):=by
 obtain⟨h1,h2,h3⟩:=h
 unfold jB
 rw[PD d 9 (by omega) (by omega) (by omega) (by omega) (by omega),ah4]
 rfl
end Go.Md
set_option linter.all false
namespace Go.Md
open Go.Dn
abbrev MB:=aj×(List aa)×aF×(List ai)×(List (Int×(List ax)))×(List (Int×aO))×(List aR)×Unit
abbrev ym:=List (Int×List ax)
abbrev Ct:=List (Int×aO)
def kJ (o:aj) (l:List aa) (S:ym):Prop:=∀ d s,b9 (k:=tI) (v:= .slice bz) S d=some s→s=stF o l d
def BOk (M:Ct) (b:Int→Int):Prop:=∀ n,Option.getD (α:=aO) (b9 (k:=tI) (v:=bh) M n) (false,[])=W (b n)
theorem As (a b:(tI).den):Ty.beq tI a b=true↔a=b:=by
 show ((show Int from a)==(show Int from b))=true↔_
 exact beq_iff_eq
theorem kJ.set {o:aj} {l:List aa} {S:ym} (h:kJ o l S) (d:Int):kJ o l (jJ (k:=tI) (v:= .slice bz) S d (stF o l d)):=fun n s hs=>by
 have e:= @Nf tI (.slice bz) As S d (stF o l d) n
 replace hs:=e.symm.trans hs
 cases hb:Ty.beq tI d n with
 | true=>
  rw[hb,aii] at hs
  have:=(As d n).1 hb
  subst this
  cases hs;rfl
 | false=>
  rw[hb,aih] at hs
  exact h n s hs
theorem BOk.set {M:Ct} {b:Int→Int} (h:BOk M b) (k z:Int):BOk (jJ (k:=tI) (v:=bh) M k (W z)) (Fc b k z):=fun n=>by
 have e:= @Nf tI bh As M k (W z) n
 refine (congrArg (fun q=>Option.getD (α:=aO) q (false,[])) e).trans ?_
 unfold Fc
 cases hb:Ty.beq tI k n with
 | true=>
  have:=(As k n).1 hb
  subst this
  rw[aii,aiv rfl];rfl
 | false=>
  have hne:¬n=k:=fun e=>by
   subst e
   have:=(As n n).2 rfl
   rw[hb] at this;cases this
  rw[aih]
  exact (h n).trans (congrArg W (aiu hne).symm)
theorem YB {o:aj} {l:List aa} {t:aF} {v:List ai} {S:ym} {M:Ct} {out:kj} (hS:kJ o l S) (day:Int):
 ∃ S',kJ o l S'∧me ((o,l,t,v,S,M,out,()):MB) day=some (stF o l day,((o,l,t,v,S',M,out,()):MB),()):=by
 unfold me
 dsimp only
 cases hg:b9 (k:=tI) (v:= .slice bz) S day with
 | none=>
  refine⟨_,hS.set day, ?_⟩
  change (bif true then _ else _)=_
  rw[aii,Qr,ah4]
  rfl
 | some s=>
  refine⟨S,hS, ?_⟩
  change (bif false then _ else _)=_
  rw[aih, ← hS day s hg]
  rfl
theorem WO {α:Type} (p:α→Bool):∀ l:List α,(l.findIdx? p=none∧l.find? p=none)∨∃ (k:Nat) (s:α),l.findIdx? p=some k∧l[k]? =some s∧l.find? p=some s
 | []=> .inl ⟨rfl,rfl⟩
 | a::r=>by
  rw[agq,List.find?_cons]
  cases hp:p a with
  | true=>exact .inr ⟨0,a,rfl,rfl,rfl⟩
  | false=>
   rcases WO p r with ⟨h1,h2⟩ | ⟨k,s,h1,h2,h3⟩
   ·exact .inl ⟨by simp[h1],h2⟩
   ·exact .inr ⟨k+1,s,by simp[h1],by simpa using h2,h3⟩
theorem Vs (st:List ax) (x:aD) (hl:st.length<1000000000):iU st x=some (match st.findIdx? (fun s=>s.1==x.2.1) with | some k=>(k:Int) | none=> -1,()):=by
 unfold iU
 have loop:∀ (r:List ax) (i n:Nat),st.drop i=r→i≤st.length→r.length<n→
  iter (X:=gF) (β:=gE) n (st,x,(st.length:Int),(i:Int),()) fe=some (match r.findIdx? (fun s=>s.1==x.2.1) with | some k=>Sum.inl (((i+k:Nat):Int),()) | none=>Sum.inr ()):=by
  intro r
  induction r with
  | nil=>
   intro i n hdr hi hn
   have:i=st.length:=by
    have:=congrArg List.length hdr
    simp at this;omega
   subst this
   obtain⟨n,rfl⟩:∃ m,n=m+1:=⟨n - 1,by omega⟩
   rw[br]
   unfold fe
   dsimp only
   rw[aN (by omega)]
   rfl
  | cons y r ih=>
   intro i n hdr hi hn
   have hy:st[i]? =some y:=by
    have:=congrArg (·[0]?) hdr
    simpa [agA] using this
   have hr':st.drop (i+1)=r:=by
    have:=congrArg List.tail hdr
    simpa [aho] using this
   have hlt:=(agD.1 hy).1
   obtain⟨n,rfl⟩:∃ m,n=m+1:=⟨n - 1,by simp at hn;omega⟩
   rw[br]
   generalize hag:(fun y=>iter n y fe)=again
   unfold fe
   dsimp only
   rw[aK (by omega),bH,hy,ah4]
   unfold uy
   rw[ah4]
   dsimp only
   rw[agq]
   cases hb:(y.1==x.2.1) with
   | true=>rfl
   | false=>
    rw[aih,av (n:=(i:Int)+1) (by omega) (by omega), ← hag,show (i:Int)+1=((i+1:Nat):Int) by omega]
    refine (ih (i+1) n hr' (by omega) (by simp at hn;omega)).trans ?_
    cases hq:r.findIdx? (fun s=>s.1==x.2.1) with
    | none=>simp
    | some q=>simp;omega
 have:=loop st 0 (List.length st+(Int.natAbs ((List.length st:Int))+(Int.natAbs (0:Int)+2))) rfl (ah2 _) (by omega)
 rw[show ((0:Nat):Int)=0 from rfl] at this
 rw[this]
 cases hq:st.findIdx? (fun s=>s.1==x.2.1) with
 | none=>rfl
 | some q=>simp[az]
theorem SZ (l:List ai) (y:ai) (hl:l.length<1000000000):fR l y=some (l.any (fun o=>o.1==y.1),()):=by
 unfold fR kT
 have loop:iter (X:=ew) (β:=er) (List.length l+(Int.natAbs ((List.length l:Int))+(Int.natAbs (0:Int)+2))) (l,y,(List.length l:Int),0,()) eo=some (Sum.inr ())∧l.any (fun o=>o.1==y.1)=false∨
  ∃ i:Nat,iter (X:=ew) (β:=er) (List.length l+(Int.natAbs ((List.length l:Int))+(Int.natAbs (0:Int)+2))) (l,y,(List.length l:Int),0,()) eo=some (Sum.inl ((i:Int),()))∧l.any (fun o=>o.1==y.1)=true:=by
  refine cN (Inv:=fun i x=>x=(l,y,(List.length l:Int),(i:Int),())∧(l.take i).any (fun o=>o.1==y.1)=false) l.length (fun r=>r=some (Sum.inr ())∧l.any (fun o=>o.1==y.1)=false∨∃ i:Nat,r=some (Sum.inl ((i:Int),()))∧l.any (fun o=>o.1==y.1)=true) ?_ ?_ _ 0 _ ⟨rfl,by simp⟩ (by omega) (by omega)
  ·rintro i _ again hi ⟨rfl,hn⟩ ih
   unfold eo
   dsimp only
   have hy:l[i]? =some l[i]:=bq hi
   rw[aK (by omega),bH,hy,ah4]
   unfold qh
   rw[ah4]
   dsimp only
   cases hb:(l[i].1==y.1) with
   | true=>
    right
    exact⟨i,rfl,aga.2 ⟨l[i],List.getElem_mem _,hb⟩⟩
   | false=>
    rw[aih,av (by omega) (by omega)]
    refine ih _ ⟨rfl, ?_⟩
    rw[ahp,hy,List.any_append,hn]
    simp[hb]
  ·rintro _ again ⟨rfl,hn⟩
   unfold eo
   dsimp only
   rw[aN (by omega)]
   rw[ahu (ahF _)] at hn
   exact .inl ⟨rfl,hn⟩
 rcases loop with ⟨h1,h2⟩ | ⟨i,h1,h2⟩
 ·rw[h1,aU,ah4,h2];rfl
 ·rw[h1,Ag,ah4,h2];simp
theorem Di {a b:Int} {m n:Nat} (ha:a.natAbs≤m) (hb:b.natAbs≤n):(a*b).natAbs≤m*n:=by
 rw[afT];exact ahT ha hb
theorem TZ (x y:Int):decide ((x - y).sign>0)=decide (y<x):=by
 rcases Int.lt_trichotomy y x with h | h | h
 ·rw[af1 (by omega),aim h];rfl
 ·subst h;rw[Int.sub_self];simp
 ·rw[af0 (by omega),aik (show ¬y<x by omega)];rfl
theorem acW (x:Int):decide (x.sign<0)=decide (x<0):=by
 rcases Int.lt_trichotomy x 0 with h | h | h
 ·rw[af0 h,aim h];rfl
 ·subst h;rfl
 ·rw[af1 h,aik (show ¬x<0 by omega)];rfl
theorem Y5 {z:Int} (hz:z.natAbs≤10 ^ 30) {t:Int} (h0:0≤t) (h1:t≤1000):C3 (W z) t=some (W (z*(1000+t)),()):=by
 unfold C3
 rw[av (by omega) (by omega),nA _ (by omega) (by omega),ah4,jt _ _ (iK (by omega)) (iK (by omega)),ah4]
theorem adD {s:ax} (h:VL s):GS s=some (W (oo s),()):=by
 unfold GS
 rw[nB h.rc,ah4,nB h.rt,ah4,Em _ _ (iK (by have:=vG h.rc;omega)) (iK (by have:=vG h.rt;omega)),ah4]
 rfl
structure Py (x:aD):Prop where
 q:b8 x.2.2.2.1
 p:b8 x.2.2.2.2.2.1
 per:1≤x.2.2.2.2.2.2.1∧x.2.2.2.2.2.2.1≤100000
theorem ac3 {pl:Int} {rates:List aV} {x:aD} (h:V3 pl rates x):Py x:=⟨h.q,h.p,h.per⟩
theorem adH {o:aj} {l:List aa} {t:aF} {v:List ai} {S:ym} {M:Ct} {out:kj} {b:Int→Int} (hc:fL o l=0) (ht1:0≤t.1∧t.1≤1000) (ht2:0≤t.2∧t.2≤1000)
 (hS:kJ o l S) (hM:BOk M b) (hb:BB b) (day:Int) {x:aD} (hx:Py x):
 ∃ S',kJ o l S'∧qF ((o,l,t,v,S,M,out,()):MB) day x=some (sJ (stF o l day) t x (b x.2.1+bX x.2.2.2.1),((o,l,t,v,S',M,out,()):MB),()):=by
 obtain⟨S',hS',e⟩:=YB (t:=t) (v:=v) (M:=M) (out:=out) hS day
 refine⟨S',hS', ?_⟩
 have hlen:(stF o l day).length<1000000000:=by
  unfold stF
  split
  ·rw[agQ,(eN _).length_eq]
   have:=(Fe hc 0 day).2.len
   omega
  ·simp
 unfold qF sJ
 dsimp only
 rw[e,ah4]
 dsimp only
 rw[Vs _ _ hlen,ah4]
 rcases WO (fun s:ax=>s.1==x.2.1) (stF o l day) with ⟨h1,h2⟩ | ⟨k,s,h1,h2,h3⟩
 ·rw[h1,h2];rfl
 rw[h1,h3]
 dsimp only
 have hs:=Xt hc day s (ahb h2)
 rw[aN (show ¬((k:Int)<0) from Int.not_lt.2 (afW k)),bH,h2,ah4]
 by_cases ha:s.2.1=x.2.2.1
 rotate_left
 ·rw[show (!(s.2.1==x.2.2.1))=true by simp[ha],aii,aiv (fun h=>ha h.1)]
 rw[show (!(s.2.1==x.2.2.1))=false by simp[ha],aih]
 by_cases hu:s.2.2.1=x.2.2.2.2.1
 rotate_left
 ·rw[show (!(s.2.2.1==x.2.2.2.2.1))=true by simp[hu],aii,aiv (fun h=>hu h.2)]
 rw[show (!(s.2.2.1==x.2.2.2.2.1))=false by simp[hu],aih,aiu (fun h=>h ⟨ha,hu⟩)]
 have n1:=vG hx.p
 have n2:=vG hs.pr
 have n3:=vG hx.q
 have m1:(bX x.2.2.2.2.2.1*1000).natAbs≤10 ^ 24*1000:=Di n1 (by decide)
 have m2:(bX s.2.2.2.2.1*(1000+t.1)).natAbs≤10 ^ 24*2000:=Di n2 (by omega)
 have m3:(bX s.2.2.2.2.1*(1000+t.1)*x.2.2.2.2.2.2.1).natAbs≤10 ^ 24*2000*100000:=Di m2 (by have:=hx.per;omega)
 rw[nB hx.p,ah4,nA 1000 (by omega) (by omega),ah4,jt _ _ (iK (by omega)) (iK (by omega)),ah4,nB hs.pr,ah4,
  Y5 (by omega) ht1.1 ht1.2,ah4,nA _ (by have:=hx.per;omega) (by have:=hx.per;omega),ah4,jt _ _ (iK (by omega)) (iK (by have:=hx.per;omega)),ah4,
  BG _ _ (iK (by omega)) (iK (by omega)),ah4]
 dsimp only
 rw[TZ]
 by_cases hp:bX s.2.2.2.2.1*(1000+t.1)*x.2.2.2.2.2.2.1<bX x.2.2.2.2.2.1*1000
 ·rw[aK hp,aiv hp]
 rw[aN hp,aiu hp,nB hx.q,ah4,hM x.2.1]
 obtain⟨b0,b1⟩:=hb x.2.1
 have m4:(b x.2.1+bX x.2.2.2.1).natAbs≤10 ^ 27:=by omega
 have m5:((b x.2.1+bX x.2.2.2.1)*1000).natAbs≤10 ^ 27*1000:=Di m4 (by decide)
 have k0:=hs.k0;have k1:=hs.k1
 have m6:(oo s*(1000+t.2)).natAbs≤10 ^ 24*2000:=Di (by omega) (by omega)
 rw[yl _ _ (iK (by omega)) (iK (by omega)),ah4,qS,ah4]
 dsimp only
 rw[acW]
 by_cases hn:b x.2.1+bX x.2.2.2.1<0
 ·rw[aK hn,aiv (.inl hn)]
 rw[aN hn,ah4,jt _ _ (iK (by omega)) (iK (by omega)),ah4,adD hs,ah4,Y5 (by omega) ht2.1 ht2.2,ah4,
  BG _ _ (iK (by omega)) (iK (by omega)),ah4]
 dsimp only
 rw[TZ]
 by_cases hq:oo s*(1000+t.2)<(b x.2.1+bX x.2.2.2.1)*1000
 ·rw[aK hq,aiv (.inr hq)]
 ·rw[aN hq,aiu (fun h=>h.elim hn hq)]
end Go.Md
set_option linter.all false
namespace Go.Md
open Go.Dn
theorem EG (st:List ax) (t:Int×Int) (i:Int):∀ (l:List aD) (k:Nat) (b:Int→Int),(eZ st t i k l b).1.length≤l.length
 | [],_,_=>ah2 _
 | x::r,k,b=>by
  unfold eZ
  split
  ·have:=EG st t i r (k+1) (Fc b x.2.1 (b x.2.1+bX x.2.2.2.1))
   simp only[agO];omega
  ·have:=EG st t i r (k+1) b
   simp only[agO];omega
theorem TE {o:aj} {l:List aa} {t:aF} {v:List ai} {S:ym} {M:Ct} {out:kj} (line kind i:Int) (h:out.length≤1000000):
 fT line kind ((o,l,t,v,S,M,out,()):MB) (i,())=some (((o,l,t,v,S,M,out++[(i,line,kind)],()):MB),(i,()),()):=by
 have sH:maxLen=9223372036854775807:=rfl
 unfold fT
 dsimp only
 rw[bP (by rw[afr];exact⟨aim (by omega),aim (by omega)⟩)]
theorem Yh {o:aj} {l:List aa} {t:aF} {v:List ai} (hc:fL o l=0) (ht1:0≤t.1∧t.1≤1000) (ht2:0≤t.2∧t.2≤1000) (i:Int) (y:ai) (ls:List aD) (hls:ls.length≤1000) (hx:∀ x∈ls,Py x):
 ∀ (r:List aD) (k n:Nat) (S:ym) (M:Ct) (b:Int→Int) (out:kj),ls.drop k=r→k≤ls.length→r.length<n→kJ o l S→BOk M b→BB b→out.length+r.length≤1000000→
  ∃ S' M',kJ o l S'∧BOk M' (eZ (stF o l y.2.2.1) t i k r b).2∧
   iter (X:=kr) (β:=ko) n (ls,(ls.length:Int),(k:Int),i,y.1,y.2.1,y.2.2.1,y.2.2.2.1,y.2.2.2.2.1,y.2.2.2.2.2.1,y.2.2.2.2.2.2.1,y.2.2.2.2.2.2.2.1,y.2.2.2.2.2.2.2.2,o.1,o.2.1,o.2.2.1,o.2.2.2.1,o.2.2.2.2.1,o.2.2.2.2.2,l,t.1,t.2,v,S,M,out,()) ij
    =some (Sum.inr (o.1,o.2.1,o.2.2.1,o.2.2.2.1,o.2.2.2.2.1,o.2.2.2.2.2,l,t.1,t.2,v,S',M',out++(eZ (stF o l y.2.2.1) t i k r b).1,())):=by
 obtain⟨o1,o2,o3,o4,o5,o6⟩:=o
 obtain⟨t1,t2⟩:=t
 obtain⟨y1,y2,y3,y4,y5,y6,y7,y8,y9⟩:=y
 dsimp only at*
 intro r
 induction r with
 | nil=>
  intro k n S M b out hdr hk hn hS hM hb ho
  have:k=ls.length:=by
   have:=congrArg List.length hdr
   simp at this;omega
  subst this
  obtain⟨n,rfl⟩:∃ m,n=m+1:=⟨n - 1,by omega⟩
  refine⟨S,M,hS,hM, ?_⟩
  rw[br]
  unfold ij
  dsimp only
  rw[aN (by omega)]
  simp only[eZ,agc]
 | cons x r ih=>
  intro k n S M b out hdr hk hn hS hM hb ho
  have hxk:ls[k]? =some x:=by
   have:=congrArg (·[0]?) hdr
   simpa [agA] using this
  have hr':ls.drop (k+1)=r:=by
   have:=congrArg List.tail hdr
   simpa [aho] using this
  have hlt:=(agD.1 hxk).1
  have hbx:=hx x (ahb hxk)
  obtain⟨n,rfl⟩:∃ m,n=m+1:=⟨n - 1,by simp at hn;omega⟩
  simp only[agO] at hn ho
  obtain⟨S1,hS1,e1⟩:=adH (t:=(t1,t2)) (v:=v) (out:=out) hc ht1 ht2 hS hM hb y3 hbx
  rw[br]
  generalize hag:(fun y=>iter n y ij)=again
  unfold ij eZ
  dsimp only
  rw[aK (by omega),bH,hxk,ah4,e1,ah4]
  dsimp only
  by_cases h0:sJ (stF (o1,o2,o3,o4,o5,o6) l y3) (t1,t2) x (b x.2.1+bX x.2.2.2.1)=0
  ·obtain⟨z0,z1⟩:=W3 (aaA hc y3) ht2.2 h0
   have b1:=hb x.2.1
   have q1:=vG hbx.q
   rw[h0,zne,aih,aiv rfl,nB hbx.q,ah4,hM x.2.1,yl _ _ (iK (by omega)) (iK (by omega)),ah4,av (n:=(k:Int)+1) (by omega) (by omega), ← hag,show (k:Int)+1=((k+1:Nat):Int) by omega]
   exact ih (k+1) n S1 _ _ out hr' (by omega) (by omega) hS1 (hM.set x.2.1 _) (YG hb ⟨z0,z1⟩) (by omega)
  ·rw[cq h0,aii,aiu h0,TE _ _ _ (by omega),ah4,av (n:=(k:Int)+1) (by omega) (by omega), ← hag,show (k:Int)+1=((k+1:Nat):Int) by omega]
   obtain⟨S2,M2,g1,g2,g3⟩:=ih (k+1) n S1 M b (out++[(i,(k:Int),sJ (stF (o1,o2,o3,o4,o5,o6) l y3) (t1,t2) x (b x.2.1+bX x.2.2.2.1))]) hr' (by omega) (by omega) hS1 hM hb (by simp;omega)
   refine⟨S2,M2,g1,g2,g3.trans ?_⟩
   rw[agb];rfl
theorem EH {y:ai} (h:vJ y=0):(∀ x∈y.2.2.2.2.2.2.2.1,Py x)∧y.2.2.2.2.2.2.2.1.length≤500:=⟨fun x hx=>ac3 ((G9 h).lines x hx),(G9 h).ln.2⟩
theorem RR {o:aj} {l:List aa} {t:aF} {v:List ai} {S:ym} {M:Ct} {out:kj} {b:Int→Int} (hc:fL o l=0) (ht1:0≤t.1∧t.1≤1000) (ht2:0≤t.2∧t.2≤1000) (hv:v.length≤200) {i:Nat} {y:ai} (hy:v[i]? =some y) (hi:vJ y=0)
 (hS:kJ o l S) (hM:BOk M b) (hb:BB b) (ho:out.length+500≤1000000):
 ∃ S' M',kJ o l S'∧BOk M' (ff o.1 (stF o l) t (v.take i) i y b).2∧fK ((o,l,t,v,S,M,out,()):MB) i=some (((o,l,t,v,S',M',out++(ff o.1 (stF o l) t (v.take i) i y b).1,()):MB),()):=by
 have hlt:=(agD.1 hy).1
 obtain⟨hx,hll⟩:=EH hi
 unfold fK ff
 dsimp only
 rw[bH,hy,ah4]
 by_cases hn:y.2.1=o.1
 rotate_left
 ·rw[show (!(y.2.1==o.1))=true by simp[hn],aii,aiv hn,TE _ _ _ (by omega),ah4]
  exact⟨S,M,hS,hM,rfl⟩
 rw[show (!(y.2.1==o.1))=false by simp[hn],aih,aiu (fun h=>h hn),bP (by simp;omega),af4,agl,SZ _ _ (by rw[agV];omega),ah4]
 dsimp only
 cases ha:(v.take i).any fun u=>u.1==y.1 with
 | true=>
  rw[aii,aiv rfl,TE _ _ _ (by omega),ah4]
  exact⟨S,M,hS,hM,rfl⟩
 | false=>
  rw[aih,aiu (by decide)]
  obtain⟨S',M',g1,g2,g3⟩:=Yh (v:=v) hc ht1 ht2 (i:Int) y y.2.2.2.2.2.2.2.1 (by omega) hx y.2.2.2.2.2.2.2.1 0 (y.2.2.2.2.2.2.2.1.length+(Int.natAbs ((y.2.2.2.2.2.2.2.1.length:Int))+(Int.natAbs (0:Int)+(Int.natAbs (i:Int)+(y.1.length+(y.2.1.length+(y.2.2.1.natAbs+(y.2.2.2.1.natAbs+(y.2.2.2.2.1.natAbs+(y.2.2.2.2.2.2.1.length+(y.2.2.2.2.2.2.2.1.length+(y.2.2.2.2.2.2.2.2.length+(o.1.length+(o.2.1.length+(o.2.2.1.length+(o.2.2.2.1.natAbs+(o.2.2.2.2.1.natAbs+(o.2.2.2.2.2.length+(List.length l+(t.1.natAbs+(t.2.natAbs+(List.length v+(List.length S+(List.length M+(List.length out+2)))))))))))))))))))))))))
   S M b out rfl (ah2 _) (ahI (by with_reducible repeat (first | exact ah3 | refine ahH _ ?_))) hS hM hb (by omega)
  refine⟨S',M',g1,g2, ?_⟩
  refine (congrArg (fun q=>az q _) g3).trans ?_
  rfl
end Go.Md
set_option linter.all false
set_option maxRecDepth 20000
namespace Go.Md
open Go.Dn
theorem Xw (t:aF):iI t=some (D9 t,()):=by
 unfold iI D9
 rw[eE,ah4]
 dsimp only
 by_cases h1:t.1<0∨1000<t.1
 ·rw[aim h1,aii,aiv (by omega)]
 ·rw[aik h1,aih,eE,ah4]
  dsimp only
  by_cases h2:t.2<0∨1000<t.2
  ·rw[aim h2,aii,aiv (by omega)]
  ·rw[aik h2,aih,aiu (by omega)]
theorem Nv {v:List ai} {i:Nat} (x:ai) (hi:i<v.length) (hv:v.length≤200):
 (bif decide ((i:Int)>0) then Option.bind (idx v (w64 ((i:Int) - 1))) fun y4=>some (decide (x.2.2.1<y4.2.2.1),()) else some (false,()))=some ((bK v i).any fun q=>decide (x.2.2.1<q.2.2.1),()):=by
 cases i with
 | zero=>rfl
 | succ j=>
  have hj:v[j]? =some v[j]:=agB (by omega)
  rw[aK (by omega),av (by omega) (by omega),show ((j+1:Nat):Int) - 1=(j:Int) by omega,bH,hj,ah4]
  show _=some ((v[j]?).any _,())
  rw[hj];rfl
def aap {γ:Type} (z:Int) (g:γ):((Option Nat)×Int×Unit) ⊕ γ:=if z≠0 then Sum.inl (none,z,()) else Sum.inr g
theorem TS {γ:Type} {z:Int} (h:z≠0) (g:γ):aap z g=Sum.inl (none,z,()):=aiv h
theorem aeA {γ:Type} (g:γ):aap 0 g=Sum.inr g:=rfl
theorem Vx {o:aj} {l:List aa} {t:aF} {v:List ai} (hv:v.length≤200):∀ (r:List ai) (i n:Nat),v.drop i=r→i≤v.length→r.length<n→
 iter (X:=nc) (β:=mZ) n (l,v,v,(v.length:Int),(i:Int),o.1,o.2.1,o.2.2.1,o.2.2.2.1,o.2.2.2.2.1,o.2.2.2.2.2,t.1,t.2,()) jC
  =some (aap (ji (bK v i) r) (l,v,o.1,o.2.1,o.2.2.1,o.2.2.2.1,o.2.2.2.2.1,o.2.2.2.2.2,t.1,t.2,())):=by
 intro r
 induction r with
 | nil=>
  intro i n hdr hi hn
  have:i=v.length:=by
   have:=congrArg List.length hdr
   simp at this;omega
  subst this
  obtain⟨n,rfl⟩:∃ m,n=m+1:=⟨n - 1,by omega⟩
  rw[br]
  unfold jC
  dsimp only
  rw[aN (by omega),ji,aeA]
 | cons x r ih=>
  intro i n hdr hi hn
  have hxi:v[i]? =some x:=by
   have:=congrArg (·[0]?) hdr
   simpa [agA] using this
  have hr':v.drop (i+1)=r:=by
   have:=congrArg List.tail hdr
   simpa [aho] using this
  have hlt:=(agD.1 hxi).1
  obtain⟨n,rfl⟩:∃ m,n=m+1:=⟨n - 1,by simp at hn;omega⟩
  simp only[agO] at hn
  have ep:bK v (i+1)=some x:=hxi
  rw[br]
  generalize hag:(fun y=>iter n y jC)=again
  unfold jC
  dsimp only
  rw[aK (by omega),bH,hxi,ah4,AI,ah4]
  dsimp only
  rw[ji]
  by_cases h0:vJ x=0
  rotate_left
  ·rw[cq h0,aii,aiv h0,TS h0]
  rw[aiu (fun h=>h h0),h0,zne,aih,Nv x hlt hv,ah4]
  dsimp only
  cases hp:(bK v i).any fun q=>decide (x.2.2.1<q.2.2.1) with
  | true=>rw[aii,aiv rfl,TS (by decide)]
  | false=>
   rw[aih,aiu (by decide),av (n:=(i:Int)+1) (by omega) (by omega), ← hag,show (i:Int)+1=((i+1:Nat):Int) by omega]
   exact (ih (i+1) n hr' (by omega) (by omega)).trans (by rw[ep])
theorem W8 {o:aj} {l:List aa} {t:aF} {v:List ai} (hv:v.length≤200):∀ (r:List ai) (i n:Nat),v.drop i=r→i≤v.length→r.length<n→ji (bK v i) r=0→
 iter (X:=pq) (β:=pg) n (l,v,v,(v.length:Int),(i:Int),o.1,o.2.1,o.2.2.1,o.2.2.2.1,o.2.2.2.2.1,o.2.2.2.2.2,t.1,t.2,()) lG
  =some (Sum.inr (l,v,o.1,o.2.1,o.2.2.1,o.2.2.2.1,o.2.2.2.2.1,o.2.2.2.2.2,t.1,t.2,())):=by
 intro r
 induction r with
 | nil=>
  intro i n hdr hi hn _
  have:i=v.length:=by
   have:=congrArg List.length hdr
   simp at this;omega
  subst this
  obtain⟨n,rfl⟩:∃ m,n=m+1:=⟨n - 1,by omega⟩
  rw[br]
  unfold lG
  dsimp only
  rw[aN (by omega)]
 | cons x r ih=>
  intro i n hdr hi hn hz
  have hxi:v[i]? =some x:=by
   have:=congrArg (·[0]?) hdr
   simpa [agA] using this
  have hr':v.drop (i+1)=r:=by
   have:=congrArg List.tail hdr
   simpa [aho] using this
  have hlt:=(agD.1 hxi).1
  obtain⟨n,rfl⟩:∃ m,n=m+1:=⟨n - 1,by simp at hn;omega⟩
  simp only[agO] at hn
  have ep:bK v (i+1)=some x:=hxi
  simp only[ji] at hz
  split at hz
  ·rename_i h1;exact absurd hz h1
  rename_i h1
  have h0:vJ x=0:=afK h1
  split at hz
  ·cases hz
  rename_i h2
  rw[br]
  generalize hag:(fun y=>iter n y lG)=again
  unfold lG
  dsimp only
  rw[aK (by omega),bH,hxi,ah4,AI,ah4]
  dsimp only
  rw[h0,zne,aih,Nv x hlt hv,ah4]
  dsimp only
  rw[Bool.eq_false_iff.2 h2,aih,av (n:=(i:Int)+1) (by omega) (by omega), ← hag,show (i:Int)+1=((i+1:Nat):Int) by omega]
  exact ih (i+1) n hr' (by omega) (by omega) (by rw[ep];exact hz)
theorem Jk (o:aj) (l:List aa) (t:aF) (v:List ai):nG o l t v=if mF o l t v≠0 then some (none,mF o l t v,()) else none:=by
 unfold nG mF fL
 rw[uE,ah4]
 dsimp only
 by_cases h1:kK o=0
 rotate_left
 ·rw[cq h1,aii,aiv h1,aiv h1,aiv h1]
 rw[h1,zne,aih,uD,ah4]
 dsimp only
 rw[aiu (show ¬((0:Int)≠0) by decide)]
 by_cases h2:lH l=0
 rotate_left
 ·rw[cq h2,aii,aiv h2,aiv h2]
 rw[h2,zne,aih,Xw,ah4]
 dsimp only
 rw[aiu (show ¬((0:Int)≠0) by decide)]
 by_cases h3:D9 t=0
 rotate_left
 ·rw[cq h3,aii,aiv h3,aiv h3]
 rw[h3,zne,aih]
 rw[aiu (show ¬((0:Int)≠0) by decide)]
 by_cases h4:200<v.length
 ·rw[aK (by omega),aiv h4,aiv (by decide)]
 rw[aN (by omega),aiu h4]
 refine (congrArg (fun q=>az q _) (Vx (o:=o) (l:=l) (t:=t) (v:=v) (by omega) v 0 _ rfl (ah2 _) (ahH _ (ahI (by with_reducible repeat (first | exact ah3 | refine ahH _ ?_)))))).trans ?_
 show az (some (aap (ji none v) _)) _=_
 by_cases h5:ji none v=0
 ·rw[h5];rfl
 ·rw[TS h5,aiv h5];rfl
theorem Nd {o:aj} {l:List aa} {t:aF} {v:List ai} (h:MOk o l t v):q7 o l t v=some (((o,l,t,v,[],[],[],()):MB),0,()):=by
 obtain⟨h1,h2⟩:=GV h.chk
 have h3:D9 t=0:=by
  unfold D9
  have:=h.t1;have:=h.t2
  rw[aiu (by omega)]
 unfold q7
 rw[uE,ah4]
 dsimp only
 rw[h1,zne,aih,uD,ah4]
 dsimp only
 rw[h2,zne,aih,Xw,ah4]
 dsimp only
 have h4:=h.len
 rw[h3,zne,aih,aN (by omega)]
 refine (congrArg (fun q=>az q _) (W8 (o:=o) (l:=l) (t:=t) (v:=v) h4 v 0 _ rfl (ah2 _) (ahH _ (ahI (by with_reducible repeat (first | exact ah3 | refine ahH _ ?_)))) h.go)).trans ?_
 rfl
theorem aas {a r:Nat} (h:a+500*(r+1)≤900000):a+500≤1000000:=by omega
theorem aat {a r c:Nat} (h:a+500*(r+1)≤900000) (hc:c≤500):a+c+500*r≤900000:=by omega
theorem Z9 {o:aj} {l:List aa} {t:aF} {v:List ai} (h:MOk o l t v):∀ (r:List ai) (i n:Nat) (S:ym) (M:Ct) (b:Int→Int) (out:kj),v.drop i=r→i≤v.length→r.length<n→kJ o l S→BOk M b→BB b→out.length+500*r.length≤900000→
 ∃ S' M',kJ o l S'∧BOk M' (fO o.1 (stF o l) t (v.take i) r b).2∧
  iter (X:=yV) (β:=yU) n ((v.length:Int),(i:Int),o.1,o.2.1,o.2.2.1,o.2.2.2.1,o.2.2.2.2.1,o.2.2.2.2.2,l,t.1,t.2,v,S,M,out,()) tv
   =some (Sum.inr (o.1,o.2.1,o.2.2.1,o.2.2.2.1,o.2.2.2.2.1,o.2.2.2.2.2,l,t.1,t.2,v,S',M',out++(fO o.1 (stF o l) t (v.take i) r b).1,())):=by
 intro r
 induction r with
 | nil=>
  intro i n S M b out hdr hi hn hS hM hb ho
  have:i=v.length:=by
   have:=congrArg List.length hdr
   simp at this;omega
  subst this
  obtain⟨n,rfl⟩:∃ m,n=m+1:=⟨n - 1,by omega⟩
  refine⟨S,M,hS,hM, ?_⟩
  rw[br]
  unfold tv
  dsimp only
  rw[aN (by omega)]
  simp only[fO,agc]
 | cons x r ih=>
  intro i n S M b out hdr hi hn hS hM hb ho
  have hxi:v[i]? =some x:=by
   have:=congrArg (·[0]?) hdr
   simpa [agA] using this
  have hr':v.drop (i+1)=r:=by
   have:=congrArg List.tail hdr
   simpa [aho] using this
  have hlt:=(agD.1 hxi).1
  obtain⟨n,rfl⟩:∃ m,n=m+1:=⟨n - 1,by simp at hn;omega⟩
  simp only[agO] at hn ho
  have hv:=h.len
  have hx0:=sI h.go x (ahb hxi)
  have ho':out.length+500≤1000000:=aas ho
  obtain⟨S1,M1,g1,g2,g3⟩:=RR (out:=out) h.chk h.t1 h.t2 hv hxi hx0 hS hM hb ho'
  have hb1:BB (ff o.1 (stF o l) t (v.take i) i x b).2:=YU (aaA h.chk) h.t2.2 hb
  have hlen:(ff o.1 (stF o l) t (v.take i) i x b).1.length≤500:=by
   unfold ff
   split
   ·simp
   ·split
    ·simp
    ·have:=EG (stF o l x.2.2.1) t i x.2.2.2.2.2.2.2.1 0 b
     have:=(EH hx0).2
     omega
  have etl:((v.take i).length:Int)=(i:Int):=by rw[agV];omega
  rw[br]
  generalize hag:(fun y=>iter n y tv)=again
  unfold tv
  simp only[fO]
  rw[aK (show (i:Int)<(v.length:Int) by omega)]
  have g3':fK ((o.1,o.2.1,o.2.2.1,o.2.2.2.1,o.2.2.2.2.1,o.2.2.2.2.2),l,(t.1,t.2),v,S,M,out,()) (i:Int)=_:=g3
  rw[g3',ah4]
  dsimp only
  rw[av (n:=(i:Int)+1) (by omega) (by omega), ← hag,show (i:Int)+1=((i+1:Nat):Int) by omega,etl]
  obtain⟨S2,M2,q1,q2,q3⟩:=ih (i+1) n S1 M1 _ (out++(ff o.1 (stF o l) t (v.take i) i x b).1) hr' (by omega) (by omega) g1 g2 hb1 (by rw[agN];exact aat ho hlen)
  rw[lF hxi] at q2 q3
  refine⟨S2,M2,q1,q2,q3.trans ?_⟩
  rw[agb]
theorem YE:BOk [] (fun _=>0):=fun n=>by
 show (false,[])=W 0
 decide
theorem YD:BB (fun _=>0):=fun n=>by
 exact⟨afM _,by show (0:Int)≤10 ^ 26;decide⟩
theorem OS (o:aj) (l:List aa):kJ o l []:=fun d s h=>by cases h
theorem U6 (o:aj) (l:List aa) (t:aF) (v:List ai):Ep o l t v=some (if mF o l t v=0 then (fO o.1 (stF o l) t [] v (fun _=>0)).1 else [],mF o l t v,()):=by
 unfold Ep
 rw[Jk]
 by_cases h:mF o l t v=0
 rotate_left
 ·rw[aiv h,aiu h]
  unfold KB
  dsimp only
  rw[cq h,aii]
 have hm:=Jj h
 rw[aiu (by simpa using h),aiv h]
 refine Eq.trans KC ?_
 rw[Nd hm,ah4]
 dsimp only
 rw[zne,aih]
 have hl:=hm.len
 obtain⟨S',M',_,_,q3⟩:=Z9 hm v 0 (Int.natAbs ((List.length v:Int))+(Int.natAbs (0:Int)+(o.1.length+(o.2.1.length+(o.2.2.1.length+(o.2.2.2.1.natAbs+(o.2.2.2.2.1.natAbs+(o.2.2.2.2.2.length+(List.length l+(t.1.natAbs+(t.2.natAbs+(List.length v+(List.length ([]:ym)+(List.length ([]:Ct)+(List.length ([]:kj)+2)))))))))))))))
  [] [] (fun _=>0) [] rfl (ah2 _) (by rw[afU];exact ahI (by with_reducible repeat (first | exact ah3 | refine ahH _ ?_))) (OS o l) YE YD (by simp;omega)
 refine (congrArg (fun q=>az q _) q3).trans ?_
 rw[h];rfl
end Go.Md
set_option linter.all false
set_option maxRecDepth 20000
namespace Go.Md
open Go.Dn
theorem Yi:M4=some (true,()):=by kernel_rfl
theorem Qn {num:Bys} {stf:Int→List ax} {t:Int×Int} {pre:List ai} {i:Int} {x:ai} {b:Int→Int} (h:vJ x=0):(ff num stf t pre i x b).1.length≤500:=by
 unfold ff
 split
 ·simp
 ·split
  ·simp
  ·have:=EG (stf x.2.2.1) t i x.2.2.2.2.2.2.2.1 0 b
   have:=(EH h).2
   omega
theorem aeW {a b r:Nat} (h1:a≤500) (h2:b≤500*r):a+b≤500*(r+1):=by omega
theorem Kz (num:Bys) (stf:Int→List ax) (t:Int×Int):∀ (l pre:List ai) (b:Int→Int),(∀ x∈l,vJ x=0)→(fO num stf t pre l b).1.length≤500*l.length
 | [],_,_,_=>ah2 _
 | x::r,pre,b,h=>by
  simp only[fO,agN,agO]
  exact aeW (Qn (h x ag6)) (Kz num stf t r _ _ fun y hy=>h y (ag5 _ hy))
theorem TD (a:kj) (ha:a.length≤1000000000):jv a a=some (true,()):=by
 unfold jv
 rw[show ((a.length:Int) != (a.length:Int))=false by simp,aih]
 have loop:∀ n,a.length<n→iter (X:=fA) (β:=ia) n (a,a,(a.length:Int),0,()) gZ=some (Sum.inr ()):=by
  intro n hn
  refine cN (Inv:=fun i X=>X=((a,a,(a.length:Int),(i:Int),()):fA)) a.length (fun z=>z=some (Sum.inr ())) ?_ ?_ n 0 _ rfl (ah2 _) (by omega)
  ·rintro i X again hi rfl hag
   unfold gZ
   dsimp only
   have hy:a[i]? =some a[i]:=agB hi
   rw[aK (by omega),bH,hy,ah4,ah4]
   rw[show (!(((a[i]).1==(a[i]).1)&&(((a[i]).2.1==(a[i]).2.1)&&(((a[i]).2.2==(a[i]).2.2)&&true))))=false by simp,aih,av (n:=(i:Int)+1) (by omega) (by omega)]
   exact hag _ rfl
  ·rintro X again rfl
   unfold gZ
   dsimp only
   rw[aN (by omega)]
 rw[loop _ (ahI (by with_reducible repeat (first | exact ah3 | refine ahH _ ?_)))]
 rfl
end Go.Md
set_option linter.all false
set_option maxRecDepth 20000
namespace Go.Md
open Go.Dn
def kqZ (s:ax):Int:=oo s / 1000000
theorem aeF {o:aj} {l:List aa} (h:fL o l=0) {d:Int} {s:ax} (hs:s∈stF o l d):oo s=kqZ s*1000000∧0≤kqZ s∧kqZ s≤1000000000000000:=by
 obtain⟨x,hx,hp,rfl⟩:=T6 h hs
 have h1:=hx.ret0;have h2:=hx.retr;have h3:=hx.rcvs;have h4:=hx.shp1
 have hk:=Kt hx
 unfold kqZ
 rw[hk,Int.mul_ediv_cancel _ (by decide)]
 exact⟨rfl,by omega,by omega⟩
theorem ad4 {o:aj} {l:List aa} (hc:fL o l=0) (d:Int):(stF o l d).length≤500:=by
 unfold stF
 split
 ·rw[agQ,(eN _).length_eq]
  exact (Fe hc 0 d).2.len
 ·simp
end Go.Md
set_option linter.all false
set_option maxRecDepth 20000
namespace Go.Md
open Go.Dn
end Go.Md
