/-
  Plain facts: the reference's match; invoices taken back. No condition.
-/
import Derived.Test.YtcpmaicaibdafaaGreatDoorWj
set_option linter.all false
set_option linter.all false
set_option maxRecDepth 20000
namespace Go.Md
open Go.Dn
theorem Se (t:aF):lR t=some (D9 t,()):=by
 unfold lR D9
 rw[zi,ah4]
 dsimp only
 by_cases h1:t.1<0∨1000<t.1
 ·rw[aik (show ¬(0≤t.1∧t.1≤1000) by omega),afD,aii,aiv (by omega)]
 ·rw[aim (show 0≤t.1∧t.1≤1000 by omega),afE,aih,zi,ah4]
  dsimp only
  by_cases h2:t.2<0∨1000<t.2
  ·rw[aik (show ¬(0≤t.2∧t.2≤1000) by omega),afD,aii,aiv (by omega)]
  ·rw[aim (show 0≤t.2∧t.2≤1000 by omega),afE,aih,aiu (by omega)]
def aaq {γ:Type} (z:Int) (g:γ):(Int×Unit) ⊕ γ:=if z≠0 then Sum.inl (z,()) else Sum.inr g
theorem TT {γ:Type} {z:Int} (h:z≠0) (g:γ):aaq z g=Sum.inl (z,()):=aiv h
theorem aeB {γ:Type} (g:γ):aaq 0 g=Sum.inr g:=rfl
theorem aaK {v:List ai} (hv:v.length≤200):∀ (r:List ai) (i n:Nat),v.drop i=r→i≤v.length→r.length<n→
 iter (X:=sW) (β:=sV) n (v,v,(v.length:Int),(i:Int),()) nQ
  =some (aaq (ji (bK v i) r) ()):=by
 intro r
 induction r with
 | nil=>
  intro i n hdr hi hn
  have:i=v.length:=by
   have:=congrArg List.length hdr
   simp at this;omega
  subst this
  obtain⟨n,rfl⟩:∃ m,n=m+1:=⟨n - 1,by omega⟩
  rw[br]
  unfold nQ
  dsimp only
  rw[aN (by omega),ji,aeB]
 | cons x r ih=>
  intro i n hdr hi hn
  have hxi:v[i]? =some x:=by
   have:=congrArg (·[0]?) hdr
   simpa [agA] using this
  have hr':v.drop (i+1)=r:=by
   have:=congrArg List.tail hdr
   simpa [aho] using this
  have hlt:=(agD.1 hxi).1
  obtain⟨n,rfl⟩:∃ m,n=m+1:=⟨n - 1,by simp at hn;omega⟩
  simp only[agO] at hn
  have ep:bK v (i+1)=some x:=hxi
  rw[br]
  generalize hag:(fun y=>iter n y nQ)=again
  unfold nQ
  dsimp only
  rw[aK (by omega),bH,hxi,ah4,LN,ah4]
  dsimp only
  rw[ji]
  by_cases h0:vJ x=0
  rotate_left
  ·rw[cq h0,aii,aiv h0,TT h0]
  rw[aiu (fun h=>h h0),h0,zne,aih,Nv x hlt hv,ah4]
  dsimp only
  cases hp:(bK v i).any fun q=>decide (x.2.2.1<q.2.2.1) with
  | true=>rw[aii,aiv rfl,TT (by decide)]
  | false=>
   rw[aih,aiu (by decide),av (n:=(i:Int)+1) (by omega) (by omega), ← hag,show (i:Int)+1=((i+1:Nat):Int) by omega]
   exact (ih (i+1) n hr' (by omega) (by omega)).trans (by rw[ep])
theorem Hj (o:aj) (l:List aa) (t:aF) (v:List ai) (tx:∀ d,d∈l→Txt d):vV o l t v=some (mF o l t v,()):=by
 unfold vV mF fL
 rw[F9,ah4]
 dsimp only
 by_cases h1:kK o=0
 rotate_left
 ·rw[cq h1,aii,aiv h1,aiv h1]
 rw[h1,zne,aih,F8 _ tx,ah4]
 dsimp only
 rw[aiu (show ¬((0:Int)≠0) by decide)]
 by_cases h2:lH l=0
 rotate_left
 ·rw[cq h2,aii,aiv h2]
 rw[h2,zne,aih,Se,ah4]
 dsimp only
 rw[aiu (show ¬((0:Int)≠0) by decide)]
 by_cases h3:D9 t=0
 rotate_left
 ·rw[cq h3,aii,aiv h3]
 rw[h3,zne,aih]
 rw[aiu (show ¬((0:Int)≠0) by decide)]
 by_cases h4:200<v.length
 ·rw[aK (by omega),aiv h4]
 rw[aN (by omega),aiu h4]
 refine (congrArg (fun q=>az q _) (aaK (v:=v) (by omega) v 0 _ rfl (ah2 _) (ahI (by with_reducible repeat (first | exact ah3 | refine ahH _ ?_))))).trans ?_
 show az (some (aaq (ji none v) _)) _=_
 by_cases h5:ji none v=0
 ·rw[h5];rfl
 ·rw[TT h5];rfl
def mqZ (d:ah):Int:=d.1*10 ^ (3 - d.2).toNat
theorem aeo {d:ah} (h:b8 d):(mqZ d).natAbs≤1000000000000000000:=by
 obtain⟨h1,h2,_⟩:=h
 unfold mqZ
 rw[afT,afV]
 have h3:(10:Int).natAbs ^ (3 - d.2).toNat≤10 ^ 3:=ahZ (by decide) (by omega)
 have h4:=ahT h1 h3
 omega
theorem adl {d:ah} (h0:0≤d.2) (h3:d.2≤3):bX d=mqZ d*1000000:=by
 unfold bX mqZ
 rw[show (9 - d.2).toNat=(3 - d.2).toNat+6 by omega,afY, ← afO]
 rfl
theorem FX {d:ah} (h1:d.1.natAbs≤2000000000000000) (p0:0≤d.2) (p3:d.2≤3):pZ d=some (mqZ d,()):=by
 obtain⟨u,p⟩:=d
 dsimp only at h1 p0 p3
 obtain⟨k,hk⟩:∃ k:Nat,(3 - p:Int)=(k:Int):=⟨(3 - p).toNat,by omega⟩
 have hk3:k≤3:=by omega
 have hv:mqZ (u,p)=u*10 ^ k:=by
  unfold mqZ
  dsimp only
  rw[hk,af4]
 rw[hv]
 unfold pZ
 dsimp only
 rw[hk,av (n:=(k:Int)) (by omega) (by omega)]
 have hm:∀ i,i≤3→(u*10 ^ i).natAbs≤2000000000000000000:=fun i hi=>by
  rw[afT,afV]
  have h4:(10:Int).natAbs ^ i≤10 ^ 3:=ahZ (by decide) hi
  have h5:=ahT h1 h4
  omega
 have loop:∀ m,k<m→iter (X:=vZ) (β:=A7) m (u,(k:Int),0,()) A6=some (Sum.inr (u*10 ^ k,())):=by
  intro m hm'
  refine cN (Inv:=fun i X=>X=((u*10 ^ i,(k:Int),(i:Int),()):vZ)) k (fun z=>z=some (Sum.inr (u*10 ^ k,()))) ?_ ?_ m 0 _ (by simp) (ah2 _) (by omega)
  ·rintro i X again hi rfl hag
   unfold A6
   dsimp only
   have h1:=hm (i+1) (by omega)
   have e:u*10 ^ i*10=u*10 ^ (i+1):=by rw[afZ,afO]
   rw[aim (show (i:Int)<(k:Int) by omega),aii,e,av (n:=u*10 ^ (i+1)) (by omega) (by omega),av (n:=(i:Int)+1) (by omega) (by omega)]
   exact hag _ rfl
  ·rintro X again rfl
   unfold A6
   dsimp only
   rw[aik (show ¬(k:Int)<(k:Int) by omega),aih]
 rw[loop _ (by simp only[afU];omega)]
 rfl
theorem Y6 {n:Int} (h:n.natAbs≤2000000000000000):pZ (bR n)=some (n,()):=by
 have hm:=dn h
 have hu:=hm.unit
 rw[FX (by omega) hm.p0 hm.p3]
 exact congrArg (fun z=>some (z,())) hm.val
structure StF (s:ax):Prop extends VL s where
 had:Ob s=some (kqZ s,())
 kq:oo s=kqZ s*1000000
 kq0:0≤kqZ s
 kq1:kqZ s≤1000000000000000
theorem ab4 {o:aj} {l:List aa} (h:fL o l=0) {d:Int} {s:ax} (hs:s∈stF o l d):StF s:=by
 obtain⟨k1,k2,k3⟩:=aeF h hs
 obtain⟨x,hx,hp,rfl⟩:=T6 h hs
 refine⟨Xu hx hp, ?_,k1,k2,k3⟩
 have h1:=hx.ret0;have h2:=hx.retr;have h3:=hx.rcvs;have h4:=hx.shp1
 have hk:=Kt hx
 unfold Ob
 have e1:pZ (bL x).2.2.2.2.2.2.2.1=some (x.rcv,()):=Y6 (by omega)
 have e2:pZ (bL x).2.2.2.2.2.2.2.2.1=some (x.ret,()):=Y6 (by omega)
 rw[e1,ah4,e2,ah4]
 dsimp only
 rw[av (by omega) (by omega),show x.rcv - x.ret=kqZ (bL x) by omega]
theorem TM (st:List ax) (no:Int) (hl:st.length<1000000000):CF st no=some (match st.find? (fun s=>s.1==no) with | some s=>(s,true,()) | none=>((0,[],[],(0,0),(0,0),0,(0,0),(0,0),(0,0),0,0),false,())):=by
 unfold CF
 have loop:∀ (r:List ax) (i n:Nat),st.drop i=r→i≤st.length→r.length<n→
  iter (X:=xw) (β:=xu) n (no,st,(st.length:Int),(i:Int),0,[],[],0,0,0,0,0,0,0,0,0,0,0,0,0,()) rK=some (match r.find? (fun s=>s.1==no) with | some s=>Sum.inl (s,true,()) | none=>Sum.inr (0,[],[],0,0,0,0,0,0,0,0,0,0,0,0,0,())):=by
  intro r
  induction r with
  | nil=>
   intro i n hdr hi hn
   have:i=st.length:=by
    have:=congrArg List.length hdr
    simp at this;omega
   subst this
   obtain⟨n,rfl⟩:∃ m,n=m+1:=⟨n - 1,by omega⟩
   rw[br]
   unfold rK
   dsimp only
   rw[aN (by omega)]
   rfl
  | cons y r ih=>
   intro i n hdr hi hn
   have hy:st[i]? =some y:=by
    have:=congrArg (·[0]?) hdr
    simpa [agA] using this
   have hr':st.drop (i+1)=r:=by
    have:=congrArg List.tail hdr
    simpa [aho] using this
   have hlt:=(agD.1 hy).1
   obtain⟨n,rfl⟩:∃ m,n=m+1:=⟨n - 1,by simp at hn;omega⟩
   rw[br]
   generalize hag:(fun y=>iter n y rK)=again
   unfold rK
   dsimp only
   rw[aK (by omega),bH,hy,ah4,List.find?_cons]
   cases hb:(y.1==no) with
   | true=>rfl
   | false=>
    rw[aih,av (n:=(i:Int)+1) (by omega) (by omega), ← hag,show (i:Int)+1=((i+1:Nat):Int) by omega]
    exact ih (i+1) n hr' (by omega) (by simp at hn;omega)
 refine (congrArg (fun q=>az q _) (loop st 0 _ rfl (ah2 _) (ahH _ (ahI (by with_reducible repeat (first | exact ah3 | refine ahH _ ?_)))))).trans ?_
 cases st.find? (fun s=>s.1==no) with
 | none=>rfl
 | some s=>rfl
def PB:Int→List Int→Prop
 | p,[]=>(dg6 p.natAbs).length<100
 | p,a::r=>(dg6 p.natAbs).length<100∧(dg6 a.natAbs).length<100∧PB (p*a) r
theorem SH:∀ (l:List Int) (p:Int),PB p l→(dg6 (l.foldl (· * ·) p).natAbs).length<100
 | [],p,h=>h
 | a::r,p,h=>SH r (p*a) h.2.2
theorem acy (xs:List Int) (bs:List aJ) (b:Bool) (bl:List Int) (hl:xs.length≤100):
 ∀ (r:List Int) (i n:Nat) (p:Int),xs.drop i=r→i≤xs.length→r.length<n→PB p r→
 iter (X:=xo) (β:=xk) n (bs,xs.map N,((xs.map N).length:Int),(i:Int),(N p).1,(N p).2,b,bl,()) rH=some (Sum.inr (bs,(N (r.foldl (· * ·) p)).1,(N (r.foldl (· * ·) p)).2,b,bl,())):=by
 intro r
 induction r with
 | nil=>
  intro i n p hdr hi hn hp
  have:i=xs.length:=by
   have:=congrArg List.length hdr
   simp at this;omega
  subst this
  obtain⟨n,rfl⟩:∃ m,n=m+1:=⟨n - 1,by omega⟩
  rw[br]
  unfold rH
  dsimp only
  rw[agQ,aN (by omega)]
  rfl
 | cons a r ih=>
  intro i n p hdr hi hn hp
  obtain⟨p1,p2,p3⟩:=hp
  have hy:xs[i]? =some a:=by
   have:=congrArg (·[0]?) hdr
   simpa [agA] using this
  have hr':xs.drop (i+1)=r:=by
   have:=congrArg List.tail hdr
   simpa [aho] using this
  have hlt:=(agD.1 hy).1
  have hy':(xs.map N)[i]? =some (N a):=by rw[agE,hy];rfl
  obtain⟨n,rfl⟩:∃ m,n=m+1:=⟨n - 1,by simp at hn;omega⟩
  rw[br]
  generalize hag:(fun y=>iter n y rH)=again
  unfold rH
  dsimp only
  have e:lC ((N p).1,(N p).2) (N a)=some (N (p*a),()):=tQ p a p1 (by omega)
  rw[aK (by rw[agQ];omega),bH,hy',ah4,e,ah4]
  dsimp only
  rw[av (n:=(i:Int)+1) (by omega) (by omega), ← hag,show (i:Int)+1=((i+1:Nat):Int) by omega]
  exact ih (i+1) n (p*a) hr' (by omega) (by simp at hn;omega) p3
theorem acz (xs:List Int) (b:Bool) (bl:List Int) (hl:xs.length≤100):
 ∀ (r:List Int) (i n:Nat) (p:Int),xs.drop i=r→i≤xs.length→r.length<n→PB p r→
 iter (X:=xq) (β:=xm) n (xs.map N,((xs.map N).length:Int),(i:Int),b,bl,(N p).1,(N p).2,()) rI=some (Sum.inr (b,bl,(N (r.foldl (· * ·) p)).1,(N (r.foldl (· * ·) p)).2,())):=by
 intro r
 induction r with
 | nil=>
  intro i n p hdr hi hn hp
  have:i=xs.length:=by
   have:=congrArg List.length hdr
   simp at this;omega
  subst this
  obtain⟨n,rfl⟩:∃ m,n=m+1:=⟨n - 1,by omega⟩
  rw[br]
  unfold rI
  dsimp only
  rw[agQ,aN (by omega)]
  rfl
 | cons a r ih=>
  intro i n p hdr hi hn hp
  obtain⟨p1,p2,p3⟩:=hp
  have hy:xs[i]? =some a:=by
   have:=congrArg (·[0]?) hdr
   simpa [agA] using this
  have hr':xs.drop (i+1)=r:=by
   have:=congrArg List.tail hdr
   simpa [aho] using this
  have hlt:=(agD.1 hy).1
  have hy':(xs.map N)[i]? =some (N a):=by rw[agE,hy];rfl
  obtain⟨n,rfl⟩:∃ m,n=m+1:=⟨n - 1,by simp at hn;omega⟩
  rw[br]
  generalize hag:(fun y=>iter n y rI)=again
  unfold rI
  dsimp only
  have e:lC ((N p).1,(N p).2) (N a)=some (N (p*a),()):=tQ p a p1 (by omega)
  rw[aK (by rw[agQ];omega),bH,hy',ah4,e,ah4]
  dsimp only
  rw[av (n:=(i:Int)+1) (by omega) (by omega), ← hag,show (i:Int)+1=((i+1:Nat):Int) by omega]
  exact ih (i+1) n (p*a) hr' (by omega) (by simp at hn;omega) p3
theorem Jr (xs bs:List Int) (la:xs.length≤100) (lb:bs.length≤100) (ha:PB 1 xs) (hb:PB 1 bs):yD (xs.map N) (bs.map N)=some (decide (bs.foldl (· * ·) 1<xs.foldl (· * ·) 1),()):=by
 unfold yD
 rw[nR 1 (by decide) (by decide),ah4,ah4]
 dsimp only
 refine (congrArg (fun q=>az q _) (acy xs (bs.map N) (N 1).1 (N 1).2 la xs 0 _ 1 rfl (ah2 _) (by rw[agQ,agQ,afU];omega) ha)).trans ?_
 rw[aU]
 dsimp only
 refine (congrArg (fun q=>az q _) (acz bs (N (xs.foldl (· * ·) 1)).1 (N (xs.foldl (· * ·) 1)).2 lb bs 0 _ 1 rfl (ah2 _) (by rw[agQ,afU];omega) hb)).trans ?_
 rw[aU]
 dsimp only
 have h1:=SH xs 1 ha
 have h2:=SH bs 1 hb
 have e:FY ((N (xs.foldl (· * ·) 1)).1,(N (xs.foldl (· * ·) 1)).2) ((N (bs.foldl (· * ·) 1)).1,(N (bs.foldl (· * ·) 1)).2)=_:=Nx (xs.foldl (· * ·) 1) (bs.foldl (· * ·) 1) (by omega) (by omega)
 rw[e,ah4]
 dsimp only
 rw[TZ]
theorem zb {z:Int} (h:z.natAbs≤10 ^ 59):(dg6 z.natAbs).length<100:=by
 have h1:(10:Nat) ^ 59<1000000000000000000000000000000000000000000000000000000000000:=by decide
 have:=FO (z:=z) (by omega)
 omega
theorem PB2 {a b:Int} (ha:a.natAbs≤10 ^ 24) (hb:b.natAbs≤10 ^ 19):PB 1 [a,b]:=by
 have h1:(1*a).natAbs≤10 ^ 24:=by rw[Int.one_mul];exact ha
 have h2:(1*a*b).natAbs≤10 ^ 24*10 ^ 19:=Di h1 hb
 exact⟨zb (by decide),zb (by omega),zb (by omega),zb (by omega),zb (by omega)⟩
theorem PB3 {a b c:Int} (ha:a.natAbs≤10 ^ 24) (hb:b.natAbs≤10 ^ 6) (hc:c.natAbs≤10 ^ 6):PB 1 [a,b,c]:=by
 have h1:(1*a).natAbs≤10 ^ 24:=by rw[Int.one_mul];exact ha
 have h2:(1*a*b).natAbs≤10 ^ 24*10 ^ 6:=Di h1 hb
 have h3:(1*a*b*c).natAbs≤10 ^ 24*10 ^ 6*10 ^ 6:=Di h2 hc
 exact⟨zb (by decide),zb (by omega),zb (by omega),zb (by omega),zb (by omega),zb (by omega),zb (by omega)⟩
theorem Yu {st:List ax} (hst:∀ s∈st,StF s) (hlen:st.length<1000000000) {t:aF} (ht1:0≤t.1∧t.1≤1000) (ht2:0≤t.2∧t.2≤1000) {x:aD} (hx:Py x) {n:Int} (hn:n.natAbs≤2000000000000000000):
 KK st t x n=some (sJ st t x (n*1000000),()):=by
 unfold KK sJ
 rw[TM _ _ hlen,ah4]
 cases hf:st.find? (fun s=>s.1==x.2.1) with
 | none=>rfl
 | some s=>
 dsimp only
 have hs:=hst s (aha hf)
 rw[afE,aih]
 by_cases ha:s.2.1=x.2.2.1
 rotate_left
 ·rw[show (!(s.2.1==x.2.2.1))=true by simp[ha],aii,aiv (fun h=>ha h.1)]
 rw[show (!(s.2.1==x.2.2.1))=false by simp[ha],aih]
 by_cases hu:s.2.2.1=x.2.2.2.2.1
 rotate_left
 ·rw[show (!(s.2.2.1==x.2.2.2.2.1))=true by simp[hu],aii,aiv (fun h=>hu h.2)]
 rw[show (!(s.2.2.1==x.2.2.2.2.1))=false by simp[hu],aih,aiu (fun h=>h ⟨ha,hu⟩)]
 have n1:=vG hx.p
 have n2:=vG hs.pr
 have per:=hx.per
 rw[KL _ hx.p,ah4,nR 1000 (by omega) (by omega),ah4,KL _ hs.pr,ah4,nR x.2.2.2.2.2.2.1 (by omega) (by omega),ah4,av (n:=1000+t.1) (by omega) (by omega),nR (1000+t.1) (by omega) (by omega),ah4]
 dsimp only
 have g1:=Jr [bX x.2.2.2.2.2.1,1000] [bX s.2.2.2.2.1,x.2.2.2.2.2.2.1,1000+t.1] (by simp) (by simp) (PB2 (by omega) (by decide)) (PB3 (by omega) (by omega) (by omega))
 simp only[agY,ag0,List.foldl_cons,List.foldl_nil,Int.one_mul] at g1
 rw[g1,ah4]
 dsimp only
 have ec:bX s.2.2.2.2.1*x.2.2.2.2.2.2.1*(1000+t.1)=bX s.2.2.2.2.1*(1000+t.1)*x.2.2.2.2.2.2.1:=by grind
 rw[ec]
 by_cases hp:bX s.2.2.2.2.1*(1000+t.1)*x.2.2.2.2.2.2.1<bX x.2.2.2.2.2.1*1000
 ·rw[aK hp,aiv hp]
 rw[aN hp,aiu hp]
 by_cases hz:n<0
 ·rw[aK hz,aiv (.inl (by omega))]
 have k0:=hs.kq0;have k1:=hs.kq1;have kq:=hs.kq
 rw[aN hz,nR n (by omega) (by omega),ah4,ah4,hs.had,ah4,nR (kqZ s) (by omega) (by omega),ah4,av (n:=1000+t.2) (by omega) (by omega),nR (1000+t.2) (by omega) (by omega),ah4]
 dsimp only
 have g2:=Jr [n,1000] [kqZ s,1000+t.2] (by simp) (by simp) (PB2 (by omega) (by decide)) (PB2 (by omega) (by omega))
 simp only[agY,ag0,List.foldl_cons,List.foldl_nil,Int.one_mul] at g2
 rw[g2,ah4]
 dsimp only
 have em:oo s*(1000+t.2)=kqZ s*(1000+t.2)*1000000:=by rw[kq];grind
 rw[em]
 by_cases hq:kqZ s*(1000+t.2)<n*1000
 ·rw[aK hq,aiv (.inr (by omega))]
 ·rw[aN hq,aiu (fun h=>h.elim (fun h=>hz (by omega)) (fun h=>hq (by omega)))]
end Go.Md
set_option linter.all false
set_option maxRecDepth 20000
namespace Go.Md
open Go.Dn
abbrev RB:=List (Int×Int)
def Fb (B:RB) (b:Int→Int):Prop:=∀ n,Option.getD (α:=Int) (b9 (k:=tI) (v:=tI) B n) 0*1000000=b n
def BC (b:Int→Int):Prop:=∀ n,0≤b n∧b n≤2000000000000000000000
theorem acd:Fb [] (fun _=>0):=fun n=>rfl
theorem adf:BC (fun _=>0):=fun n=>⟨afM _,by show (0:Int)≤2000000000000000000000;decide⟩
theorem Fb.set {B:RB} {b:Int→Int} (h:Fb B b) (k z:Int):Fb (jJ (k:=tI) (v:=tI) B k z) (Fc b k (z*1000000)):=fun n=>by
 have e:= @Nf tI tI As B k z n
 refine (congrArg (fun q=>Option.getD (α:=Int) q 0*1000000) e).trans ?_
 unfold Fc
 cases hb:Ty.beq tI k n with
 | true=>
  have:=(As k n).1 hb
  subst this
  rw[aii,aiv rfl];rfl
 | false=>
  have hne:¬n=k:=fun e=>by
   subst e
   have:=(As n n).2 rfl
   rw[hb] at this;cases this
  rw[aih]
  exact (h n).trans (aiu hne).symm
theorem WZ {st:List ax} {t:Int×Int} {x:aD} {n:Int} (hst:∀ s∈st,StF s) (ht:t.2≤1000) (h:sJ st t x n=0):0≤n∧n≤2000000000000000000000:=by
 obtain⟨s,hs,h1,h2⟩:=RX h
 have h3:=hst s (aha hs)
 have k0:=h3.kq0;have k1:=h3.kq1;have kq:=h3.kq
 have h5:oo s*(1000+t.2)≤oo s*2000:=afP (by omega) (by omega)
 exact⟨h1,by omega⟩
theorem YH {b:Int→Int} {k z:Int} (h:BC b) (hz:0≤z∧z≤2000000000000000000000):BC (Fc b k z):=fun n=>by
 unfold Fc
 split
 ·exact hz
 ·exact h n
theorem Na {st:List ax} {t:Int×Int} {i:Int} (hst:∀ s∈st,StF s) (ht:t.2≤1000):∀ (l:List aD) (k:Nat) (b:Int→Int),BC b→BC (eZ st t i k l b).2
 | [],_,_,h=>h
 | x::r,k,b,h=>by
  unfold eZ
  split
  ·rename_i h0
   exact Na hst ht r _ _ (YH h (WZ hst ht h0))
  ·exact Na hst ht r _ _ h
theorem adA {num:Bys} {stf:Int→List ax} {t:Int×Int} {pre:List ai} {i:Int} {v:ai} {b:Int→Int} (hst:∀ d,∀ s∈stf d,StF s) (ht:t.2≤1000) (h:BC b):BC (ff num stf t pre i v b).2:=by
 unfold ff
 split
 ·exact h
 ·split
  ·exact h
  ·exact Na (hst _) ht _ _ _ h
def kA (kind:Int) (p:Bool):Int:=bif kind==0&&p then 2 else kind
theorem ad7 (pre:List ai) (hl:pre.length≤1000) (l:List aa) (v v2:List ai) (out:kj) (i c1 c2:Int) (o1 o2 o3:Bys) (o4 o5:Int) (o6:List aH) (t1 t2:Int) (B:RB) (x1 x2:Bys) (x3 x4 x5:Int) (x6:Bool) (x7:List aV) (x8:List aD) (x9:List bI):
 ∀ (r:List ai) (j n:Nat) (kind:Int),pre.drop j=r→j≤pre.length→r.length<n→
 iter (X:=tN) (β:=tL) n (l,v,out,i,kind,v2,c1,c2,pre,(pre.length:Int),(j:Int),o1,o2,o3,o4,o5,o6,t1,t2,x1,x2,x3,x4,x5,x6,x7,x8,x9,B,()) oP
  =some (Sum.inr (l,v,out,i,kA kind (r.any fun u=>u.1==x1),v2,c1,c2,o1,o2,o3,o4,o5,o6,t1,t2,x1,x2,x3,x4,x5,x6,x7,x8,x9,B,())):=by
 intro r
 induction r with
 | nil=>
  intro j n kind hdr hj hn
  have:j=pre.length:=by
   have:=congrArg List.length hdr
   simp at this;omega
  subst this
  obtain⟨n,rfl⟩:∃ m,n=m+1:=⟨n - 1,by omega⟩
  rw[br]
  unfold oP
  dsimp only
  rw[aN (by omega),List.any_nil,show kA kind false=kind by unfold kA;rw[afs,aih]]
 | cons y r ih=>
  intro j n kind hdr hj hn
  have hy:pre[j]? =some y:=by
   have:=congrArg (·[0]?) hdr
   simpa [agA] using this
  have hr':pre.drop (j+1)=r:=by
   have:=congrArg List.tail hdr
   simpa [aho] using this
  have hlt:=(agD.1 hy).1
  obtain⟨n,rfl⟩:∃ m,n=m+1:=⟨n - 1,by simp at hn;omega⟩
  simp only[agO] at hn
  rw[br]
  generalize hag:(fun y=>iter n y oP)=again
  unfold oP
  dsimp only
  rw[aK (by omega),bH,hy,ah4,af8,av (n:=(j:Int)+1) (by omega) (by omega), ← hag,show (j:Int)+1=((j+1:Nat):Int) by omega]
  dsimp only
  cases hk:(kind==0) with
  | false=>
   rw[aih,ah4]
   dsimp only
   rw[aih,ih (j+1) n kind hr' (by omega) (by omega)]
   unfold kA
   rw[hk,afw,afw]
  | true=>
   rw[aii,ah4]
   dsimp only
   cases hb:(y.1==x1) with
   | true=>
    rw[aii,ih (j+1) n 2 hr' (by omega) (by omega)]
    unfold kA
    rw[hk,Bool.true_or,show ((2:Int)==0)=false from rfl,afw]
    rfl
   | false=>
    rw[aih,ih (j+1) n kind hr' (by omega) (by omega),afz]
theorem Xy (pre:List ai) (hl:pre.length≤1000) (l:List aa) (v v2:List ai) (out:kj) (i c1 c2:Int) (o1 o2 o3:Bys) (o4 o5:Int) (o6:List aH) (t1 t2:Int) (B:RB) (x1 x2:Bys) (x3 x4 x5:Int) (x6:Bool) (x7:List aV) (x8:List aD) (x9:List bI) (n:Nat) (kind:Int) (hn:pre.length<n):
 iter (X:=tN) (β:=tL) n (l,v,out,i,kind,v2,c1,c2,pre,(pre.length:Int),0,o1,o2,o3,o4,o5,o6,t1,t2,x1,x2,x3,x4,x5,x6,x7,x8,x9,B,()) oP
  =some (Sum.inr (l,v,out,i,kA kind (pre.any fun u=>u.1==x1),v2,c1,c2,o1,o2,o3,o4,o5,o6,t1,t2,x1,x2,x3,x4,x5,x6,x7,x8,x9,B,())):=
 ad7 pre hl l v v2 out i c1 c2 o1 o2 o3 o4 o5 o6 t1 t2 B x1 x2 x3 x4 x5 x6 x7 x8 x9 pre 0 n kind rfl (ah2 _) hn
theorem adO {t:aF} (ht1:0≤t.1∧t.1≤1000) (ht2:0≤t.2∧t.2≤1000) {st:List ax} (hst:∀ s∈st,StF s) (hlen:st.length<1000000000) (i:Int) (ls:List aD) (hls:ls.length≤1000) (hx:∀ x∈ls,Py x∧x.2.2.2.1.2≤3)
 (l:List aa) (v v2:List ai) (c1 c2:Int) (o1 o2 o3:Bys) (o4 o5:Int) (o6:List aH):
 ∀ (r:List aD) (k:Nat) (B:RB) (b:Int→Int) (out:kj),ls.drop k=r→k≤ls.length→Fb B b→BC b→out.length+r.length≤1000000→
  ∃ B',Fb B' (eZ st t i k r b).2∧∀ n,r.length<n→
   iter (X:=tO) (β:=tM) n (l,v,out,i,v2,c1,c2,ls,(ls.length:Int),(k:Int),o1,o2,o3,o4,o5,o6,t.1,t.2,st,B,()) kg
    =some (Sum.inr (l,v,out++(eZ st t i k r b).1,v2,c1,c2,o1,o2,o3,o4,o5,o6,t.1,t.2,B',())):=by
 have sH:maxLen=9223372036854775807:=rfl
 obtain⟨t1,t2⟩:=t
 dsimp only at*
 intro r
 induction r with
 | nil=>
  intro k B b out hdr hk hB hb ho
  have:k=ls.length:=by
   have:=congrArg List.length hdr
   simp at this;omega
  subst this
  refine⟨B,hB, ?_⟩
  intro n hn
  obtain⟨n,rfl⟩:∃ m,n=m+1:=⟨n - 1,by omega⟩
  rw[br]
  unfold kg
  dsimp only
  rw[aN (by omega)]
  simp only[eZ,agc]
 | cons x r ih=>
  intro k B b out hdr hk hB hb ho
  have hxk:ls[k]? =some x:=by
   have:=congrArg (·[0]?) hdr
   simpa [agA] using this
  have hr':ls.drop (k+1)=r:=by
   have:=congrArg List.tail hdr
   simpa [aho] using this
  have hlt:=(agD.1 hxk).1
  obtain⟨hbx,hq3⟩:=hx x (ahb hxk)
  simp only[agO] at ho
  have hq0:=hbx.q.2.1
  have hqu:=hbx.q.1
  have hqm:=aeo hbx.q
  have hB1:=hB x.2.1
  have hb1:=hb x.2.1
  have e0:(Option.getD (α:=Int) (b9 (k:=tI) (v:=tI) B x.2.1) 0+mqZ x.2.2.2.1)*1000000=b x.2.1+bX x.2.2.2.1:=by rw[Int.add_mul,hB1,adl hq0 hq3]
  generalize hg:Option.getD (α:=Int) (b9 (k:=tI) (v:=tI) B x.2.1) 0=g at e0 hB1
  have hm:=Yu hst hlen (t:=(t1,t2)) ht1 ht2 hbx (n:=g+mqZ x.2.2.2.1) (by omega)
  rw[e0] at hm
  by_cases h0:sJ st (t1,t2) x (b x.2.1+bX x.2.2.2.1)=0
  ·have hz:=WZ hst ht2.2 h0
   have hs:=hB.set x.2.1 (g+mqZ x.2.2.2.1)
   rw[e0] at hs
   obtain⟨B',g1,g2⟩:=ih (k+1) _ _ out hr' (by omega) hs (YH hb hz) (by omega)
   have el:eZ st (t1,t2) i k (x::r) b=eZ st (t1,t2) i (k+1) r (Fc b x.2.1 (b x.2.1+bX x.2.2.2.1)):=by rw[eZ,aiv h0]
   rw[el]
   refine⟨B',g1, ?_⟩
   intro n hn
   simp only[agO] at hn
   obtain⟨n,rfl⟩:∃ m,n=m+1:=⟨n - 1,by omega⟩
   rw[br]
   generalize hag:(fun y=>iter n y kg)=again
   unfold kg
   dsimp only
   rw[aK (by omega),bH,hxk,ah4,FX (by omega) hq0 hq3,ah4]
   dsimp only
   rw[hg,av (n:=g+mqZ x.2.2.2.1) (by omega) (by omega),hm,ah4]
   dsimp only
   rw[h0,zne,aih,av (n:=(k:Int)+1) (by omega) (by omega), ← hag,show (k:Int)+1=((k+1:Nat):Int) by omega]
   exact g2 n (by omega)
  ·obtain⟨B',g1,g2⟩:=ih (k+1) B b (out++[(i,(k:Int),sJ st (t1,t2) x (b x.2.1+bX x.2.2.2.1))]) hr' (by omega) hB hb (by simp;omega)
   have el:eZ st (t1,t2) i k (x::r) b=((i,(k:Int),sJ st (t1,t2) x (b x.2.1+bX x.2.2.2.1))::(eZ st (t1,t2) i (k+1) r b).1,(eZ st (t1,t2) i (k+1) r b).2):=by rw[eZ,aiu h0]
   rw[el]
   refine⟨B',g1, ?_⟩
   intro n hn
   simp only[agO] at hn
   obtain⟨n,rfl⟩:∃ m,n=m+1:=⟨n - 1,by omega⟩
   rw[br]
   generalize hag:(fun y=>iter n y kg)=again
   unfold kg
   dsimp only
   rw[aK (by omega),bH,hxk,ah4,FX (by omega) hq0 hq3,ah4]
   dsimp only
   rw[hg,av (n:=g+mqZ x.2.2.2.1) (by omega) (by omega),hm,ah4]
   dsimp only
   rw[cq h0,aii,bP (by rw[afr];exact⟨aim (by omega),aim (by omega)⟩),av (n:=(k:Int)+1) (by omega) (by omega), ← hag,show (k:Int)+1=((k+1:Nat):Int) by omega]
   refine (g2 n (by omega)).trans ?_
   rw[agb];rfl
theorem acG {y:ai} (h:vJ y=0):∀ x∈y.2.2.2.2.2.2.2.1,Py x∧x.2.2.2.1.2≤3:=fun x hx=>⟨ac3 ((G9 h).lines x hx),((G9 h).lines x hx).qp⟩
theorem VD (o:aj) (l:List aa) (d:Int) (tx:∀ d,d∈l→Txt d):Bi o l d=some (stF o l d,lnF o l d,()):=VC o l d tx
theorem ae0 {o:aj} {l:List aa} {t:aF} {v:List ai} (h:MOk o l t v) (tx:∀ d,d∈l→Txt d) {i:Nat} {x:ai} (hxi:v[i]? =some x) {B:RB} {b:Int→Int} {out:kj} (hB:Fb B b) (hb:BC b) (ho:out.length+500≤1000000):
 ∃ B1,Fb B1 (ff o.1 (stF o l) t (v.take i) i x b).2∧∀ again,lS ((l,v,out,v,(v.length:Int),(i:Int),o.1,o.2.1,o.2.2.1,o.2.2.2.1,o.2.2.2.2.1,o.2.2.2.2.2,t.1,t.2,B,()):rJ) again
  =again (l,v,out++(ff o.1 (stF o l) t (v.take i) i x b).1,v,(v.length:Int),((i+1:Nat):Int),o.1,o.2.1,o.2.2.1,o.2.2.2.1,o.2.2.2.2.1,o.2.2.2.2.2,t.1,t.2,B1,()):=by
 have sH:maxLen=9223372036854775807:=rfl
 have hlt:=(agD.1 hxi).1
 have hv:=h.len
 have hx0:=sI h.go x (ahb hxi)
 have hc:=h.chk
 have hsl:=ad4 hc x.2.2.1
 have hst:∀ s∈stF o l x.2.2.1,StF s:=fun s hs=>ab4 hc hs
 have hll:=(EH hx0).2
 have ht1:=h.t1
 have ht2:=h.t2
 have htl:(v.take i).length≤1000:=by rw[agV];omega
 obtain⟨o1,o2,o3,o4,o5,o6⟩:=o
 dsimp only
 by_cases hn:x.2.1=o1
 rotate_left
 ·have ei:ff o1 (stF (o1,o2,o3,o4,o5,o6) l) t (v.take i) i x b=([((i:Int), -1,1)],b):=by unfold ff;rw[aiv hn]
  rw[ei]
  refine⟨B,hB,fun again=> ?_⟩
  unfold lS
  dsimp only
  rw[aK (by omega),bH,hxi,ah4,show (!(x.2.1==o1))=true by simp[hn],aii,aU]
  dsimp only
  rw[bP (by simp only[afr,ain];omega),af4,agl,
   Xy (v.take i) htl _ _ _ _ _ _ _ _ _ _ _ _ _ _ _ _ _ _ _ _ _ _ _ _ _ _ 1 (by with_reducible repeat (first | exact ah3 | refine ahI ?_ | refine ahH _ ?_)),aU]
  dsimp only
  rw[show ∀ p,kA 1 p=1 from fun p=>by cases p<;>rfl,show ((1:Int) != 0)=true from rfl,aii,bP (by rw[afr];exact⟨aim (by omega),aim (by omega)⟩),av (n:=(i:Int)+1) (by omega) (by omega),show (i:Int)+1=((i+1:Nat):Int) by omega]
 cases ha:(v.take i).any fun u=>u.1==x.1 with
 | true=>
  have ei:ff o1 (stF (o1,o2,o3,o4,o5,o6) l) t (v.take i) i x b=([((i:Int), -1,2)],b):=by unfold ff;rw[aiu (fun h=>h hn),ha,aiv rfl]
  rw[ei]
  refine⟨B,hB,fun again=> ?_⟩
  unfold lS
  dsimp only
  rw[aK (by omega),bH,hxi,ah4,show (!(x.2.1==o1))=false by simp[hn],aih,aU]
  dsimp only
  rw[bP (by simp only[afr,ain];omega),af4,agl,
   Xy (v.take i) htl _ _ _ _ _ _ _ _ _ _ _ _ _ _ _ _ _ _ _ _ _ _ _ _ _ _ 0 (by with_reducible repeat (first | exact ah3 | refine ahI ?_ | refine ahH _ ?_)),aU]
  dsimp only
  rw[ha,show kA 0 true=2 from rfl,show ((2:Int) != 0)=true from rfl,aii,bP (by rw[afr];exact⟨aim (by omega),aim (by omega)⟩),av (n:=(i:Int)+1) (by omega) (by omega),show (i:Int)+1=((i+1:Nat):Int) by omega]
 | false=>
  have ei:ff o1 (stF (o1,o2,o3,o4,o5,o6) l) t (v.take i) i x b=eZ (stF (o1,o2,o3,o4,o5,o6) l x.2.2.1) t i 0 x.2.2.2.2.2.2.2.1 b:=by unfold ff;rw[aiu (fun h=>h hn),ha,aiu (by decide)]
  rw[ei]
  obtain⟨B1,g1,g2⟩:=adO ht1 ht2 hst (by omega) (i:Int) x.2.2.2.2.2.2.2.1 (by omega) (acG hx0) l v v (v.length:Int) (i:Int) o1 o2 o3 o4 o5 o6 x.2.2.2.2.2.2.2.1 0 B b out rfl (ah2 _) hB hb (by omega)
  have g3:∀ n,x.2.2.2.2.2.2.2.1.length<n→iter (X:=tO) (β:=tM) n (l,v,out,(i:Int),v,(v.length:Int),(i:Int),x.2.2.2.2.2.2.2.1,(x.2.2.2.2.2.2.2.1.length:Int),0,o1,o2,o3,o4,o5,o6,t.1,t.2,stF (o1,o2,o3,o4,o5,o6) l x.2.2.1,B,()) kg=_:=g2
  refine⟨B1,g1,fun again=> ?_⟩
  unfold lS
  dsimp only
  rw[aK (by omega),bH,hxi,ah4,show (!(x.2.1==o1))=false by simp[hn],aih,aU]
  dsimp only
  rw[bP (by simp only[afr,ain];omega),af4,agl,
   Xy (v.take i) htl _ _ _ _ _ _ _ _ _ _ _ _ _ _ _ _ _ _ _ _ _ _ _ _ _ _ 0 (by with_reducible repeat (first | exact ah3 | refine ahI ?_ | refine ahH _ ?_)),aU]
  dsimp only
  rw[ha,show kA 0 false=0 from rfl,zne,aih,VD _ _ _ tx,ah4]
  dsimp only
  rw[g3 _ (by with_reducible repeat (first | exact ah3 | refine ahI ?_ | refine ahH _ ?_)),aU]
  dsimp only
  rw[av (n:=(i:Int)+1) (by omega) (by omega),show (i:Int)+1=((i+1:Nat):Int) by omega]
theorem aen {o:aj} {l:List aa} {t:aF} {v:List ai} (h:MOk o l t v) (tx:∀ d,d∈l→Txt d):∀ (r:List ai) (i:Nat) (B:RB) (b:Int→Int) (out:kj),v.drop i=r→i≤v.length→Fb B b→BC b→out.length+500*r.length≤900000→
 ∃ B',Fb B' (fO o.1 (stF o l) t (v.take i) r b).2∧∀ n,r.length<n→
  iter (X:=rJ) (β:=vY) n (l,v,out,v,(v.length:Int),(i:Int),o.1,o.2.1,o.2.2.1,o.2.2.2.1,o.2.2.2.2.1,o.2.2.2.2.2,t.1,t.2,B,()) lS
   =some (Sum.inr (out++(fO o.1 (stF o l) t (v.take i) r b).1,B',())):=by
 intro r
 induction r with
 | nil=>
  intro i B b out hdr hi hB hb ho
  have:i=v.length:=by
   have:=congrArg List.length hdr
   simp at this;omega
  subst this
  refine⟨B,hB, ?_⟩
  intro n hn
  obtain⟨n,rfl⟩:∃ m,n=m+1:=⟨n - 1,by omega⟩
  rw[br]
  unfold lS
  dsimp only
  rw[aN (by omega)]
  simp only[fO,agc]
 | cons x r ih=>
  intro i B b out hdr hi hB hb ho
  have hxi:v[i]? =some x:=by
   have:=congrArg (·[0]?) hdr
   simpa [agA] using this
  have hr':v.drop (i+1)=r:=by
   have:=congrArg List.tail hdr
   simpa [aho] using this
  have hlt:=(agD.1 hxi).1
  simp only[agO] at ho
  have hv:=h.len
  have hx0:=sI h.go x (ahb hxi)
  have ho':out.length+500≤1000000:=aas ho
  obtain⟨B1,g1,g2⟩:=ae0 h tx hxi hB hb ho'
  have hb1:BC (ff o.1 (stF o l) t (v.take i) i x b).2:=adA (fun d s hs=>ab4 h.chk hs) h.t2.2 hb
  have hlen:(ff o.1 (stF o l) t (v.take i) i x b).1.length≤500:=Qn hx0
  have etl:((v.take i).length:Int)=(i:Int):=by rw[agV];omega
  obtain⟨B2,q1,q2⟩:=ih (i+1) B1 _ (out++(ff o.1 (stF o l) t (v.take i) i x b).1) hr' (by omega) g1 hb1 (by rw[agN];exact aat ho hlen)
  rw[lF hxi] at q1 q2
  simp only[fO]
  rw[etl]
  refine⟨B2,q1, ?_⟩
  intro n hn
  simp only[agO] at hn
  obtain⟨n,rfl⟩:∃ m,n=m+1:=⟨n - 1,by omega⟩
  rw[br,g2]
  refine (q2 n (by omega)).trans ?_
  rw[agb]
theorem Nw {o:aj} {l:List aa} {t:aF} {v:List ai} (h:MOk o l t v) (tx:∀ d,d∈l→Txt d):
 ∃ B,Fb B (fO o.1 (stF o l) t [] v (fun _=>0)).2∧Dv o l t v=some ((fO o.1 (stF o l) t [] v (fun _=>0)).1,B,()):=by
 have hv:=h.len
 obtain⟨B,h1,h2⟩:=aen h tx v 0 [] (fun _=>0) [] rfl (ah2 _) acd adf (by simp;omega)
 refine⟨B,h1, ?_⟩
 have h3:∀ n,v.length<n→iter (X:=rJ) (β:=vY) n (l,v,[],v,(v.length:Int),0,o.1,o.2.1,o.2.2.1,o.2.2.2.1,o.2.2.2.2.1,o.2.2.2.2.2,t.1,t.2,[],()) lS=_:=h2
 unfold Dv
 rw[h3 _ (ahH _ (ahI (by with_reducible repeat (first | exact ah3 | refine ahH _ ?_)))),aU]
 rfl
theorem Xk (o:aj) (l:List aa) (t:aF) (v:List ai) (tx:∀ d,d∈l→Txt d):Hi o l t v=some (if mF o l t v=0 then (fO o.1 (stF o l) t [] v (fun _=>0)).1 else [],mF o l t v,()):=by
 unfold Hi
 rw[Hj _ _ _ _ tx,ah4]
 dsimp only
 by_cases h:mF o l t v=0
 rotate_left
 ·rw[cq h,aii,aiu h]
 obtain⟨B,h1,h2⟩:=Nw (Jj h) tx
 rw[h,zne,aih,h2,ah4,aiv rfl]
def mJ (num:Bys) (stf:Int→List ax) (t:Int×Int):List ai→List ai→(Int→Int)→List Bys
 | _,[],_=>[]
 | pre,v::r,b=>(bif (ff num stf t pre pre.length v b).1.isEmpty then [v.1] else [])++mJ num stf t (pre++[v]) r (ff num stf t pre pre.length v b).2
theorem Nc (num:Bys) (stf:Int→List ax) (t:Int×Int):∀ (l pre:List ai) (b:Int→Int),(mJ num stf t pre l b).length≤l.length
 | [],_,_=>ah2 _
 | v::r,pre,b=>by
  have:=Nc num stf t r (pre++[v]) (ff num stf t pre pre.length v b).2
  simp only[mJ,agN,agO]
  cases (ff num stf t pre pre.length v b).1.isEmpty with
  | true=>rw[aii,agU];omega
  | false=>rw[aih,agR];omega
theorem W7 {o:aj} {l:List aa} {t:aF} {v:List ai} (h:MOk o l t v):∀ (r:List ai) (i n:Nat) (S:ym) (M:Ct) (b:Int→Int) (out:kj) (acc:List Bys),v.drop i=r→i≤v.length→r.length<n→kJ o l S→BOk M b→BB b→out.length+500*r.length≤900000→acc.length≤i→
 iter (X:=pe) (β:=o9) n (acc,v,(v.length:Int),(i:Int),o.1,o.2.1,o.2.2.1,o.2.2.2.1,o.2.2.2.2.1,o.2.2.2.2.2,l,t.1,t.2,v,S,M,out,()) mc
  =some (Sum.inr (acc++mJ o.1 (stF o l) t (v.take i) r b,())):=by
 have sH:maxLen=9223372036854775807:=rfl
 intro r
 induction r with
 | nil=>
  intro i n S M b out acc hdr hi hn hS hM hb ho ha
  have:i=v.length:=by
   have:=congrArg List.length hdr
   simp at this;omega
  subst this
  obtain⟨n,rfl⟩:∃ m,n=m+1:=⟨n - 1,by omega⟩
  rw[br]
  unfold mc
  dsimp only
  rw[aN (by omega)]
  simp only[mJ,agc]
 | cons x r ih=>
  intro i n S M b out acc hdr hi hn hS hM hb ho ha
  have hxi:v[i]? =some x:=by
   have:=congrArg (·[0]?) hdr
   simpa [agA] using this
  have hr':v.drop (i+1)=r:=by
   have:=congrArg List.tail hdr
   simpa [aho] using this
  have hlt:=(agD.1 hxi).1
  obtain⟨n,rfl⟩:∃ m,n=m+1:=⟨n - 1,by simp at hn;omega⟩
  simp only[agO] at hn ho
  have hv:=h.len
  have hx0:=sI h.go x (ahb hxi)
  have ho':out.length+500≤1000000:=aas ho
  obtain⟨S1,M1,g1,g2,g3⟩:=RR (out:=out) h.chk h.t1 h.t2 hv hxi hx0 hS hM hb ho'
  have hb1:BB (ff o.1 (stF o l) t (v.take i) i x b).2:=YU (aaA h.chk) h.t2.2 hb
  have hlen:(ff o.1 (stF o l) t (v.take i) i x b).1.length≤500:=Qn hx0
  have etl:((v.take i).length:Int)=(i:Int):=by rw[agV];omega
  have ho2:(out++(ff o.1 (stF o l) t (v.take i) i x b).1).length+500*r.length≤900000:=by rw[agN];exact aat ho hlen
  have ih1:=fun acc ha=>ih (i+1) n S1 M1 _ _ acc hr' (by omega) (by omega) g1 g2 hb1 ho2 ha
  rw[lF hxi] at ih1
  rw[br]
  generalize hag:(fun y=>iter n y mc)=again
  unfold mc
  simp only[mJ]
  rw[aK (show (i:Int)<(v.length:Int) by omega),bH,hxi,ah4]
  have g3':fK ((o.1,o.2.1,o.2.2.1,o.2.2.2.1,o.2.2.2.2.1,o.2.2.2.2.2),l,(t.1,t.2),v,S,M,out,()) (i:Int)=_:=g3
  rw[g3',ah4]
  dsimp only
  rw[av (n:=(i:Int)+1) (by omega) (by omega), ← hag,show (i:Int)+1=((i+1:Nat):Int) by omega,etl,agN]
  cases he:(ff o.1 (stF o l) t (v.take i) i x b).1 with
  | nil=>
   rw[he] at ih1
   rw[agR,ahy,aie,aii,bP (by rw[afr];exact⟨aim (by omega),aim (by omega)⟩),List.isEmpty_nil,aii]
   refine (ih1 (acc++[x.1]) (by simp;omega)).trans ?_
   rw[agb]
  | cons m rest=>
   rw[he] at ih1
   rw[show (((out.length+(m::rest).length:Nat):Int)==(out.length:Int))=false by rw[aid];simp only[agO];omega,aih,List.isEmpty_cons,aih,ahg]
   exact ih1 acc (by omega)
theorem QV (o:aj) (l:List aa) (t:aF) (v:List ai):AJ o l t v=some (if mF o l t v=0 then mJ o.1 (stF o l) t [] v (fun _=>0) else [],mF o l t v,()):=by
 unfold AJ
 rw[Jk]
 by_cases h:mF o l t v=0
 rotate_left
 ·rw[aiv h,aiu h]
  unfold KB
  dsimp only
  rw[cq h,aii]
 have hm:=Jj h
 rw[aiu (by simpa using h),aiv h]
 refine Eq.trans KC ?_
 rw[Nd hm,ah4]
 dsimp only
 rw[zne,aih]
 have hl:=hm.len
 have q3:∀ n,v.length<n→iter (X:=pe) (β:=o9) n ([],v,(v.length:Int),0,o.1,o.2.1,o.2.2.1,o.2.2.2.1,o.2.2.2.2.1,o.2.2.2.2.2,l,t.1,t.2,v,[],[],[],()) mc=_:=fun n hn=>W7 hm v 0 n [] [] (fun _=>0) [] [] rfl (ah2 _) hn (OS o l) YE YD (by simp;omega) (ahF _)
 rw[q3 _ (ahH _ (ahI (by with_reducible repeat (first | exact ah3 | refine ahH _ ?_)))),aU,h]
 rfl
theorem aer (bad:kj) (hl:bad.length≤1000000) (acc:List Bys) (i c1 c2:Int) (v:List ai) (x1 x2:Bys) (x3 x4 x5:Int) (x6:Bool) (x7:List aV) (x8:List aD) (x9:List bI):
 ∀ (r:kj) (k n:Nat) (ok:Bool),bad.drop k=r→k≤bad.length→r.length<n→
 iter (X:=pW) (β:=pV) n (acc,i,ok,v,c1,c2,(bad.length:Int),(k:Int),x1,x2,x3,x4,x5,x6,x7,x8,x9,bad,()) mB
  =some (Sum.inr (acc,ok&&r.all (fun m=>m.1 != i),v,c1,c2,x1,x2,x3,x4,x5,x6,x7,x8,x9,bad,())):=by
 intro r
 induction r with
 | nil=>
  intro k n ok hdr hk hn
  have:k=bad.length:=by
   have:=congrArg List.length hdr
   simp at this;omega
  subst this
  obtain⟨n,rfl⟩:∃ m,n=m+1:=⟨n - 1,by omega⟩
  rw[br]
  unfold mB
  dsimp only
  rw[aN (by omega),List.all_nil,aft]
 | cons m r ih=>
  intro k n ok hdr hk hn
  have hy:bad[k]? =some m:=by
   have:=congrArg (·[0]?) hdr
   simpa [agA] using this
  have hr':bad.drop (k+1)=r:=by
   have:=congrArg List.tail hdr
   simpa [aho] using this
  have hlt:=(agD.1 hy).1
  obtain⟨n,rfl⟩:∃ m,n=m+1:=⟨n - 1,by simp at hn;omega⟩
  simp only[agO] at hn
  rw[br]
  generalize hag:(fun y=>iter n y mB)=again
  unfold mB
  dsimp only
  rw[aK (by omega),bP (by simp only[afr,ain];omega),af4,hy,ah4,av (n:=(k:Int)+1) (by omega) (by omega), ← hag,show (k:Int)+1=((k+1:Nat):Int) by omega,af6]
  cases ok with
  | true=>
   rw[aii,ah4]
   dsimp only
   rw[ih (k+1) n _ hr' (by omega) (by omega),afH]
  | false=>
   rw[aih,ah4]
   dsimp only
   rw[ih (k+1) n _ hr' (by omega) (by omega),afw,afw]
theorem aaG {A I R:kj} {i:Int} (hA:∀ m∈A,m.1<i) (hI:∀ m∈I,m.1=i) (hR:∀ m∈R,i+1≤m.1):(A++(I++R)).all (fun m=>m.1 != i)=I.isEmpty:=by
 cases I with
 | nil=>
  rw[ahg,List.isEmpty_nil,af7]
  intro m hm
  rcases ag1.1 hm with hm | hm
  ·have:=hA m hm;simp;omega
  ·have:=hR m hm;simp;omega
 | cons a I=>
  rw[List.isEmpty_cons,List.all_eq_false]
  refine⟨a,by simp, ?_⟩
  have:=hI a ag6
  simp[this]
theorem acJ (num:Bys) (stf:Int→List ax) (t:Int×Int) (v:List ai) (hv:v.length≤200) (bad:kj) (hbad:bad.length≤1000000):∀ (r:List ai) (i n:Nat) (A:kj) (b:Int→Int) (acc:List Bys),v.drop i=r→i≤v.length→r.length<n→bad=A++(fO num stf t (v.take i) r b).1→(∀ m∈A,m.1<(i:Int))→acc.length≤i→
 iter (X:=rG) (β:=rF) n (acc,v,(v.length:Int),(i:Int),bad,()) nD=some (Sum.inr (acc++mJ num stf t (v.take i) r b,())):=by
 have sH:maxLen=9223372036854775807:=rfl
 intro r
 induction r with
 | nil=>
  intro i n A b acc hdr hi hn hbd hA ha
  have:i=v.length:=by
   have:=congrArg List.length hdr
   simp at this;omega
  subst this
  obtain⟨n,rfl⟩:∃ m,n=m+1:=⟨n - 1,by omega⟩
  rw[br]
  unfold nD
  dsimp only
  rw[aN (by omega)]
  simp only[mJ,agc]
 | cons x r ih=>
  intro i n A b acc hdr hi hn hbd hA ha
  have hxi:v[i]? =some x:=by
   have:=congrArg (·[0]?) hdr
   simpa [agA] using this
  have hr':v.drop (i+1)=r:=by
   have:=congrArg List.tail hdr
   simpa [aho] using this
  have hlt:=(agD.1 hxi).1
  obtain⟨n,rfl⟩:∃ m,n=m+1:=⟨n - 1,by simp at hn;omega⟩
  simp only[agO] at hn
  have etl:((v.take i).length:Int)=(i:Int):=by rw[agV];omega
  have etl2:((v.take i++[x]).length:Int)=(i:Int)+1:=by rw[agN,agU,agV];omega
  simp only[fO] at hbd
  rw[etl] at hbd
  have hI:∀ m∈(ff num stf t (v.take i) i x b).1,m.1=(i:Int):=fun m hm=>WU hm
  have hR:=UC num stf t r (v.take i++[x]) (ff num stf t (v.take i) i x b).2
  rw[etl2] at hR
  have hall:=aaG hA hI hR
  rw[← hbd] at hall
  have ih1:=fun acc ha=>ih (i+1) n (A++(ff num stf t (v.take i) i x b).1) (ff num stf t (v.take i) i x b).2 acc hr' (by omega) (by omega) (by rw[lF hxi,agb];exact hbd) (fun m hm=>by
   rcases ag1.1 hm with hm | hm
   ·have:=hA m hm;omega
   ·have:=hI m hm;omega) ha
  rw[lF hxi] at ih1
  rw[br]
  generalize hag:(fun y=>iter n y nD)=again
  unfold nD
  simp only[mJ]
  rw[aK (show (i:Int)<(v.length:Int) by omega),bH,hxi,ah4,etl]
  have e:=fun n (hn:bad.length<n)=>aer bad hbad acc (i:Int) (v.length:Int) (i:Int) v x.1 x.2.1 x.2.2.1 x.2.2.2.1 x.2.2.2.2.1 x.2.2.2.2.2.1 x.2.2.2.2.2.2.1 x.2.2.2.2.2.2.2.1 x.2.2.2.2.2.2.2.2 bad 0 n true rfl (ah2 _) hn
  have e':∀ n,bad.length<n→iter (X:=pW) (β:=pV) n (acc,(i:Int),true,v,(v.length:Int),(i:Int),(bad.length:Int),0,x.1,x.2.1,x.2.2.1,x.2.2.2.1,x.2.2.2.2.1,x.2.2.2.2.2.1,x.2.2.2.2.2.2.1,x.2.2.2.2.2.2.2.1,x.2.2.2.2.2.2.2.2,bad,()) mB=_:=e
  rw[e' _ (by with_reducible repeat (first | exact ah3 | refine ahI ?_ | refine ahH _ ?_)),aU]
  dsimp only
  rw[afH,hall,av (n:=(i:Int)+1) (by omega) (by omega), ← hag,show (i:Int)+1=((i+1:Nat):Int) by omega]
  cases he:(ff num stf t (v.take i) i x b).1.isEmpty with
  | true=>
   rw[aii,aii,bP (by rw[afr];exact⟨aim (by omega),aim (by omega)⟩)]
   refine (ih1 (acc++[x.1]) (by simp;omega)).trans ?_
   rw[agb]
  | false=>
   rw[aih,aih,ahg]
   exact ih1 acc (by omega)
theorem TL (o:aj) (l:List aa) (t:aF) (v:List ai) (tx:∀ d,d∈l→Txt d):CE o l t v=some (if mF o l t v=0 then mJ o.1 (stF o l) t [] v (fun _=>0) else [],mF o l t v,()):=by
 unfold CE
 rw[Hj _ _ _ _ tx,ah4]
 dsimp only
 by_cases h:mF o l t v=0
 rotate_left
 ·rw[cq h,aii,aiu h]
 have hm:=Jj h
 have hl:=hm.len
 obtain⟨B,h1,h2⟩:=Nw hm tx
 have hmx:=Kz o.1 (stF o l) t v [] (fun _=>0) (sI hm.go)
 have hml:(fO o.1 (stF o l) t [] v (fun _=>0)).1.length≤100000:=ahG hmx (ahG (ahU 500 hl) (by decide))
 rw[h,zne,aih,h2,ah4,aiv rfl]
 dsimp only
 have q3:∀ n,v.length<n→iter (X:=rG) (β:=rF) n ([],v,(v.length:Int),0,(fO o.1 (stF o l) t [] v (fun _=>0)).1,()) nD=_:=fun n hn=>acJ o.1 (stF o l) t v hl _ (by omega) v 0 n [] (fun _=>0) [] rfl (ah2 _) hn rfl (fun m hm=>by cases hm) (ahF _)
 rw[q3 _ (ahH _ (ahI (by with_reducible repeat (first | exact ah3 | refine ahH _ ?_)))),aU]
 rfl
theorem VI (l:List Bys) (hl:l.length<1000000):oA l l=some (true,()):=by
 unfold oA
 rw[show ((l.length:Int) != (l.length:Int))=false by simp,aih]
 have loop:∀ f,l.length<f→iter f ((l,l,(l.length:Int),(0:Int),()):iS) lD=some (Sum.inr ()):=by
  intro f hf
  refine cN (Inv:=fun i X=>X=((l,l,(l.length:Int),(i:Int),()):iS)) l.length (fun r=>r=some (Sum.inr ())) ?_ ?_ f 0 _ rfl (by omega) (by omega)
  ·rintro i _ again hi rfl ih
   unfold lD
   dsimp only
   have hy:l[i]? =some l[i]:=bq hi
   rw[aK (by omega),bH,hy,ah4,ah4,show (!(l[i]==l[i]))=false by simp,aih,av (by omega) (by omega)]
   exact ih _ rfl
  ·rintro _ again rfl
   unfold lD
   dsimp only
   rw[aN (by omega)]
 rw[loop _ (by omega),aU]
theorem law_BillMatchesMatchSpec (o:aj) (l:List aa) (t:aF) (v:List ai) (tx:∀ d,d∈l→Txt d):jI o l t v=some (true,()):=by
 unfold jI
 rw[U6,ah4,Xk _ _ _ _ tx,ah4,Xw,ah4,Se,ah4]
 dsimp only
 rw[aif,aih,aif,aih]
 have hml:(if mF o l t v=0 then (fO o.1 (stF o l) t [] v (fun _=>0)).1 else []).length≤1000000000∧(if mF o l t v=0 then mJ o.1 (stF o l) t [] v (fun _=>0) else []).length<1000000:=by
  by_cases h:mF o l t v=0
  ·rw[aiv h,aiv h]
   have hm:=Jj h
   have hmx:=Kz o.1 (stF o l) t v [] (fun _=>0) (sI hm.go)
   have hml:(fO o.1 (stF o l) t [] v (fun _=>0)).1.length≤100000:=ahG hmx (ahG (ahU 500 hm.len) (by decide))
   have:=Nc o.1 (stF o l) t v [] (fun _=>0)
   have:=hm.len
   exact⟨by omega,by omega⟩
  ·rw[aiu h,aiu h];exact⟨by simp,by simp⟩
 rw[TD _ hml.1,ah4]
 dsimp only
 rw[afE,aih,QV,ah4,TL _ _ _ _ tx,ah4]
 dsimp only
 rw[aie,aii,VI _ hml.2,ah4]
 dsimp only
 rw[aii,Yi]
 rfl
end Go.Md
