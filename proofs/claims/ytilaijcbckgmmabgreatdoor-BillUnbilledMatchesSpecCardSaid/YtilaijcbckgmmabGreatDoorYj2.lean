/-
  Plain facts: what is not billed; the plain law. No condition.
-/
import Derived.Test.YtilaijcbckgmmabGreatDoorYj
import Derived.Test.YtilaijcbckgmmabGreatDoorYx
import Derived.Test.YtilaijcbckgmmabGreatDoorYk
set_option linter.all false
set_option linter.all false
set_option maxRecDepth 20000
namespace Go.Md
open Go.Dn
theorem aaH (t:aH):qj t=some (Es t,()):=by
 unfold qj Es
 rw[zz,aim]
 dsimp only
 by_cases h1:t.1<0\/1000<t.1
 ·rw[aiB (show ¬(0<=t.1/\t.1<=1000) by omega),af1,aiz,aiM (by omega)]
 ·rw[aiD (show 0<=t.1/\t.1<=1000 by omega),af2,aiy,zz,aim]
  dsimp only
  by_cases h2:t.2<0\/1000<t.2
  ·rw[aiB (show ¬(0<=t.2/\t.2<=1000) by omega),af1,aiz,aiM (by omega)]
  ·rw[aiD (show 0<=t.2/\t.2<=1000 by omega),af2,aiy,aiL (by omega)]
def aaP {γ:Type} (z:Int) (g:γ):(Int×Unit) ⊕ γ:=if z≠0 then Sum.inl (z,()) else Sum.inr g
theorem Un {γ:Type} {z:Int} (h:z≠0) (g:γ):aaP z g=Sum.inl (z,()):=aiM h
theorem ae0 {γ:Type} (g:γ):aaP 0 g=Sum.inr g:=rfl
theorem aa7 {v:List ai} (hv:v.length<=200):∀ (r:List ai) (i n:Nat),v.drop i=r->i<=v.length->r.length<n-> iter (X:=tc) (β:=s9) n (v,v,(v.length:Int),(i:Int),()) nW =some (aaP (gV (bL v i) r) ()):=by
 intro r
 induction r with
 | nil=>
  intro i n hdr hi hn
  have:i=v.length:=by
   have:=congrArg List.length hdr
   simp at this;omega
  subst this
  obtain⟨n,rfl⟩:∃ m,n=m+1:=⟨n - 1,by omega⟩
  rw[aX]
  unfold nW
  dsimp only
  rw[aK (by omega),gV,ae0]
 | cons x r ih=>
  intro i n hdr hi hn
  have hxi:v[i]? =some x:=by
   have:=congrArg (·[0]?) hdr
   simpa [agT] using this
  have hr':v.drop (i+1)=r:=by
   have:=congrArg List.tail hdr
   simpa [ahG] using this
  have hlt:=(agW.1 hxi).1
  obtain⟨n,rfl⟩:∃ m,n=m+1:=⟨n - 1,by simp at hn;omega⟩
  simp only[ag8] at hn
  have ep:bL v (i+1)=some x:=hxi
  rw[aX]
  generalize hag:(fun y=>iter n y nW)=again
  unfold nW
  dsimp only
  rw[aG (by omega),bD,hxi,aim,uR,aim]
  dsimp only
  rw[gV]
  by_cases h0:jr x=0
  rotate_left
  ·rw[bR h0,aiz,aiM h0,Un h0]
  rw[aiL (fun h=>h h0),h0,zne,aiy,NR x hlt hv,aim]
  dsimp only
  cases hp:(bL v i).any fun q=>decide (x.2.2.1<q.2.2.1) with
  | true=>rw[aiz,aiM rfl,Un (by decide)]
  | false=>
   rw[aiy,aiL (by decide),ax (n:=(i:Int)+1) (by omega) (by omega), <- hag,show (i:Int)+1=((i+1:Nat):Int) by omega]
   exact (ih (i+1) n hr' (by omega) (by omega)).trans (by rw[ep])
theorem SD (o:aj) (l:List aa) (t:aH) (v:List ai) (tx:∀ d,d∈l->Txt d):Bn o l t v=some (mF o l t v,()):=by
 unfold Bn mF dD
 rw[GB,aim]
 dsimp only
 by_cases h1:jt o=0
 rotate_left
 ·rw[bR h1,aiz,aiM h1,aiM h1]
 rw[h1,zne,aiy,GA _ tx,aim]
 dsimp only
 rw[aiL (show ¬((0:Int)≠0) by decide)]
 by_cases h2:lG l=0
 rotate_left
 ·rw[bR h2,aiz,aiM h2]
 rw[h2,zne,aiy,aaH,aim]
 dsimp only
 rw[aiL (show ¬((0:Int)≠0) by decide)]
 by_cases h3:Es t=0
 rotate_left
 ·rw[bR h3,aiz,aiM h3]
 rw[h3,zne,aiy]
 rw[aiL (show ¬((0:Int)≠0) by decide)]
 by_cases h4:200<v.length
 ·rw[aG (by omega),aiM h4]
 rw[aK (by omega),aiL h4]
 refine (congrArg (fun q=>aB q _) (aa7 (v:=v) (by omega) v 0 _ rfl (aik _) (ah1 (by with_reducible repeat (first | exact ail | refine ah0 _ ?_))))).trans ?_
 show aB (some (aaP (gV none v) _)) _=_
 by_cases h5:gV none v=0
 ·rw[h5];rfl
 ·rw[Un h5];rfl
def mqZ (d:ah):Int:=d.1*10 ^ (3 - d.2).toNat
theorem aeO {d:ah} (h:b9 d):(mqZ d).natAbs<=1000000000000000000:=by
 obtain⟨h1,h2,_⟩:=h
 unfold mqZ
 rw[agf,agi]
 have h3:(10:Int).natAbs ^ (3 - d.2).toNat<=10 ^ 3:=aih (by decide) (by omega)
 have h4:=aic h1 h3
 omega
theorem Zc {d:ah} (h0:0<=d.2) (h3:d.2<=3):bZ d=mqZ d*1000000:=by
 unfold bZ mqZ
 rw[show (9 - d.2).toNat=(3 - d.2).toNat+6 by omega,agk, <- agb]
 rfl
theorem Gt {d:ah} (h1:d.1.natAbs<=2000000000000000) (p0:0<=d.2) (p3:d.2<=3):qu d=some (mqZ d,()):=by
 obtain⟨u,p⟩:=d
 dsimp only at h1 p0 p3
 obtain⟨k,hk⟩:∃ k:Nat,(3 - p:Int)=(k:Int):=⟨(3 - p).toNat,by omega⟩
 have hk3:k<=3:=by omega
 have hv:mqZ (u,p)=u*10 ^ k:=by
  unfold mqZ
  dsimp only
  rw[hk,agq]
 rw[hv]
 unfold qu
 dsimp only
 rw[hk,ax (n:=(k:Int)) (by omega) (by omega)]
 have hm:∀ i,i<=3->(u*10 ^ i).natAbs<=2000000000000000000:=fun i hi=>by
  rw[agf,agi]
  have h4:(10:Int).natAbs ^ i<=10 ^ 3:=aih (by decide) hi
  have h5:=aic h1 h4
  omega
 have loop:∀ m,k<m->iter (X:=wD) (β:=Bp) m (u,(k:Int),0,()) Bo=some (Sum.inr (u*10 ^ k,())):=by
  intro m hm'
  refine cx (Inv:=fun i X=>X=((u*10 ^ i,(k:Int),(i:Int),()):wD)) k (fun z=>z=some (Sum.inr (u*10 ^ k,()))) ?_ ?_ m 0 _ (by simp) (aik _) (by omega)
  ·rintro i X again hi rfl hag
   unfold Bo
   dsimp only
   have h1:=hm (i+1) (by omega)
   have e:u*10 ^ i*10=u*10 ^ (i+1):=by rw[agl,agb]
   rw[aiD (show (i:Int)<(k:Int) by omega),aiz,e,ax (n:=u*10 ^ (i+1)) (by omega) (by omega),ax (n:=(i:Int)+1) (by omega) (by omega)]
   exact hag _ rfl
  ·rintro X again rfl
   unfold Bo
   dsimp only
   rw[aiB (show ¬(k:Int)<(k:Int) by omega),aiy]
 rw[loop _ (by simp only[agh];omega)]
 rfl
theorem Zw {n:Int} (h:n.natAbs<=2000000000000000):qu (bQ n)=some (n,()):=by
 have hm:=cV h
 have hu:=hm.unit
 rw[Gt (by omega) hm.p0 hm.p3]
 exact congrArg (fun z=>some (z,())) hm.val
structure StF (s:aq):Prop extends StaOk s where
 had:Fs s=some (kqZ s,())
 kq:fX s=kqZ s*1000000
 kq0:0<=kqZ s
 kq1:kqZ s<=1000000000000000
theorem JX {o:aj} {l:List aa} (h:dD o l=0) {d:Int} {s:aq} (hs:s∈stF o l d):StF s:=by
 obtain⟨k1,k2,k3⟩:=acA h hs
 obtain⟨x,hx,hp,rfl⟩:=Uw h hs
 refine⟨XP hx hp, ?_,k1,k2,k3⟩
 have h1:=hx.ret0;have h2:=hx.retr;have h3:=hx.rcvs;have h4:=hx.shp1
 have hk:=KO hx
 unfold Fs
 have e1:qu (bM x).2.2.2.2.2.2.2.1=some (x.rcv,()):=Zw (by omega)
 have e2:qu (bM x).2.2.2.2.2.2.2.2.1=some (x.ret,()):=Zw (by omega)
 rw[e1,aim,e2,aim]
 dsimp only
 rw[ax (by omega) (by omega),show x.rcv - x.ret=kqZ (bM x) by omega]
theorem Uf (st:List aq) (no:Int) (hl:st.length<1000000000):CT st no=some (match st.find? (fun s=>s.1==no) with | some s=>(s,true,()) | none=>((0,[],[],(0,0),(0,0),0,(0,0),(0,0),(0,0),0,0),false,())):=by
 unfold CT
 have loop:∀ (r:List aq) (i n:Nat),st.drop i=r->i<=st.length->r.length<n->
  iter (X:=xN) (β:=xM) n (no,st,(st.length:Int),(i:Int),0,[],[],0,0,0,0,0,0,0,0,0,0,0,0,0,()) rY=some (match r.find? (fun s=>s.1==no) with | some s=>Sum.inl (s,true,()) | none=>Sum.inr (0,[],[],0,0,0,0,0,0,0,0,0,0,0,0,0,())):=by
  intro r
  induction r with
  | nil=>
   intro i n hdr hi hn
   have:i=st.length:=by
    have:=congrArg List.length hdr
    simp at this;omega
   subst this
   obtain⟨n,rfl⟩:∃ m,n=m+1:=⟨n - 1,by omega⟩
   rw[aX]
   unfold rY
   dsimp only
   rw[aK (by omega)]
   rfl
  | cons y r ih=>
   intro i n hdr hi hn
   have hy:st[i]? =some y:=by
    have:=congrArg (·[0]?) hdr
    simpa [agT] using this
   have hr':st.drop (i+1)=r:=by
    have:=congrArg List.tail hdr
    simpa [ahG] using this
   have hlt:=(agW.1 hy).1
   obtain⟨n,rfl⟩:∃ m,n=m+1:=⟨n - 1,by simp at hn;omega⟩
   rw[aX]
   generalize hag:(fun y=>iter n y rY)=again
   unfold rY
   dsimp only
   rw[aG (by omega),bD,hy,aim,List.find?_cons]
   cases hb:(y.1==no) with
   | true=>rfl
   | false=>
    rw[aiy,ax (n:=(i:Int)+1) (by omega) (by omega), <- hag,show (i:Int)+1=((i+1:Nat):Int) by omega]
    exact ih (i+1) n hr' (by omega) (by simp at hn;omega)
 refine (congrArg (fun q=>aB q _) (loop st 0 _ rfl (aik _) (ah0 _ (ah1 (by with_reducible repeat (first | exact ail | refine ah0 _ ?_)))))).trans ?_
 cases st.find? (fun s=>s.1==no) with
 | none=>rfl
 | some s=>rfl
def PB:Int->List Int->Prop
 | p,[]=>(dg6 p.natAbs).length<100
 | p,a::r=>(dg6 p.natAbs).length<100/\(dg6 a.natAbs).length<100/\PB (p*a) r
theorem Tb:∀ (l:List Int) (p:Int),PB p l->(dg6 (l.foldl (· * ·) p).natAbs).length<100
 | [],p,h=>h
 | a::r,p,h=>Tb r (p*a) h.2.2
theorem ac0 (xs:List Int) (bs:List aJ) (b:Bool) (bl:List Int) (hl:xs.length<=100): ∀ (r:List Int) (i n:Nat) (p:Int),xs.drop i=r->i<=xs.length->r.length<n->PB p r-> iter (X:=xK) (β:=xI) n (bs,xs.map N,((xs.map N).length:Int),(i:Int),(N p).1,(N p).2,b,bl,()) rV=some (Sum.inr (bs,(N (r.foldl (· * ·) p)).1,(N (r.foldl (· * ·) p)).2,b,bl,())):=by
 intro r
 induction r with
 | nil=>
  intro i n p hdr hi hn hp
  have:i=xs.length:=by
   have:=congrArg List.length hdr
   simp at this;omega
  subst this
  obtain⟨n,rfl⟩:∃ m,n=m+1:=⟨n - 1,by omega⟩
  rw[aX]
  unfold rV
  dsimp only
  rw[aha,aK (by omega)]
  rfl
 | cons a r ih=>
  intro i n p hdr hi hn hp
  obtain⟨p1,p2,p3⟩:=hp
  have hy:xs[i]? =some a:=by
   have:=congrArg (·[0]?) hdr
   simpa [agT] using this
  have hr':xs.drop (i+1)=r:=by
   have:=congrArg List.tail hdr
   simpa [ahG] using this
  have hlt:=(agW.1 hy).1
  have hy':(xs.map N)[i]? =some (N a):=by rw[agX,hy];rfl
  obtain⟨n,rfl⟩:∃ m,n=m+1:=⟨n - 1,by simp at hn;omega⟩
  rw[aX]
  generalize hag:(fun y=>iter n y rV)=again
  unfold rV
  dsimp only
  have e:lD ((N p).1,(N p).2) (N a)=some (N (p*a),()):=ug p a p1 (by omega)
  rw[aG (by rw[aha];omega),bD,hy',aim,e,aim]
  dsimp only
  rw[ax (n:=(i:Int)+1) (by omega) (by omega), <- hag,show (i:Int)+1=((i+1:Nat):Int) by omega]
  exact ih (i+1) n (p*a) hr' (by omega) (by simp at hn;omega) p3
theorem ac1 (xs:List Int) (b:Bool) (bl:List Int) (hl:xs.length<=100): ∀ (r:List Int) (i n:Nat) (p:Int),xs.drop i=r->i<=xs.length->r.length<n->PB p r-> iter (X:=xL) (β:=xJ) n (xs.map N,((xs.map N).length:Int),(i:Int),b,bl,(N p).1,(N p).2,()) rW=some (Sum.inr (b,bl,(N (r.foldl (· * ·) p)).1,(N (r.foldl (· * ·) p)).2,())):=by
 intro r
 induction r with
 | nil=>
  intro i n p hdr hi hn hp
  have:i=xs.length:=by
   have:=congrArg List.length hdr
   simp at this;omega
  subst this
  obtain⟨n,rfl⟩:∃ m,n=m+1:=⟨n - 1,by omega⟩
  rw[aX]
  unfold rW
  dsimp only
  rw[aha,aK (by omega)]
  rfl
 | cons a r ih=>
  intro i n p hdr hi hn hp
  obtain⟨p1,p2,p3⟩:=hp
  have hy:xs[i]? =some a:=by
   have:=congrArg (·[0]?) hdr
   simpa [agT] using this
  have hr':xs.drop (i+1)=r:=by
   have:=congrArg List.tail hdr
   simpa [ahG] using this
  have hlt:=(agW.1 hy).1
  have hy':(xs.map N)[i]? =some (N a):=by rw[agX,hy];rfl
  obtain⟨n,rfl⟩:∃ m,n=m+1:=⟨n - 1,by simp at hn;omega⟩
  rw[aX]
  generalize hag:(fun y=>iter n y rW)=again
  unfold rW
  dsimp only
  have e:lD ((N p).1,(N p).2) (N a)=some (N (p*a),()):=ug p a p1 (by omega)
  rw[aG (by rw[aha];omega),bD,hy',aim,e,aim]
  dsimp only
  rw[ax (n:=(i:Int)+1) (by omega) (by omega), <- hag,show (i:Int)+1=((i+1:Nat):Int) by omega]
  exact ih (i+1) n (p*a) hr' (by omega) (by simp at hn;omega) p3
theorem JK (xs bs:List Int) (la:xs.length<=100) (lb:bs.length<=100) (ha:PB 1 xs) (hb:PB 1 bs):yT (xs.map N) (bs.map N)=some (decide (bs.foldl (· * ·) 1<xs.foldl (· * ·) 1),()):=by
 unfold yT
 rw[nY 1 (by decide) (by decide),aim,aim]
 dsimp only
 refine (congrArg (fun q=>aB q _) (ac0 xs (bs.map N) (N 1).1 (N 1).2 la xs 0 _ 1 rfl (aik _) (by rw[aha,aha,agh];omega) ha)).trans ?_
 rw[aR]
 dsimp only
 refine (congrArg (fun q=>aB q _) (ac1 bs (N (xs.foldl (· * ·) 1)).1 (N (xs.foldl (· * ·) 1)).2 lb bs 0 _ 1 rfl (aik _) (by rw[aha,agh];omega) hb)).trans ?_
 rw[aR]
 dsimp only
 have h1:=Tb xs 1 ha
 have h2:=Tb bs 1 hb
 have e:Gu ((N (xs.foldl (· * ·) 1)).1,(N (xs.foldl (· * ·) 1)).2) ((N (bs.foldl (· * ·) 1)).1,(N (bs.foldl (· * ·) 1)).2)=_:=NS (xs.foldl (· * ·) 1) (bs.foldl (· * ·) 1) (by omega) (by omega)
 rw[e,aim]
 dsimp only
 rw[Ut]
theorem zu {z:Int} (h:z.natAbs<=10 ^ 59):(dg6 z.natAbs).length<100:=by
 have h1:(10:Nat) ^ 59<1000000000000000000000000000000000000000000000000000000000000:=by decide
 have:=Gj (z:=z) (by omega)
 omega
theorem PB2 {a b:Int} (ha:a.natAbs<=10 ^ 24) (hb:b.natAbs<=10 ^ 19):PB 1 [a,b]:=by
 have h1:(1*a).natAbs<=10 ^ 24:=by rw[Int.one_mul];exact ha
 have h2:(1*a*b).natAbs<=10 ^ 24*10 ^ 19:=Dy h1 hb
 exact⟨zu (by decide),zu (by omega),zu (by omega),zu (by omega),zu (by omega)⟩
theorem PB3 {a b c:Int} (ha:a.natAbs<=10 ^ 24) (hb:b.natAbs<=10 ^ 6) (hc:c.natAbs<=10 ^ 6):PB 1 [a,b,c]:=by
 have h1:(1*a).natAbs<=10 ^ 24:=by rw[Int.one_mul];exact ha
 have h2:(1*a*b).natAbs<=10 ^ 24*10 ^ 6:=Dy h1 hb
 have h3:(1*a*b*c).natAbs<=10 ^ 24*10 ^ 6*10 ^ 6:=Dy h2 hc
 exact⟨zu (by decide),zu (by omega),zu (by omega),zu (by omega),zu (by omega),zu (by omega),zu (by omega)⟩
theorem YU {st:List aq} (hst:∀ s∈st,StF s) (hlen:st.length<1000000000) {t:aH} (ht1:0<=t.1/\t.1<=1000) (ht2:0<=t.2/\t.2<=1000) {x:ay} (hx:L8 x) {n:Int} (hn:n.natAbs<=2000000000000000000): K6 st t x n=some (sS st t x (n*1000000),()):=by
 unfold K6 sS
 rw[Uf _ _ hlen,aim]
 cases hf:st.find? (fun s=>s.1==x.2.1) with
 | none=>rfl
 | some s=>
 dsimp only
 have hs:=hst s (aht hf)
 rw[af2,aiy]
 by_cases ha:s.2.1=x.2.2.1
 rotate_left
 ·rw[show (!(s.2.1==x.2.2.1))=true by simp[ha],aiz,aiM (fun h=>ha h.1)]
 rw[show (!(s.2.1==x.2.2.1))=false by simp[ha],aiy]
 by_cases hu:s.2.2.1=x.2.2.2.2.1
 rotate_left
 ·rw[show (!(s.2.2.1==x.2.2.2.2.1))=true by simp[hu],aiz,aiM (fun h=>hu h.2)]
 rw[show (!(s.2.2.1==x.2.2.2.2.1))=false by simp[hu],aiy,aiL (fun h=>h ⟨ha,hu⟩)]
 have n1:=vT hx.p
 have n2:=vT hs.pr
 have per:=hx.per
 rw[K7 _ hx.p,aim,nY 1000 (by omega) (by omega),aim,K7 _ hs.pr,aim,nY x.2.2.2.2.2.2.1 (by omega) (by omega),aim,ax (n:=1000+t.1) (by omega) (by omega),nY (1000+t.1) (by omega) (by omega),aim]
 dsimp only
 have g1:=JK [bZ x.2.2.2.2.2.1,1000] [bZ s.2.2.2.2.1,x.2.2.2.2.2.2.1,1000+t.1] (by simp) (by simp) (PB2 (by omega) (by decide)) (PB3 (by omega) (by omega) (by omega))
 simp only[ahh,ahj,List.foldl_cons,List.foldl_nil,Int.one_mul] at g1
 rw[g1,aim]
 dsimp only
 have ec:bZ s.2.2.2.2.1*x.2.2.2.2.2.2.1*(1000+t.1)=bZ s.2.2.2.2.1*(1000+t.1)*x.2.2.2.2.2.2.1:=by grind
 rw[ec]
 by_cases hp:bZ s.2.2.2.2.1*(1000+t.1)*x.2.2.2.2.2.2.1<bZ x.2.2.2.2.2.1*1000
 ·rw[aG hp,aiM hp]
 rw[aK hp,aiL hp]
 by_cases hz:n<0
 ·rw[aG hz,aiM (.inl (by omega))]
 have k0:=hs.kq0;have k1:=hs.kq1;have kq:=hs.kq
 rw[aK hz,nY n (by omega) (by omega),aim,aim,hs.had,aim,nY (kqZ s) (by omega) (by omega),aim,ax (n:=1000+t.2) (by omega) (by omega),nY (1000+t.2) (by omega) (by omega),aim]
 dsimp only
 have g2:=JK [n,1000] [kqZ s,1000+t.2] (by simp) (by simp) (PB2 (by omega) (by decide)) (PB2 (by omega) (by omega))
 simp only[ahh,ahj,List.foldl_cons,List.foldl_nil,Int.one_mul] at g2
 rw[g2,aim]
 dsimp only
 have em:fX s*(1000+t.2)=kqZ s*(1000+t.2)*1000000:=by rw[kq];grind
 rw[em]
 by_cases hq:kqZ s*(1000+t.2)<n*1000
 ·rw[aG hq,aiM (.inr (by omega))]
 ·rw[aK hq,aiL (fun h=>h.elim (fun h=>hz (by omega)) (fun h=>hq (by omega)))]
end Go.Md
set_option linter.all false
set_option maxRecDepth 20000
namespace Go.Md
open Go.Dn
abbrev RB:=List (Int×Int)
def DY (B:RB) (b:Int->Int):Prop:=∀ n,Option.getD (α:=Int) (bV (k:=tI) (v:=tI) B n) 0*1000000=b n
def BC (b:Int->Int):Prop:=∀ n,0<=b n/\b n<=2000000000000000000000
theorem acH:DY [] (fun _=>0):=fun n=>rfl
theorem Y5:BC (fun _=>0):=fun n=>⟨Int.le_refl _,by show (0:Int)<=2000000000000000000000;decide⟩
theorem DY.set {B:RB} {b:Int->Int} (h:DY B b) (k z:Int):DY (jG (k:=tI) (v:=tI) B k z) (DZ b k (z*1000000)):=fun n=>by
 have e:= @NC tI tI AJ B k z n
 refine (congrArg (fun q=>Option.getD (α:=Int) q 0*1000000) e).trans ?_
 unfold DZ
 cases hb:Ty.beq tI k n with
 | true=>
  have:=(AJ k n).1 hb
  subst this
  rw[aiz,aiM rfl];rfl
 | false=>
  have hne:¬n=k:=fun e=>by
   subst e
   have:=(AJ n n).2 rfl
   rw[hb] at this;cases this
  rw[aiy]
  exact (h n).trans (aiL hne).symm
theorem Xl {st:List aq} {t:Int×Int} {x:ay} {n:Int} (hst:∀ s∈st,StF s) (ht:t.2<=1000) (h:sS st t x n=0):0<=n/\n<=2000000000000000000000:=by
 obtain⟨s,hs,h1,h2⟩:=Sk h
 have h3:=hst s (aht hs)
 have k0:=h3.kq0;have k1:=h3.kq1;have kq:=h3.kq
 have h5:fX s*(1000+t.2)<=fX s*2000:=agc (by omega) (by omega)
 exact⟨h1,by omega⟩
theorem Y8 {b:Int->Int} {k z:Int} (h:BC b) (hz:0<=z/\z<=2000000000000000000000):BC (DZ b k z):=fun n=>by
 unfold DZ
 split
 ·exact hz
 ·exact h n
theorem Ny {st:List aq} {t:Int×Int} {i:Int} (hst:∀ s∈st,StF s) (ht:t.2<=1000):∀ (l:List ay) (k:Nat) (b:Int->Int),BC b->BC (fk st t i k l b).2
 | [],_,_,h=>h
 | x::r,k,b,h=>by
  unfold fk
  split
  ·rename_i h0
   exact Ny hst ht r _ _ (Y8 h (Xl hst ht h0))
  ·exact Ny hst ht r _ _ h
theorem Zm {num:Bys} {stf:Int->List aq} {t:Int×Int} {pre:List ai} {i:Int} {v:ai} {b:Int->Int} (hst:∀ d,∀ s∈stf d,StF s) (ht:t.2<=1000) (h:BC b):BC (ko num stf t pre i v b).2:=by
 unfold ko
 split
 ·exact h
 ·split
  ·exact h
  ·exact Ny (hst _) ht _ _ _ h
def kA (kind:Int) (p:Bool):Int:=bif kind==0&&p then 2 else kind
theorem aey (pre:List ai) (hl:pre.length<=1000) (l:List aa) (v v2:List ai) (out:qU) (i c1 c2:Int) (o1 o2 o3:Bys) (o4 o5:Int) (o6:List aF) (t1 t2:Int) (B:RB) (x1 x2:Bys) (x3 x4 x5:Int) (x6:Bool) (x7:List aD) (x8:List ay) (x9:List aQ): ∀ (r:List ai) (j n:Nat) (kind:Int),pre.drop j=r->j<=pre.length->r.length<n-> iter (X:=uc) (β:=tY) n (l,v,out,i,kind,v2,c1,c2,pre,(pre.length:Int),(j:Int),o1,o2,o3,o4,o5,o6,t1,t2,x1,x2,x3,x4,x5,x6,x7,x8,x9,B,()) pq =some (Sum.inr (l,v,out,i,kA kind (r.any fun u=>u.1==x1),v2,c1,c2,o1,o2,o3,o4,o5,o6,t1,t2,x1,x2,x3,x4,x5,x6,x7,x8,x9,B,())):=by
 intro r
 induction r with
 | nil=>
  intro j n kind hdr hj hn
  have:j=pre.length:=by
   have:=congrArg List.length hdr
   simp at this;omega
  subst this
  obtain⟨n,rfl⟩:∃ m,n=m+1:=⟨n - 1,by omega⟩
  rw[aX]
  unfold pq
  dsimp only
  rw[aK (by omega),List.any_nil,show kA kind false=kind by unfold kA;rw[afQ,aiy]]
 | cons y r ih=>
  intro j n kind hdr hj hn
  have hy:pre[j]? =some y:=by
   have:=congrArg (·[0]?) hdr
   simpa [agT] using this
  have hr':pre.drop (j+1)=r:=by
   have:=congrArg List.tail hdr
   simpa [ahG] using this
  have hlt:=(agW.1 hy).1
  obtain⟨n,rfl⟩:∃ m,n=m+1:=⟨n - 1,by simp at hn;omega⟩
  simp only[ag8] at hn
  rw[aX]
  generalize hag:(fun y=>iter n y pq)=again
  unfold pq
  dsimp only
  rw[aG (by omega),bD,hy,aim,agv,ax (n:=(j:Int)+1) (by omega) (by omega), <- hag,show (j:Int)+1=((j+1:Nat):Int) by omega]
  dsimp only
  cases hk:(kind==0) with
  | false=>
   rw[aiy,aim]
   dsimp only
   rw[aiy,ih (j+1) n kind hr' (by omega) (by omega)]
   unfold kA
   rw[hk,Bool.false_and,Bool.false_and]
  | true=>
   rw[aiz,aim]
   dsimp only
   cases hb:(y.1==x1) with
   | true=>
    rw[aiz,ih (j+1) n 2 hr' (by omega) (by omega)]
    unfold kA
    rw[hk,Bool.true_or,show ((2:Int)==0)=false from rfl,Bool.false_and]
    rfl
   | false=>
    rw[aiy,ih (j+1) n kind hr' (by omega) (by omega),afX]
theorem XS (pre:List ai) (hl:pre.length<=1000) (l:List aa) (v v2:List ai) (out:qU) (i c1 c2:Int) (o1 o2 o3:Bys) (o4 o5:Int) (o6:List aF) (t1 t2:Int) (B:RB) (x1 x2:Bys) (x3 x4 x5:Int) (x6:Bool) (x7:List aD) (x8:List ay) (x9:List aQ) (n:Nat) (kind:Int) (hn:pre.length<n): iter (X:=uc) (β:=tY) n (l,v,out,i,kind,v2,c1,c2,pre,(pre.length:Int),0,o1,o2,o3,o4,o5,o6,t1,t2,x1,x2,x3,x4,x5,x6,x7,x8,x9,B,()) pq =some (Sum.inr (l,v,out,i,kA kind (pre.any fun u=>u.1==x1),v2,c1,c2,o1,o2,o3,o4,o5,o6,t1,t2,x1,x2,x3,x4,x5,x6,x7,x8,x9,B,())):=
 aey pre hl l v v2 out i c1 c2 o1 o2 o3 o4 o5 o6 t1 t2 B x1 x2 x3 x4 x5 x6 x7 x8 x9 pre 0 n kind rfl (aik _) hn
theorem aei {t:aH} (ht1:0<=t.1/\t.1<=1000) (ht2:0<=t.2/\t.2<=1000) {st:List aq} (hst:∀ s∈st,StF s) (hlen:st.length<1000000000) (i:Int) (ls:List ay) (hls:ls.length<=1000) (hx:∀ x∈ls,L8 x/\x.2.2.2.1.2<=3) (l:List aa) (v v2:List ai) (c1 c2:Int) (o1 o2 o3:Bys) (o4 o5:Int) (o6:List aF): ∀ (r:List ay) (k:Nat) (B:RB) (b:Int->Int) (out:qU),ls.drop k=r->k<=ls.length->DY B b->BC b->out.length+r.length<=1000000-> ∃ B',DY B' (fk st t i k r b).2/\∀ n,r.length<n-> iter (X:=ud) (β:=tZ) n (l,v,out,i,v2,c1,c2,ls,(ls.length:Int),(k:Int),o1,o2,o3,o4,o5,o6,t.1,t.2,st,B,()) ki =some (Sum.inr (l,v,out++(fk st t i k r b).1,v2,c1,c2,o1,o2,o3,o4,o5,o6,t.1,t.2,B',())):=by
 have oY:maxLen=9223372036854775807:=rfl
 obtain⟨t1,t2⟩:=t
 dsimp only at*
 intro r
 induction r with
 | nil=>
  intro k B b out hdr hk hB hb ho
  have:k=ls.length:=by
   have:=congrArg List.length hdr
   simp at this;omega
  subst this
  refine⟨B,hB, ?_⟩
  intro n hn
  obtain⟨n,rfl⟩:∃ m,n=m+1:=⟨n - 1,by omega⟩
  rw[aX]
  unfold ki
  dsimp only
  rw[aK (by omega)]
  simp only[fk,agz]
 | cons x r ih=>
  intro k B b out hdr hk hB hb ho
  have hxk:ls[k]? =some x:=by
   have:=congrArg (·[0]?) hdr
   simpa [agT] using this
  have hr':ls.drop (k+1)=r:=by
   have:=congrArg List.tail hdr
   simpa [ahG] using this
  have hlt:=(agW.1 hxk).1
  obtain⟨hbx,hq3⟩:=hx x (ahu hxk)
  simp only[ag8] at ho
  have hq0:=hbx.q.2.1
  have hqu:=hbx.q.1
  have hqm:=aeO hbx.q
  have hB1:=hB x.2.1
  have hb1:=hb x.2.1
  have e0:(Option.getD (α:=Int) (bV (k:=tI) (v:=tI) B x.2.1) 0+mqZ x.2.2.2.1)*1000000=b x.2.1+bZ x.2.2.2.1:=by rw[Int.add_mul,hB1,Zc hq0 hq3]
  generalize hg:Option.getD (α:=Int) (bV (k:=tI) (v:=tI) B x.2.1) 0=g at e0 hB1
  have hm:=YU hst hlen (t:=(t1,t2)) ht1 ht2 hbx (n:=g+mqZ x.2.2.2.1) (by omega)
  rw[e0] at hm
  by_cases h0:sS st (t1,t2) x (b x.2.1+bZ x.2.2.2.1)=0
  ·have hz:=Xl hst ht2.2 h0
   have hs:=hB.set x.2.1 (g+mqZ x.2.2.2.1)
   rw[e0] at hs
   obtain⟨B',g1,g2⟩:=ih (k+1) _ _ out hr' (by omega) hs (Y8 hb hz) (by omega)
   have el:fk st (t1,t2) i k (x::r) b=fk st (t1,t2) i (k+1) r (DZ b x.2.1 (b x.2.1+bZ x.2.2.2.1)):=by rw[fk,aiM h0]
   rw[el]
   refine⟨B',g1, ?_⟩
   intro n hn
   simp only[ag8] at hn
   obtain⟨n,rfl⟩:∃ m,n=m+1:=⟨n - 1,by omega⟩
   rw[aX]
   generalize hag:(fun y=>iter n y ki)=again
   unfold ki
   dsimp only
   rw[aG (by omega),bD,hxk,aim,Gt (by omega) hq0 hq3,aim]
   dsimp only
   rw[hg,ax (n:=g+mqZ x.2.2.2.1) (by omega) (by omega),hm,aim]
   dsimp only
   rw[h0,zne,aiy,ax (n:=(k:Int)+1) (by omega) (by omega), <- hag,show (k:Int)+1=((k+1:Nat):Int) by omega]
   exact g2 n (by omega)
  ·obtain⟨B',g1,g2⟩:=ih (k+1) B b (out++[(i,(k:Int),sS st (t1,t2) x (b x.2.1+bZ x.2.2.2.1))]) hr' (by omega) hB hb (by simp;omega)
   have el:fk st (t1,t2) i k (x::r) b=((i,(k:Int),sS st (t1,t2) x (b x.2.1+bZ x.2.2.2.1))::(fk st (t1,t2) i (k+1) r b).1,(fk st (t1,t2) i (k+1) r b).2):=by rw[fk,aiL h0]
   rw[el]
   refine⟨B',g1, ?_⟩
   intro n hn
   simp only[ag8] at hn
   obtain⟨n,rfl⟩:∃ m,n=m+1:=⟨n - 1,by omega⟩
   rw[aX]
   generalize hag:(fun y=>iter n y ki)=again
   unfold ki
   dsimp only
   rw[aG (by omega),bD,hxk,aim,Gt (by omega) hq0 hq3,aim]
   dsimp only
   rw[hg,ax (n:=g+mqZ x.2.2.2.1) (by omega) (by omega),hm,aim]
   dsimp only
   rw[bR h0,aiz,bG (by rw[afP];exact⟨aiD (by omega),aiD (by omega)⟩),ax (n:=(k:Int)+1) (by omega) (by omega), <- hag,show (k:Int)+1=((k+1:Nat):Int) by omega]
   refine (g2 n (by omega)).trans ?_
   rw[agy];rfl
theorem Xp {y:ai} (h:jr y=0):∀ x∈y.2.2.2.2.2.2.2.1,L8 x/\x.2.2.2.1.2<=3:=fun x hx=>⟨adx ((vX h).lines x hx),((vX h).lines x hx).qp⟩
theorem Em (o:aj) (l:List aa) (d:Int) (tx:∀ d,d∈l->Txt d):tq o l d=some (stF o l d,lnF o l d,()):=V4 o l d tx
theorem afo {o:aj} {l:List aa} {t:aH} {v:List ai} (h:MOk o l t v) (tx:∀ d,d∈l->Txt d) {i:Nat} {x:ai} (hxi:v[i]? =some x) {B:RB} {b:Int->Int} {out:qU} (hB:DY B b) (hb:BC b) (ho:out.length+500<=1000000): ∃ B1,DY B1 (ko o.1 (stF o l) t (v.take i) i x b).2/\∀ again,lP ((l,v,out,v,(v.length:Int),(i:Int),o.1,o.2.1,o.2.2.1,o.2.2.2.1,o.2.2.2.2.1,o.2.2.2.2.2,t.1,t.2,B,()):rX) again =again (l,v,out++(ko o.1 (stF o l) t (v.take i) i x b).1,v,(v.length:Int),((i+1:Nat):Int),o.1,o.2.1,o.2.2.1,o.2.2.2.1,o.2.2.2.2.1,o.2.2.2.2.2,t.1,t.2,B1,()):=by
 have oY:maxLen=9223372036854775807:=rfl
 have hlt:=(agW.1 hxi).1
 have hv:=h.len
 have hx0:=Bc h.go x (ahu hxi)
 have hc:=h.chk
 have hsl:=Ft hc x.2.2.1
 have hst:∀ s∈stF o l x.2.2.1,StF s:=fun s hs=>JX hc hs
 have hll:=(KQ hx0).2
 have ht1:=h.t1
 have ht2:=h.t2
 have htl:(v.take i).length<=1000:=by rw[ahe];omega
 obtain⟨o1,o2,o3,o4,o5,o6⟩:=o
 dsimp only
 by_cases hn:x.2.1=o1
 rotate_left
 ·have ei:ko o1 (stF (o1,o2,o3,o4,o5,o6) l) t (v.take i) i x b=([((i:Int), -1,1)],b):=by unfold ko;rw[aiM hn]
  rw[ei]
  refine⟨B,hB,fun again=> ?_⟩
  unfold lP
  dsimp only
  rw[aG (by omega),bD,hxi,aim,show (!(x.2.1==o1))=true by simp[hn],aiz,aR]
  dsimp only
  rw[bG (by simp only[afP,aiE];omega),agq,agG,
   XS (v.take i) htl _ _ _ _ _ _ _ _ _ _ _ _ _ _ _ _ _ _ _ _ _ _ _ _ _ _ 1 (by with_reducible repeat (first | exact ail | refine ah1 ?_ | refine ah0 _ ?_)),aR]
  dsimp only
  rw[show ∀ p,kA 1 p=1 from fun p=>by cases p<;>rfl,show ((1:Int) != 0)=true from rfl,aiz,bG (by rw[afP];exact⟨aiD (by omega),aiD (by omega)⟩),ax (n:=(i:Int)+1) (by omega) (by omega),show (i:Int)+1=((i+1:Nat):Int) by omega]
 cases ha:(v.take i).any fun u=>u.1==x.1 with
 | true=>
  have ei:ko o1 (stF (o1,o2,o3,o4,o5,o6) l) t (v.take i) i x b=([((i:Int), -1,2)],b):=by unfold ko;rw[aiL (fun h=>h hn),ha,aiM rfl]
  rw[ei]
  refine⟨B,hB,fun again=> ?_⟩
  unfold lP
  dsimp only
  rw[aG (by omega),bD,hxi,aim,show (!(x.2.1==o1))=false by simp[hn],aiy,aR]
  dsimp only
  rw[bG (by simp only[afP,aiE];omega),agq,agG,
   XS (v.take i) htl _ _ _ _ _ _ _ _ _ _ _ _ _ _ _ _ _ _ _ _ _ _ _ _ _ _ 0 (by with_reducible repeat (first | exact ail | refine ah1 ?_ | refine ah0 _ ?_)),aR]
  dsimp only
  rw[ha,show kA 0 true=2 from rfl,show ((2:Int) != 0)=true from rfl,aiz,bG (by rw[afP];exact⟨aiD (by omega),aiD (by omega)⟩),ax (n:=(i:Int)+1) (by omega) (by omega),show (i:Int)+1=((i+1:Nat):Int) by omega]
 | false=>
  have ei:ko o1 (stF (o1,o2,o3,o4,o5,o6) l) t (v.take i) i x b=fk (stF (o1,o2,o3,o4,o5,o6) l x.2.2.1) t i 0 x.2.2.2.2.2.2.2.1 b:=by unfold ko;rw[aiL (fun h=>h hn),ha,aiL (by decide)]
  rw[ei]
  obtain⟨B1,g1,g2⟩:=aei ht1 ht2 hst (by omega) (i:Int) x.2.2.2.2.2.2.2.1 (by omega) (Xp hx0) l v v (v.length:Int) (i:Int) o1 o2 o3 o4 o5 o6 x.2.2.2.2.2.2.2.1 0 B b out rfl (aik _) hB hb (by omega)
  have g3:∀ n,x.2.2.2.2.2.2.2.1.length<n->iter (X:=ud) (β:=tZ) n (l,v,out,(i:Int),v,(v.length:Int),(i:Int),x.2.2.2.2.2.2.2.1,(x.2.2.2.2.2.2.2.1.length:Int),0,o1,o2,o3,o4,o5,o6,t.1,t.2,stF (o1,o2,o3,o4,o5,o6) l x.2.2.1,B,()) ki=_:=g2
  refine⟨B1,g1,fun again=> ?_⟩
  unfold lP
  dsimp only
  rw[aG (by omega),bD,hxi,aim,show (!(x.2.1==o1))=false by simp[hn],aiy,aR]
  dsimp only
  rw[bG (by simp only[afP,aiE];omega),agq,agG,
   XS (v.take i) htl _ _ _ _ _ _ _ _ _ _ _ _ _ _ _ _ _ _ _ _ _ _ _ _ _ _ 0 (by with_reducible repeat (first | exact ail | refine ah1 ?_ | refine ah0 _ ?_)),aR]
  dsimp only
  rw[ha,show kA 0 false=0 from rfl,zne,aiy,Em _ _ _ tx,aim]
  dsimp only
  rw[g3 _ (by with_reducible repeat (first | exact ail | refine ah1 ?_ | refine ah0 _ ?_)),aR]
  dsimp only
  rw[ax (n:=(i:Int)+1) (by omega) (by omega),show (i:Int)+1=((i+1:Nat):Int) by omega]
theorem aeN {o:aj} {l:List aa} {t:aH} {v:List ai} (h:MOk o l t v) (tx:∀ d,d∈l->Txt d):∀ (r:List ai) (i:Nat) (B:RB) (b:Int->Int) (out:qU),v.drop i=r->i<=v.length->DY B b->BC b->out.length+500*r.length<=900000-> ∃ B',DY B' (kG o.1 (stF o l) t (v.take i) r b).2/\∀ n,r.length<n-> iter (X:=rX) (β:=wC) n (l,v,out,v,(v.length:Int),(i:Int),o.1,o.2.1,o.2.2.1,o.2.2.2.1,o.2.2.2.2.1,o.2.2.2.2.2,t.1,t.2,B,()) lP =some (Sum.inr (out++(kG o.1 (stF o l) t (v.take i) r b).1,B',())):=by
 intro r
 induction r with
 | nil=>
  intro i B b out hdr hi hB hb ho
  have:i=v.length:=by
   have:=congrArg List.length hdr
   simp at this;omega
  subst this
  refine⟨B,hB, ?_⟩
  intro n hn
  obtain⟨n,rfl⟩:∃ m,n=m+1:=⟨n - 1,by omega⟩
  rw[aX]
  unfold lP
  dsimp only
  rw[aK (by omega)]
  simp only[kG,agz]
 | cons x r ih=>
  intro i B b out hdr hi hB hb ho
  have hxi:v[i]? =some x:=by
   have:=congrArg (·[0]?) hdr
   simpa [agT] using this
  have hr':v.drop (i+1)=r:=by
   have:=congrArg List.tail hdr
   simpa [ahG] using this
  have hlt:=(agW.1 hxi).1
  simp only[ag8] at ho
  have hv:=h.len
  have hx0:=Bc h.go x (ahu hxi)
  have ho':out.length+500<=1000000:=adG ho
  obtain⟨B1,g1,g2⟩:=afo h tx hxi hB hb ho'
  have hb1:BC (ko o.1 (stF o l) t (v.take i) i x b).2:=Zm (fun d s hs=>JX h.chk hs) h.t2.2 hb
  have hlen:(ko o.1 (stF o l) t (v.take i) i x b).1.length<=500:=Xg hx0
  have etl:((v.take i).length:Int)=(i:Int):=by rw[ahe];omega
  obtain⟨B2,q1,q2⟩:=ih (i+1) B1 _ (out++(ko o.1 (stF o l) t (v.take i) i x b).1) hr' (by omega) g1 hb1 (by rw[ag7];exact adH ho hlen)
  rw[tC hxi] at q1 q2
  simp only[kG]
  rw[etl]
  refine⟨B2,q1, ?_⟩
  intro n hn
  simp only[ag8] at hn
  obtain⟨n,rfl⟩:∃ m,n=m+1:=⟨n - 1,by omega⟩
  rw[aX,g2]
  refine (q2 n (by omega)).trans ?_
  rw[agy]
theorem XE {o:aj} {l:List aa} {t:aH} {v:List ai} (h:MOk o l t v) (tx:∀ d,d∈l->Txt d): ∃ B,DY B (kG o.1 (stF o l) t [] v (fun _=>0)).2/\HH o l t v=some ((kG o.1 (stF o l) t [] v (fun _=>0)).1,B,()):=by
 have hv:=h.len
 obtain⟨B,h1,h2⟩:=aeN h tx v 0 [] (fun _=>0) [] rfl (aik _) acH Y5 (by simp;omega)
 refine⟨B,h1, ?_⟩
 have h3:∀ n,v.length<n->iter (X:=rX) (β:=wC) n (l,v,[],v,(v.length:Int),0,o.1,o.2.1,o.2.2.1,o.2.2.2.1,o.2.2.2.2.1,o.2.2.2.2.2,t.1,t.2,[],()) lP=_:=h2
 unfold HH
 rw[h3 _ (ah0 _ (ah1 (by with_reducible repeat (first | exact ail | refine ah0 _ ?_)))),aR]
 rfl
end Go.Md
set_option linter.all false
set_option maxRecDepth 20000
namespace Go.Md
open Go.Dn
def M6 (b:Int->Int):Prop:=∀ n,∃ m,b n=m*1000000
theorem adK:M6 (fun _=>0):=fun _=>⟨0,rfl⟩
theorem Nz {st:List aq} {t:Int×Int} {i:Int}:∀ (l:List ay) (k:Nat) (b:Int->Int),(∀ x∈l,L8 x/\x.2.2.2.1.2<=3)->M6 b->M6 (fk st t i k l b).2
 | [],_,_,_,h=>h
 | x::r,k,b,hx,h=>by
  unfold fk
  split
  ·refine Nz r _ _ (fun y hy=>hx y (aho _ hy)) ?_
   intro n
   unfold DZ
   split
   ·obtain⟨m,hm⟩:=h x.2.1
    obtain⟨h1,h2⟩:=hx x ahp
    exact⟨m+mqZ x.2.2.2.1,by rw[hm,Zc h1.q.2.1 h2,Int.add_mul]⟩
   ·exact h n
  ·exact Nz r _ _ (fun y hy=>hx y (aho _ hy)) h
theorem ad5 {num:Bys} {stf:Int->List aq} {t:Int×Int} {pre:List ai} {i:Int} {v:ai} {b:Int->Int} (hv:jr v=0) (h:M6 b):M6 (ko num stf t pre i v b).2:=by
 unfold ko
 split
 ·exact h
 ·split
  ·exact h
  ·exact Nz _ _ _ (Xp hv) h
theorem U6 {num:Bys} {stf:Int->List aq} {t:Int×Int}:∀ (l pre:List ai) (b:Int->Int),(∀ x∈l,jr x=0)->M6 b->M6 (kG num stf t pre l b).2
 | [],_,_,_,h=>h
 | v::r,pre,b,hl,h=>U6 r _ _ (fun y hy=>hl y (aho _ hy)) (ad5 (hl v ahp) h)
theorem Px:∀ (r:List ai) (p:Option ai),gV p r=0->(∀ q,p=some q->∀ y∈r,q.2.2.1<=y.2.2.1)/\r.Pairwise fun a b=>a.2.2.1<=b.2.2.1
 | [],_,_=>⟨fun _ _ y hy=>(by cases hy),List.Pairwise.nil⟩
 | x::r,p,h=>by
  simp only[gV] at h
  split at h
  ·rename_i h1;exact absurd h h1
  split at h
  ·cases h
  rename_i h2
  obtain⟨g1,g2⟩:=Px r (some x) h
  have g3:=g1 x rfl
  refine⟨?_,ahz.2 ⟨g3,g2⟩⟩
  intro q hq y hy
  subst hq
  have h3:¬x.2.2.1<q.2.2.1:=fun e=>h2 (aiD e)
  rcases ahn.1 hy with rfl | hy
  ·omega
  ·have:=g3 y hy;omega
def oX (day:Int) (x:ai):Bool:=decide (x.2.2.1<=day)
def G6 (b:Int->Int):List aq->List dh
 | []=>[]
 | s::r=>if fX s - b s.1<=0 then G6 b r else (s.1,bQ ((fX s - b s.1) / 1000000),s.2.2.2.2.2.1)::G6 b r
theorem XT (b:Int->Int):∀ st:List aq,(G6 b st).length<=st.length
 | []=>ahY _
 | s::r=>by
  have:=XT b r
  unfold G6
  split
  ·simp only[ag8];omega
  ·simp only[ag8];omega
def tD (o:aj) (l:List aa) (t:aH) (v:List ai) (day:Int):Int:=if mF o l t v≠0 then mF o l t v else if 1<=day/\day<=3652059 then 0 else 1
def aa0 (o:aj) (l:List aa) (t:aH) (v:List ai) (day:Int):List dh:=G6 (kG o.1 (stF o l) t [] (v.takeWhile (oX day)) (fun _=>0)).2 (stF o l day)
theorem XU {day:Int} {v:List ai} (hv:v.length<=200) (o:aj) (l:List aa) (t:aH) (S:yH) (M:CH) (out:qU): ∀ (r:List ai) (i n:Nat),v.drop i=r->i<=v.length->r.length<n->(∀ y∈r,day<y.2.2.1)-> iter (X:=kP) (β:=kO) n (day,v,(v.length:Int),(i:Int),o.1,o.2.1,o.2.2.1,o.2.2.2.1,o.2.2.2.2.1,o.2.2.2.2.2,l,t.1,t.2,v,S,M,out,()) fF =some (Sum.inr (day,o.1,o.2.1,o.2.2.1,o.2.2.2.1,o.2.2.2.2.1,o.2.2.2.2.2,l,t.1,t.2,v,S,M,out,())):=by
 intro r
 induction r with
 | nil=>
  intro i n hdr hi hn _
  have:i=v.length:=by
   have:=congrArg List.length hdr
   simp at this;omega
  subst this
  obtain⟨n,rfl⟩:∃ m,n=m+1:=⟨n - 1,by omega⟩
  rw[aX]
  unfold fF
  dsimp only
  rw[aK (by omega)]
 | cons x r ih=>
  intro i n hdr hi hn hd
  have hxi:v[i]? =some x:=by
   have:=congrArg (·[0]?) hdr
   simpa [agT] using this
  have hr':v.drop (i+1)=r:=by
   have:=congrArg List.tail hdr
   simpa [ahG] using this
  have hlt:=(agW.1 hxi).1
  obtain⟨n,rfl⟩:∃ m,n=m+1:=⟨n - 1,by simp at hn;omega⟩
  simp only[ag8] at hn
  have hdx:=hd x ahp
  rw[aX]
  generalize hag:(fun y=>iter n y fF)=again
  unfold fF
  dsimp only
  rw[aG (show (i:Int)<(v.length:Int) by omega),bD,hxi,aim,aK (show ¬x.2.2.1<=day by omega),ax (n:=(i:Int)+1) (by omega) (by omega), <- hag,show (i:Int)+1=((i+1:Nat):Int) by omega]
  exact ih (i+1) n hr' (by omega) (by omega) (fun y hy=>hd y (aho _ hy))
theorem adt {o:aj} {l:List aa} {t:aH} {v:List ai} (h:MOk o l t v) (day:Int):∀ (r:List ai) (i:Nat) (S:yH) (M:CH) (b:Int->Int) (out:qU),v.drop i=r->i<=v.length->r.Pairwise (fun a b=>a.2.2.1<=b.2.2.1)->lY o l S->BOk M b->BB b->out.length+500*r.length<=900000-> ∃ S' M' out',lY o l S'/\BOk M' (kG o.1 (stF o l) t (v.take i) (r.takeWhile (oX day)) b).2/\∀ n,r.length<n-> iter (X:=kP) (β:=kO) n (day,v,(v.length:Int),(i:Int),o.1,o.2.1,o.2.2.1,o.2.2.2.1,o.2.2.2.2.1,o.2.2.2.2.2,l,t.1,t.2,v,S,M,out,()) fF =some (Sum.inr (day,o.1,o.2.1,o.2.2.1,o.2.2.2.1,o.2.2.2.2.1,o.2.2.2.2.2,l,t.1,t.2,v,S',M',out',())):=by
 intro r
 induction r with
 | nil=>
  intro i S M b out hdr hi hp hS hM hb ho
  exact⟨S,M,out,hS,hM,fun n hn=>XU h.len o l t S M out [] i n hdr hi hn (fun y hy=>by cases hy)⟩
 | cons x r ih=>
  intro i S M b out hdr hi hp hS hM hb ho
  have hxi:v[i]? =some x:=by
   have:=congrArg (·[0]?) hdr
   simpa [agT] using this
  have hr':v.drop (i+1)=r:=by
   have:=congrArg List.tail hdr
   simpa [ahG] using this
  have hlt:=(agW.1 hxi).1
  obtain⟨p1,p2⟩:=ahz.1 hp
  have hv:=h.len
  by_cases hd:x.2.2.1<=day
  rotate_left
  ·have ew:(x::r).takeWhile (oX day)=[]:=by
    rw[ahH,show oX day x=false from aiB hd];rfl
   rw[ew]
   refine⟨S,M,out,hS,hM,fun n hn=>XU h.len o l t S M out (x::r) i n hdr hi hn ?_⟩
   intro y hy
   rcases ahn.1 hy with rfl | hy
   ·omega
   ·have:=p1 y hy;omega
  have ew:(x::r).takeWhile (oX day)=x::r.takeWhile (oX day):=by
   rw[ahH,show oX day x=true from aiD hd];rfl
  rw[ew]
  simp only[ag8] at ho
  have hx0:=Bc h.go x (ahu hxi)
  have ho':out.length+500<=1000000:=adG ho
  obtain⟨S1,M1,g1,g2,g3⟩:=aas (out:=out) h.chk h.t1 h.t2 hv hxi hx0 hS hM hb ho'
  have hb1:BB (ko o.1 (stF o l) t (v.take i) i x b).2:=Zl (aaX h.chk) h.t2.2 hb
  have hlen:(ko o.1 (stF o l) t (v.take i) i x b).1.length<=500:=Xg hx0
  have etl:((v.take i).length:Int)=(i:Int):=by rw[ahe];omega
  obtain⟨S2,M2,out2,q1,q2,q3⟩:=ih (i+1) S1 M1 _ (out++(ko o.1 (stF o l) t (v.take i) i x b).1) hr' (by omega) p2 g1 g2 hb1 (by rw[ag7];exact adH ho hlen)
  rw[tC hxi] at q2
  simp only[kG]
  rw[etl]
  refine⟨S2,M2,out2,q1,q2, ?_⟩
  intro n hn
  simp only[ag8] at hn
  obtain⟨n,rfl⟩:∃ m,n=m+1:=⟨n - 1,by omega⟩
  rw[aX]
  generalize hag:(fun y=>iter n y fF)=again
  unfold fF
  dsimp only
  have g3':jy ((o.1,o.2.1,o.2.2.1,o.2.2.2.1,o.2.2.2.2.1,o.2.2.2.2.2),l,(t.1,t.2),v,S,M,out,()) (i:Int)=_:=g3
  rw[aG (show (i:Int)<(v.length:Int) by omega),bD,hxi,aim,aG hd,g3',aim]
  dsimp only
  rw[ax (n:=(i:Int)+1) (by omega) (by omega), <- hag,show (i:Int)+1=((i+1:Nat):Int) by omega]
  exact q3 n (by omega)
theorem afr {st:List aq} (hst:∀ s∈st,StF s) (hlen:st.length<=500) {M:CH} {b:Int->Int} (hM:BOk M b) (hb:BB b) (hb6:M6 b) (o1 o2 o3:Bys) (o4 o5:Int) (o6:List aF) (l:List aa) (t1 t2:Int) (v:List ai) (out:qU) (S:yH): ∀ (r:List aq) (i n:Nat) (R:List dh),st.drop i=r->i<=st.length->r.length<n->R.length<=i-> iter (X:=mM) (β:=mL) n (R,st,(st.length:Int),(i:Int),o1,o2,o3,o4,o5,o6,l,t1,t2,v,out,S,M,()) jU=some (Sum.inr (R++G6 b r,())):=by
 have oY:maxLen=9223372036854775807:=rfl
 intro r
 induction r with
 | nil=>
  intro i n R hdr hi hn hR
  have:i=st.length:=by
   have:=congrArg List.length hdr
   simp at this;omega
  subst this
  obtain⟨n,rfl⟩:∃ m,n=m+1:=⟨n - 1,by omega⟩
  rw[aX]
  unfold jU
  dsimp only
  rw[aK (by omega)]
  simp only[G6,agz]
 | cons s r ih=>
  intro i n R hdr hi hn hR
  have hsi:st[i]? =some s:=by
   have:=congrArg (·[0]?) hdr
   simpa [agT] using this
  have hr':st.drop (i+1)=r:=by
   have:=congrArg List.tail hdr
   simpa [ahG] using this
  have hlt:=(agW.1 hsi).1
  have hs:=hst s (ahu hsi)
  have k0:=hs.k0;have k1:=hs.k1;have q0:=hs.kq0;have q1:=hs.kq1;have kq:=hs.kq
  have hb':=hb s.1
  obtain⟨m,hm⟩:=hb6 s.1
  obtain⟨n,rfl⟩:∃ m,n=m+1:=⟨n - 1,by simp at hn;omega⟩
  simp only[ag8] at hn
  rw[aX]
  generalize hag:(fun y=>iter n y jU)=again
  unfold jU G6
  dsimp only
  rw[aG (by omega),bD,hsi,aim,T3 hs.toStaOk,aim,hM s.1,yF _ _ (fQ (by omega)) (fQ (by omega)),aim,jZ,aim]
  dsimp only
  rw[XO,ax (n:=(i:Int)+1) (by omega) (by omega), <- hag,show (i:Int)+1=((i+1:Nat):Int) by omega]
  by_cases h0:fX s - b s.1<=0
  ·rw[aG h0,aiM h0]
   exact ih (i+1) n R hr' (by omega) (by omega) (by omega)
  ·have ed:(fX s - b s.1) / 1000000=kqZ s - m:=by omega
   have ek:fX s - b s.1=(kqZ s - m)*1000000:=by omega
   rw[aK h0,aiL h0,ed,ek,Ng (by omega),aim]
   dsimp only
   rw[zne,aiy,bG (by rw[afP];exact⟨aiD (by omega),aiD (by omega)⟩)]
   refine (ih (i+1) n _ hr' (by omega) (by omega) (by simp;omega)).trans ?_
   rw[agy];rfl
theorem xU {α:Type} (p:α->Bool):∀ l:List α,l.takeWhile p=l.take (l.takeWhile p).length
 | []=>rfl
 | a::r=>by
  rw[ahH]
  split
  ·rw[ag8,ahO, <- xU p r]
  ·rfl
theorem MOk.days {o:aj} {l:List aa} {t:aH} {v:List ai} (h:MOk o l t v) (day:Int):MOk o l t (v.takeWhile (oX day)):=by
 rw[xU]
 exact h.take _
theorem P9 (o:aj) (l:List aa) (t:aH) (v:List ai) (day:Int):zk o l t v day=some (if tD o l t v day=0 then aa0 o l t v day else [],tD o l t v day,()):=by
 unfold zk
 rw[T7]
 by_cases h:mF o l t v=0
 rotate_left
 ·have hu:tD o l t v day=mF o l t v:=by unfold tD;rw[aiM h]
  rw[aiM h,hu,aiL h]
  unfold Sq
  dsimp only
  rw[bR h,aiz]
 have hm:=T4 h
 have hl:=hm.len
 rw[aiL (by simpa using h)]
 refine Eq.trans Sr ?_
 rw[Xr hm,aim]
 dsimp only
 rw[zne,aiy,nM,aim]
 dsimp only
 by_cases hd:1<=day/\day<=3652059
 rotate_left
 ·have hu:tD o l t v day=1:=by unfold tD;rw[aiL (fun e=>e h),aiL hd]
  rw[aiB hd,hu];rfl
 have hu:tD o l t v day=0:=by unfold tD;rw[aiL (fun e=>e h),aiM hd]
 rw[aiD hd,hu,aiM rfl,af2,aiy]
 obtain⟨S1,M1,out1,g1,g2,g3⟩:=adt hm day v 0 [] [] (fun _=>0) [] rfl (aik _) (Px v none hm.go).2 (X4 o l) adJ Y4 (by simp;omega)
 have g4:∀ n,v.length<n->iter (X:=kP) (β:=kO) n (day,v,(v.length:Int),0,o.1,o.2.1,o.2.2.1,o.2.2.2.1,o.2.2.2.2.1,o.2.2.2.2.2,l,t.1,t.2,v,[],[],[],()) fF=_:=g3
 rw[g4 _ (by with_reducible repeat (first | exact ail | refine ah1 ?_ | refine ah0 _ ?_)),aR]
 dsimp only
 have hb1:BB (kG o.1 (stF o l) t [] (v.takeWhile (oX day)) (fun _=>0)).2:=U5 (aaX hm.chk) hm.t2.2 _ _ _ Y4
 have hb6:M6 (kG o.1 (stF o l) t [] (v.takeWhile (oX day)) (fun _=>0)).2:=U6 _ _ _ (fun x hx=>Bc (hm.days day).go x hx) adK
 obtain⟨S2,hS2,e2⟩:=PV (t:=t) (v:=v) (M:=M1) (out:=out1) g1 day
 refine (congrArg (fun q=>Option.bind q _) e2).trans ?_
 rw[aim]
 dsimp only
 have hsl:=Ft hm.chk day
 have g5:=fun n hn=>afr (fun s hs=>JX hm.chk hs) hsl g2 hb1 hb6 o.1 o.2.1 o.2.2.1 o.2.2.2.1 o.2.2.2.2.1 o.2.2.2.2.2 l t.1 t.2 v out1 S2 (stF o l day) 0 n [] rfl (aik _) hn (ahY _)
 have g6:∀ n,(stF o l day).length<n->iter (X:=mM) (β:=mL) n ([],stF o l day,((stF o l day).length:Int),0,o.1,o.2.1,o.2.2.1,o.2.2.2.1,o.2.2.2.2.1,o.2.2.2.2.2,l,t.1,t.2,v,out1,S2,M1,()) jU=_:=g5
 rw[g6 _ (by with_reducible repeat (first | exact ail | refine ah1 ?_ | refine ah0 _ ?_)),aR]
 rfl
end Go.Md
set_option linter.all false
set_option maxRecDepth 20000
namespace Go.Md
open Go.Dn
theorem QI {n r:Nat} (h:0<r):n<n+r:=by omega
theorem NB {n a r:Nat} (h:n<r):n<a+r:=by omega
theorem XL (l:List aQ) (hl:l.length<=1000):iL l l=some (true,()):=by
 unfold iL
 rw[show (((List.length l:Nat):Int) != ((List.length l:Nat):Int))=false by simp,aiy]
 have loop:∀ f,l.length<f->iter f ((l,l,(l.length:Int),(0:Int),()):jm) jl=some (Sum.inr ()):=by
  intro f hf
  refine cx (Inv:=fun i X=>X=(l,l,(l.length:Int),(i:Int),())) l.length (fun r=>r=some (Sum.inr ())) ?_ ?_ f 0 _ rfl (by omega) (by omega)
  ·rintro i _ again hi rfl ih
   unfold jl
   dsimp only
   rw[aG (by omega),bD,bp hi,aim,aim]
   simp only[aiw,afR,af2,aiy]
   rw[ax (by omega) (by omega)]
   exact ih _ rfl
  ·rintro _ again rfl
   unfold jl
   dsimp only
   rw[aK (by omega)]
 rw[loop _ (by with_reducible apply QI;repeat (with_reducible first | exact ail | apply NB)),aR]
theorem acw (l:List aD) (hl:l.length<=1000):mB l l=some (true,()):=by
 unfold mB
 rw[show (((List.length l:Nat):Int) != ((List.length l:Nat):Int))=false by simp,aiy]
 have loop:∀ f,l.length<f->iter f ((l,l,(l.length:Int),(0:Int),()):jQ) jP=some (Sum.inr ()):=by
  intro f hf
  refine cx (Inv:=fun i X=>X=(l,l,(l.length:Int),(i:Int),())) l.length (fun r=>r=some (Sum.inr ())) ?_ ?_ f 0 _ rfl (by omega) (by omega)
  ·rintro i _ again hi rfl ih
   unfold jP
   dsimp only
   rw[aG (by omega),bD,bp hi,aim,aim]
   simp only[aiw,afR,af2,aiy]
   rw[ax (by omega) (by omega)]
   exact ih _ rfl
  ·rintro _ again rfl
   unfold jP
   dsimp only
   rw[aK (by omega)]
 rw[loop _ (by with_reducible apply QI;repeat (with_reducible first | exact ail | apply NB)),aR]
theorem adm {v:ai} (h:jr v=0):Cp v v=some (true,()):=by
 have hv:=vX h
 have hln:0<v.2.2.2.2.2.2.2.1.length/\v.2.2.2.2.2.2.2.1.length<=500:=hv.ln
 have hrn:0<v.2.2.2.2.2.2.1.length/\v.2.2.2.2.2.2.1.length<=20:=hv.rn
 have hx:v.2.2.2.2.2.2.2.2.length<=20:=(RR hv.ext).1
 unfold Cp
 simp only[aiw,af2,aiy,aix]
 have loop:∀ f,v.2.2.2.2.2.2.2.1.length<f->iter f ((v.2.2.2.2.2.2.2.1,(v.2.2.2.2.2.2.2.1.length:Int),(0:Int),v.1,v.2.1,v.2.2.1,v.2.2.2.1,v.2.2.2.2.1,v.2.2.2.2.2.1,v.2.2.2.2.2.2.1,v.2.2.2.2.2.2.2.1,v.2.2.2.2.2.2.2.2,v.1,v.2.1,v.2.2.1,v.2.2.2.1,v.2.2.2.2.1,v.2.2.2.2.2.1,v.2.2.2.2.2.2.1,v.2.2.2.2.2.2.2.1,v.2.2.2.2.2.2.2.2,()):yS) CS=some (Sum.inr (v.1,v.2.1,v.2.2.1,v.2.2.2.1,v.2.2.2.2.1,v.2.2.2.2.2.1,v.2.2.2.2.2.2.1,v.2.2.2.2.2.2.2.1,v.2.2.2.2.2.2.2.2,v.1,v.2.1,v.2.2.1,v.2.2.2.1,v.2.2.2.2.1,v.2.2.2.2.2.1,v.2.2.2.2.2.2.1,v.2.2.2.2.2.2.2.1,v.2.2.2.2.2.2.2.2,())):=by
  intro f hf
  refine cx (Inv:=fun i X=>X=((v.2.2.2.2.2.2.2.1,(v.2.2.2.2.2.2.2.1.length:Int),(i:Int),v.1,v.2.1,v.2.2.1,v.2.2.2.1,v.2.2.2.2.1,v.2.2.2.2.2.1,v.2.2.2.2.2.2.1,v.2.2.2.2.2.2.2.1,v.2.2.2.2.2.2.2.2,v.1,v.2.1,v.2.2.1,v.2.2.2.1,v.2.2.2.2.1,v.2.2.2.2.2.1,v.2.2.2.2.2.2.1,v.2.2.2.2.2.2.2.1,v.2.2.2.2.2.2.2.2,()):yS)) v.2.2.2.2.2.2.2.1.length (fun r=>r=some (Sum.inr (v.1,v.2.1,v.2.2.1,v.2.2.2.1,v.2.2.2.2.1,v.2.2.2.2.2.1,v.2.2.2.2.2.2.1,v.2.2.2.2.2.2.2.1,v.2.2.2.2.2.2.2.2,v.1,v.2.1,v.2.2.1,v.2.2.2.1,v.2.2.2.2.1,v.2.2.2.2.2.1,v.2.2.2.2.2.2.1,v.2.2.2.2.2.2.2.1,v.2.2.2.2.2.2.2.2,()))) ?_ ?_ f 0 _ rfl (by omega) (by omega)
  ·rintro i _ again hi rfl ih
   have hy:v.2.2.2.2.2.2.2.1[i]? =some v.2.2.2.2.2.2.2.1[i]:=bp hi
   have hm:v.2.2.2.2.2.2.2.1[i]∈v.2.2.2.2.2.2.2.1:=ag6 hi
   generalize v.2.2.2.2.2.2.2.1[i]=y at hy hm
   have hlo:Q6 v.2.2.2.1 v.2.2.2.2.2.2.1 y:=hv.lines y hm
   have hye:=RR hlo.ext
   unfold CS
   dsimp only
   rw[aG (by omega),bD,hy,aim,aim]
   simp only[aiw,afR,af2,aiy,aix]
   rw[XL _ (by omega),aim]
   simp only[af2,aiy]
   rw[ax (by omega) (by omega)]
   exact ih _ rfl
  ·rintro _ again rfl
   unfold CS
   dsimp only
   rw[aK (by omega)]
 rw[loop _ (by with_reducible apply QI;repeat (with_reducible first | exact ail | apply NB)),aR]
 dsimp only
 rw[acw _ (by show v.2.2.2.2.2.2.1.length<=_;omega),aim]
 simp only[aiz]
 rw[XL _ (by show v.2.2.2.2.2.2.2.2.length<=_;omega),aim]
 rfl
theorem JL (z:Int) (h:z.natAbs<=9000000000000000000):eY (z,3)=some (bQ z,()):=Ej z h 3 (by omega)
theorem afq {st:List aq} (hst:∀ s∈st,StF s) (hlen:st.length<=500) {B:RB} {b:Int->Int} (hB:DY B b) (hb:BC b): ∀ (r:List aq) (i n:Nat) (R:List dh),st.drop i=r->i<=st.length->r.length<n->R.length<=i-> iter (X:=nV) (β:=nU) n (R,(st.length:Int),(i:Int),st,B,()) kT=some (Sum.inr (R++G6 b r,())):=by
 have oY:maxLen=9223372036854775807:=rfl
 intro r
 induction r with
 | nil=>
  intro i n R hdr hi hn hR
  have:i=st.length:=by
   have:=congrArg List.length hdr
   simp at this;omega
  subst this
  obtain⟨n,rfl⟩:∃ m,n=m+1:=⟨n - 1,by omega⟩
  rw[aX]
  unfold kT
  dsimp only
  rw[aK (by omega)]
  simp only[G6,agz]
 | cons s r ih=>
  intro i n R hdr hi hn hR
  have hsi:st[i]? =some s:=by
   have:=congrArg (·[0]?) hdr
   simpa [agT] using this
  have hr':st.drop (i+1)=r:=by
   have:=congrArg List.tail hdr
   simpa [ahG] using this
  have hlt:=(agW.1 hsi).1
  have hs:=hst s (ahu hsi)
  have q0:=hs.kq0;have q1:=hs.kq1;have kq:=hs.kq
  have hb':=hb s.1
  have hm:=hB s.1
  obtain⟨m,hmm⟩:∃ m,Option.getD (α:=Int) (bV (k:=tI) (v:=tI) B s.1) 0=m:=⟨_,rfl⟩
  rw[hmm] at hm
  obtain⟨n,rfl⟩:∃ m,n=m+1:=⟨n - 1,by simp at hn;omega⟩
  simp only[ag8] at hn
  rw[aX]
  generalize hag:(fun y=>iter n y kT)=again
  unfold kT G6
  dsimp only
  rw[aG (by omega),bG (by simp only[afP,aiE];omega),agq,hsi,aim,hs.had,aim]
  dsimp only
  rw[hmm,ax (n:=kqZ s - m) (by omega) (by omega),ax (n:=(i:Int)+1) (by omega) (by omega), <- hag,show (i:Int)+1=((i+1:Nat):Int) by omega]
  by_cases h0:fX s - b s.1<=0
  ·rw[aK (by omega),aiM h0]
   exact ih (i+1) n R hr' (by omega) (by omega) (by omega)
  ·have ed:(fX s - b s.1) / 1000000=kqZ s - m:=by omega
   rw[aG (by omega),aiL h0,ed,JL _ (by omega),aim,bG (by rw[afP];exact⟨aiD (by omega),aiD (by omega)⟩)]
   refine (ih (i+1) n _ hr' (by omega) (by omega) (by simp;omega)).trans ?_
   rw[agy];rfl
theorem afu {day:Int} {v:List ai} (hv:v.length<=200) (o:aj) (l:List aa) (t:aH): ∀ (r:List ai) (i n:Nat),v.drop i=r->i<=v.length->r.length<n-> iter (X:=qo) (β:=qm) n (l,v,day,(i:Int),o.1,o.2.1,o.2.2.1,o.2.2.2.1,o.2.2.2.2.1,o.2.2.2.2.2,t.1,t.2,()) mw =some (Sum.inr (l,v,day,((i+(r.takeWhile (oX day)).length:Nat):Int),o.1,o.2.1,o.2.2.1,o.2.2.2.1,o.2.2.2.2.1,o.2.2.2.2.2,t.1,t.2,())):=by
 intro r
 induction r with
 | nil=>
  intro i n hdr hi hn
  have:i=v.length:=by
   have:=congrArg List.length hdr
   simp at this;omega
  subst this
  obtain⟨n,rfl⟩:∃ m,n=m+1:=⟨n - 1,by omega⟩
  rw[aX]
  unfold mw
  dsimp only
  rw[aK (show ¬((v.length:Int)<(v.length:Int)) by omega),aim,aiy]
  rfl
 | cons x r ih=>
  intro i n hdr hi hn
  have hxi:v[i]? =some x:=by
   have:=congrArg (·[0]?) hdr
   simpa [agT] using this
  have hr':v.drop (i+1)=r:=by
   have:=congrArg List.tail hdr
   simpa [ahG] using this
  have hlt:=(agW.1 hxi).1
  obtain⟨n,rfl⟩:∃ m,n=m+1:=⟨n - 1,by simp at hn;omega⟩
  simp only[ag8] at hn
  rw[aX]
  generalize hag:(fun y=>iter n y mw)=again
  unfold mw
  dsimp only
  rw[aG (show (i:Int)<(v.length:Int) by omega),bD,hxi,aim,aim]
  dsimp only
  by_cases hd:x.2.2.1<=day
  ·have ew:(x::r).takeWhile (oX day)=x::r.takeWhile (oX day):=by
    rw[ahH,show oX day x=true from aiD hd];rfl
   rw[aG hd,ax (n:=(i:Int)+1) (by omega) (by omega), <- hag,show (i:Int)+1=((i+1:Nat):Int) by omega,ew,ag8,show i+((List.takeWhile (oX day) r).length+1)=i+1+(List.takeWhile (oX day) r).length by omega]
   exact ih (i+1) n hr' (by omega) (by omega)
  ·have ew:(x::r).takeWhile (oX day)=[]:=by
    rw[ahH,show oX day x=false from aiB hd];rfl
   rw[aK hd,ew]
   rfl
theorem SC (o:aj) (l:List aa) (t:aH) (v:List ai) (day:Int) (tx:∀ d,d∈l->Txt d):Bl o l t v day=some (if tD o l t v day=0 then aa0 o l t v day else [],tD o l t v day,()):=by
 unfold Bl
 rw[SD _ _ _ _ tx,aim]
 dsimp only
 by_cases h:mF o l t v=0
 rotate_left
 ·have hu:tD o l t v day=mF o l t v:=by unfold tD;rw[aiM h]
  rw[bR h,aiz,hu,aiL h]
 have hm:=T4 h
 have hl:=hm.len
 rw[h,zne,aiy,uD,aim]
 dsimp only
 by_cases hd:1<=day/\day<=3652059
 rotate_left
 ·have hu:tD o l t v day=1:=by unfold tD;rw[aiL (fun e=>e h),aiL hd]
  rw[aiB hd,hu];rfl
 have hu:tD o l t v day=0:=by unfold tD;rw[aiL (fun e=>e h),aiM hd]
 rw[aiD hd,hu,aiM rfl,af2,aiy]
 have g4:∀ n,v.length<n->iter (X:=qo) (β:=qm) n (l,v,day,0,o.1,o.2.1,o.2.2.1,o.2.2.2.1,o.2.2.2.2.1,o.2.2.2.2.2,t.1,t.2,()) mw=_:=fun n hn=>afu hl o l t v 0 n rfl (aik _) hn
 rw[g4 _ (ah0 _ (ah1 (by with_reducible repeat (first | exact ail | refine ah0 _ ?_)))),aR]
 dsimp only
 have htl:(v.takeWhile (oX day)).length<=v.length:=by
  have:=congrArg List.length (xU (oX day) v)
  rw[ahe] at this
  omega
 rw[aij,bG (by simp only[afP,aiE];omega),agq,agG, <- xU]
 obtain⟨B,h1,h2⟩:=XE (hm.days day) tx
 have hb1:BC (kG o.1 (stF o l) t [] (v.takeWhile (oX day)) (fun _=>0)).2:=by
  have key:∀ (a pre:List ai) (b:Int->Int),BC b->BC (kG o.1 (stF o l) t pre a b).2:=by
   intro a
   induction a with
   | nil=>intro pre b hb;exact hb
   | cons x r ih=>intro pre b hb;exact ih _ _ (Zm (fun d s hs=>JX hm.chk hs) hm.t2.2 hb)
  exact key _ _ _ Y5
 refine (congrArg (fun q=>Option.bind q _) h2).trans ?_
 rw[aim]
 refine (congrArg (fun q=>Option.bind q _) (Em o l day tx)).trans ?_
 rw[aim]
 dsimp only
 have g6:∀ n,(stF o l day).length<n->iter (X:=nV) (β:=nU) n ([],((stF o l day).length:Int),0,stF o l day,B,()) kT=_:=fun n hn=>afq (fun s hs=>JX hm.chk hs) (Ft hm.chk day) h1 hb1 (stF o l day) 0 n [] rfl (aik _) hn (ahY _)
 rw[g6 _ (by rw[agh];exact ah0 _ (ah1 (by with_reducible repeat (first | exact ail | refine ah0 _ ?_)))),aR]
 rfl
theorem acN {st:List aq} (hst:∀ s∈st,StF s) (hlen:st.length<=500) {like:ai} {r0:aD} {rr:List aD} (hr:like.2.2.2.2.2.2.1=r0::rr) (n1 n2:Bys) (p1 p2 p3:Int) (p4:Bool) (ex:List aQ) (q:List aD): ∀ (r:List aq) (i n:Nat) (B:List ay),st.drop i=r->i<=st.length->r.length<n->B.length<=i-> iter (X:=rU) (β:=rT) n ((st.length:Int),(i:Int),like.1,like.2.1,like.2.2.1,like.2.2.2.1,like.2.2.2.2.1,like.2.2.2.2.2.1,like.2.2.2.2.2.2.1,like.2.2.2.2.2.2.2.1,like.2.2.2.2.2.2.2.2,[],[],0,0,0,false,[],[],[],n1,n2,p1,p2,p3,p4,B,ex,q,st,()) nG =some (Sum.inr ([],[],0,0,0,false,[],[],[],n1,n2,p1,p2,p3,p4,B++mK r0.1 B.length r,ex,q,())):=by
 have oY:maxLen=9223372036854775807:=rfl
 obtain⟨v1,v2,v3,v4,v5,v6,v7,v8,v9⟩:=like
 dsimp only at hr ⊢
 subst hr
 intro r
 induction r with
 | nil=>
  intro i n B hdr hi hn hB
  have:i=st.length:=by
   have:=congrArg List.length hdr
   simp at this;omega
  subst this
  obtain⟨n,rfl⟩:∃ m,n=m+1:=⟨n - 1,by omega⟩
  rw[aX]
  unfold nG
  dsimp only
  rw[aK (by omega)]
  simp only[mK,agz]
 | cons s r ih=>
  intro i n B hdr hi hn hB
  have hsi:st[i]? =some s:=by
   have:=congrArg (·[0]?) hdr
   simpa [agT] using this
  have hr':st.drop (i+1)=r:=by
   have:=congrArg List.tail hdr
   simpa [ahG] using this
  have hlt:=(agW.1 hsi).1
  have hs:=hst s (ahu hsi)
  have q0:=hs.kq0;have q1:=hs.kq1;have kq:=hs.kq
  obtain⟨n,rfl⟩:∃ m,n=m+1:=⟨n - 1,by simp at hn;omega⟩
  simp only[ag8] at hn
  rw[aX]
  generalize hag:(fun y=>iter n y nG)=again
  unfold nG mK
  dsimp only
  rw[aG (by omega),bG (by simp only[afP,aiE];omega),agq,hsi,aim,hs.had,aim]
  dsimp only
  by_cases h0:fX s<=0
  ·rw[aK (by omega),aiM h0,ax (n:=(i:Int)+1) (by omega) (by omega), <- hag,show (i:Int)+1=((i+1:Nat):Int) by omega]
   exact ih (i+1) n B hr' (by omega) (by omega) (by omega)
  ·rw[aG (by omega),aiL h0,JL _ (by omega),aim,show idx (r0::rr) 0=some r0 from rfl,aim,bG (by rw[afP];exact⟨aiD (by omega),aiD (by omega)⟩),ax (n:=(i:Int)+1) (by omega) (by omega),ax (n:=(B.length:Int)+1) (by omega) (by omega), <- hag,show (i:Int)+1=((i+1:Nat):Int) by omega]
   refine (ih (i+1) n _ hr' (by omega) (by omega) (by simp;omega)).trans ?_
   rw[agy,ag7]
   rfl
theorem VY (o:aj) (l:List aa) (num:Bys) (like:ai) (tx:∀ d,d∈l->Txt d):E4 o l num like=some (if blF o l num like≠0 then Ou else rF o l num like,blF o l num like,()):=by
 have hln:lnF o l 3652059=dD o l:=by
  unfold lnF
  by_cases h:dD o l=0
  ·rw[aiL (fun e=>e h),aiM (by omega),h]
  ·rw[aiM h]
 unfold E4
 rw[Em o l _ tx,aim]
 dsimp only
 rw[hln]
 by_cases h2:dD o l=0
 rotate_left
 ·have:blF o l num like=dD o l:=by unfold blF;rw[aiM h2]
  rw[bR h2,aiz,this,aiM h2]
 rw[h2,zne,aiy,nX,aim]
 dsimp only
 cases h3:bU num with
 | false=>
  have:blF o l num like=5:=by unfold blF;rw[aiL (fun e=>e h2),h3,aiM rfl]
  rw[show (!false)=true from rfl,aiz,this,aiM (by decide)]
 | true=>
 rw[show (!true)=false from rfl,aiy,uR,aim]
 dsimp only
 by_cases h4:jr like=0
 rotate_left
 ·have:blF o l num like=jr like:=by unfold blF;rw[aiL (fun e=>e h2),h3,aiL (by decide),aiM h4]
  rw[bR h4,aiz,this,aiM h4]
 have hrn:=(vX h4).rn
 rw[h4,zne,aiy,Mx hrn.1 hrn.2,aim]
 dsimp only
 obtain⟨r0,rr,hr⟩:∃ r0 rr,like.2.2.2.2.2.2.1=r0::rr:=by
  cases hh:like.2.2.2.2.2.2.1 with
  | nil=>rw[hh] at hrn;simp at hrn
  | cons a b=>exact⟨a,b,rfl⟩
 have hrate:zG like=r0.1:=by unfold zG;rw[hr];rfl
 have loop:=fun n hn=>acN (st:=stF o l 3652059) (fun s hs=>JX h2 hs) (Ft h2 _) hr num o.1 like.2.2.1 like.2.2.2.1 like.2.2.2.2.1 like.2.2.2.2.2.1 [] like.2.2.2.2.2.2.1 (stF o l 3652059) 0 n [] rfl (aik _) hn (ahY _)
 have loop':∀ n,(stF o l 3652059).length<n->iter (X:=rU) (β:=rT) n (((stF o l 3652059).length:Int),0,like.1,like.2.1,like.2.2.1,like.2.2.2.1,like.2.2.2.2.1,like.2.2.2.2.2.1,like.2.2.2.2.2.2.1,like.2.2.2.2.2.2.2.1,like.2.2.2.2.2.2.2.2,[],[],0,0,0,false,[],[],[],num,o.1,like.2.2.1,like.2.2.2.1,like.2.2.2.2.1,like.2.2.2.2.2.1,[],[],like.2.2.2.2.2.2.1,stF o l 3652059,()) nG=_:=loop
 rw[loop' _ (by rw[agh];exact ah1 (by with_reducible repeat (first | exact ail | refine ah0 _ ?_))),aR]
 dsimp only
 rw[ahy, <- hrate]
 show (bif ((List.length (mK (zG like) 0 (stF o l 3652059)):Int))==0 then _ else _)=_
 by_cases h5:mK (zG like) 0 (stF o l 3652059)=[]
 ·have:blF o l num like=9:=by unfold blF;rw[aiL (fun e=>e h2),h3,aiL (by decide),aiL (fun e=>e h4),aiM h5]
  rw[h5,this];rfl
 have hne:((List.length (mK (zG like) 0 (stF o l 3652059)):Int)==0)=false:=by
  rw[aiv]
  intro e
  exact h5 (List.length_eq_zero_iff.1 (by omega))
 have hbl:blF o l num like=jr (rF o l num like):=by unfold blF;rw[aiL (fun e=>e h2),h3,aiL (by decide),aiL (fun e=>e h4),aiL h5]
 rw[hne,aiy,hbl]
 refine (congrArg (fun q=>Option.bind q _) (uR (rF o l num like))).trans ?_
 rw[aim]
 dsimp only
 by_cases h6:jr (rF o l num like)=0
 ·rw[h6];rfl
 ·rw[bR h6,aiz,aiM h6]
theorem acv:Cp Ou Ou=some (true,()):=by kernel_rfl
theorem law_BillUnbilledMatchesSpec (o:aj) (l:List aa) (t:aH) (v:List ai) (day:Int) (num:Bys) (like:ai) (tx:∀ d,d∈l->Txt d):iy o l t v day num like=some (true,()):=by
 unfold iy
 rw[P9,aim,SC _ _ _ _ _ tx,aim]
 dsimp only
 rw[aix,aiy]
 have hlen:(if tD o l t v day=0 then aa0 o l t v day else []).length<=2001:=by
  by_cases h:tD o l t v day=0
  ·rw[aiM h]
   have hm:mF o l t v=0:=by
    unfold tD at h
    by_cases e:mF o l t v=0
    ·exact e
    ·rw[aiM e] at h;exact h
   have h1:=XT (kG o.1 (stF o l) t [] (v.takeWhile (oX day)) (fun _=>0)).2 (stF o l day)
   have h2:=Ft (T4 hm).chk day
   unfold aa0
   omega
  ·rw[aiL h];exact aik _
 rw[IT _ hlen,aim]
 dsimp only
 rw[af2,aiy,To,aim,VY _ _ _ _ tx,aim]
 dsimp only
 rw[aiw,aiz]
 have hs:Cp (if blF o l num like≠0 then Ou else rF o l num like) (if blF o l num like≠0 then Ou else rF o l num like)=some (true,()):=by
  by_cases h:blF o l num like=0
  ·rw[aiL (fun e=>e h)]
   refine adm ?_
   unfold blF at h
   split at h
   ·rename_i g;exact absurd h g
   split at h
   ·cases h
   split at h
   ·rename_i g;exact absurd h g
   split at h
   ·cases h
   ·exact h
  ·rw[aiM h];exact acv
 rw[hs,aim]
 dsimp only
 rw[aiz,YI]
 rfl
end Go.Md
