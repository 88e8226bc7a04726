/-
  Plain facts: the reference's match; invoices taken back. No condition.
-/
import Derived.Test.YtcpmaicaibdafaaGreatDoorZj
import Derived.Test.YtcpmaicaibdafaaGreatDoorZk2
import Derived.Test.YtcpmaicaibdafaaGreatDoorZf
import Derived.Test.YtcpmaicaibdafaaGreatDoorZg
set_option linter.all false
set_option linter.all false
set_option maxRecDepth 20000
namespace Go.Md
open Go.Dn
def mqZ (d:ai):Int:=d.1*10 ^ (3 - d.2).toNat
theorem aez {d:ai} (h0:0≤d.2) (h3:d.2≤3):ko d=mqZ d*1000000:=by
 unfold ko mqZ
 rw[show (9 - d.2).toNat=(3 - d.2).toNat+6 by omega,ag7, ← agX]
 rfl
theorem Yf {d:ai} (h1:d.1.natAbs≤2000000000000000) (p0:0≤d.2) (p3:d.2≤3):yN d=some (mqZ d,()):=by
 obtain⟨u,p⟩:=d
 dsimp only at h1 p0 p3
 obtain⟨k,hk⟩:∃ k:Nat,(3 - p:Int)=(k:Int):=⟨(3 - p).toNat,by omega⟩
 have hk3:k≤3:=by omega
 have hv:mqZ (u,p)=u*10 ^ k:=by
  unfold mqZ
  dsimp only
  rw[hk,ahc]
 rw[hv]
 unfold yN
 dsimp only
 rw[hk,aC (n:=(k:Int)) (by omega) (by omega)]
 have hm:∀ i,i≤3→(u*10 ^ i).natAbs≤2000000000000000000:=fun i hi=>by
  rw[ag0,ag3]
  have h4:(10:Int).natAbs ^ i≤10 ^ 3:=ai5 (by decide) hi
  have h5:=ai0 h1 h4
  omega
 have loop:∀ m,k<m→iter (X:=yO) (β:=C8) m (u,(k:Int),0,()) C7=some (Sum.inr (u*10 ^ k,())):=by
  intro m hm'
  refine bX (Inv:=fun i X=>X=((u*10 ^ i,(k:Int),(i:Int),()):yO)) k (fun z=>z=some (Sum.inr (u*10 ^ k,()))) ?_ ?_ m 0 _ (by simp) (ai8 _) (by omega)
  ·rintro i X again hi rfl hag
   unfold C7
   dsimp only
   have h1:=hm (i+1) (by omega)
   have e:u*10 ^ i*10=u*10 ^ (i+1):=by rw[ag8,agX]
   rw[ajr (show (i:Int)<(k:Int) by omega),ajo,e,aC (n:=u*10 ^ (i+1)) (by omega) (by omega),aC (n:=(i:Int)+1) (by omega) (by omega)]
   exact hag _ rfl
  ·rintro X again rfl
   unfold C7
   dsimp only
   rw[ajq (show ¬(k:Int)<(k:Int) by omega),ajn]
 rw[loop _ (by simp only[ag1];omega)]
 rfl
theorem ZZ {n:Int} (h:n.natAbs≤2000000000000000):yN (nu n)=some (n,()):=by
 have hm:=aa4 h
 have hu:=hm.unit
 rw[Yf (by omega) hm.p0 hm.p3]
 exact congrArg (fun z=>some (z,())) hm.val
structure StF (s:aF):Prop extends StaOk s where
 had:aaf s=some (kqZ s,())
 kq:dU s=kqZ s*1000000
 kq0:0≤kqZ s
 kq1:kqZ s≤1000000000000000
theorem afS {o:av} {l:List aj} (h:gA o l=0) {d:Int} {s:aF} (hs:s∈stF o l d):StF s:=by
 obtain⟨k1,k2,k3⟩:=Ym h hs
 obtain⟨x,hx,hp,rfl⟩:=UT h hs
 refine⟨Yo hx hp, ?_,k1,k2,k3⟩
 have h1:=hx.ret0;have h2:=hx.retr;have h3:=hx.rcvs;have h4:=hx.shp1
 have hk:=Lp hx
 unfold aaf
 have e1:yN (jO x).2.2.2.2.2.2.2.1=some (x.rcv,()):=ZZ (by omega)
 have e2:yN (jO x).2.2.2.2.2.2.2.2.1=some (x.ret,()):=ZZ (by omega)
 rw[e1,ajb,e2,ajb]
 dsimp only
 rw[aC (by omega) (by omega),show x.rcv - x.ret=kqZ (jO x) by omega]
end Go.Md
set_option linter.all false
set_option maxRecDepth 20000
namespace Go.Md
open Go.Dn
abbrev RB:=List (Int×Int)
def adn (B:RB) (b:Int→Int):Prop:=∀ n,Option.getD (α:=Int) (cz (k:=tI) (v:=tI) B n) 0*1000000=b n
theorem adn.set {B:RB} {b:Int→Int} (h:adn B b) (k z:Int):adn (nM (k:=tI) (v:=tI) B k z) (DA b k (z*1000000)):=fun n=>by
 have e:= @Oc tI tI Cj B k z n
 refine (congrArg (fun q=>Option.getD (α:=Int) q 0*1000000) e).trans ?_
 unfold DA
 cases hb:Ty.beq tI k n with
 | true=>
  have:=(Cj k n).1 hb
  subst this
  rw[ajo,ajz rfl];rfl
 | false=>
  have hne:¬n=k:=fun e=>by
   subst e
   have:=(Cj n n).2 rfl
   rw[hb] at this;cases this
  rw[ajn]
  exact (h n).trans (ajy hne).symm
theorem adM {y:ah} (h:eH y=0):∀ x∈y.2.2.2.2.2.2.2.1,TO x∧x.2.2.2.1.2≤3:=fun x hx=>⟨aee ((sN h).lines x hx),((sN h).lines x hx).qp⟩
end Go.Md
set_option linter.all false
set_option maxRecDepth 20000
namespace Go.Md
open Go.Dn
def M6 (b:Int→Int):Prop:=∀ n,∃ m,b n=m*1000000
theorem aet:M6 (fun _=>0):=fun _=>⟨0,rfl⟩
theorem Ob {st:List aF} {t:Int×Int} {i:Int}:∀ (l:List au) (k:Nat) (b:Int→Int),(∀ x∈l,TO x∧x.2.2.2.1.2≤3)→M6 b→M6 (nA st t i k l b).2
 | [],_,_,_,h=>h
 | x::r,k,b,hx,h=>by
  unfold nA
  split
  ·refine Ob r _ _ (fun y hy=>hx y (ah8 _ hy)) ?_
   intro n
   unfold DA
   split
   ·obtain⟨m,hm⟩:=h x.2.1
    obtain⟨h1,h2⟩:=hx x ah9
    exact⟨m+mqZ x.2.2.2.1,by rw[hm,aez h1.q.2.1 h2,Int.add_mul]⟩
   ·exact h n
  ·exact Ob r _ _ (fun y hy=>hx y (ah8 _ hy)) h
theorem aeN {num:Bys} {stf:Int→List aF} {t:Int×Int} {pre:List ah} {i:Int} {v:ah} {b:Int→Int} (hv:eH v=0) (h:M6 b):M6 (vK num stf t pre i v b).2:=by
 unfold vK
 split
 ·exact h
 ·split
  ·exact h
  ·exact Ob _ _ _ (adM hv) h
theorem Vt {num:Bys} {stf:Int→List aF} {t:Int×Int}:∀ (l pre:List ah) (b:Int→Int),(∀ x∈l,eH x=0)→M6 b→M6 (yA num stf t pre l b).2
 | [],_,_,_,h=>h
 | v::r,pre,b,hl,h=>Vt r _ _ (fun y hy=>hl y (ah8 _ hy)) (aeN (hl v ah9) h)
theorem Qe:∀ (r:List ah) (p:Option ah),kT p r=0→(∀ q,p=some q→∀ y∈r,q.2.2.1≤y.2.2.1)∧r.Pairwise fun a b=>a.2.2.1≤b.2.2.1
 | [],_,_=>⟨fun _ _ y hy=>(by cases hy),List.Pairwise.nil⟩
 | x::r,p,h=>by
  simp only[kT] at h
  split at h
  ·rename_i h1;exact absurd h h1
  split at h
  ·cases h
  rename_i h2
  obtain⟨g1,g2⟩:=Qe r (some x) h
  have g3:=g1 x rfl
  refine⟨?_,ain.2 ⟨g3,g2⟩⟩
  intro q hq y hy
  subst hq
  have h3:¬x.2.2.1<q.2.2.1:=fun e=>h2 (ajr e)
  rcases ah7.1 hy with rfl | hy
  ·omega
  ·have:=g3 y hy;omega
def Bp (day:Int) (x:ah):Bool:=decide (x.2.2.1≤day)
def BW (b:Int→Int):List aF→List iM
 | []=>[]
 | s::r=>if dU s - b s.1≤0 then BW b r else (s.1,nu ((dU s - b s.1) / 1000000),s.2.2.2.2.2.1)::BW b r
theorem YA (b:Int→Int):∀ st:List aF,(BW b st).length≤st.length
 | []=>aiN _
 | s::r=>by
  have:=YA b r
  unfold BW
  split
  ·simp only[ahT];omega
  ·simp only[ahT];omega
def De (o:av) (l:List aj) (t:bw) (v:List ah) (day:Int):Int:=if mF o l t v≠0 then mF o l t v else if 1≤day∧day≤3652059 then 0 else 1
def RH (o:av) (l:List aj) (t:bw) (v:List ah) (day:Int):List iM:=BW (yA o.1 (stF o l) t [] (v.takeWhile (Bp day)) (fun _=>0)).2 (stF o l day)
theorem YC {day:Int} {v:List ah} (hv:v.length≤200) (o:av) (l:List aj) (t:bw) (S:Ax) (M:Ed) (out:CB):
 ∀ (r:List ah) (i n:Nat),v.drop i=r→i≤v.length→r.length<n→(∀ y∈r,day<y.2.2.1)→
  iter (X:=nJ) (β:=nI) n (day,v,(v.length:Int),(i:Int),o.1,o.2.1,o.2.2.1,o.2.2.2.1,o.2.2.2.2.1,o.2.2.2.2.2,l,t.1,t.2,v,S,M,out,()) iO
   =some (Sum.inr (day,o.1,o.2.1,o.2.2.1,o.2.2.2.1,o.2.2.2.2.1,o.2.2.2.2.2,l,t.1,t.2,v,S,M,out,())):=by
 intro r
 induction r with
 | nil=>
  intro i n hdr hi hn _
  have:i=v.length:=by
   have:=congrArg List.length hdr
   simp at this;omega
  subst this
  obtain⟨n,rfl⟩:∃ m,n=m+1:=⟨n - 1,by omega⟩
  rw[bY]
  unfold iO
  dsimp only
  rw[aO (by omega)]
 | cons x r ih=>
  intro i n hdr hi hn hd
  have hxi:v[i]? =some x:=by
   have:=congrArg (·[0]?) hdr
   simpa [ahE] using this
  have hr':v.drop (i+1)=r:=by
   have:=congrArg List.tail hdr
   simpa [aix] using this
  have hlt:=(ahH.1 hxi).1
  obtain⟨n,rfl⟩:∃ m,n=m+1:=⟨n - 1,by simp at hn;omega⟩
  simp only[ahT] at hn
  have hdx:=hd x ah9
  rw[bY]
  generalize hag:(fun y=>iter n y iO)=again
  unfold iO
  dsimp only
  rw[aP (show (i:Int)<(v.length:Int) by omega),bQ,hxi,ajb,aO (show ¬x.2.2.1≤day by omega),aC (n:=(i:Int)+1) (by omega) (by omega), ← hag,show (i:Int)+1=((i+1:Nat):Int) by omega]
  exact ih (i+1) n hr' (by omega) (by omega) (fun y hy=>hd y (ah8 _ hy))
theorem aea {o:av} {l:List aj} {t:bw} {v:List ah} (h:MOk o l t v) (day:Int):∀ (r:List ah) (i:Nat) (S:Ax) (M:Ed) (b:Int→Int) (out:CB),v.drop i=r→i≤v.length→r.Pairwise (fun a b=>a.2.2.1≤b.2.2.1)→oM o l S→BOk M b→BB b→out.length+500*r.length≤900000→
 ∃ S' M' out',oM o l S'∧BOk M' (yA o.1 (stF o l) t (v.take i) (r.takeWhile (Bp day)) b).2∧∀ n,r.length<n→
  iter (X:=nJ) (β:=nI) n (day,v,(v.length:Int),(i:Int),o.1,o.2.1,o.2.2.1,o.2.2.2.1,o.2.2.2.2.1,o.2.2.2.2.2,l,t.1,t.2,v,S,M,out,()) iO
   =some (Sum.inr (day,o.1,o.2.1,o.2.2.1,o.2.2.2.1,o.2.2.2.2.1,o.2.2.2.2.2,l,t.1,t.2,v,S',M',out',())):=by
 intro r
 induction r with
 | nil=>
  intro i S M b out hdr hi hp hS hM hb ho
  exact⟨S,M,out,hS,hM,fun n hn=>YC h.len o l t S M out [] i n hdr hi hn (fun y hy=>by cases hy)⟩
 | cons x r ih=>
  intro i S M b out hdr hi hp hS hM hb ho
  have hxi:v[i]? =some x:=by
   have:=congrArg (·[0]?) hdr
   simpa [ahE] using this
  have hr':v.drop (i+1)=r:=by
   have:=congrArg List.tail hdr
   simpa [aix] using this
  have hlt:=(ahH.1 hxi).1
  obtain⟨p1,p2⟩:=ain.1 hp
  have hv:=h.len
  by_cases hd:x.2.2.1≤day
  rotate_left
  ·have ew:(x::r).takeWhile (Bp day)=[]:=by
    rw[aiy,show Bp day x=false from ajq hd];rfl
   rw[ew]
   refine⟨S,M,out,hS,hM,fun n hn=>YC h.len o l t S M out (x::r) i n hdr hi hn ?_⟩
   intro y hy
   rcases ah7.1 hy with rfl | hy
   ·omega
   ·have:=p1 y hy;omega
  have ew:(x::r).takeWhile (Bp day)=x::r.takeWhile (Bp day):=by
   rw[aiy,show Bp day x=true from ajr hd];rfl
  rw[ew]
  simp only[ahT] at ho
  have hx0:=Lj h.go x (aie hxi)
  have ho':out.length+500≤1000000:=af6 ho
  obtain⟨S1,M1,g1,g2,g3⟩:=aaV (out:=out) h.chk h.t1 h.t2 hv hxi hx0 hS hM hb ho'
  have hb1:BB (vK o.1 (stF o l) t (v.take i) i x b).2:=ZS (abq h.chk) h.t2.2 hb
  have hlen:(vK o.1 (stF o l) t (v.take i) i x b).1.length≤500:=adG hx0
  have etl:((v.take i).length:Int)=(i:Int):=by rw[ahZ];omega
  obtain⟨S2,M2,out2,q1,q2,q3⟩:=ih (i+1) S1 M1 _ (out++(vK o.1 (stF o l) t (v.take i) i x b).1) hr' (by omega) p2 g1 g2 hb1 (by rw[ahS];exact af7 ho hlen)
  rw[F8 hxi] at q2
  simp only[yA]
  rw[etl]
  refine⟨S2,M2,out2,q1,q2, ?_⟩
  intro n hn
  simp only[ahT] at hn
  obtain⟨n,rfl⟩:∃ m,n=m+1:=⟨n - 1,by omega⟩
  rw[bY]
  generalize hag:(fun y=>iter n y iO)=again
  unfold iO
  dsimp only
  have g3':me ((o.1,o.2.1,o.2.2.1,o.2.2.2.1,o.2.2.2.2.1,o.2.2.2.2.2),l,(t.1,t.2),v,S,M,out,()) (i:Int)=_:=g3
  rw[aP (show (i:Int)<(v.length:Int) by omega),bQ,hxi,ajb,aP hd,g3',ajb]
  dsimp only
  rw[aC (n:=(i:Int)+1) (by omega) (by omega), ← hag,show (i:Int)+1=((i+1:Nat):Int) by omega]
  exact q3 n (by omega)
theorem agb {st:List aF} (hst:∀ s∈st,StF s) (hlen:st.length≤500) {M:Ed} {b:Int→Int} (hM:BOk M b) (hb:BB b) (hb6:M6 b)
 (o1 o2 o3:Bys) (o4 o5:Int) (o6:List bC) (l:List aj) (t1 t2:Int) (v:List ah) (out:CB) (S:Ax):
 ∀ (r:List aF) (i n:Nat) (R:List iM),st.drop i=r→i≤st.length→r.length<n→R.length≤i→
  iter (X:=pN) (β:=pM) n (R,st,(st.length:Int),(i:Int),o1,o2,o3,o4,o5,o6,l,t1,t2,v,out,S,M,()) mM=some (Sum.inr (R++BW b r,())):=by
 have BE:maxLen=9223372036854775807:=rfl
 intro r
 induction r with
 | nil=>
  intro i n R hdr hi hn hR
  have:i=st.length:=by
   have:=congrArg List.length hdr
   simp at this;omega
  subst this
  obtain⟨n,rfl⟩:∃ m,n=m+1:=⟨n - 1,by omega⟩
  rw[bY]
  unfold mM
  dsimp only
  rw[aO (by omega)]
  simp only[BW,ahj]
 | cons s r ih=>
  intro i n R hdr hi hn hR
  have hsi:st[i]? =some s:=by
   have:=congrArg (·[0]?) hdr
   simpa [ahE] using this
  have hr':st.drop (i+1)=r:=by
   have:=congrArg List.tail hdr
   simpa [aix] using this
  have hlt:=(ahH.1 hsi).1
  have hs:=hst s (aie hsi)
  have k0:=hs.k0;have k1:=hs.k1;have q0:=hs.kq0;have q1:=hs.kq1;have kq:=hs.kq
  have hb':=hb s.1
  obtain⟨m,hm⟩:=hb6 s.1
  obtain⟨n,rfl⟩:∃ m,n=m+1:=⟨n - 1,by simp at hn;omega⟩
  simp only[ahT] at hn
  rw[bY]
  generalize hag:(fun y=>iter n y mM)=again
  unfold mM BW
  dsimp only
  rw[aP (by omega),bQ,hsi,ajb,Uv hs.toStaOk,ajb,hM s.1,Aw _ _ (jd (by omega)) (jd (by omega)),ajb,iu,ajb]
  dsimp only
  rw[Yk,aC (n:=(i:Int)+1) (by omega) (by omega), ← hag,show (i:Int)+1=((i+1:Nat):Int) by omega]
  by_cases h0:dU s - b s.1≤0
  ·rw[aP h0,ajz h0]
   exact ih (i+1) n R hr' (by omega) (by omega) (by omega)
  ·have ed:(dU s - b s.1) / 1000000=kqZ s - m:=by omega
   have ek:dU s - b s.1=(kqZ s - m)*1000000:=by omega
   rw[aO h0,ajy h0,ed,ek,NL (by omega),ajb]
   dsimp only
   rw[zne,ajn,aW (by rw[agC];exact⟨ajr (by omega),ajr (by omega)⟩)]
   refine (ih (i+1) n _ hr' (by omega) (by omega) (by simp;omega)).trans ?_
   rw[ahi];rfl
theorem KB {α:Type} (p:α→Bool):∀ l:List α,l.takeWhile p=l.take (l.takeWhile p).length
 | []=>rfl
 | a::r=>by
  rw[aiy]
  split
  ·rw[ahT,List.take_succ_cons, ← KB p r]
  ·rfl
theorem MOk.days {o:av} {l:List aj} {t:bw} {v:List ah} (h:MOk o l t v) (day:Int):MOk o l t (v.takeWhile (Bp day)):=by
 rw[KB]
 exact h.take _
theorem Bj (o:av) (l:List aj) (t:bw) (v:List ah) (day:Int):rW o l t v day=some (if De o l t v day=0 then RH o l t v day else [],De o l t v day,()):=by
 unfold rW
 rw[Ux]
 by_cases h:mF o l t v=0
 rotate_left
 ·have hu:De o l t v day=mF o l t v:=by unfold De;rw[ajz h]
  rw[ajz h,hu,ajy h]
  unfold Tg
  dsimp only
  rw[dM h,ajo]
 have hm:=ae1 h
 have hl:=hm.len
 rw[ajy (by simpa using h)]
 refine Eq.trans Th ?_
 rw[XP hm,ajb]
 dsimp only
 rw[zne,ajn,qH,ajb]
 dsimp only
 by_cases hd:1≤day∧day≤3652059
 rotate_left
 ·have hu:De o l t v day=1:=by unfold De;rw[ajy (fun e=>e h),ajy hd]
  rw[ajq hd,hu];rfl
 have hu:De o l t v day=0:=by unfold De;rw[ajy (fun e=>e h),ajz hd]
 rw[ajr hd,hu,ajz rfl,agN,ajn]
 obtain⟨S1,M1,out1,g1,g2,g3⟩:=aea hm day v 0 [] [] (fun _=>0) [] rfl (ai8 _) (Qe v none hm.go).2 (YK o l) aes ZD (by simp;omega)
 have g4:∀ n,v.length<n→iter (X:=nJ) (β:=nI) n (day,v,(v.length:Int),0,o.1,o.2.1,o.2.2.1,o.2.2.2.1,o.2.2.2.2.1,o.2.2.2.2.2,l,t.1,t.2,v,[],[],[],()) iO=_:=g3
 rw[g4 _ (by with_reducible repeat (first | exact ai9 | refine aiQ ?_ | refine aiP _ ?_)),aS]
 dsimp only
 have hb1:BB (yA o.1 (stF o l) t [] (v.takeWhile (Bp day)) (fun _=>0)).2:=Vs (abq hm.chk) hm.t2.2 _ _ _ ZD
 have hb6:M6 (yA o.1 (stF o l) t [] (v.takeWhile (Bp day)) (fun _=>0)).2:=Vt _ _ _ (fun x hx=>Lj (hm.days day).go x hx) aet
 obtain⟨S2,hS2,e2⟩:=Qp (t:=t) (v:=v) (M:=M1) (out:=out1) g1 day
 refine (congrArg (fun q=>Option.bind q _) e2).trans ?_
 rw[ajb]
 dsimp only
 have hsl:=US hm.chk day
 have g5:=fun n hn=>agb (fun s hs=>afS hm.chk hs) hsl g2 hb1 hb6 o.1 o.2.1 o.2.2.1 o.2.2.2.1 o.2.2.2.2.1 o.2.2.2.2.2 l t.1 t.2 v out1 S2 (stF o l day) 0 n [] rfl (ai8 _) hn (aiN _)
 have g6:∀ n,(stF o l day).length<n→iter (X:=pN) (β:=pM) n ([],stF o l day,((stF o l day).length:Int),0,o.1,o.2.1,o.2.2.1,o.2.2.2.1,o.2.2.2.2.1,o.2.2.2.2.2,l,t.1,t.2,v,out1,S2,M1,()) mM=_:=g5
 rw[g6 _ (by with_reducible repeat (first | exact ai9 | refine aiQ ?_ | refine aiP _ ?_)),aS]
 rfl
end Go.Md
set_option linter.all false
set_option maxRecDepth 20000
namespace Go.Md
open Go.Dn
def RW (r:List aF) (b:Int→Int):Int→Int:=fun n=>match r.find? (fun s=>s.1==n) with
 | some s=>if dU s≤0 then b n else 0
 | none=>b n
theorem ads (d:ai):ko (Hu d)= -ko d:=by
 unfold ko Hu
 dsimp only
 rw[ag6]
theorem Ls {st:List aF} (hst:∀ s∈st,dU s=kqZ s*1000000∧0≤kqZ s∧kqZ s≤1000000000000000) (hnd:st.Pairwise fun a b=>a.1≠b.1) (i:Int) (rate:Bys):
 ∀ (r:List aF) (k q:Nat) (b:Int→Int),(∀ s∈r,s∈st)→r.Pairwise (fun a b=>a.1≠b.1)→(∀ s∈r,0<dU s→b s.1=dU s)→
  nA st (0,0) i k ((kP rate q r).map xF) b=([],RW r b)
 | [],k,q,b,_,_,_=>rfl
 | s::r,k,q,b,hr,hp,hb=>by
  obtain⟨p1,p2⟩:=ain.1 hp
  obtain⟨hk,hk0,hk1⟩:=hst s (hr s ah9)
  have hnone:r.find? (fun x=>x.1==s.1)=none:=by
   rw[ahw]
   intro x hx
   have:=p1 x hx
   simp;omega
  unfold kP
  by_cases h0:dU s≤0
  ·rw[ajz h0,Ls hst hnd i rate r k q b (fun x hx=>hr x (ah8 _ hx)) p2 (fun x hx=>hb x (ah8 _ hx))]
   refine congrArg (Prod.mk _) (funext fun n=> ?_)
   unfold RW
   rw[ahv]
   cases hn:(s.1==n) with
   | false=>rfl
   | true=>
    have en:s.1=n:=by simpa using hn
    subst en
    rw[hnone]
    dsimp only
    rw[ajz h0]
  ·rw[ajy h0,ah2,nA]
   have hb0:=hb s ah9 (by omega)
   have el:(xF ((((q:Int)+1),s.1,s.2.1,nu (kqZ s),s.2.2.1,s.2.2.2.2.1,1,[],rate):au))=((((q:Int)+1),s.1,s.2.1,Hu (nu (kqZ s)),s.2.2.1,s.2.2.2.2.1,1,[],rate):au):=rfl
   rw[el]
   dsimp only
   have ez:b s.1+ko (Hu (nu (kqZ s)))=0:=by
    rw[ads,ZL hk0 hk1,hb0,hk];omega
   rw[ez]
   have hkz:zK st (0,0) ((((q:Int)+1),s.1,s.2.1,Hu (nu (kqZ s)),s.2.2.1,s.2.2.2.2.1,1,[],rate):au) 0=0:=by
    have:=Qg (no:=(q:Int)+1) (rate:=rate) (n:=0) (NM hnd s (hr s ah9)) hk 0
    rw[ajy (by omega)] at this
    exact this
   rw[ajz hkz,
    Ls hst hnd i rate r (k+1) (q+1) _ (fun x hx=>hr x (ah8 _ hx)) p2 (fun x hx=>by
     unfold DA
     rw[ajy (fun e=>p1 x hx e.symm)]
     exact hb x (ah8 _ hx))]
   refine congrArg (Prod.mk _) (funext fun n=> ?_)
   unfold RW DA
   rw[ahv]
   cases hn:(s.1==n) with
   | false=>
    have en:¬n=s.1:=fun e=>by rw[e] at hn;simp at hn
    rw[ajy en]
   | true=>
    have en:s.1=n:=by simpa using hn
    subst en
    rw[hnone]
    dsimp only
    rw[ajz rfl,ajy h0]
theorem aaA (st:List aF):RW st (Ay st fun _=>0)=fun _=>0:=funext fun n=>by
 unfold RW Ay
 cases st.find? (fun s=>s.1==n) with
 | none=>rfl
 | some s=>
  dsimp only
  by_cases h:dU s≤0
  ·rw[ajz h,ajz h]
  ·rw[ajy h]
theorem YB {b:Int→Int}:∀ {r:List aF},(∀ s∈r,dU s≤b s.1)→BW b r=[]
 | [],_=>rfl
 | s::r,h=>by
  have h1:=h s ah9
  unfold BW
  rw[ajz (by omega)]
  exact YB fun x hx=>h x (ah8 _ hx)
theorem VP {rate:Bys}:∀ {r:List aF} {q:Nat},kP rate q r≠[]→BW (fun _=>0) r≠[]
 | [],_,h=>absurd rfl h
 | s::r,q,h=>by
  unfold kP at h
  unfold BW
  by_cases h0:dU s≤0
  ·rw[ajz h0] at h
   rw[ajz (by omega)]
   exact VP h
  ·rw[ajy (by omega)]
   exact fun e=>by cases e
theorem tY:ri=some (true,()):=by
 unfold ri
 have h:∀ d∈[((15,1):ai),(2,0)],cA d:=by
  intro d hd
  simp only[ah7,List.not_mem_nil,or_false] at hd
  rcases hd with rfl | rfl
  ·exact⟨by decide,by decide,by decide⟩
  ·exact⟨by decide,by decide,by decide⟩
 rw[LY (by simp) h,ajb]
 have e:Yp [((15,1):ai),(2,0)]=((35,1),0):=by decide
 rw[e]
 rfl
theorem acW {v:ah} {n:Bys} {d:Int} (hr:(UN v n d).2.1=0):eH v=0∧eH (pH v n d)=0∧UN v n d=(pH v n d,0,()):=by
 unfold UN at hr ⊢
 by_cases h0:eH v=0
 ·rw[ajy (by simpa using h0)] at hr ⊢
  cases hn:cM n with
  | false=>rw[hn,ajz rfl] at hr;cases hr
  | true=>
   rw[hn,ajy (by simp)] at hr
   rw[ajy (by simp)]
   by_cases he:n=v.1
   ·rw[ajz he] at hr;cases hr
   ·rw[ajy he] at hr ⊢
    by_cases hd:d<v.2.2.1∨3652059<d
    ·rw[ajz hd] at hr;cases hr
    ·rw[ajy hd] at hr ⊢
     by_cases h1:eH (pH v n d)=0
     ·rw[ajy (by simpa using h1)]
      exact⟨h0,h1,rfl⟩
     ·rw[ajz h1] at hr
      exact absurd hr h1
 ·rw[ajz h0] at hr
  exact absurd hr h0
theorem ae5 {z p:Int} (hz:mZ z=true) (hp:0≤p∧p≤4):∃ q,zq [(z,p),(-z,p)]=some ((0,q),0,()):=by
 have hb:z.natAbs≤1000000000000000:=by
  unfold mZ at hz
  have h1:=ajF hz
  have e:MU=1000000000000000:=rfl
  rw[e] at h1
  omega
 have h:∀ d∈[((z,p):ai),(-z,p)],cA d:=by
  intro d hd
  simp only[ah7,List.not_mem_nil,or_false] at hd
  rcases hd with rfl | rfl
  ·exact⟨by show z.natAbs≤_;omega,by show (0:Int)≤p;omega,by show p≤9;omega⟩
  ·exact⟨by show (-z).natAbs≤_;omega,by show (0:Int)≤p;omega,by show p≤9;omega⟩
 rw[LY (by simp) h]
 have e0:rf (jW [((z,p):ai),(-z,p)]) [((z,p):ai),(-z,p)]=0:=by
  generalize jW [((z,p):ai),(-z,p)]=m
  simp only[rf,List.foldl_cons,List.foldl_nil]
  rw[ag6]
  omega
 unfold Yp
 rw[e0,ajz (by decide)]
 exact⟨_,rfl⟩
theorem law_TopReversedInvoicesCancel (o:av) (l:List aj) (like:ah) (day:Int):jw o l like day=some (true,()):=by
 unfold jw
 rw[TT,ajb]
 dsimp only
 by_cases h:blF o l [105,110,118,45,49] like=0
 rotate_left
 ·rw[dM h,ajo,ajb]
  dsimp only
  rw[ajo,oA h,ajn,ajz h,tY]
  rfl
 rw[h,zne,ajn,ajy (fun e=>e rfl)]
 have hc:gA o l=0:=by
  apply Decidable.byContradiction
  intro e
  unfold blF at h;rw[ajz e] at h;exact e h
 have h':=h
 unfold blF at h'
 rw[ajy (fun e=>e hc)] at h'
 have hnm:cM [105,110,118,45,49]=true:=by
  cases hq:cM [105,110,118,45,49] with
  | true=>rfl
  | false=>rw[hq,ajz rfl] at h';cases h'
 rw[hnm,ajy (by decide)] at h'
 have hlk:eH like=0:=by
  apply Decidable.byContradiction
  intro e
  rw[ajz e] at h';exact e h'
 rw[ajy (fun e=>e hlk)] at h'
 have hne:kP (zR like) 0 (stF o l 3652059)≠[]:=fun e=>by rw[ajz e] at h';cases h'
 rw[ajy hne] at h'
 obtain⟨_,h2⟩:=Ew hc
 have hll:l.length≤2000:=(En h2).1
 generalize hv:Gc o l [105,110,118,45,49] like=v at h' ⊢
 have hdr:=aeO h'
 have hlast:(Option.bind (some (decide (v.2.2.1<Ep l),())) fun r=>some (r.1,()))=some (decide (v.2.2.1<Ep l),()):=rfl
 have e3:(bif decide (day<v.2.2.1) then some (true,()) else bif decide (((List.length l:Int))>0) then Option.bind (idx l (w64 (((List.length l:Int)) - 1))) fun y2=>some (decide (v.2.2.1<y2.1),()) else some (false,()))
  =some (decide (day<v.2.2.1)||decide (v.2.2.1<Ep l),()):=by
  by_cases hd:day<v.2.2.1
  ·rw[aP hd,ajr hd,Bool.true_or]
  rw[aO hd,ajq hd,agI]
  unfold Ep
  cases hcl:l.getLast? with
  | none=>
   have:l=[]:=List.getLast?_eq_none_iff.1 hcl
   subst this
   rw[aO (by simp)]
   dsimp only
   rw[ajq (by omega)]
  | some d=>
   have hne:l≠[]:=fun e=>by rw[e] at hcl;cases hcl
   have hpos:0<l.length:=List.length_pos_iff.2 hne
   rw[aP (by omega),aC (by omega) (by omega),show (l.length:Int) - 1=((l.length - 1:Nat):Int) by omega,bQ, ← List.getLast?_eq_getElem?,hcl]
   rfl
 rw[e3,ajb]
 dsimp only
 by_cases hday:day<v.2.2.1∨v.2.2.1<Ep l
 ·have:(decide (day<v.2.2.1)||decide (v.2.2.1<Ep l))=true:=by
   rw[agP,ajs,ajs];exact hday
  rw[this,ajo,show ((0:Int)==0)=true from rfl,ajo,tY]
  rfl
 have hdf:(decide (day<v.2.2.1)||decide (v.2.2.1<Ep l))=false:=by
  rw[agO,decide_eq_false_iff_not,decide_eq_false_iff_not]
  exact⟨fun e=>hday (.inl e),fun e=>hday (.inr e)⟩
 rw[hdf,ajn,Qz,ajb]
 by_cases hr:(UN v [105,110,118,45,50] v.2.2.1).2.1=0
 rotate_left
 ·rw[dM hr,ajo,tY]
  rfl
 obtain⟨_,hw0,hre⟩:=acW hr
 rw[hre]
 dsimp only
 rw[zne,ajn]
 by_cases BE:day>3652059
 ·rw[aP BE,tY]
  rfl
 rw[aO BE]
 have hd1:1≤day∧day≤3652059:=⟨by omega,by omega⟩
 have est:stF o l v.2.2.1=stF o l 3652059:=aal hc hdr (by omega)
 have estd:stF o l day=stF o l 3652059:=aal hc hd1 (by omega)
 have hst:∀ s∈stF o l 3652059,dU s=kqZ s*1000000∧0≤kqZ s∧kqZ s≤1000000000000000:=fun s hs=>Ym hc hs
 have hnd:=ada hc 3652059
 generalize hwd:pH v [105,110,118,45,50] v.2.2.1=w at hw0 ⊢
 have hwday:w.2.2.1=v.2.2.1:=by rw[← hwd];rfl
 have hword:w.2.1=v.2.1:=by rw[← hwd];rfl
 have hwnum:w.1=[105,110,118,45,50]:=by rw[← hwd];rfl
 have hvord:v.2.1=o.1:=by rw[← hv];rfl
 have hvnum:v.1=[105,110,118,45,49]:=by rw[← hv];rfl
 have hvl:v.2.2.2.2.2.2.2.1=kP (zR like) 0 (stF o l 3652059):=by rw[← hv];rfl
 have hwl:w.2.2.2.2.2.2.2.1=(kP (zR like) 0 (stF o l 3652059)).map xF:=by rw[← hwd, ← hvl];rfl
 have m0:MOk o l (0,0) []:=⟨hc,by decide,by decide,by simp,rfl⟩
 have m1:MOk o l (0,0) [v]:=⟨hc,by decide,by decide,by simp,by simp[kT,h']⟩
 have m2:MOk o l (0,0) [v,w]:=⟨hc,by decide,by decide,by simp,by rw[aaW h' (by rw[hwday];omega)];exact hw0⟩
 have hi0:∀ b i,(∀ s∈stF o l 3652059,b s.1=0)→vK o.1 (stF o l) (0,0) [] i v b=([],Ay (stF o l 3652059) b):=fun b i hb=>by
  unfold vK
  rw[ajy (fun e=>e hvord),ajy (by simp),est,hvl]
  exact Jh hst hnd i (zR like) (stF o l 3652059) 0 0 b (fun _ hs=>hs) hnd hb
 have haft:∀ s∈stF o l 3652059,(dU s≤0→Ay (stF o l 3652059) (fun _=>0) s.1=0)∧(0<dU s→Ay (stF o l 3652059) (fun _=>0) s.1=dU s):=fun s hs=>by
  unfold Ay
  rw[NM hnd s hs]
  dsimp only
  exact⟨fun h0=>ajz h0,fun h0=>ajy (by omega)⟩
 have hi1:∀ i,vK o.1 (stF o l) (0,0) [v] i w (Ay (stF o l 3652059) fun _=>0)=([],fun _=>0):=fun i=>by
  unfold vK
  rw[ajy (fun e=>e (hword.trans hvord)),ajy (by rw[ahf,List.any_nil,hvnum,hwnum];decide),hwday,est,hwl,
   Ls hst hnd i (zR like) (stF o l 3652059) 0 0 _ (fun _ hs=>hs) hnd (fun s hs h0=>(haft s hs).2 h0),aaA]
 have tk0:([]:List ah).takeWhile (Bp day)=[]:=rfl
 have dv:Bp day v=true:=ajr (by omega)
 have dw:Bp day w=true:=ajr (by rw[hwday];omega)
 have tk1:[v].takeWhile (Bp day)=[v]:=by rw[aiy,dv];rfl
 have tk2:[v,w].takeWhile (Bp day)=[v,w]:=by rw[aiy,dv,ajz rfl,aiy,dw];rfl
 have u0:De o l (0,0) [] day=0:=by unfold De;rw[aa2 m0,ajy (fun e=>e rfl),ajz hd1]
 have u1:De o l (0,0) [v] day=0:=by unfold De;rw[aa2 m1,ajy (fun e=>e rfl),ajz hd1]
 have u2:De o l (0,0) [v,w] day=0:=by unfold De;rw[aa2 m2,ajy (fun e=>e rfl),ajz hd1]
 have r0:RH o l (0,0) [] day=BW (fun _=>0) (stF o l 3652059):=by unfold RH;rw[tk0,estd];rfl
 have r1:RH o l (0,0) [v] day=[]:=by
  unfold RH
  rw[tk1,estd]
  simp only[yA]
  rw[show (([]:List ah).length:Int)=0 from rfl,hi0 _ _ (fun _ _=>rfl)]
  dsimp only
  exact YB fun s hs=>by
   obtain⟨q1,q2⟩:=haft s hs
   by_cases h0:dU s≤0
   ·rw[q1 h0];exact h0
   ·rw[q2 (by omega)];exact agV _
 have r2:RH o l (0,0) [v,w] day=BW (fun _=>0) (stF o l 3652059):=by
  unfold RH
  rw[tk2,estd]
  simp only[yA]
  rw[show (([]:List ah).length:Int)=0 from rfl,hi0 _ _ (fun _ _=>rfl)]
  dsimp only
  rw[aik,hi1]
 have hul:=YA (fun _=>0) (stF o l 3652059)
 have hsl:=US hc 3652059
 rw[Bj,ajb,Bj,ajb,Bj,ajb,u0,u1,u2,r0,r1,r2]
 dsimp only
 rw[ajz rfl,ajz rfl,zne,ajn,ajn,ajn,Jw _ (by omega),ajb]
 dsimp only
 rw[agN,ajn,show ((([]:List iM).length:Int) != 0)=false from rfl,ajn]
 have hnl:(((BW (fun _=>0) (stF o l 3652059)).length:Int)==0)=false:=by
  rw[ajl]
  intro e
  exact VP hne (List.length_eq_zero_iff.1 (by omega))
 have hln:lnF o l v.2.2.1=0:=by unfold lnF;rw[ajy (fun e=>e hc),ajz hdr]
 rw[hnl,ajn,BL,ajb]
 dsimp only
 have hstv:(if lnF o l v.2.2.1=0 then (kF (yg o l 0 v.2.2.1).1).map jO else [])=stF o l v.2.2.1:=rfl
 rw[hstv,hln,est,zne,ajn,hvl]
 have hbl:=KM (zR like) (stF o l 3652059) 0
 rw[aO (by omega)]
 by_cases hway:v.2.2.2.2.1=1∨v.2.2.2.2.1=2∨v.2.2.2.2.1=3∨v.2.2.2.2.1=4
 rotate_left
 ·rw[dM (fun e=>hway (.inl e)),ajo,dM (fun e=>hway (.inr (.inl e))),ajo,dM (fun e=>hway (.inr (.inr (.inl e)))),ajo,dM (fun e=>hway (.inr (.inr (.inr e)))),ajb]
  dsimp only
  rw[ajo,tY]
  rfl
 have ev:(bif v.2.2.2.2.1 != 1 then bif v.2.2.2.2.1 != 2 then bif v.2.2.2.2.1 != 3 then some (v.2.2.2.2.1 != 4,()) else some (false,()) else some (false,()) else some (false,()))=some (false,()):=by
  rcases hway with e | e | e | e<;>rw[e]<;>rfl
 rw[ev,ajb]
 dsimp only
 rw[ajn,JQ,ajb,JQ,ajb]
 have hiv:=sN h'
 have ht:=abu (v:=v) ⟨fun e=>by rcases hway with c | c | c | c<;>(have e2:v.2.2.2.2.1=5:=e;omega),fun e=>by rcases hway with c | c | c | c<;>(have e2:v.2.2.2.2.1=6:=e;omega)⟩ hiv [105,110,118,45,50] v.2.2.1
 rw[hwd] at ht
 unfold UU
 rw[ajy (by simpa using h'),ajy (by simpa using hw0),ht]
 cases hz:xd v with
 | inl f=>
  dsimp only[XT]
  have hf:f≠0:=WG h' hz
  rw[dM hf,ajo,beq_self_eq_true,ajo,tY]
  rfl
 | inr s=>
  dsimp only[XT]
  rw[zne,ajn,ajn]
  have ha:∀ z∈sK s,mZ z=true:=ahe.1 (abt hz)
  have hpl:0≤vPl v∧vPl v≤4:=hiv.pl
  have e5:Yy w (aa8 s)=((-s.nets.sum,vPl v),(-s.am.sum,vPl v),(-(s.nets.sum+s.am.sum),vPl v),(-s.taxes.sum,vPl v),(-(s.nets.sum+s.am.sum+s.taxes.sum),vPl v)):=by
   have h5:=Xy s
   unfold sK at h5
   simp only[ah2,ah4,List.cons.injEq,and_true] at h5
   obtain⟨a1,a2,a3,a4,a5⟩:=h5
   have hwp:vPl w=vPl v:=by rw[← hwd];rfl
   unfold Yy IA
   rw[a1,a2,a4,hwp,show -s.nets.sum+ -s.am.sum= -(s.nets.sum+s.am.sum) by omega,show -(s.nets.sum+s.am.sum)+ -s.taxes.sum= -(s.nets.sum+s.am.sum+s.taxes.sum) by omega]
  rw[e5]
  unfold Yy IA
  dsimp only
  obtain⟨q,hq⟩:=ae5 (p:=vPl v) (ha (s.nets.sum+s.am.sum+s.taxes.sum) (by simp[sK])) hpl
  rw[hq,ajb]
  dsimp only
  rw[show ((0:Int)==0)=true from rfl,ajo,ajo,tY]
  rfl
end Go.Md
