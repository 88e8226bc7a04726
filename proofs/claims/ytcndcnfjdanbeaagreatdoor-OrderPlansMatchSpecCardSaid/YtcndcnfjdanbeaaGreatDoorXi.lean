/-
  Plain facts: what is planned; the plain law is true of all data. No condition.
-/
import Derived.Test.YtcndcnfjdanbeaaGreatDoorXj
set_option linter.all false
set_option linter.all false
namespace Go.Md
open Go.Dn
abbrev cK (g:aJ):bO:=(g.1,g.2.1)
theorem Hw (a b:bO):Ty.beq aU a b=decide (a=b):=by
 show (RC a.1 b.1&&RC a.2 b.2)=_
 by_cases h1:a.1=b.1
 ·by_cases h2:a.2=b.2
  ·rw[ajh (Prod.ext h1 h2)]
   simp[RC,h1,h2]
  ·rw[ajf (fun e=>h2 (by rw[e]))]
   simp[RC,h2]
 ·rw[ajf (fun e=>h1 (by rw[e]))]
  simp[RC,h1]
def xq {α:Type} (k:bO):List (bO×α)→Option α
 | []=>none
 | p::r=>if k=p.1 then some p.2 else xq k r
theorem XY {v:Ty} (k:bO):∀ m:List (bO×v.den),bU (k:=aU) (v:=v) m k=xq k m
 | []=>rfl
 | p::r=>by
  have e:= @Vw aU v p r k
  refine e.trans ?_
  have ih:=XY (v:=v) k r
  simp only[xq]
  by_cases h:k=p.1
  ·rw[ajp h,show Ty.beq aU k p.1=true from (Hw _ _).trans (ajh h)];rfl
  ·rw[ajo h,show Ty.beq aU k p.1=false from (Hw _ _).trans (ajf h),ajc];exact ih
def sV {α:Type} (k:bO) (y:α):List (bO×α)→List (bO×α)
 | []=>[(k,y)]
 | p::r=>if k=p.1 then (k,y)::r else p::sV k y r
theorem Ta {v:Ty} (k:bO) (y:v.den):∀ m:List (bO×v.den),kF (k:=aU) (v:=v) m k y=sV k y m
 | []=>rfl
 | p::r=>by
  refine (@acL aU v p r k y).trans ?_
  have ih:=Ta (v:=v) k y r
  simp only[sV]
  by_cases h:k=p.1
  ·rw[ajp h,show Ty.beq aU k p.1=true from (Hw _ _).trans (ajh h)];rfl
  ·rw[ajo h,show Ty.beq aU k p.1=false from (Hw _ _).trans (ajf h),ajc,ih]
   rfl
theorem RD {α:Type} {k:bO} {y:α}:∀ {m:List (bO×α)},(∀ p,p∈m→k≠p.1)→sV k y m=m++[(k,y)]
 | [],_=>rfl
 | p::r,h=>by
  simp only[sV]
  rw[ajo (h p (by simp)),RD fun q hq=>h q (by simp[hq])];rfl
theorem WX {α:Type} {b c:Bool} (h:b=c) (x y:α):(bif b then x else y)=bif c then x else y:=by rw[h]
def pR (seen:List aJ) (g:aJ):Int:=
 if cM g.1=false then 5 else if cM g.2.1=false then 5 else if qOk g.2.2 true=false then 1 else if (seen.any fun x=>decide (cK x=cK g))=true then 7 else 0
def fQ:List aJ→List aJ→Int
 | _,[]=>0
 | seen,g::r=>if pR seen g≠0 then pR seen g else fQ (seen++[g]) r
def rT (l:List aJ):Int:=if 500<l.length then 2 else fQ [] l
theorem ad9 (seen:List aJ) (g:aJ):Option.getD (xq (cK g) (seen.map fun x=>(cK x,true))) false=seen.any fun x=>decide (cK x=cK g):=by
 induction seen with
 | nil=>rfl
 | cons x r ih=>
  rw[ahU,ag5]
  simp only[xq]
  by_cases h:cK g=cK x
  ·rw[ajp h,ajh h.symm];rfl
  ·rw[ajo h,ajf (fun e=>h e.symm),agD];exact ih
theorem MJ (l:List aJ):ou l=some (rT l,()):=by
 unfold ou rT
 by_cases hl:500<l.length
 ·rw[ajp hl,ajh (show (l.length:Int)>500 by omega),ajd]
 rw[ajo hl,ajf (show ¬(l.length:Int)>500 by omega),ajc]
 have loop:∀ (r:List aJ) (i n:Nat),l.drop i=r→i≤l.length→r.length<n→iter (X:=kO) (β:=kN) n (l,(l.length:Int),(i:Int),(l.take i).map (fun x=>(cK x,true)),()) iK=some (if fQ (l.take i) r≠0 then Sum.inl (fQ (l.take i) r,()) else Sum.inr ()):=by
  intro r
  induction r with
  | nil=>
   intro i n hdr hi hn
   have:i=l.length:=by
    have:=congrArg List.length hdr
    simp at this;omega
   subst this
   obtain⟨n,rfl⟩:∃ m,n=m+1:=⟨n - 1,by omega⟩
   rw[bH]
   unfold iK
   dsimp only
   rw[ajf (show ¬(l.length:Int)<(l.length:Int) by omega),ajc]
   rfl
  | cons g r ih=>
   intro i n hdr hi hn
   have hx:l[i]? =some g:=by
    have:=congrArg (·[0]?) hdr
    simpa [ahu] using this
   have hr':l.drop (i+1)=r:=by
    have:=congrArg List.tail hdr
    simpa [ain] using this
   have hlt:=(ahx.1 hx).1
   obtain⟨n,rfl⟩:∃ m,n=m+1:=⟨n - 1,by simp at hn;omega⟩
   rw[bH]
   generalize hag:(fun y=>iter n y iK)=again
   unfold iK
   dsimp only
   rw[ajh (show (i:Int)<(l.length:Int) by omega),ajd,bZ hx,ai1,tD,ai1]
   have hbad:∀ z:Int,z≠0→pR (l.take i) g=z→some (Sum.inl (z,()))=some (if fQ (l.take i) (g::r)≠0 then (Sum.inl (fQ (l.take i) (g::r),()):kN) else Sum.inr ()):=fun z hz e=>by
    have:fQ (l.take i) (g::r)=z:=by simp only[fQ];rw[e,ajp hz]
    rw[this,ajp hz]
   cases n1:cM g.1
   ·exact hbad 5 (by omega) (by unfold pR;rw[ajp n1])
   dsimp only
   rw[agI,ajc,tD,ai1]
   cases n2:cM g.2.1
   ·exact hbad 5 (by omega) (by unfold pR;rw[ajo (by rw[n1];nofun),ajp n2])
   dsimp only
   rw[agI,ajc,qz,ai1]
   cases n3:qOk g.2.2 true
   ·exact hbad 1 (by omega) (by unfold pR;rw[ajo (by rw[n1];nofun),ajo (by rw[n2];nofun),ajp n3])
   dsimp only
   rw[ajp rfl,zne,ajc]
   have hseen:=ad9 (l.take i) g
   refine (WX (b:=Option.getD (α:=Bool) (bU (k:=aU) (v:= .bool) ((l.take i).map (fun x=>(cK x,true))) (g.1,g.2.1)) false) ((congrArg (fun z:Option Bool=>Option.getD z false) (XY (v:= .bool) (cK g) _)).trans hseen) _ _).trans ?_
   cases n4:(l.take i).any fun x=>decide (cK x=cK g)
   rotate_left
   ·exact hbad 7 (by omega) (by unfold pR;rw[ajo (by rw[n1];nofun),ajo (by rw[n2];nofun),ajo (by rw[n3];nofun),ajp n4])
   rw[ajc]
   have hgood:pR (l.take i) g=0:=by unfold pR;rw[ajo (by rw[n1];nofun),ajo (by rw[n2];nofun),ajo (by rw[n3];nofun),ajo (by rw[n4];nofun)]
   have e:fQ (l.take i) (g::r)=fQ (l.take (i+1)) r:=by
    simp only[fQ];rw[hgood,ajo (fun h=>h rfl),fq hx]
   have hfresh:∀ p,p∈(l.take i).map (fun x=>(cK x,true))→cK g≠p.1:=fun p hp=>by
    obtain⟨x,hx',rfl⟩:=ah6.1 hp
    rw[ag6] at n4
    have:=n4 x hx'
    intro e
    exact this (ajh e.symm)
   have em0:sV (cK g) true ((l.take i).map (fun x=>(cK x,true)))=(l.take (i+1)).map (fun x=>(cK x,true)):=by
    rw[RD hfresh,fq hx,ahS]
    rfl
   have em:kF (k:=aU) (v:= .bool) ((l.take i).map (fun x=>(cK x,true))) (g.1,g.2.1) true=(l.take (i+1)).map (fun x=>(cK x,true)):=(Ta (v:= .bool) (cK g) true _).trans em0
   rw[e,av (n:=(i:Int)+1) (by omega) (by omega), ← hag,show (i:Int)+1=((i+1:Nat):Int) by omega]
   refine (congrArg (fun z:List (bO×Bool)=>iter n ((l,(l.length:Int),((i+1:Nat):Int),z,()):kO) iK) em).trans ?_
   exact ih (i+1) n hr' (by omega) (by simp at hn;omega)
 have:=loop l 0 (List.length l+(Int.natAbs ((List.length l:Int))+(Int.natAbs (0:Int)+(List.length ([]:List (bO×Bool))+2)))) rfl (aiY _) (by omega)
 refine (congrArg (fun z=>aH (β:=(Int×Unit)) (γ:=Unit) z fun _=>some (0,())) this).trans ?_
 rw[aiv]
 by_cases h:fQ [] l=0
 ·rw[ajo (fun e=>e h),h];rfl
 ·rw[ajp h];rfl
end Go.Md
set_option linter.all false
namespace Go.Md
open Go.Dn
structure aav (l:List aJ):Prop where
 len:l.length≤500
 q:∀ g,g∈l→qOk g.2.2 true=true
 nd:(l.map cK).Nodup
theorem TF:∀ {r seen:List aJ},fQ seen r=0→(seen.map cK).Nodup→(∀ g,g∈r→qOk g.2.2 true=true)∧((seen++r).map cK).Nodup
 | [],seen,_,h=>⟨fun g hg=>(nomatch hg),by rw[ag9];exact h⟩
 | g::r,seen,h,hn=>by
  simp only[fQ] at h
  split at h
  ·rename_i c;exact absurd h c
  ·rename_i c
   have c:=agM.1 c
   have hq:qOk g.2.2 true=true∧(seen.any fun x=>decide (cK x=cK g))=false:=by
    unfold pR at c
    split at c
    ·cases c
    ·split at c
     ·cases c
     ·split at c
      ·cases c
      ·rename_i h3
       split at c
       ·cases c
       ·rename_i h4
        exact⟨(Bool.not_eq_false _).mp h3,(agF _).mp h4⟩
   have hns:((seen++[g]).map cK).Nodup:=by
    rw[ahS,List.nodup_append]
    refine⟨hn,by simp,fun a ha b hb e=> ?_⟩
    obtain⟨x,hx,rfl⟩:=ah6.1 ha
    simp only[ahU,ahW,aib] at hb
    have:=hq.2
    rw[ag6] at this
    exact this x hx (ajh (e.trans hb))
   obtain⟨h1,h2⟩:=TF h hns
   refine⟨fun x hx=> ?_,by simpa using h2⟩
   rcases ah0.1 hx with rfl | hx
   ·exact hq.1
   ·exact h1 x hx
theorem VM {l:List aJ} (h:rT l=0):aav l:=by
 unfold rT at h
 split at h
 ·cases h
 ·rename_i hl
  obtain⟨h1,h2⟩:=TF h List.nodup_nil
  exact⟨by omega,h1,by simpa using h2⟩
abbrev StM:Type:=List (bO×Int)
def stM (l:List aJ):StM:=l.map fun g=>(cK g,aD g.2.2)
abbrev uw (m:StM) (x:ai):Int:=(xq (x.art,x.unit) m).getD 0
abbrev takeN (m:StM) (x:ai):Int:=if x.opn<uw m x then x.opn else uw m x
def oz:List ai→StM→List bL
 | [],_=>[]
 | x::r,m=>if takeN m x>0 then (x.no,bq (takeN m x),x.due)::oz r (sV (x.art,x.unit) (uw m x - takeN m x) m) else oz r m
structure MOk (m:StM):Prop where
 val:∀ p,p∈m→0≤p.2∧p.2≤1000000000000
theorem MOk.lot {m:StM} (h:MOk m) (x:ai):0≤uw m x∧uw m x≤1000000000000:=by
 unfold uw
 cases hg:xq (x.art,x.unit) m with
 | none=>exact⟨agO _,by show (0:Int)≤_;omega⟩
 | some v=>
  have:∀ {m:StM},(∀ p,p∈m→0≤p.2∧p.2≤1000000000000)→∀ v,xq (x.art,x.unit) m=some v→0≤v∧v≤1000000000000:=by
   intro m
   induction m with
   | nil=>intro _ v hv;cases hv
   | cons p r ih=>
    intro hp v hv
    simp only[xq] at hv
    split at hv
    ·cases hv;exact hp p (by simp)
    ·exact ih (fun q hq=>hp q (by simp[hq])) v hv
  exact this h.val v hg
theorem MOk.set {m:StM} (h:MOk m) {k:bO} {v:Int} (h0:0≤v) (h1:v≤1000000000000):MOk (sV k v m):=by
 refine⟨?_⟩
 have hv:=h.val
 clear h
 induction m with
 | nil=>
  intro p hp
  simp only[sV,aib] at hp
  subst hp;exact⟨h0,h1⟩
 | cons q r ih=>
  intro p hp
  simp only[sV] at hp
  split at hp
  ·rcases ah0.1 hp with rfl | hp
   ·exact⟨h0,h1⟩
   ·exact hv p (by simp[hp])
  ·rcases ah0.1 hp with rfl | hp
   ·exact hv _ (by simp)
   ·exact ih (fun q hq=>hv q (by simp[hq])) p hp
theorem afM {l:List aJ} (h:aav l):MOk (stM l):=⟨fun p hp=>by
 obtain⟨g,hg,rfl⟩:=ah6.1 hp
 obtain⟨u0,u1,_⟩:=iF (h.q g hg)
 exact⟨u0,u1⟩⟩
theorem abk {l:List aJ} (h:aav l) {day:Int} {o1 o2 o3:Bys} {o4 o5 wt:Int} {o6:List aK} {ds:List aa} {ref:List ah} {pts:List ay} {mp:List (Int×Option Nat)} {ar:List an}:
 ∀ n,l.length<n→iter (X:=pq) (β:=yG) n (day,l,(l.length:Int),0,o1,o2,o3,o4,o5,o6,ds,wt,ref,pts,[],mp,ar,()) yF=some (Sum.inr (day,o1,o2,o3,o4,o5,o6,ds,wt,ref,pts,stM l,mp,ar,())):=by
 intro n hn
 have hlen:=h.len
 refine cO (Inv:=fun i X=>X=((day,l,(l.length:Int),(i:Int),o1,o2,o3,o4,o5,o6,ds,wt,ref,pts,stM (l.take i),mp,ar,()):pq)) l.length (fun z=>z=some (Sum.inr (day,o1,o2,o3,o4,o5,o6,ds,wt,ref,pts,stM l,mp,ar,()))) ?_ ?_ n 0 _ rfl (aiY _) (by omega)
 ·rintro i X again hi rfl hag
  unfold yF
  dsimp only
  have hx:l[i]? =some l[i]:=ahv hi
  generalize l[i]=g at hx
  have hfresh:∀ p,p∈stM (l.take i)→cK g≠p.1:=fun p hp e=>by
   obtain⟨y,hy,rfl⟩:=ah6.1 hp
   have hnd:((l.take (i+1)).map cK).Nodup:=h.nd.sublist ((List.take_sublist _ _).map _)
   rw[fq hx,ahS,List.nodup_append] at hnd
   exact hnd.2.2 (cK y) (ah6.2 ⟨y,hy,rfl⟩) (cK g) (by simp) e.symm
  have em0:sV (cK g) (aD g.2.2) (stM (l.take i))=stM (l.take (i+1)):=by
   rw[RD hfresh,fq hx]
   unfold stM
   rw[ahS]
   rfl
  rw[ajh (show (i:Int)<(l.length:Int) by omega),ajd,bZ hx,ai1,kV (h.q g (ah7 hx)),ai1,av (n:=(i:Int)+1) (by omega) (by omega)]
  refine hag _ ?_
  exact congrArg (fun z:StM=>((day,l,(l.length:Int),((i+1:Nat):Int),o1,o2,o3,o4,o5,o6,ds,wt,ref,pts,z,mp,ar,()):pq)) ((Ta (v:=tI) (cK g) (aD g.2.2) _).trans em0)
 ·rintro X again rfl
  unfold yF
  dsimp only
  rw[ajf (show ¬(l.length:Int)<(l.length:Int) by omega),ajc,air]
theorem acX {ds:List aa} {A:List ai} (hg:Good ds A) (hI:Ids A) {D:List ai} (hD:∀ x,x∈D→x∈A) (hl:D.length≤500):∀ (r:List ai) (i n:Nat) (out:List bL) (m:StM),D.drop i=r→i≤D.length→out.length≤i→MOk m→r.length<n→
 iter (X:=rz) (β:=wO) n (out,((D.map (hOf A)).length:Int),(i:Int),D.map (hOf A),m,A.map ai.tup,()) nT=some (Sum.inr (out++oz r m,A.map ai.tup,())):=by
 have sI:maxLen=9223372036854775807:=rfl
 have hml:(D.map (hOf A)).length=D.length:=ahL _
 intro r
 induction r with
 | nil=>
  intro i n out m hdr hi ho hm hn
  have:i=D.length:=by
   have:=congrArg List.length hdr
   simp at this;omega
  subst this
  obtain⟨n,rfl⟩:∃ m,n=m+1:=⟨n - 1,by omega⟩
  rw[bH]
  unfold nT
  dsimp only
  rw[hml,ajf (show ¬(D.length:Int)<(D.length:Int) by omega),ajc]
  simp only[oz]
  rw[ag9]
 | cons x r ih=>
  intro i n out m hdr hi ho hm hn
  have hx:D[i]? =some x:=by
   have:=congrArg (·[0]?) hdr
   simpa [ahu] using this
  have hr':D.drop (i+1)=r:=by
   have:=congrArg List.tail hdr
   simpa [ain] using this
  have hlt:=(ahx.1 hx).1
  have hxA:=hD x (ah7 hx)
  obtain⟨k,hk,hkx⟩:=O9 hI hxA
  have hk':(D.map (hOf A))[i]? =some (some k):=by rw[ahy,hx,ai7,hk]
  obtain⟨p1,p2⟩:=On (hg.sound.line x hxA).1
  obtain⟨q1,q2⟩:=hm.lot x
  have hn0:0≤takeN m x∧takeN m x≤1000000000000∧takeN m x≤uw m x:=by unfold takeN;split<;>omega
  obtain⟨n,rfl⟩:∃ m,n=m+1:=⟨n - 1,by simp at hn;omega⟩
  rw[bH]
  generalize hag:(fun y=>iter n y nT)=again
  unfold nT
  dsimp only
  rw[ajh (show (i:Int)<((D.map (hOf A)).length:Int) by omega),ajd,cw (by rw[agx];exact⟨ajh (by omega),rfl⟩),ag2,hk',ai1,ai1,iw hkx,ai1,ai1,iw hkx,ai1,qd hkx (hg.sound.line x hxA).1,ai1]
  have hget:Option.getD (α:=Int) (bU (k:=aU) (v:=tI) m (x.art,x.unit)) 0=uw m x:=congrArg (fun z:Option Int=>Option.getD z 0) (XY (v:=tI) (x.art,x.unit) m)
  have hset:kF (k:=aU) (v:=tI) m (x.art,x.unit) (uw m x - takeN m x)=sV (x.art,x.unit) (uw m x - takeN m x) m:=Ta (v:=tI) (x.art,x.unit) (uw m x - takeN m x) m
  have hw:w64 (Option.getD (α:=Int) (bU (k:=aU) (v:=tI) m (x.art,x.unit)) 0 - (if x.opn<Option.getD (α:=Int) (bU (k:=aU) (v:=tI) m (x.art,x.unit)) 0 then x.opn else Option.getD (α:=Int) (bU (k:=aU) (v:=tI) m (x.art,x.unit)) 0))=uw m x - takeN m x:=by
   simp only[hget]
   exact av (by omega) (by omega)
  have hif:(if x.opn<Option.getD (α:=Int) (bU (k:=aU) (v:=tI) m (x.art,x.unit)) 0 then x.opn else Option.getD (α:=Int) (bU (k:=aU) (v:=tI) m (x.art,x.unit)) 0)=takeN m x:=by
   simp only[hget]
  dsimp only
  show (bif decide ((if x.opn<Option.getD (α:=Int) (bU (k:=aU) (v:=tI) m (x.art,x.unit)) 0 then x.opn else Option.getD (α:=Int) (bU (k:=aU) (v:=tI) m (x.art,x.unit)) 0)>0) then _ else _)=_
  simp only[oz]
  by_cases c:takeN m x>0
  ·refine (WX (c:=true) (by rw[hif];exact ajh c) _ _).trans ?_
   rw[ajd,ajp c]
   refine bs (r:=k) rfl (bs (iw hkx) ?_)
   refine bs (r:=(bq (takeN m x),())) (by rw[hif];exact pz hn0.1 (by omega)) ?_
   refine bs (r:=k) rfl (bs (iw hkx) ?_)
   refine (cw (by rw[agx];exact⟨ajh (by omega),ajh (by omega)⟩) _).trans ?_
   rw[av (n:=(i:Int)+1) (by omega) (by omega), ← hag,show (i:Int)+1=((i+1:Nat):Int) by omega]
   refine Eq.trans ?_ ((ih (i+1) n (out++[(x.no,bq (takeN m x),x.due)]) (sV (x.art,x.unit) (uw m x - takeN m x) m) hr' (by omega) (by simp;omega) (hm.set (by omega) (by omega)) (by simp at hn;omega)).trans (by rw[ag8];rfl))
   refine congrArg (fun z:StM=>iter n ((out++[(x.no,bq (takeN m x),x.due)],((D.map (hOf A)).length:Int),((i+1:Nat):Int),D.map (hOf A),z,A.map ai.tup,()):rz) nT) ?_
   refine (congrArg (fun z:Int=>kF (k:=aU) (v:=tI) m (x.art,x.unit) z) hw).trans hset
  ·refine (WX (c:=false) (by rw[hif];exact ajf c) _ _).trans ?_
   rw[ajc,ajo c,av (n:=(i:Int)+1) (by omega) (by omega), ← hag,show (i:Int)+1=((i+1:Nat):Int) by omega]
   exact ih (i+1) n out m hr' (by omega) (by omega) hm (by simp at hn;omega)
def Ck (o:aj) (l:List aa) (day:Int) (st:List aJ):Int:=if lnF o l day≠0 then lnF o l day else rT st
theorem Wo (o:aj) (l:List aa) (day:Int) (st:List aJ):EM o l day st=some (if Ck o l day st=0 then oz (oa day (nX o l 0 day).1) (stM st) else [],Ck o l day st,()):=by
 unfold EM
 rw[Wq]
 unfold Ck lnF
 by_cases h:mO o l=0
 rotate_left
 ·rw[ajp (show mO o l≠0 from h),ajp (show mO o l≠0 from h),ajp h]
  show (bif mO o l != 0 then _ else _)=_
  rw[fY h,ajd,ajo h]
 rw[ajo (show ¬mO o l≠0 from fun e=>e h),ajo (show ¬mO o l≠0 from fun e=>e h)]
 by_cases hd:1≤day∧day≤3652059
 rotate_left
 ·rw[ajp hd,ajo hd];rfl
 rw[ajo (show ¬¬(1≤day∧day≤3652059) from fun e=>e hd),ajp hd,ajo (show ¬((0:Int)≠0) from fun e=>e rfl)]
 refine Eq.trans abe ?_
 rw[Zq h hd,ai1]
 dsimp only
 rw[zne,ajc,MJ,ai1]
 dsimp only
 by_cases hs:rT st=0
 rotate_left
 ·rw[fY hs,ajd,ajo hs]
 rw[ajp hs,hs,zne,ajc]
 have hok:=VM hs
 obtain⟨hg,hI⟩:=QK h 0 day
 have hF:∀ x,x∈(nX o l 0 day).1→1≤x.due∧x.due≤3652059:=fun x hx=>by
  have h1:=(afk h 0 day x hx).due
  have h2:=(qa (CS h).1).1
  omega
 generalize (nX o l 0 day).1=A at hg hI hF
 generalize (nX o l 0 day).2.1=ref
 generalize (nX o l 0 day).2.2=pts
 obtain⟨o1,o2,o3,o4,o5,o6⟩:=o
 dsimp only
 have hq:∀ k:Nat,0<k+2:=fun k=>Nat.succ_pos _
 rw[abk hok _ (fuel1 _ _ _ (by with_reducible repeat (first | exact aiZ | refine aiy _ ?_))),aM]
 dsimp only
 rw[aaK hg hI hF (o1,o2,o3,o4,o5,o6) l,ai1]
 dsimp only
 have:=acX hg hI (D:=oa day A) (fun x hx=>(Q6 hx).1) (QZ hI) (oa day A) 0 (List.length ([]:List bL)+(Int.natAbs ((((oa day A).map (hOf A)).length:Int))+(Int.natAbs (0:Int)+(((oa day A).map (hOf A)).length+((stM st).length+((A.map ai.tup).length+2)))))) [] (stM st) rfl (aiY _) (aiY _) (afM hok) (by rw[ahL];omega)
 rw[show ((0:Nat):Int)=0 from rfl] at this
 rw[this,aM]
 rfl
end Go.Md
set_option linter.all false
namespace Go.Md
open Go.Dn
theorem abF {l:List aa} {day len ii:Int} {st st2 S:List aJ} {o1 o2 o3 a b:Bys} {o4 o5 u p:Int} {o6:List aK} (hS:S.length≤500):∀ n,S.length<n→
 iter (X:=x7) (β:=Cw) n (l,day,st,st2,len,ii,S,(S.length:Int),0,o1,o2,o3,o4,o5,o6,a,b,u,p,()) Cu=
  some (if (S.any fun x=>decide (cK x=(a,b)))=true then Sum.inl (Sum.inl ([],7,())) else Sum.inr (l,day,st,st2,len,ii,o1,o2,o3,o4,o5,o6,())):=by
 intro n hn
 refine cO (Inv:=fun i X=>X=((l,day,st,st2,len,ii,S,(S.length:Int),(i:Int),o1,o2,o3,o4,o5,o6,a,b,u,p,()):x7)∧((S.take i).any fun x=>decide (cK x=(a,b)))=false) S.length
  (fun z=>z=some (if (S.any fun x=>decide (cK x=(a,b)))=true then Sum.inl (Sum.inl ([],7,())) else Sum.inr (l,day,st,st2,len,ii,o1,o2,o3,o4,o5,o6,()))) ?_ ?_ n 0 _ ⟨rfl,rfl⟩ (aiY _) (by omega)
 ·rintro i X again hi ⟨rfl,hno⟩ hag
  unfold Cu
  dsimp only
  have hx:S[i]? =some S[i]:=ahv hi
  generalize S[i]=g at hx
  have hcond:(bif g.1==a then some (g.2.1==b,()) else some (false,()))=some (decide (cK g=(a,b)),()):=by
   by_cases h1:g.1=a
   ·rw[show (g.1==a)=true by simpa using h1,ajd]
    by_cases h2:g.2.1=b
    ·rw[show (g.2.1==b)=true by simpa using h2,ajh (Prod.ext h1 h2)]
    ·rw[show (g.2.1==b)=false by simpa using h2,ajf (fun e=>h2 (congrArg Prod.snd e))]
   ·rw[show (g.1==a)=false by simpa using h1,ajc,ajf (fun e=>h1 (congrArg Prod.fst e))]
  rw[ajh (show (i:Int)<(S.length:Int) by omega),ajd,bZ hx,ai1,hcond,ai1]
  dsimp only
  by_cases c:cK g=(a,b)
  ·rw[ajh c,ajd,ajp (ag7.2 ⟨g,ah7 hx,ajh c⟩)]
   rfl
  ·rw[ajf c,ajc,av (n:=(i:Int)+1) (by omega) (by omega)]
   refine hag _ ⟨rfl, ?_⟩
   rw[fq hx,List.any_append,hno,agD,ag5,ajf c]
   rfl
 ·rintro X again ⟨rfl,hno⟩
  unfold Cu
  dsimp only
  rw[air] at hno
  rw[ajf (show ¬(S.length:Int)<(S.length:Int) by omega),ajc,ajo (by rw[hno];nofun)]
theorem Wv {l:List aa} {day:Int} {st:List aJ} {o1 o2 o3:Bys} {o4 o5:Int} {o6:List aK} (hl:st.length≤500):∀ (r:List aJ) (i n:Nat),st.drop i=r→i≤st.length→r.length<n→
 iter (X:=ES) (β:=AP) n (l,day,st,st,(st.length:Int),(i:Int),o1,o2,o3,o4,o5,o6,()) AO=
  some (if fQ (st.take i) r≠0 then Sum.inl ([],fQ (st.take i) r,()) else Sum.inr (l,day,st,o1,o2,o3,o4,o5,o6,())):=by
 intro r
 induction r with
 | nil=>
  intro i n hdr hi hn
  have:i=st.length:=by
   have:=congrArg List.length hdr
   simp at this;omega
  subst this
  obtain⟨n,rfl⟩:∃ m,n=m+1:=⟨n - 1,by omega⟩
  rw[bH]
  unfold AO
  dsimp only
  rw[ajf (show ¬(st.length:Int)<(st.length:Int) by omega),ajc]
  rfl
 | cons g r ih=>
  intro i n hdr hi hn
  have hx:st[i]? =some g:=by
   have:=congrArg (·[0]?) hdr
   simpa [ahu] using this
  have hr':st.drop (i+1)=r:=by
   have:=congrArg List.tail hdr
   simpa [ain] using this
  have hlt:=(ahx.1 hx).1
  obtain⟨n,rfl⟩:∃ m,n=m+1:=⟨n - 1,by simp at hn;omega⟩
  rw[bH]
  generalize hag:(fun y=>iter n y AO)=again
  unfold AO
  dsimp only
  rw[ajh (show (i:Int)<(st.length:Int) by omega),ajd,bZ hx,ai1,vP,ai1]
  have hbad:∀ z:Int,z≠0→pR (st.take i) g=z→some (Sum.inl ([],z,()))=some (if fQ (st.take i) (g::r)≠0 then (Sum.inl ([],fQ (st.take i) (g::r),()):AP) else Sum.inr (l,day,st,o1,o2,o3,o4,o5,o6,())):=fun z hz e=>by
   have:fQ (st.take i) (g::r)=z:=by simp only[fQ];rw[e,ajp hz]
   rw[this,ajp hz]
  cases n1:cM g.1
  ·exact hbad 5 (by omega) (by unfold pR;rw[ajp n1])
  dsimp only
  rw[agI,ajc,vP,ai1]
  cases n2:cM g.2.1
  ·exact hbad 5 (by omega) (by unfold pR;rw[ajo (by rw[n1];nofun),ajp n2])
  dsimp only
  rw[agI,ajc,uB,ai1]
  cases n3:qOk g.2.2 true
  ·exact hbad 1 (by omega) (by unfold pR;rw[ajo (by rw[n1];nofun),ajo (by rw[n2];nofun),ajp n3])
  dsimp only
  rw[ajp rfl,zne,ajc,cw (by simp;omega),ag2,ahh]
  have hTl:(st.take i).length≤500:=by rw[ahR];omega
  rw[abF hTl _ (by with_reducible repeat (first | exact Ur _ _ (by with_reducible repeat (first | exact aiZ | refine aiy _ ?_)) | refine Nat.lt_add_left _ ?_))]
  cases n4:(st.take i).any fun x=>decide (cK x=cK g)
  rotate_left
  ·rw[ajp rfl]
   exact hbad 7 (by omega) (by unfold pR;rw[ajo (by rw[n1];nofun),ajo (by rw[n2];nofun),ajo (by rw[n3];nofun),ajp n4])
  rw[ajo (by nofun),aM]
  dsimp only
  have hgood:pR (st.take i) g=0:=by unfold pR;rw[ajo (by rw[n1];nofun),ajo (by rw[n2];nofun),ajo (by rw[n3];nofun),ajo (by rw[n4];nofun)]
  have e:fQ (st.take i) (g::r)=fQ (st.take (i+1)) r:=by
   simp only[fQ];rw[hgood,ajo (fun h=>h rfl),fq hx]
  rw[e,av (n:=(i:Int)+1) (by omega) (by omega), ← hag,show (i:Int)+1=((i+1:Nat):Int) by omega]
  exact ih (i+1) n hr' (by omega) (by simp at hn;omega)
end Go.Md
set_option linter.all false
namespace Go.Md
open Go.Dn
theorem XZ {d:ah} {n:Int} (h:jB d n):fZ d=some (bq n,()):=by
 have h1:=h.p0;have h2:=h.p3;have h3:=h.unit;have h4:=h.bd
 rw[AH (by omega) h1 (by omega)]
 have e:mX d=bq n:=by
  unfold bq mX
  have:=Nz (3 - d.2).toNat d.2.toNat d.1
  rw[show d.2.toNat+(3 - d.2).toNat=3 by omega,h.val] at this
  rw[this]
 rw[e]
theorem S9 {d:ah} {n:Int} (h:jB d n):d.1=0↔n=0:=by
 have hp:(0:Int)<10 ^ (3 - d.2).toNat:=Int.pow_pos (by decide)
 rw[← h.val]
 constructor
 ·intro e;rw[e,Int.zero_mul]
 ·intro e
  rcases Int.mul_eq_zero.1 e with e | e
  ·exact e
  ·omega
def GOk (g:aJ):Prop:=jB g.2.2 (aD g.2.2)∧0≤aD g.2.2∧aD g.2.2≤1000000000000
theorem afV {g:aJ} (h:qOk g.2.2 true=true):GOk g:=⟨pg h,(iF h).1,(iF h).2.1⟩
abbrev Ip (x:ai) (g:aJ):Prop:=cK g=(x.art,x.unit)∧aD g.2.2≠0
abbrev jO (x:ai) (g:aJ):Int:=if x.opn<aD g.2.2 then x.opn else aD g.2.2
def gA (x:ai) (g:aJ):aJ:=if Ip x g then (g.1,g.2.1,bq (aD g.2.2 - jO x g)) else g
def jF (x:ai):List aJ→List bL
 | []=>[]
 | g::r=>if Ip x g then (x.no,bq (jO x g),x.due)::jF x r else jF x r
theorem XR (x:ai) (a b:List aJ):jF x (a++b)=jF x a++jF x b:=by
 induction a with
 | nil=>rfl
 | cons g r ih=>
  rw[aha]
  simp only[jF]
  split
  ·rw[ih];rfl
  ·exact ih
theorem XS (x:ai) (a:List aJ):(jF x a).length≤a.length:=by
 induction a with
 | nil=>exact aiF _
 | cons g r ih=>
  simp only[jF,ahI]
  split
  ·rw[ahI];omega
  ·omega
theorem TL {n:Int} (h:n.natAbs≤2000000000000000):aD (bq n)=n:=(cq h).val
theorem ZW {x:ai} {g:aJ} (hx:0≤x.opn) (h:GOk g):GOk (gA x g)∧cK (gA x g)=cK g:=by
 unfold gA
 split
 ·have hm:0≤aD g.2.2 - jO x g∧aD g.2.2 - jO x g≤1000000000000:=by
   have:=h.2.1;have:=h.2.2
   unfold jO;split<;>omega
  have hb:(aD g.2.2 - jO x g).natAbs≤2000000000000000:=by omega
  have e:=TL hb
  refine⟨⟨?_, ?_, ?_⟩,rfl⟩
  ·show jB (bq (aD g.2.2 - jO x g)) (aD (bq (aD g.2.2 - jO x g)))
   rw[e];exact cq hb
  ·show 0≤aD (bq (aD g.2.2 - jO x g))
   rw[e];exact hm.1
  ·show aD (bq (aD g.2.2 - jO x g))≤_
   rw[e];exact hm.2
 ·exact⟨h,rfl⟩
abbrev x27 (out:List bL) (a b n:Int) (i:Int) (s:aT) (S:List aJ) (M:List aT):x8:=
 (out,a,b,n,i,s.1,s.2.1,s.2.2.1,s.2.2.2.1.1,s.2.2.2.1.2,s.2.2.2.2.1.1,s.2.2.2.2.1.2,s.2.2.2.2.2.1,s.2.2.2.2.2.2.1.1,s.2.2.2.2.2.2.1.2,s.2.2.2.2.2.2.2.1.1,s.2.2.2.2.2.2.2.1.2,s.2.2.2.2.2.2.2.2.1.1,s.2.2.2.2.2.2.2.2.1.2,s.2.2.2.2.2.2.2.2.2.1,s.2.2.2.2.2.2.2.2.2.2,S,M,())
set_option maxHeartbeats 1000000 in
theorem adM {a b:Int} {x:ai} {S:List aJ} {M:List aT} {out:List bL} (hx0:0≤x.opn) (hx1:x.opn≤1000000000000) (hS:∀ g,g∈S→GOk g) (hl:S.length≤500) (ho:out.length≤1000000):∀ n,S.length<n→
 iter (X:=x8) (β:=Cz) n (x27 out a b (S.length:Int) 0 (aW x) S M) Cv=some (Sum.inr (out++jF x S,a,b,S.map (gA x),M,())):=by
 intro n hn
 have sI:maxLen=9223372036854775807:=rfl
 refine cO (Inv:=fun i X=>X=x27 (out++jF x (S.take i)) a b (S.length:Int) (i:Int) (aW x) ((S.take i).map (gA x)++S.drop i) M) S.length (fun z=>z=some (Sum.inr (out++jF x S,a,b,S.map (gA x),M,()))) ?_ ?_ n 0 _ ?_ (aiY _) (by omega)
 ·rintro i X again hi rfl hag
  have hx:S[i]? =some S[i]:=ahv hi
  have hdrop:S.drop i=S[i]::S.drop (i+1):=ahe hi
  generalize S[i]=g at hx hdrop
  have hg:=hS g (ah7 hx)
  have hm:=hg.1
  have g0:=hg.2.1;have g1:=hg.2.2
  have hT:((S.take i).map (gA x)).length=i:=by rw[ahL,ahR];omega
  have hget:((S.take i).map (gA x)++S.drop i)[i]? =some g:=by
   rw[ahr (by omega),hT,Nat.sub_self,hdrop];rfl
  have hlen:((S.take i).map (gA x)++S.drop i).length=S.length:=by rw[ahH,hT,ahJ];omega
  have hmin:0≤jO x g∧jO x g≤1000000000000:=by unfold jO;split<;>omega
  have hnext:∀ g',gA x g=g'→((S.take i).map (gA x)++S.drop i).set i g'=(S.take (i+1)).map (gA x)++S.drop (i+1):=fun g' e=>by
   rw[List.set_append_right _ _ (by omega),hT,Nat.sub_self,hdrop,fq hx,ahS,ag8, ← e];rfl
  have hsame:gA x g=g→(S.take i).map (gA x)++S.drop i=(S.take (i+1)).map (gA x)++S.drop (i+1):=fun e=>by
   rw[hdrop,fq hx,ahS,ag8,ahU,ahW,e];rfl
  have heno:¬Ip x g→jF x (S.take (i+1))=jF x (S.take i):=fun h=>by
   rw[fq hx,XR];simp only[jF];rw[ajo h,ag9]
  have heyes:Ip x g→jF x (S.take (i+1))=jF x (S.take i)++[(x.no,bq (jO x g),x.due)]:=fun h=>by
   rw[fq hx,XR];simp only[jF];rw[ajp h]
  have hel:=XS x (S.take i)
  rw[ahR] at hel
  have skip:¬Ip x g→again (x27 (out++jF x (S.take i)) a b (S.length:Int) (w64 ((i:Int)+1)) (aW x) ((S.take i).map (gA x)++S.drop i) M)=some (Sum.inr (out++jF x S,a,b,S.map (gA x),M,())):=fun h=>by
   refine hag _ ?_
   rw[heno h,hsame (by unfold gA;rw[ajo h]),av (n:=(i:Int)+1) (by omega) (by omega)]
   rfl
  unfold Cv
  dsimp only
  rw[ajh (show (i:Int)<(S.length:Int) by omega),ajd,hlen,cw (by rw[agx];exact⟨ajh (by omega),ajh (by omega)⟩),ag2,hget,ai1]
  by_cases k1:g.1=x.art
  rotate_left
  ·rw[show (!(g.1==(aW x).2.1))=true by
    have:¬g.1=(aW x).2.1:=k1
    simpa using this,ajd]
   exact skip fun h=>k1 (congrArg Prod.fst h.1)
  rw[show (!(g.1==(aW x).2.1))=false by
   have:g.1=(aW x).2.1:=k1
   simpa using this,ajc]
  by_cases k2:g.2.1=x.unit
  rotate_left
  ·rw[show (!(g.2.1==(aW x).2.2.1))=true by
    have:¬g.2.1=(aW x).2.2.1:=k2
    simpa using this,ajd]
   exact skip fun h=>k2 (congrArg Prod.snd h.1)
  rw[show (!(g.2.1==(aW x).2.2.1))=false by
   have:g.2.1=(aW x).2.2.1:=k2
   simpa using this,ajc]
  by_cases k3:aD g.2.2=0
  ·rw[show (g.2.2.1==0)=true by simpa using (S9 hm).2 k3,ajd]
   exact skip fun h=>h.2 k3
  have hhit:Ip x g:=⟨Prod.ext k1 k2,k3⟩
  have hcmp:=vQ (cq (n:=aD g.2.2) (by omega)) (cq (n:=x.opn) (by omega))
  rw[cJ (fun e=>k3 ((S9 hm).1 e)),ajc,XZ hm,ai1]
  dsimp only
  refine bs hcmp ?_
  have hfin:∀ q:Int,q=jO x g→(Option.bind (zh (g.2.2.1,g.2.2.2) ((bq q).1,(bq q).2)) fun r6=>
   chk (decide (0≤(i:Int))&&decide ((i:Int)<(((S.take i).map (gA x)++S.drop i).length:Int))) <|
   Option.bind (((S.take i).map (gA x)++S.drop i)[(i:Int).toNat]?) fun y7=>
   chk (decide (((List.length (out++jF x (S.take i)))+1)*32≤140737488355328)&&decide ((List.length (out++jF x (S.take i)))+1≤maxLen)) <|
   again (x27 ((out++jF x (S.take i))++[((aW x).1,((bq q).1,(bq q).2),(aW x).2.2.2.2.2.1)]) a b (S.length:Int) (w64 ((i:Int)+1)) (aW x) (List.set ((S.take i).map (gA x)++S.drop i) (i:Int).toNat (y7.1,y7.2.1,r6.1)) M))=some (Sum.inr (out++jF x S,a,b,S.map (gA x),M,())):=fun q hq=>by
   subst hq
   refine bs (IL hm (cq (n:=jO x g) (by omega))) ?_
   rw[hlen,cw (by rw[agx];exact⟨ajh (by omega),ajh (by omega)⟩),ag2,hget,ai1,cw (by rw[agx,ahH];exact⟨ajh (by omega),ajh (by omega)⟩)]
   refine hag _ ?_
   rw[heyes hhit, ← ag8, ← hnext (g.1,g.2.1,bq (aD g.2.2 - jO x g)) (by unfold gA;rw[ajp hhit]),av (n:=(i:Int)+1) (by omega) (by omega)]
   rfl
  by_cases c:x.opn<aD g.2.2
  ·rw[show decide ((aD g.2.2 - x.opn).sign>0)=true by rw[Ka];exact ajh (by omega),ajd,aM]
   exact hfin x.opn (by unfold jO;rw[ajp c])
  ·rw[show decide ((aD g.2.2 - x.opn).sign>0)=false by rw[Ka];exact ajf (by omega),ajc,aM]
   exact hfin (aD g.2.2) (by unfold jO;rw[ajo c])
 ·rintro X again rfl
  unfold Cv
  dsimp only
  rw[ajf (show ¬(S.length:Int)<(S.length:Int) by omega),ajc,air,List.drop_length,ag9]
 ·rw[aiv,ahh]
  show x27 out a b (S.length:Int) 0 (aW x) S M=x27 (out++[]) a b (S.length:Int) 0 (aW x) ([]++S) M
  rw[ag9,aic]
end Go.Md
set_option linter.all false
namespace Go.Md
open Go.Dn
theorem XT {x:ai}:∀ {S:List aJ},(∀ g,g∈S→cK g≠(x.art,x.unit))→jF x S=[]∧S.map (gA x)=S∧xq (x.art,x.unit) (stM S)=none
 | [],_=>⟨rfl,rfl,rfl⟩
 | g::r,h=>by
  obtain⟨h1,h2,h3⟩:=XT (S:=r) fun g hg=>h g (by simp[hg])
  have hg:¬Ip x g:=fun e=>h g (by simp) e.1
  refine⟨?_, ?_, ?_⟩
  ·simp only[jF];rw[ajo hg];exact h1
  ·rw[ahU,h2];unfold gA;rw[ajo hg]
  ·show xq (x.art,x.unit) ((cK g,aD g.2.2)::stM r)=none
   simp only[xq]
   rw[ajo (fun e=>h g (by simp) e.symm)]
   exact h3
theorem ZX {x:ai} (hx:0<x.opn) (hx1:x.opn≤1000000000000):∀ {S:List aJ},(S.map cK).Nodup→(∀ g,g∈S→GOk g)→
 jF x S=(if takeN (stM S) x>0 then [(x.no,bq (takeN (stM S) x),x.due)] else [])∧stM (S.map (gA x))=(if takeN (stM S) x>0 then sV (x.art,x.unit) (uw (stM S) x - takeN (stM S) x) (stM S) else stM S)
 | [],_,_=>by
  have:¬takeN (stM []) x>0:=by
   show ¬(if x.opn<0 then x.opn else 0)>0
   rw[ajo (by omega)];omega
  rw[ajo this,ajo this];exact⟨rfl,rfl⟩
 | g::r,hn,hG=>by
  rw[ahU,List.nodup_cons] at hn
  have hg:=hG g (by simp)
  by_cases k:cK g=(x.art,x.unit)
  ·obtain⟨h1,h2,h3⟩:=XT (x:=x) (S:=r) fun q hq e=>hn.1 (ah6.2 ⟨q,hq,by rw[e,k]⟩)
   have hlot:uw (stM (g::r)) x=aD g.2.2:=by
    show (xq (x.art,x.unit) ((cK g,aD g.2.2)::stM r)).getD 0=_
    simp only[xq]
    rw[ajp k.symm];rfl
   have htk:takeN (stM (g::r)) x=jO x g:=by unfold takeN jO;rw[hlot]
   rw[htk,hlot,ahU,h2]
   simp only[jF]
   rw[h1]
   have g0:=hg.2.1;have g1:=hg.2.2
   by_cases z:aD g.2.2=0
   ·have hnh:¬Ip x g:=fun e=>e.2 z
    have hm:¬jO x g>0:=by unfold jO;rw[z,ajo (by omega)];omega
    rw[ajo hnh,ajo hm,ajo hm]
    refine⟨rfl, ?_⟩
    unfold gA;rw[ajo hnh]
   ·have hh:Ip x g:=⟨k,z⟩
    have hm:jO x g>0:=by unfold jO;split<;>omega
    have hb:(aD g.2.2 - jO x g).natAbs≤2000000000000000:=by
     have:jO x g≤aD g.2.2:=by unfold jO;split<;>omega
     omega
    rw[ajp hh,ajp hm,ajp hm]
    refine⟨rfl, ?_⟩
    show (cK (gA x g),aD (gA x g).2.2)::stM r=sV (x.art,x.unit) (aD g.2.2 - jO x g) ((cK g,aD g.2.2)::stM r)
    simp only[sV]
    rw[ajp k.symm]
    unfold gA
    rw[ajp hh,TL hb]
    show (cK g,_)::_=_
    rw[k]
  ·obtain⟨h1,h2⟩:=ZX hx hx1 (S:=r) hn.2 fun q hq=>hG q (by simp[hq])
   have hnh:¬Ip x g:=fun e=>k e.1
   have hlot:uw (stM (g::r)) x=uw (stM r) x:=by
    show (xq (x.art,x.unit) ((cK g,aD g.2.2)::stM r)).getD 0=_
    simp only[xq]
    rw[ajo (fun e=>k e.symm)]
   have htk:takeN (stM (g::r)) x=takeN (stM r) x:=by unfold takeN;rw[hlot]
   rw[htk,hlot]
   simp only[jF]
   rw[ajo hnh]
   refine⟨h1, ?_⟩
   rw[ahU]
   show (cK (gA x g),aD (gA x g).2.2)::stM (r.map (gA x))=_
   rw[h2]
   unfold gA
   rw[ajo hnh]
   split
   ·show _=sV (x.art,x.unit) _ ((cK g,aD g.2.2)::stM r)
    simp only[sV]
    rw[ajo (fun e=>k e.symm)]
   ·rfl
theorem acY {x:ai} {r:List ai} {S:List aJ} (hx:0<x.opn) (hx1:x.opn≤1000000000000) (hn:(S.map cK).Nodup) (hG:∀ g,g∈S→GOk g):oz (x::r) (stM S)=jF x S++oz r (stM (S.map (gA x))):=by
 obtain⟨h1,h2⟩:=ZX hx hx1 hn hG
 rw[h1,h2]
 simp only[oz]
 split<;>rfl
theorem Kb (l:List aJ) (hl:l.length≤2000):lM l=some (l,()):=by
 have sI:maxLen=9223372036854775807:=rfl
 have hc:(decide ((0+(List.length l))*48≤140737488355328)&&decide (0+(List.length l)≤maxLen))=true:=by
  rw[agx];exact⟨ajh (by omega),ajh (by omega)⟩
 unfold lM
 rw[cw hc]
 cases l with
 | nil=>simp[both]
 | cons x r=>rfl
theorem Yr {D:List ai} (hD:∀ x,x∈D→0<x.opn∧x.opn≤1000000000000) (hl:D.length≤500):∀ (r:List ai) (i n:Nat) (out:List bL) (S:List aJ),D.drop i=r→i≤D.length→out.length≤i*500→S.length≤500→(S.map cK).Nodup→(∀ g,g∈S→GOk g)→r.length<n→
 iter (X:=CA) (β:=Cy) n (out,((D.map aW).length:Int),(i:Int),S,D.map aW,()) x6=some (Sum.inr (out++oz r (stM S),())):=by
 have hml:(D.map aW).length=D.length:=ahL _
 intro r
 induction r with
 | nil=>
  intro i n out S hdr hi ho hS hn hG hf
  have:i=D.length:=by
   have:=congrArg List.length hdr
   simp at this;omega
  subst this
  obtain⟨n,rfl⟩:∃ m,n=m+1:=⟨n - 1,by omega⟩
  rw[bH]
  unfold x6
  dsimp only
  rw[hml,ajf (show ¬(D.length:Int)<(D.length:Int) by omega),ajc]
  simp only[oz]
  rw[ag9]
 | cons x r ih=>
  intro i n out S hdr hi ho hS hn hG hf
  have hx:D[i]? =some x:=by
   have:=congrArg (·[0]?) hdr
   simpa [ahu] using this
  have hr':D.drop (i+1)=r:=by
   have:=congrArg List.tail hdr
   simpa [ain] using this
  have hlt:=(ahx.1 hx).1
  obtain⟨x0,x1⟩:=hD x (ah7 hx)
  have hk':(D.map aW)[i]? =some (aW x):=by rw[ahy,hx];rfl
  obtain⟨n,rfl⟩:∃ m,n=m+1:=⟨n - 1,by simp at hf;omega⟩
  rw[bH]
  generalize hag:(fun y=>iter n y x6)=again
  unfold x6
  dsimp only
  rw[ajh (show (i:Int)<((D.map aW).length:Int) by omega),ajd,cw (by rw[agx];exact⟨ajh (by omega),rfl⟩),ag2,hk',ai1]
  have hll:=adM (a:=((D.map aW).length:Int)) (b:=(i:Int)) (x:=x) (S:=S) (M:=D.map aW) (out:=out) (by omega) x1 hG hS (by omega)
  rw[hll _ (by with_reducible repeat (first | exact Ur _ _ (by with_reducible repeat (first | exact aiZ | refine aiy _ ?_)) | refine Nat.lt_add_left _ ?_)),aM]
  dsimp only
  rw[av (n:=(i:Int)+1) (by omega) (by omega), ← hag,show (i:Int)+1=((i+1:Nat):Int) by omega]
  have hel:=XS x S
  have hkeys:(S.map (gA x)).map cK=S.map cK:=by
   rw[ahV]
   exact ahT fun g hg=>(ZW (x:=x) (by omega) (hG g hg)).2
  refine (ih (i+1) n (out++jF x S) (S.map (gA x)) hr' (by omega) (by rw[ahH];omega) (by rw[ahL];exact hS) (by rw[hkeys];exact hn) (fun g hg=>by
   obtain⟨q,hq,rfl⟩:=ah6.1 hg
   exact (ZW (by omega) (hG q hq)).1) (by simp at hf;omega)).trans ?_
  rw[acY x0 x1 hn hG,ag8]
theorem Li:∀ (r:List ai) (m:StM),(oz r m).length≤r.length
 | [],_=>aiF _
 | x::r,m=>by
  simp only[oz,ahI]
  split
  ·rw[ahI]
   have:=Li r (sV (x.art,x.unit) (uw m x - takeN m x) m)
   omega
  ·have:=Li r m
   omega
theorem abq (o:aj) (l:List aa) (day:Int) (st:List aJ) (tx:∀ d,d∈l→Txt d):Pp o l day st=some (if Ck o l day st=0 then oz (oa day (nX o l 0 day).1) (stM st) else [],Ck o l day st,()):=by
 unfold Pp Ck
 rw[Yp o l day tx,ai1]
 dsimp only
 by_cases h:lnF o l day=0
 rotate_left
 ·rw[fY h,ajd,ajp (show lnF o l day≠0 from h),ajo h]
 rw[ajo (show ¬lnF o l day≠0 from fun e=>e h),h,zne,ajc]
 by_cases hl:500<st.length
 ·have hs:rT st=2:=by unfold rT;rw[ajp hl]
  rw[ajh (show (st.length:Int)>500 by omega),ajd,hs];rfl
 have hs:rT st=fQ [] st:=by unfold rT;rw[ajo hl]
 rw[ajf (show ¬(st.length:Int)>500 by omega),ajc]
 obtain⟨o1,o2,o3,o4,o5,o6⟩:=o
 dsimp only
 have hloop:=Wv (l:=l) (day:=day) (o1:=o1) (o2:=o2) (o3:=o3) (o4:=o4) (o5:=o5) (o6:=o6) (st:=st) (by omega) st 0
 rw[show ((0:Nat):Int)=0 from rfl,aiv, ← hs] at hloop
 rw[hloop _ rfl (aiY _) (by with_reducible repeat (first | exact Ur _ _ (by with_reducible repeat (first | exact aiZ | refine aiy _ ?_)) | refine Nat.lt_add_left _ ?_))]
 by_cases hz:rT st=0
 rotate_left
 ·rw[ajp (show rT st≠0 from hz),ajo hz];rfl
 rw[ajo (show ¬rT st≠0 from fun e=>e hz),aM,ajp hz,hz]
 have hok:=VM hz
 obtain⟨h1,_⟩:=XV h
 obtain⟨L,e1,e2⟩:=ac4 h1 day
 obtain⟨hg,hI⟩:=QK h1 0 day
 dsimp only
 rw[Kb st (by omega),ai1,e1,ai1]
 dsimp only
 rw[ac3 e2 hg hI day,ai1]
 clear e1 e2
 generalize (nX (o1,o2,o3,o4,o5,o6) l 0 day).1=A at hg hI
 dsimp only
 have hD:∀ x,x∈oa day A→0<x.opn∧x.opn≤1000000000000:=fun x hx=>by
  obtain⟨m1,m2,_⟩:=Q6 hx
  exact⟨m2,(On (hg.sound.line x m1).1).2⟩
 have:=Yr hD (QZ hI) (oa day A) 0 (List.length ([]:List bL)+(Int.natAbs ((((oa day A).map aW).length:Int))+(Int.natAbs (0:Int)+(st.length+(((oa day A).map aW).length+2))))) [] st rfl (aiY _) (aiY _) hok.len hok.nd (fun g hg=>afV (hok.q g hg)) (by rw[ahL];omega)
 rw[show ((0:Nat):Int)=0 from rfl] at this
 rw[this,aM]
 rfl
theorem law_OrderPlansMatchSpec (o:aj) (l:List aa) (day:Int) (st:List aJ) (tx:∀ d,d∈l→Txt d):lH o l day st=some (true,()):=by
 unfold lH
 have b1:(if Ck o l day st=0 then oz (oa day (nX o l 0 day).1) (stM st) else []).length≤2001:=by
  split
  ·rename_i h
   have hl:lnF o l day=0:=by
    unfold Ck at h
    split at h
    ·rename_i h1;exact absurd h h1
    ·rename_i h1;exact agM.1 h1
   have h1:=Li (oa day (nX o l 0 day).1) (stM st)
   have h2:=QZ (day:=day) (QK (XV hl).1 0 day).2
   omega
  ·exact aiY _
 rw[Wo,ai1,abq o l day st tx,ai1]
 dsimp only
 rw[show (Ck o l day st==Ck o l day st)=true by simp,ajd,IN _ b1,ai1,ajd,afl]
 rfl
end Go.Md
set_option linter.all false
namespace Go.Md
open Go.Dn
end Go.Md
