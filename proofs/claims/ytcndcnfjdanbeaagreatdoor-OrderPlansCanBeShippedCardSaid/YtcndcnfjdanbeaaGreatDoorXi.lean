/-
  Plain facts: what is planned; the plain law is true of all data. No condition.
-/
import Derived.Test.YtcndcnfjdanbeaaGreatDoorXj
set_option linter.all false
set_option linter.all false
namespace Go.Md
open Go.Dn
abbrev gP (g:bJ):br:=(g.1,g.2.1)
theorem B7 (a b:br):Ty.beq aM a b=decide (a=b):=by
 show (JJ a.1 b.1&&JJ a.2 b.2)=_
 by_cases h1:a.1=b.1
 ·by_cases h2:a.2=b.2
  ·rw[YB (Prod.ext h1 h2)]
   simp[JJ,h1,h2]
  ·rw[YA (fun e=>h2 (by rw[e]))]
   simp[JJ,h2]
 ·rw[YA (fun e=>h1 (by rw[e]))]
  simp[JJ,h1]
def Ey {α:Type} (k:br):List (br×α)→Option α
 | []=>none
 | p::r=>if k=p.1 then some p.2 else Ey k r
theorem OC {v:Ty} (k:br):∀ m:List (br×v.den),bA (k:=aM) (v:=v) m k=Ey k m
 | []=>rfl
 | p::r=>by
  have e:= @MF aM v p r k
  refine e.trans ?_
  have ih:=OC (v:=v) k r
  simp only[Ey]
  by_cases h:k=p.1
  ·rw[YJ h,show Ty.beq aM k p.1=true from (B7 _ _).trans (YB h)];rfl
  ·rw[YI h,show Ty.beq aM k p.1=false from (B7 _ _).trans (YA h),Yy];exact ih
def xy {α:Type} (k:br) (y:α):List (br×α)→List (br×α)
 | []=>[(k,y)]
 | p::r=>if k=p.1 then (k,y)::r else p::xy k y r
theorem KF {v:Ty} (k:br) (y:v.den):∀ m:List (br×v.den),jH (k:=aM) (v:=v) m k y=xy k y m
 | []=>rfl
 | p::r=>by
  refine (@Sr aM v p r k y).trans ?_
  have ih:=KF (v:=v) k y r
  simp only[xy]
  by_cases h:k=p.1
  ·rw[YJ h,show Ty.beq aM k p.1=true from (B7 _ _).trans (YB h)];rfl
  ·rw[YI h,show Ty.beq aM k p.1=false from (B7 _ _).trans (YA h),Yy,ih]
   rfl
theorem JK {α:Type} {k:br} {y:α}:∀ {m:List (br×α)},(∀ p,p∈m→k≠p.1)→xy k y m=m++[(k,y)]
 | [],_=>rfl
 | p::r,h=>by
  simp only[xy]
  rw[YI (h p (by simp)),JK fun q hq=>h q (by simp[hq])];rfl
theorem NR {α:Type} {b c:Bool} (h:b=c) (x y:α):(bif b then x else y)=bif c then x else y:=by rw[h]
def yy (seen:List bJ) (g:bJ):Int:=
 if ef g.1=false then 5 else if ef g.2.1=false then 5 else if qOk g.2.2 true=false then 1 else if (seen.any fun x=>decide (gP x=gP g))=true then 7 else 0
def lT:List bJ→List bJ→Int
 | _,[]=>0
 | seen,g::r=>if yy seen g≠0 then yy seen g else lT (seen++[g]) r
def Bw (l:List bJ):Int:=if 500<l.length then 2 else lT [] l
theorem TN (seen:List bJ) (g:bJ):Option.getD (Ey (gP g) (seen.map fun x=>(gP x,true))) false=seen.any fun x=>decide (gP x=gP g):=by
 induction seen with
 | nil=>rfl
 | cons x r ih=>
  rw[Xm,Wv]
  simp only[Ey]
  by_cases h:gP g=gP x
  ·rw[YJ h,YB h.symm];rfl
  ·rw[YI h,YA (fun e=>h e.symm),Wb];exact ih
theorem Gc (l:List bJ):ni l=some (Bw l,()):=by
 unfold ni Bw
 by_cases hl:500<l.length
 ·rw[YJ hl,YB (show (l.length:Int)>500 by omega),Yz]
 rw[YI hl,YA (show ¬(l.length:Int)>500 by omega),Yy]
 have loop:∀ (r:List bJ) (i n:Nat),l.drop i=r→i≤l.length→r.length<n→iter (X:=jS) (β:=jR) n (l,(l.length:Int),(i:Int),(l.take i).map (fun x=>(gP x,true)),()) ic=some (if lT (l.take i) r≠0 then Sum.inl (lT (l.take i) r,()) else Sum.inr ()):=by
  intro r
  induction r with
  | nil=>
   intro i n hdr hi hn
   have:i=l.length:=by
    have:=congrArg List.length hdr
    simp at this;omega
   subst this
   obtain⟨n,rfl⟩:∃ m,n=m+1:=⟨n - 1,by omega⟩
   rw[cI]
   unfold ic
   dsimp only
   rw[YA (show ¬(l.length:Int)<(l.length:Int) by omega),Yy]
   rfl
  | cons g r ih=>
   intro i n hdr hi hn
   have hx:l[i]? =some g:=by
    have:=congrArg (·[0]?) hdr
    simpa [WU] using this
   have hr':l.drop (i+1)=r:=by
    have:=congrArg List.tail hdr
    simpa [XK] using this
   have hlt:=(WX.1 hx).1
   obtain⟨n,rfl⟩:∃ m,n=m+1:=⟨n - 1,by simp at hn;omega⟩
   rw[cI]
   generalize hag:(fun y=>iter n y ic)=again
   unfold ic
   dsimp only
   rw[YB (show (i:Int)<(l.length:Int) by omega),Yz,eS hx,Yo,qX,Yo]
   have hbad:∀ z:Int,z≠0→yy (l.take i) g=z→some (Sum.inl (z,()))=some (if lT (l.take i) (g::r)≠0 then (Sum.inl (lT (l.take i) (g::r),()):jR) else Sum.inr ()):=fun z hz e=>by
    have:lT (l.take i) (g::r)=z:=by simp only[lT];rw[e,YJ hz]
    rw[this,YJ hz]
   cases n1:ef g.1
   ·exact hbad 5 (by omega) (by unfold yy;rw[YJ n1])
   dsimp only
   rw[Wh,Yy,qX,Yo]
   cases n2:ef g.2.1
   ·exact hbad 5 (by omega) (by unfold yy;rw[YI (by rw[n1];nofun),YJ n2])
   dsimp only
   rw[Wh,Yy,oN,Yo]
   cases n3:qOk g.2.2 true
   ·exact hbad 1 (by omega) (by unfold yy;rw[YI (by rw[n1];nofun),YI (by rw[n2];nofun),YJ n3])
   dsimp only
   rw[YJ rfl,zne,Yy]
   have hseen:=TN (l.take i) g
   refine (NR (b:=Option.getD (α:=Bool) (bA (k:=aM) (v:= .bool) ((l.take i).map (fun x=>(gP x,true))) (g.1,g.2.1)) false) ((congrArg (fun z:Option Bool=>Option.getD z false) (OC (v:= .bool) (gP g) _)).trans hseen) _ _).trans ?_
   cases n4:(l.take i).any fun x=>decide (gP x=gP g)
   rotate_left
   ·exact hbad 7 (by omega) (by unfold yy;rw[YI (by rw[n1];nofun),YI (by rw[n2];nofun),YI (by rw[n3];nofun),YJ n4])
   rw[Yy]
   have hgood:yy (l.take i) g=0:=by unfold yy;rw[YI (by rw[n1];nofun),YI (by rw[n2];nofun),YI (by rw[n3];nofun),YI (by rw[n4];nofun)]
   have e:lT (l.take i) (g::r)=lT (l.take (i+1)) r:=by
    simp only[lT];rw[hgood,YI (fun h=>h rfl),oF hx]
   have hfresh:∀ p,p∈(l.take i).map (fun x=>(gP x,true))→gP g≠p.1:=fun p hp=>by
    obtain⟨x,hx',rfl⟩:=Xv.1 hp
    rw[Ww] at n4
    have:=n4 x hx'
    intro e
    exact this (YB e.symm)
   have em0:xy (gP g) true ((l.take i).map (fun x=>(gP x,true)))=(l.take (i+1)).map (fun x=>(gP x,true)):=by
    rw[JK hfresh,oF hx,Xk]
    rfl
   have em:jH (k:=aM) (v:= .bool) ((l.take i).map (fun x=>(gP x,true))) (g.1,g.2.1) true=(l.take (i+1)).map (fun x=>(gP x,true)):=(KF (v:= .bool) (gP g) true _).trans em0
   rw[e,aC (n:=(i:Int)+1) (by omega) (by omega), ← hag,show (i:Int)+1=((i+1:Nat):Int) by omega]
   refine (congrArg (fun z:List (br×Bool)=>iter n ((l,(l.length:Int),((i+1:Nat):Int),z,()):jS) ic) em).trans ?_
   exact ih (i+1) n hr' (by omega) (by simp at hn;omega)
 have:=loop l 0 (List.length l+(Int.natAbs ((List.length l:Int))+(Int.natAbs (0:Int)+(List.length ([]:List (br×Bool))+2)))) rfl (Ym _) (by omega)
 refine (congrArg (fun z=>aL (β:=(Int×Unit)) (γ:=Unit) z fun _=>some (0,())) this).trans ?_
 rw[List.take_zero]
 by_cases h:lT [] l=0
 ·rw[YI (fun e=>e h),h];rfl
 ·rw[YJ h];rfl
end Go.Md
set_option linter.all false
namespace Go.Md
open Go.Dn
structure Qx (l:List bJ):Prop where
 len:l.length≤500
 q:∀ g,g∈l→qOk g.2.2 true=true
 nd:(l.map gP).Nodup
theorem K8:∀ {r seen:List bJ},lT seen r=0→(seen.map gP).Nodup→(∀ g,g∈r→qOk g.2.2 true=true)∧((seen++r).map gP).Nodup
 | [],seen,_,h=>⟨fun g hg=>(nomatch hg),by rw[Wz];exact h⟩
 | g::r,seen,h,hn=>by
  simp only[lT] at h
  split at h
  ·rename_i c;exact absurd h c
  ·rename_i c
   have c:=Wk.1 c
   have hq:qOk g.2.2 true=true∧(seen.any fun x=>decide (gP x=gP g))=false:=by
    unfold yy at c
    split at c
    ·cases c
    ·split at c
     ·cases c
     ·split at c
      ·cases c
      ·rename_i h3
       split at c
       ·cases c
       ·rename_i h4
        exact⟨(Bool.not_eq_false _).mp h3,(Wd _).mp h4⟩
   have hns:((seen++[g]).map gP).Nodup:=by
    rw[Xk,List.nodup_append]
    refine⟨hn,by simp,fun a ha b hb e=> ?_⟩
    obtain⟨x,hx,rfl⟩:=Xv.1 ha
    simp only[Xm,List.map_nil,Xz] at hb
    have:=hq.2
    rw[Ww] at this
    exact this x hx (YB (e.trans hb))
   obtain⟨h1,h2⟩:=K8 h hns
   refine⟨fun x hx=> ?_,by simpa using h2⟩
   rcases Xp.1 hx with rfl | hx
   ·exact hq.1
   ·exact h1 x hx
theorem MV {l:List bJ} (h:Bw l=0):Qx l:=by
 unfold Bw at h
 split at h
 ·cases h
 ·rename_i hl
  obtain⟨h1,h2⟩:=K8 h List.nodup_nil
  exact⟨by omega,h1,by simpa using h2⟩
abbrev StM:Type:=List (br×Int)
def stM (l:List bJ):StM:=l.map fun g=>(gP g,aU g.2.2)
abbrev vK (m:StM) (x:ai):Int:=(Ey (x.art,x.unit) m).getD 0
abbrev takeN (m:StM) (x:ai):Int:=if x.opn<vK m x then x.opn else vK m x
def mh:List ai→StM→List cg
 | [],_=>[]
 | x::r,m=>if takeN m x>0 then (x.no,lU (takeN m x),x.due)::mh r (xy (x.art,x.unit) (vK m x - takeN m x) m) else mh r m
structure MOk (m:StM):Prop where
 val:∀ p,p∈m→0≤p.2∧p.2≤1000000000000
theorem MOk.lot {m:StM} (h:MOk m) (x:ai):0≤vK m x∧vK m x≤1000000000000:=by
 unfold vK
 cases hg:Ey (x.art,x.unit) m with
 | none=>exact⟨Int.le_refl _,by show (0:Int)≤_;omega⟩
 | some v=>
  have:∀ {m:StM},(∀ p,p∈m→0≤p.2∧p.2≤1000000000000)→∀ v,Ey (x.art,x.unit) m=some v→0≤v∧v≤1000000000000:=by
   intro m
   induction m with
   | nil=>intro _ v hv;cases hv
   | cons p r ih=>
    intro hp v hv
    simp only[Ey] at hv
    split at hv
    ·cases hv;exact hp p (by simp)
    ·exact ih (fun q hq=>hp q (by simp[hq])) v hv
  exact this h.val v hg
theorem MOk.set {m:StM} (h:MOk m) {k:br} {v:Int} (h0:0≤v) (h1:v≤1000000000000):MOk (xy k v m):=by
 refine⟨?_⟩
 have hv:=h.val
 clear h
 induction m with
 | nil=>
  intro p hp
  simp only[xy,Xz] at hp
  subst hp;exact⟨h0,h1⟩
 | cons q r ih=>
  intro p hp
  simp only[xy] at hp
  split at hp
  ·rcases Xp.1 hp with rfl | hp
   ·exact⟨h0,h1⟩
   ·exact hv p (by simp[hp])
  ·rcases Xp.1 hp with rfl | hp
   ·exact hv _ (by simp)
   ·exact ih (fun q hq=>hv q (by simp[hq])) p hp
theorem SS {l:List bJ} (h:Qx l):MOk (stM l):=⟨fun p hp=>by
 obtain⟨g,hg,rfl⟩:=Xv.1 hp
 obtain⟨u0,u1,_⟩:=qp (h.q g hg)
 exact⟨u0,u1⟩⟩
theorem Ra {l:List bJ} (h:Qx l) {day:Int} {o1 o2 o3:Bys} {o4 o5 wt:Int} {o6:List aO} {ds:List aa} {ref:List ah} {pts:List au} {mp:List (Int×Option Nat)} {ar:List ak}:
 ∀ n,l.length<n→iter (X:=nR) (β:=vz) n (day,l,(l.length:Int),0,o1,o2,o3,o4,o5,o6,ds,wt,ref,pts,[],mp,ar,()) vw=some (Sum.inr (day,o1,o2,o3,o4,o5,o6,ds,wt,ref,pts,stM l,mp,ar,())):=by
 intro n hn
 have hlen:=h.len
 refine kO (Inv:=fun i X=>X=((day,l,(l.length:Int),(i:Int),o1,o2,o3,o4,o5,o6,ds,wt,ref,pts,stM (l.take i),mp,ar,()):nR)) l.length (fun z=>z=some (Sum.inr (day,o1,o2,o3,o4,o5,o6,ds,wt,ref,pts,stM l,mp,ar,()))) ?_ ?_ n 0 _ rfl (Ym _) (by omega)
 ·rintro i X again hi rfl hag
  unfold vw
  dsimp only
  have hx:l[i]? =some l[i]:=WV hi
  generalize l[i]=g at hx
  have hfresh:∀ p,p∈stM (l.take i)→gP g≠p.1:=fun p hp e=>by
   obtain⟨y,hy,rfl⟩:=Xv.1 hp
   have hnd:((l.take (i+1)).map gP).Nodup:=h.nd.sublist ((List.take_sublist _ _).map _)
   rw[oF hx,Xk,List.nodup_append] at hnd
   exact hnd.2.2 (gP y) (Xv.2 ⟨y,hy,rfl⟩) (gP g) (by simp) e.symm
  have em0:xy (gP g) (aU g.2.2) (stM (l.take i))=stM (l.take (i+1)):=by
   rw[JK hfresh,oF hx]
   unfold stM
   rw[Xk]
   rfl
  rw[YB (show (i:Int)<(l.length:Int) by omega),Yz,eS hx,Yo,jZ (h.q g (Xw hx)),Yo,aC (n:=(i:Int)+1) (by omega) (by omega)]
  refine hag _ ?_
  exact congrArg (fun z:StM=>((day,l,(l.length:Int),((i+1:Nat):Int),o1,o2,o3,o4,o5,o6,ds,wt,ref,pts,z,mp,ar,()):nR)) ((KF (v:=tI) (gP g) (aU g.2.2) _).trans em0)
 ·rintro X again rfl
  unfold vw
  dsimp only
  rw[YA (show ¬(l.length:Int)<(l.length:Int) by omega),Yy,XN]
theorem SB {ds:List aa} {A:List ai} (hg:Good ds A) (hI:Ids A) {D:List ai} (hD:∀ x,x∈D→x∈A) (hl:D.length≤500):∀ (r:List ai) (i n:Nat) (out:List cg) (m:StM),D.drop i=r→i≤D.length→out.length≤i→MOk m→r.length<n→
 iter (X:=pO) (β:=uh) n (out,((D.map (hOf A)).length:Int),(i:Int),D.map (hOf A),m,A.map ai.tup,()) mU=some (Sum.inr (out++mh r m,A.map ai.tup,())):=by
 have zB:maxLen=9223372036854775807:=rfl
 have hml:(D.map (hOf A)).length=D.length:=Xf _
 intro r
 induction r with
 | nil=>
  intro i n out m hdr hi ho hm hn
  have:i=D.length:=by
   have:=congrArg List.length hdr
   simp at this;omega
  subst this
  obtain⟨n,rfl⟩:∃ m,n=m+1:=⟨n - 1,by omega⟩
  rw[cI]
  unfold mU
  dsimp only
  rw[hml,YA (show ¬(D.length:Int)<(D.length:Int) by omega),Yy]
  simp only[mh]
  rw[Wz]
 | cons x r ih=>
  intro i n out m hdr hi ho hm hn
  have hx:D[i]? =some x:=by
   have:=congrArg (·[0]?) hdr
   simpa [WU] using this
  have hr':D.drop (i+1)=r:=by
   have:=congrArg List.tail hdr
   simpa [XK] using this
  have hlt:=(WX.1 hx).1
  have hxA:=hD x (Xw hx)
  obtain⟨k,hk,hkx⟩:=Ah hI hxA
  have hk':(D.map (hOf A))[i]? =some (some k):=by rw[WY,hx,Yu,hk]
  obtain⟨p1,p2⟩:=Hs (hg.sound.line x hxA).1
  obtain⟨q1,q2⟩:=hm.lot x
  have hn0:0≤takeN m x∧takeN m x≤1000000000000∧takeN m x≤vK m x:=by unfold takeN;split<;>omega
  obtain⟨n,rfl⟩:∃ m,n=m+1:=⟨n - 1,by simp at hn;omega⟩
  rw[cI]
  generalize hag:(fun y=>iter n y mU)=again
  unfold mU
  dsimp only
  rw[YB (show (i:Int)<((D.map (hOf A)).length:Int) by omega),Yz,gi (by rw[V6];exact⟨YB (by omega),rfl⟩),Ws,hk',Yo,Yo,gh hkx,Yo,Yo,gh hkx,Yo,kS hkx (hg.sound.line x hxA).1,Yo]
  have hget:Option.getD (α:=Int) (bA (k:=aM) (v:=tI) m (x.art,x.unit)) 0=vK m x:=congrArg (fun z:Option Int=>Option.getD z 0) (OC (v:=tI) (x.art,x.unit) m)
  have hset:jH (k:=aM) (v:=tI) m (x.art,x.unit) (vK m x - takeN m x)=xy (x.art,x.unit) (vK m x - takeN m x) m:=KF (v:=tI) (x.art,x.unit) (vK m x - takeN m x) m
  have hw:w64 (Option.getD (α:=Int) (bA (k:=aM) (v:=tI) m (x.art,x.unit)) 0 - (if x.opn<Option.getD (α:=Int) (bA (k:=aM) (v:=tI) m (x.art,x.unit)) 0 then x.opn else Option.getD (α:=Int) (bA (k:=aM) (v:=tI) m (x.art,x.unit)) 0))=vK m x - takeN m x:=by
   simp only[hget]
   exact aC (by omega) (by omega)
  have hif:(if x.opn<Option.getD (α:=Int) (bA (k:=aM) (v:=tI) m (x.art,x.unit)) 0 then x.opn else Option.getD (α:=Int) (bA (k:=aM) (v:=tI) m (x.art,x.unit)) 0)=takeN m x:=by
   simp only[hget]
  dsimp only
  show (bif decide ((if x.opn<Option.getD (α:=Int) (bA (k:=aM) (v:=tI) m (x.art,x.unit)) 0 then x.opn else Option.getD (α:=Int) (bA (k:=aM) (v:=tI) m (x.art,x.unit)) 0)>0) then _ else _)=_
  simp only[mh]
  by_cases c:takeN m x>0
  ·refine (NR (c:=true) (by rw[hif];exact YB c) _ _).trans ?_
   rw[Yz,YJ c]
   refine bs (r:=k) rfl (bs (gh hkx) ?_)
   refine bs (r:=(lU (takeN m x),())) (by rw[hif];exact lY hn0.1 (by omega)) ?_
   refine bs (r:=k) rfl (bs (gh hkx) ?_)
   refine (gi (by rw[V6];exact⟨YB (by omega),YB (by omega)⟩) _).trans ?_
   rw[aC (n:=(i:Int)+1) (by omega) (by omega), ← hag,show (i:Int)+1=((i+1:Nat):Int) by omega]
   refine Eq.trans ?_ ((ih (i+1) n (out++[(x.no,lU (takeN m x),x.due)]) (xy (x.art,x.unit) (vK m x - takeN m x) m) hr' (by omega) (by simp;omega) (hm.set (by omega) (by omega)) (by simp at hn;omega)).trans (by rw[Wy];rfl))
   refine congrArg (fun z:StM=>iter n ((out++[(x.no,lU (takeN m x),x.due)],((D.map (hOf A)).length:Int),((i+1:Nat):Int),D.map (hOf A),z,A.map ai.tup,()):pO) mU) ?_
   refine (congrArg (fun z:Int=>jH (k:=aM) (v:=tI) m (x.art,x.unit) z) hw).trans hset
  ·refine (NR (c:=false) (by rw[hif];exact YA c) _ _).trans ?_
   rw[Yy,YI c,aC (n:=(i:Int)+1) (by omega) (by omega), ← hag,show (i:Int)+1=((i+1:Nat):Int) by omega]
   exact ih (i+1) n out m hr' (by omega) (by omega) hm (by simp at hn;omega)
def KT (o:aj) (l:List aa) (day:Int) (st:List bJ):Int:=if lnF o l day≠0 then lnF o l day else Bw st
theorem Nn (o:aj) (l:List aa) (day:Int) (st:List bJ):Ab o l day st=some (if KT o l day st=0 then mh (nM day (dc o l 0 day).1) (stM st) else [],KT o l day st,()):=by
 unfold Ab
 rw[FI]
 unfold KT lnF
 by_cases h:fN o l=0
 rotate_left
 ·rw[YJ (show fN o l≠0 from h),YJ (show fN o l≠0 from h),YJ h]
  show (bif fN o l != 0 then _ else _)=_
  rw[iS h,Yz,YI h]
 rw[YI (show ¬fN o l≠0 from fun e=>e h),YI (show ¬fN o l≠0 from fun e=>e h)]
 by_cases hd:1≤day∧day≤3652059
 rotate_left
 ·rw[YJ hd,YI hd];rfl
 rw[YI (show ¬¬(1≤day∧day≤3652059) from fun e=>e hd),YJ hd,YI (show ¬((0:Int)≠0) from fun e=>e rfl)]
 refine Eq.trans KK ?_
 rw[IQ h hd,Yo]
 dsimp only
 rw[zne,Yy,Gc,Yo]
 dsimp only
 by_cases hs:Bw st=0
 rotate_left
 ·rw[iS hs,Yz,YI hs]
 rw[YJ hs,hs,zne,Yy]
 have hok:=MV hs
 obtain⟨hg,hI⟩:=Ec h 0 day
 have hF:∀ x,x∈(dc o l 0 day).1→1≤x.due∧x.due≤3652059:=fun x hx=>by
  have h1:=(Rq h 0 day x hx).due
  have h2:=(qm (qd h).1).1
  omega
 generalize (dc o l 0 day).1=A at hg hI hF
 generalize (dc o l 0 day).2.1=ref
 generalize (dc o l 0 day).2.2=pts
 obtain⟨o1,o2,o3,o4,o5,o6⟩:=o
 dsimp only
 have hq:∀ k:Nat,0<k+2:=fun k=>Nat.succ_pos _
 rw[Ra hok _ (fuel1 _ _ _ (by with_reducible repeat (first | exact Nat.zero_lt_two | refine Nat.add_pos_right _ ?_))),bq]
 dsimp only
 rw[Kj hg hI hF (o1,o2,o3,o4,o5,o6) l,Yo]
 dsimp only
 have:=SB hg hI (D:=nM day A) (fun x hx=>(AP hx).1) (Jj hI) (nM day A) 0 (List.length ([]:List cg)+(Int.natAbs ((((nM day A).map (hOf A)).length:Int))+(Int.natAbs (0:Int)+(((nM day A).map (hOf A)).length+((stM st).length+((A.map ai.tup).length+2)))))) [] (stM st) rfl (Ym _) (Ym _) (SS hok) (by rw[Xf];omega)
 rw[show ((0:Nat):Int)=0 from rfl] at this
 rw[this,bq]
 rfl
end Go.Md
set_option linter.all false
namespace Go.Md
open Go.Dn
end Go.Md
set_option linter.all false
namespace Go.Md
open Go.Dn
theorem Ro {n:Int} (h:n.natAbs≤2000000000000000):aU (lU n)=n:=(QV h).val
end Go.Md
set_option linter.all false
namespace Go.Md
open Go.Dn
theorem EU:∀ (r:List ai) (m:StM),(mh r m).length≤r.length
 | [],_=>XZ _
 | x::r,m=>by
  simp only[mh,Xe]
  split
  ·rw[Xe]
   have:=EU r (xy (x.art,x.unit) (vK m x - takeN m x) m)
   omega
  ·have:=EU r m
   omega
end Go.Md
set_option linter.all false
namespace Go.Md
open Go.Dn
theorem Cr {d':aa}:∀ (r:List aa) (p:Option aa) (nb ns:Int),cu r p nb ns=0→
 (d'.2.1=1→d'.2.2.1=nxt r 1 (w64 (nb+1)))→(d'.2.1≠1→d'.2.2.1=nxt r 2 (w64 (ns+1)))→cu (r++[d']) p nb ns=0∨cu (r++[d']) p nb ns=bX d'∨cu (r++[d']) p nb ns=8
 | [],p,nb,ns,_,h1,h2=>by
  simp only[XA,cu]
  split
  ·exact .inr (.inl rfl)
  ·split
   ·exact .inr (.inr rfl)
   ·split
    ·rename_i e;rw[YI (fun h=>h (h1 e))];exact .inl rfl
    ·rename_i e;rw[YI (fun h=>h (h2 e))];exact .inl rfl
 | d::r,p,nb,ns,h,h1,h2=>by
  simp only[cu] at h
  simp only[WA,cu]
  by_cases hf:bX d=0
  rotate_left
  ·rw[YJ hf] at h;exact absurd h hf
  rw[YI (fun e=>e hf)] at h ⊢
  by_cases hpp:(p.any fun q=>decide (0≤dCw q d))=true
  ·rw[YJ hpp] at h;cases h
  rw[YI hpp] at h ⊢
  obtain⟨_,d2,_⟩:=bY hf
  by_cases hb:d.2.1=1
  ·rw[YJ hb] at h ⊢
   by_cases hn:d.2.2.1=w64 (nb+1)
   ·rw[YI (fun e=>e hn)] at h ⊢
    refine Cr r (some d) _ _ h (fun e=> ?_) (fun e=> ?_)
    ·rw[h1 e,EK,YJ hb]
    ·rw[h2 e,EK,YI (by omega)]
   ·rw[YJ hn] at h;cases h
  ·rw[YI hb] at h ⊢
   by_cases hn:d.2.2.1=w64 (ns+1)
   ·rw[YI (fun e=>e hn)] at h ⊢
    refine Cr r (some d) _ _ h (fun e=> ?_) (fun e=> ?_)
    ·rw[h1 e,EK,YI hb]
    ·rw[h2 e,EK,YJ (by omega)]
   ·rw[YJ hn] at h;cases h
abbrev bG (y:cg):aa:=(3652059,2,0,9,y.1,[],y.2.1,[],(0,0),0,0)
theorem PL {l:List aa} {y:cg} {n:Int} (hy:y.2.1=lU n) (h0:0<n) (h1:n≤1000000000000) (hln:1≤y.1∧y.1≤99999):bX (cD l (bG y))=0∨bX (cD l (bG y))=1:=by
 have hu:Cm (cD l (bG y))=0:=by
  unfold Cm
  show HK (usA 9) (usQ 9) (usP 9) (usU 9) (usT 9) ((9:Int)==2) [] y.2.1 [] (0,0) 0 0=0
  have e:qOk y.2.1 false=true:=by rw[hy];exact SZ h0 h1
  unfold HK
  rw[show ((9:Int)==2)=false from rfl,e]
  rfl
 unfold bX
 by_cases hn:1≤xe l 2∧xe l 2≤2000
 ·left
  rw[YI (fun e=>e (show 1≤(3652059:Int)∧(3652059:Int)≤3652059 from ⟨by omega,by omega⟩)),YI (fun e=>e (show 1≤(2:Int)∧(2:Int)≤2 from ⟨by omega,by omega⟩)),YI (fun e=>e (show 1≤xe l 2∧xe l 2≤2000 from hn)),YI (fun e=>e (show 1≤(9:Int)∧(9:Int)≤11 from ⟨by omega,by omega⟩)),YI (fun e=>e (show ((9:Int)=5∨(9:Int)=6∨(9:Int)=7∨(9:Int)=9)↔(2:Int)=2 from ⟨fun _=>rfl,fun _=>by omega⟩)),YI (fun e=>e (show 1≤y.1∧y.1≤99999 from hln))]
  exact hu
 ·right
  rw[YI (fun e=>e (show 1≤(3652059:Int)∧(3652059:Int)≤3652059 from ⟨by omega,by omega⟩)),YI (fun e=>e (show 1≤(2:Int)∧(2:Int)≤2 from ⟨by omega,by omega⟩)),YJ (show ¬(1≤xe l 2∧xe l 2≤2000) from hn)]
def Pl (A:List ai) (y:cg):Prop:=∃ x n,pn y.1 A=some x∧y.2.1=lU n∧0<n∧n≤x.opn
theorem SP {o:aj} {l:List aa} (h:fN o l=0) {y:cg} (hp:Pl (dc o l 0 3652059).1 y):
 ((wrF o l (bG y)).2=2∨(wrF o l (bG y)).2=16∨(wrF o l (bG y)).2=8∨(wrF o l (bG y)).2=1)∨
 ((wrF o l (bG y)).2=0∧fN o (wrF o l (bG y)).1=0∧∀ z:cg,z.1≠y.1→Pl (dc o l 0 3652059).1 z→Pl (dc o (wrF o l (bG y)).1 0 3652059).1 z):=by
 obtain⟨x,n,hx,hy,h0,h1⟩:=hp
 obtain⟨g1,g2⟩:=qd h
 obtain⟨g3,g4⟩:=mM g2
 obtain⟨hg,hI⟩:=Ec h 0 3652059
 have he:=(qm g1).2.1
 unfold pn at hx
 cases hf:gq y.1 (dc o l 0 3652059).1 with
 | none=>rw[hf] at hx;cases hx
 | some k=>
 rw[hf,Yo] at hx
 obtain⟨x',hx',hno⟩:=tV hf
 rw[hx] at hx';cases hx'
 have hxm:=Xw hx
 have hxl:=(hg.sound.line x hxm).1
 obtain⟨p1,p2⟩:=Hs hxl
 have hrg:=hI.rg x hxm
 have hgo:cu l none 0 0=0:=by
  unfold fL at g2
  rwa [YI (by omega)] at g2
 unfold wrF
 rw[YI (show ¬fN o l≠0 from fun e=>e h),YI (show ¬(bG y).2.2.1≠0 from fun e=>e rfl)]
 by_cases hd:fL (l++[cD l (bG y)])=0
 rotate_left
 ·left
  rw[YJ hd]
  show fL (l++[cD l (bG y)])=2∨fL (l++[cD l (bG y)])=16∨fL (l++[cD l (bG y)])=8∨fL (l++[cD l (bG y)])=1
  have:fL (l++[cD l (bG y)])=2∨fL (l++[cD l (bG y)])=cu (l++[cD l (bG y)]) none 0 0:=by
   unfold fL
   split
   ·exact .inl rfl
   ·exact .inr rfl
  rcases this with e | e
  ·exact .inl e
  ·rw[e] at hd ⊢
   rcases Cr (d':=cD l (bG y)) l none 0 0 hgo (fun e=>absurd (show (2:Int)=1 from e) (by omega)) (fun _=>rfl) with q | q | q
   ·exact absurd q hd
   ·rcases PL (l:=l) hy h0 (by omega) (by rw[← hno];exact hrg) with q2 | q2
    ·rw[q,q2] at hd;exact absurd rfl hd
    ·exact .inr (.inr (.inr (by rw[q,q2])))
   ·exact .inr (.inr (.inl q))
 rw[YI (show ¬fL (l++[cD l (bG y)])≠0 from fun e=>e hd)]
 have hc':fN o (l++[cD l (bG y)])=0:=by unfold fN;rw[YI (fun e=>e g1)];exact hd
 have hl':=(mM hd).2
 have hgA:=hg.app (cD l (bG y))
 have hget:(l++[cD l (bG y)])[l.length]? =some (cD l (bG y)):=by rw[WR (XZ _),Nat.sub_self];rfl
 have hact:bF o (l++[cD l (bG y)]) l.length (cD l (bG y)) (dc o l 0 3652059).1=((dw o (l++[cD l (bG y)]) l.length (cD l (bG y)) x).1,(dc o l 0 3652059).1.set k (dw o (l++[cD l (bG y)]) l.length (cD l (bG y)) x).2):=
  Mo (show aV (cD l (bG y))≠1 by show (9:Int)≠1;omega) (show gq (lF (cD l (bG y))) _=some k from hf) hx
 have hun:aU (dQ (cD l (bG y)))=n:=by
  show aU y.2.1=n
  rw[hy];exact Ro (by omega)
 have hmv:(cC (dJ o) (cD l (bG y)) x).1=16∨(cC (dJ o) (cD l (bG y)) x).1=0:=by
  have b4:=hxl.vN
  have hop:x.opn=x.ord - x.shp+x.ret:=by
   unfold ai.opn at h1 ⊢
   split
   ·rfl
   ·rename_i c;rw[YI c] at h1;omega
  have m0:0≤x.ord*dJ o / 1000:=Int.ediv_nonneg (Int.mul_nonneg b4 he.1) (by omega)
  unfold cC
  rw[YJ (show aV (cD l (bG y))=9 from rfl),hun,YI (by omega)]
  split
  ·exact .inl rfl
  ·exact .inr rfl
 have hz:(bF o (l++[cD l (bG y)]) l.length (cD l (bG y)) (dc o l 0 3652059).1).1=16∨(bF o (l++[cD l (bG y)]) l.length (cD l (bG y)) (dc o l 0 3652059).1).1=0:=by
  rw[hact]
  show (dw o (l++[cD l (bG y)]) l.length (cD l (bG y)) x).1=16∨(dw o (l++[cD l (bG y)]) l.length (cD l (bG y)) x).1=0
  unfold dw
  rw[YI (show ¬aV (cD l (bG y))≤4 by show ¬(9:Int)≤4;omega),YI (show ¬aV (cD l (bG y))≤6 by show ¬(9:Int)≤6;omega),YI (show ¬aV (cD l (bG y))=7 by show ¬(9:Int)=7;omega),YI (show ¬aV (cD l (bG y))=8 by show ¬(9:Int)=8;omega),YJ (show aV (cD l (bG y))=9 from rfl)]
  split
  ·exact .inr rfl
  ·exact hmv
 rcases hz with hz | hz
 ·left
  rw[YJ (by rw[hz];decide)]
  exact .inr (.inl hz)
 ·right
  rw[YI (fun e=>e hz)]
  refine⟨rfl,hc',fun z hzn hz'=> ?_⟩
  obtain⟨x2,n2,e1,e2⟩:=hz'
  refine⟨x2,n2, ?_,e2⟩
  have hsn:=Mk (cD l (bG y)) h (show (3652059:Int)≤3652059 by omega) 0
  show pn z.1 (dc o (l++[cD l (bG y)]) 0 3652059).1=some x2
  rw[hsn]
  unfold E9
  rw[YI (fun e=>e hz)]
  show pn z.1 (bF o (l++[cD l (bG y)]) l.length (cD l (bG y)) (dc o l 0 3652059).1).2=some x2
  rw[Pn hgA.sound hl' hget (show lF (cD l (bG y))≠z.1 from fun e=>hzn e.symm)]
  exact e1
theorem EV:∀ {D:List ai} {m:StM},MOk m→(∀ x,x∈D→0≤x.opn∧x.opn≤1000000000000)→∀ y,y∈mh D m→∃ x n,x∈D∧y.1=x.no∧y.2.1=lU n∧0<n∧n≤x.opn
 | [],_,_,_,y,hy=>(nomatch hy)
 | x::r,m,hm,hD,y,hy=>by
  have hx:=hD x (by simp)
  obtain⟨q1,q2⟩:=hm.lot x
  have hle:takeN m x≤x.opn∧takeN m x≤vK m x∧0≤takeN m x:=by unfold takeN;split<;>omega
  simp only[mh] at hy
  split at hy
  ·rename_i c
   rcases Xp.1 hy with rfl | hy
   ·exact⟨x,takeN m x,by simp,rfl,rfl,c,hle.1⟩
   ·obtain⟨z,n,hz,e⟩:=EV (hm.set (by omega) (by omega)) (fun q hq=>hD q (by simp[hq])) y hy
    exact⟨z,n,by simp[hz],e⟩
  ·obtain⟨z,n,hz,e⟩:=EV hm (fun q hq=>hD q (by simp[hq])) y hy
   exact⟨z,n,by simp[hz],e⟩
theorem EW:∀ (D:List ai) (m:StM),((mh D m).map (fun y=>y.1)).Sublist (D.map ai.no)
 | [],_=>List.Sublist.slnil
 | x::r,m=>by
  simp only[mh]
  split
  ·exact (EW r _).cons₂ _
  ·exact (EW r _).cons _
theorem SO {o1 o2 o3:Bys} {o4 o5:Int} {o6:List aO} {E:List cg} (hE:E.length≤500) (hnd:(E.map fun y=>y.1).Nodup):∀ (r:List cg) (i n:Nat) (l:List aa),E.drop i=r→i≤E.length→fN (o1,o2,o3,o4,o5,o6) l=0→(∀ y,y∈r→Pl (dc (o1,o2,o3,o4,o5,o6) l 0 3652059).1 y)→r.length<n→
 ∃ z,iter (X:=gT) (β:=gR) n (l,E,(E.length:Int),(i:Int),o1,o2,o3,o4,o5,o6,()) fF=some z∧(z=Sum.inl (true,())∨z=Sum.inr ()):=by
 intro r
 induction r with
 | nil=>
  intro i n l hdr hi hc hp hn
  have:i=E.length:=by
   have:=congrArg List.length hdr
   simp at this;omega
  subst this
  obtain⟨n,rfl⟩:∃ m,n=m+1:=⟨n - 1,by omega⟩
  refine⟨Sum.inr (), ?_,.inr rfl⟩
  rw[cI]
  unfold fF
  dsimp only
  rw[YA (show ¬(E.length:Int)<(E.length:Int) by omega),Yy]
 | cons y r ih=>
  intro i n l hdr hi hc hp hn
  have hx:E[i]? =some y:=by
   have:=congrArg (·[0]?) hdr
   simpa [WU] using this
  have hr':E.drop (i+1)=r:=by
   have:=congrArg List.tail hdr
   simpa [XK] using this
  have hlt:=(WX.1 hx).1
  have hne:∀ z,z∈r→z.1≠y.1:=fun z hz e=>by
   have h2:((E.drop i).map fun y=>y.1).Nodup:=hnd.sublist ((List.drop_sublist _ _).map _)
   rw[hdr,Xm,List.nodup_cons] at h2
   exact h2.1 (Xv.2 ⟨z,hz,e⟩)
  obtain⟨n,rfl⟩:∃ m,n=m+1:=⟨n - 1,by simp at hn;omega⟩
  rw[cI]
  generalize hag:(fun y=>iter n y fF)=again
  unfold fF
  dsimp only
  rw[YB (show (i:Int)<(E.length:Int) by omega),Yz,eS hx,Yo,Np,Yo]
  dsimp only
  have hs:=SP hc (hp y (by simp))
  rcases hs with hs | ⟨hs1,hs2,hs3⟩
  ·refine⟨Sum.inl (true,()), ?_,.inl rfl⟩
   change (wrF (o1,o2,o3,o4,o5,o6) l (3652059,2,0,9,y.1,[],y.2.1,[],(0,0),0,0)).2=2∨_ at hs
   generalize (wrF (o1,o2,o3,o4,o5,o6) l (3652059,2,0,9,y.1,[],y.2.1,[],(0,0),0,0)).2=e at hs ⊢
   rcases hs with rfl | rfl | rfl | rfl<;>rfl
  ·change (wrF (o1,o2,o3,o4,o5,o6) l (3652059,2,0,9,y.1,[],y.2.1,[],(0,0),0,0)).2=0 at hs1
   rw[hs1]
   simp only[Int.reduceBEq,Yy,Yx,show ((0:Int)==2)=false from rfl,show ((0:Int)==16)=false from rfl,show ((0:Int)==8)=false from rfl,show ((0:Int)==1)=false from rfl]
   rw[aC (n:=(i:Int)+1) (by omega) (by omega), ← hag,show (i:Int)+1=((i+1:Nat):Int) by omega]
   exact ih (i+1) n _ hr' (by omega) hs2 (fun z hz=>hs3 z (hne z hz) (hp z (by simp[hz]))) (by simp at hn;omega)
theorem law_OrderPlansCanBeShipped (o:aj) (l:List aa) (st:List bJ):je o l st=some (true,()):=by
 unfold je
 rw[Nn,Yo]
 dsimp only
 by_cases h:KT o l 3652059 st=0
 rotate_left
 ·rw[iS h,Yz,YI h]
  show Option.bind (Option.bind A8 _) _=_
  rw[Rv];rfl
 have hz:lnF o l 3652059=0∧Bw st=0:=by
  unfold KT at h
  split at h
  ·rename_i h1;exact absurd h h1
  ·rename_i h1;exact⟨Wk.1 h1,h⟩
 rw[YJ h,h,zne,Yy,OL,Yo]
 dsimp only
 rw[YJ hz.1,hz.1,zne,Yy]
 have hc:=(Tr hz.1).1
 obtain⟨hg,hI⟩:=Ec hc 0 3652059
 have hok:=SS (MV hz.2)
 have hlen:=EU (nM 3652059 (dc o l 0 3652059).1) (stM st)
 have hDl:=Jj (day:=3652059) hI
 rw[Xf,YA (by omega),Yy,Rv,Yo,Wh,Yy]
 have hmem:=EV (D:=nM 3652059 (dc o l 0 3652059).1) hok (fun x hx=>by
  obtain⟨m1,_⟩:=AP hx
  exact Hs (hg.sound.line x m1).1)
 have hnd:((mh (nM 3652059 (dc o l 0 3652059).1) (stM st)).map fun y=>y.1).Nodup:=by
  refine (EW _ _).nodup ?_
  have h1:=(Er 3652059 (dc o l 0 3652059).1).2.perm.map ai.no
  refine h1.nodup ?_
  have h2:((fJ (dc o l 0 3652059).1).map ai.no).Nodup:=((mN _).map ai.no).symm.nodup hI.nd
  exact h2.sublist (List.filter_sublist.map _)
 obtain⟨o1,o2,o3,o4,o5,o6⟩:=o
 obtain⟨z,e1,e2⟩:=SO (o1:=o1) (o2:=o2) (o3:=o3) (o4:=o4) (o5:=o5) (o6:=o6) (E:=mh (nM 3652059 (dc (o1,o2,o3,o4,o5,o6) l 0 3652059).1) (stM st)) (by omega) hnd _ 0 (List.length l+(List.length (mh (nM 3652059 (dc (o1,o2,o3,o4,o5,o6) l 0 3652059).1) (stM st))+(Int.natAbs ((List.length (mh (nM 3652059 (dc (o1,o2,o3,o4,o5,o6) l 0 3652059).1) (stM st)):Int))+(Int.natAbs (0:Int)+(List.length o1+(List.length o2+(List.length o3+(Int.natAbs o4+(Int.natAbs o5+(List.length o6+2)))))))))) l rfl (Ym _) hc (fun y hy=>by
  obtain⟨x,n,hx,f1,f2⟩:=hmem y hy
  obtain⟨m1,_⟩:=AP hx
  obtain⟨j,hj,hjx⟩:=Ah hI m1
  exact⟨x,n,by rw[f1];exact KD hj hjx,f2⟩) (by rw[WH];omega)
 rw[show ((0:Nat):Int)=0 from rfl] at e1
 dsimp only
 rw[e1]
 rcases e2 with rfl | rfl<;>rfl
end Go.Md
