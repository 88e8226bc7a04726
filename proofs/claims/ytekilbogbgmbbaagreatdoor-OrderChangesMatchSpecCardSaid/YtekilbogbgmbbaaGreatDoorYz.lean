/-
  The plain law OrderChangesMatchSpec is true of all data. No condition.
-/
import Derived.Test.YtekilbogbgmbbaaGreatDoorYf
import Derived.Test.YtekilbogbgmbbaaGreatDoorYh
import Derived.Test.YtekilbogbgmbbaaGreatDoorYu
import Derived.Test.YtekilbogbgmbbaaGreatDoorYD
import Derived.Test.YtekilbogbgmbbaaGreatDoorYB
import Derived.Test.YtekilbogbgmbbaaGreatDoorYt
namespace Go.Md
open Go.Dn
theorem Jc {o:aj} (hl:(aS o).length<=500) (n:Int):zz o n=some ((aM (bu (aS o)) n).getD eC,(aM (bu (aS o)) n).isSome,()):=by
 obtain⟨o1,o2,o3,o4,o5,L⟩:=o
 change L.length<=500 at hl
 show _=some ((aM (bu L) n).getD eC,(aM (bu L) n).isSome,())
 unfold zz
 have loop:=ru (f:=wW) (fun (_:Unit) (i:Nat)=>((n,L,(L.length:Int),(i:Int),0,[],0,0,[],0,0,0,()):wY)) L
  (fun (_:Unit) _ y k=>if n=y.1 then some (Sum.inl (y,true,())) else k ()) (fun _=>some (Sum.inr (0,[],0,0,[],0,0,0,()))) (fun s i y again hy=>by
    have hi:i<L.length:=(aej.1 hy).1
    unfold wW
    dsimp only
    rw[af6 (show (i:Int)<(L.length:Int) by omega),af2,bG hy,afO,aA (n:=(i:Int)+1) (by omega) (by omega)]
    by_cases h:n=y.1
    ·rw[age h,show (y.1==n)=true from afY.2 h.symm,af2]
    ·rw[agd h,show (y.1==n)=false from afX.2 fun e=>h e.symm,af1];rfl) (fun s again=>by
    unfold wW
    dsimp only
    rw[af4 (show ¬((L.length:Int)<(L.length:Int)) by omega),af1]) ()
 have hfor:∀ (r:List ai) (i:Nat),tr (fun (_:Unit) (_:Nat) (y:ai) (k:Unit->Option wX)=>if n=y.1 then some (Sum.inl (y,true,())) else k ()) (fun _=>some (Sum.inr (0,[],0,0,[],0,0,0,()))) r i ()=
  match aM (bu r) n with | some y=>some (Sum.inl (y,true,())) | none=>some (Sum.inr (0,[],0,0,[],0,0,0,())):=by
  intro r
  induction r with
  | nil=>intro i;rfl
  | cons y r ih=>
   intro i
   rw[tr]
   show _=match aM ((y.1,y)::bu r) n with | some y=>_ | none=>_
   rw[FY]
   by_cases h:n=y.1
   ·rw[age h,age h]
   ·rw[agd h,agd h];exact ih (i+1)
 refine (congrArg (fun z=>aC z _) ((loop _ ?_).trans (hfor L 0))).trans ?_
 ·refine afx (afv (n:=L.length) (k:=1) Nat.one_pos) ?_
  dsimp only
  have h0:∀ a b c:Nat,1<=c->b+1<=a+(b+c):=fun a b c h=>by omega
  refine h0 _ _ _ ?_
  refine afI fun h=> ?_
  simp[afk] at h
 ·cases aM (bu L) n with
  | none=>rfl
  | some y=>rfl
theorem TF {L:List ai} (hpw:L.Pairwise fun a b=>a.1<b.1):∀ {z:ai},L.getLast? =some z->∀ x∈L,x.1<=z.1:=by
 intro z hz x hx
 obtain⟨ys,rfl⟩:=List.getLast?_eq_some_iff.1 hz
 rw[ae4] at hpw
 rcases aeM.1 hx with h | h
 ·exact Int.le_of_lt (hpw.2.2 x h z (ae0.2 rfl))
 ·rw[ae0] at h;subst h;exact Int.le_refl _
end Go.Md
namespace Go.Md
open Go.Dn
theorem NS {d:ah} (h0:0<=d.2) (h9:d.2<=9):dK d=((few 9 (fS d)).1,((few 9 (fS d)).2:Int)):=by
 obtain⟨z,p⟩:=d
 dsimp only at h0 h9
 obtain⟨k,rfl⟩:∃ k:Nat,p=(k:Int):=⟨p.toNat,by omega⟩
 unfold dK fS
 dsimp only
 rw[adN,show ((9:Int) - (k:Int)).toNat=9 - k by omega]
 have h:=Iu (9 - k) k z
 rw[show k+(9 - k)=9 by omega] at h
 rw[h]
theorem Qz {a b:ah} (ha:0<=a.2/\a.2<=9) (hb:0<=b.2/\b.2<=9):dK a=dK b↔fS a=fS b:=by
 constructor
 ·intro h
  have h1:=Nj ha.1 ha.2
  rw[h,Nj hb.1 hb.2] at h1
  exact h1.symm
 ·intro h
  rw[NS ha.1 ha.2,NS hb.1 hb.2,h]
theorem SU {a b:ah} (ha:eM a) (hb:eM b) (h1:0<=a.2/\a.2<=9) (h2:0<=b.2/\b.2<=9):∃ c,mV a b=some (c,())/\(c != 0)=yu a b:=by
 refine⟨_,Jb ha hb, ?_⟩
 unfold yu
 by_cases h:fS a=fS b
 ·rw[af6 ((Qz h1 h2).2 h),h,Int.sub_self];rfl
 ·rw[af4 (fun e=>h ((Qz h1 h2).1 e))]
  exact cr fun e=>h (by have:=Int.sign_eq_zero_iff_zero.1 e;omega)
def Wz (n:Int) (y:ai):aa:=(0,0,0,2,n,[],y.2.2.1,[],(0,0),0,0)
def ZO (n:Int) (y:ai):aa:=(0,0,0,3,n,[],(0,0),[],(0,0),y.2.2.2.2.2,0)
def ZN (n:Int) (y:ai):aa:=(0,0,0,4,n,[],(0,0),[],y.2.2.2.2.1,0,0)
def acP (n:Int) (y:ai):aa:=(0,0,0,1,n,y.2.1,y.2.2.1,y.2.2.2.1,y.2.2.2.2.1,y.2.2.2.2.2,0)
def uQ (n:Int) (a b:Option ai):List aa:=
 match a,b with
 | none,none=>[]
 | none,some y=>[acP n y]
 | some _,none=>[Wz n eC]
 | some x,some y=>(if yu x.2.2.1 y.2.2.1=true then [Wz n y] else [])++((if x.2.2.2.2.2≠y.2.2.2.2.2 then [ZO n y] else [])++(if yu x.2.2.2.2.1 y.2.2.2.2.1=true then [ZN n y] else []))
def tY (day:Int) (d:aa):aa:=(day,1,d.2.2)
theorem aa5 (day n:Int) (a b:Option ai) (h:a.isSome=true\/b.isSome=true):(uQ n a b).map (tY day)=q7 day n a b:=by
 cases a with
 | none=>
  cases b with
  | none=>rcases h with h | h<;>cases h
  | some y=>rfl
 | some x=>
  cases b with
  | none=>rfl
  | some y=>
   rw[uQ,q7,aeI,aeI]
   congr 1
   ·split<;>rfl
   ·congr 1
    ·split<;>rfl
    ·split<;>rfl
structure LnD (x:ai):Prop where
 q:eM x.2.2.1/\0<=x.2.2.1.2/\x.2.2.1.2<=9
 p:eM x.2.2.2.2.1/\0<=x.2.2.2.2.1.2/\x.2.2.2.2.1.2<=9
theorem jB.lnd {o:aj} (h:jB o):∀ n x,aM (bu (aS o)) n=some x->LnD x:=fun n x hx=>by
 obtain⟨hm,_⟩:=wm hx
 obtain⟨_,q,_,p,_⟩:=h.line x hm
 have hq:inR x.2.2.1 0 1000000000 3=true:=by
  unfold qOk at q
  rw[adf] at q
  exact q.1
 have h1:=Zk q
 have h2:=ri p
 exact⟨⟨(agl hq).1,h1.2.2.1,h1.2.2.2⟩,⟨(agl p).1,h2.2.2.1,h2.2.2.2⟩⟩
theorem R6 {was is:aj} (h1:jB was) (h2:jB is) (n:Int):AJ was is n=some (uQ n (aM (bu (aS was)) n) (aM (bu (aS is)) n),()):=by
 unfold AJ
 rw[Jc h1.len,afO,Jc h2.len,afO]
 dsimp only
 have ha:=h1.lnd n
 have hb:=h2.lnd n
 generalize aM (bu (aS was)) n=a at ha
 generalize aM (bu (aS is)) n=b at hb
 cases a with
 | none=>cases b<;>rfl
 | some x=>
  cases b with
  | none=>rfl
  | some y=>
   have hx:=ha x rfl
   have hy:=hb y rfl
   obtain⟨x1,x2,x3,x4,x5,x6⟩:=x
   obtain⟨y1,y2,y3,y4,y5,y6⟩:=y
   obtain⟨c1,e1,f1⟩:=SU (a:=x3) (b:=y3) hx.q.1 hy.q.1 hx.q.2 hy.q.2
   obtain⟨c2,e2,f2⟩:=SU (a:=x5) (b:=y5) hx.p.1 hy.p.1 hx.p.2 hy.p.2
   simp only[uQ]
   rw[<- f1, <- f2]
   simp only[Option.isSome_some,afP,ads,af1,af2,e1,afO]
   by_cases h6:x6=y6
   ·subst h6
    by_cases d1:c1=0<;>by_cases d2:c2=0<;>simp[d1,d2,aR,chk,e2,Wz,ZO,ZN,maxLen,cr]
   ·have hb6:(x6 != y6)=true:=cr h6
    by_cases d1:c1=0<;>by_cases d2:c2=0<;>simp[d1,d2,aR,chk,e2,Wz,ZO,ZN,maxLen,h6,hb6,cr]
end Go.Md
namespace Go.Md
open Go.Dn
def upTo (U:Nat):List Int:=(List.range U).map fun i:Nat=>Int.ofNat i
theorem Ra (U:Nat):upTo (U+1)=upTo U++[(U:Int)]:=by unfold upTo;rw[List.range_succ,aeI];rfl
theorem TO {U:Nat} {n:Int}:n∈upTo U↔0<=n/\n<(U:Int):=by
 unfold upTo
 rw[aeV]
 constructor
 ·rintro⟨i,hi,rfl⟩
  rw[aeZ] at hi
  show 0<=(i:Int)/\(i:Int)<(U:Int)
  omega
 ·intro h
  exact⟨n.toNat,aeZ.2 (by omega),by show ((n.toNat:Nat):Int)=n;omega⟩
theorem Um:∀ (U:Nat),(upTo U).Pairwise (· < ·)
 | 0=>List.Pairwise.nil
 | U+1=>by
  rw[Ra,ae4]
  refine⟨Um U,List.pairwise_singleton _ _,fun a ha b hb=> ?_⟩
  rw[ae0] at hb
  have:=(TO.1 ha).2
  omega
theorem KO {α β:Type} (f:α->List β) (p:α->Bool):∀ (l:List α),(∀ x∈l,p x=false->f x=[])->l.flatMap f=(l.filter p).flatMap f
 | [],_=>rfl
 | x::r,h=>by
  rw[ad9,ad8]
  have ih:=KO f p r fun y hy=>h y (aeQ _ hy)
  cases hp:p x with
  | true=>rw[age rfl,ad9,ih]
  | false=>rw[agd adm,h x (aeR ..) hp,ae2,ih]
theorem XR {l m:List Int} (hl:l.Pairwise (· < ·)) (hm:m.Pairwise (· < ·)) (h:∀ x,x∈l↔x∈m):l=m:=by
 refine adO (le:=(· < ·)) (fun a b _ _ h1 h2=>by omega) hl hm ((List.perm_ext_iff_of_nodup (hl.imp fun h=>Int.ne_of_lt h) (hm.imp fun h=>Int.ne_of_lt h)).2 h)
theorem XX {a b:List (Int×ai)} (ha:(a.map (·.1)).Nodup) (hb:(b.map (·.1)).Nodup):(dS a b).Pairwise (· < ·):=by
 have hnd:(dS a b).Nodup:=by
  unfold dS
  rw[(ae1 _ _).nodup_iff,ae3]
  refine⟨ha,hb.filter _,fun x hx y hy e=> ?_⟩
  subst e
  have:=(aeS.1 hy).2
  simp only[adq,adR,afY] at this
  obtain⟨p,hp,h⟩:=aeV.1 hx
  exact this p hp h
 have hs:(dS a b).Pairwise fun x y=>decide (x<=y)=true:=List.pairwise_mergeSort (le:=fun x y:Int=>decide (x<=y)) (fun a b c h1 h2=>by simp only[af7] at *;omega) (fun a b=>by simp only[adu,af7];omega) _
 exact (hs.and hnd).imp fun ⟨h1,h2⟩=>by simp only[af7] at h1;omega
theorem NL {L:List ai} (hpw:L.Pairwise fun a b=>a.1<b.1) {n:Int}:(aM (bu L) n).isSome=true↔n∈(bu L).map (·.1):=by
 constructor
 ·intro h
  cases hl:aM (bu L) n with
  | none=>rw[hl] at h;cases h
  | some x=>
   obtain⟨hm,rfl⟩:=wm hl
   have h2:x.1∈(bu L).map (·.1):=aeV.2 ⟨(x.1,x),aeV.2 ⟨x,hm,rfl⟩,rfl⟩
   exact h2
 ·intro h
  obtain⟨p,hp,rfl⟩:=aeV.1 h
  obtain⟨x,hx,rfl⟩:=aeV.1 hp
  rw[IK hpw hx];rfl
theorem Zo {was is:aj} (h1:jB was) (h2:jB is) (day:Int) (U:Nat) (hU:∀ n,n∈dS (bu (aS was)) (bu (aS is))->0<=n/\n<(U:Int)): ((upTo U).flatMap fun n=>uQ n (aM (bu (aS was)) n) (aM (bu (aS is)) n)).map (tY day)=LB (bu (aS was)) (bu (aS is)) day (dS (bu (aS was)) (bu (aS is))):=by
 have hk:∀ n,n∈dS (bu (aS was)) (bu (aS is))↔(aM (bu (aS was)) n).isSome=true\/(aM (bu (aS is)) n).isSome=true:=fun n=>by
  rw[NW,NL h1.srt,NL h2.srt]
 have hf:(upTo U).filter (fun n=>(aM (bu (aS was)) n).isSome||(aM (bu (aS is)) n).isSome)=dS (bu (aS was)) (bu (aS is)):=by
  refine XR ((Um U).filter _) (XX h1.nd h2.nd) fun n=> ?_
  rw[aeS,TO,adu,hk]
  exact⟨fun h=>h.2,fun h=>⟨hU n ((hk n).2 h),h⟩⟩
 rw[KO _ (fun n=>(aM (bu (aS was)) n).isSome||(aM (bu (aS is)) n).isSome) _ (fun n _ hn=>by
  rw[adt] at hn
  have e1:=Option.isSome_eq_false_iff.1 hn.1
  have e2:=Option.isSome_eq_false_iff.1 hn.2
  rw[afQ] at e1 e2
  rw[e1,e2];rfl),hf]
 unfold LB
 rw[List.map_flatMap]
 have:∀ (K:List Int),(∀ n∈K,(aM (bu (aS was)) n).isSome=true\/(aM (bu (aS is)) n).isSome=true)->(K.flatMap fun n=>(uQ n (aM (bu (aS was)) n) (aM (bu (aS is)) n)).map (tY day))=K.flatMap fun n=>q7 day n (aM (bu (aS was)) n) (aM (bu (aS is)) n):=by
  intro K
  induction K with
  | nil=>intro _;rfl
  | cons n r ih=>
   intro h
   rw[ad9,ad9,aa5 day n _ _ (h n (aeR ..)),ih fun m hm=>h m (aeQ _ hm)]
 exact this _ fun n hn=>(hk n).1 hn
end Go.Md
namespace Go.Md
open Go.Dn
theorem Tx {L:List ai} (hne:L≠[]) (hlen:L.length<=500):∃ z,idx L (w64 ((List.length L:Int) - 1))=some z/\L.getLast? =some z:=by
 have hpos:0<L.length:=aeD.2 hne
 refine⟨L.getLast hne, ?_,List.getLast?_eq_some_getLast hne⟩
 rw[aA (by omega) (by omega),show (List.length L:Int) - 1=((L.length - 1:Nat):Int) by omega]
 refine bG ?_
 rw[<- List.getLast?_eq_getElem?]
 exact List.getLast?_eq_some_getLast hne
theorem Vr {was is:aj} (h1:jB was) (h2:jB is):∃ U:Nat,Gr was is=some ((U:Int),())/\(∀ n,n∈dS (bu (aS was)) (bu (aS is))->0<=n/\n<(U:Int))/\U<=100000:=by
 obtain⟨z1,e1,l1⟩:=Tx h1.ne h1.len
 obtain⟨z2,e2,l2⟩:=Tx h2.ne h2.len
 have r1:=(h1.line z1 (List.mem_of_getLast? l1)).2.2.2.2.1
 have r2:=(h2.line z2 (List.mem_of_getLast? l2)).2.2.2.2.1
 have m1:=TF h1.srt l1
 have m2:=TF h2.srt l2
 refine⟨((if z2.1>z1.1 then z2.1 else z1.1)+1).toNat, ?_,fun n hn=> ?_, ?_⟩
 ·unfold Gr
  rw[e1,afO,e2,afO]
  have hb:1<=(if z2.1>z1.1 then z2.1 else z1.1)/\(if z2.1>z1.1 then z2.1 else z1.1)<=99999:=by split<;>omega
  generalize (if z2.1>z1.1 then z2.1 else z1.1)=m at hb
  rw[aA (by omega) (by omega),show ((m+1).toNat:Int)=m+1 by omega]
 ·have hx:∃ x,(x∈aS was\/x∈aS is)/\x.1=n:=by
   rcases NW.1 hn with h | h
   ·obtain⟨p,hp,rfl⟩:=aeV.1 h
    obtain⟨x,hx,rfl⟩:=aeV.1 hp
    exact⟨x,.inl hx,rfl⟩
   ·obtain⟨p,hp,rfl⟩:=aeV.1 h
    obtain⟨x,hx,rfl⟩:=aeV.1 hp
    exact⟨x,.inr hx,rfl⟩
  obtain⟨x,hx,rfl⟩:=hx
  rcases hx with hx | hx
  ·have a:=m1 x hx
   have b:=(h1.line x hx).2.2.2.2.1
   split<;>omega
  ·have a:=m2 x hx
   have b:=(h2.line x hx).2.2.2.2.1
   split<;>omega
 ·split<;>omega
theorem LA (n:Int) (a b:Option ai):(uQ n a b).length<=3:=by
 cases a with
 | none=>cases b<;>simp[uQ]
 | some x=>
  cases b with
  | none=>simp[uQ]
  | some y=>
   rw[uQ,aev,aev]
   split<;>split<;>split<;>simp
theorem L6 (f:Int->List aa) (h:∀ n,(f n).length<=3):∀ (K:List Int),(K.flatMap f).length<=3*K.length
 | []=>aft _
 | n::r=>by
  have h1:=h n
  have h2:=L6 f h r
  rw[ad9,aev,aew]
  omega
theorem Ul (U:Nat):(upTo U).length=U:=by unfold upTo;rw[aeA,List.length_range]
abbrev Dp (was is:aj) (U:Nat):List aa:=(upTo U).flatMap fun n=>uQ n (aM (bu (aS was)) n) (aM (bu (aS is)) n)
theorem XJ {was is:aj} (h1:jB was) (h2:jB is) (U:Nat) (hU:U<=100000) (n:Nat) (hn:U<n): iter (X:=oD) (β:=sX) n ([],(U:Int),0,was.1,was.2.1,was.2.2.1,was.2.2.2.1,was.2.2.2.2.1,was.2.2.2.2.2,is.1,is.2.1,is.2.2.1,is.2.2.2.1,is.2.2.2.2.1,is.2.2.2.2.2,()) sV= some (Sum.inr (Dp was is U,is.1,is.2.1,is.2.2.1,is.2.2.2.1,is.2.2.2.2.1,is.2.2.2.2.2,())):=by
 have lZ:maxLen=9223372036854775807:=rfl
 refine cG (Inv:=fun (i:Nat) X=>X=((Dp was is i,(U:Int),(i:Int),was.1,was.2.1,was.2.2.1,was.2.2.2.1,was.2.2.2.2.1,was.2.2.2.2.2,is.1,is.2.1,is.2.2.1,is.2.2.2.1,is.2.2.2.2.1,is.2.2.2.2.2,()):oD)) U
  (fun z=>z=some (Sum.inr (Dp was is U,is.1,is.2.1,is.2.2.1,is.2.2.2.1,is.2.2.2.2.1,is.2.2.2.2.2,()))) ?_ ?_ n 0 _ rfl (afN _) (by omega)
 ·intro i x again hi hx hagain
  subst hx
  have hl:(Dp was is i).length<=3*i:=by
   have h:=L6 (fun n=>uQ n (aM (bu (aS was)) n) (aM (bu (aS is)) n)) (fun n=>LA _ _ _) (upTo i)
   rw[Ul] at h
   exact h
  have hl2:=LA (i:Int) (aM (bu (aS was)) (i:Int)) (aM (bu (aS is)) (i:Int))
  have:Dp was is (i+1)=Dp was is i++uQ (i:Int) (aM (bu (aS was)) (i:Int)) (aM (bu (aS is)) (i:Int)):=by
   show (upTo (i+1)).flatMap _=_
   rw[Ra,List.flatMap_append,List.flatMap_singleton]
  unfold sV
  dsimp only
  rw[af6 (show (i:Int)<(U:Int) by omega),af2]
  refine (congrArg (fun z=>z=_) (congrArg (fun z=>Option.bind z _) (R6 h1 h2 (i:Int)))).mpr ?_
  rw[afO]
  dsimp only
  generalize uQ (i:Int) (aM (bu (aS was)) (i:Int)) (aM (bu (aS is)) (i:Int))=cl at hl2 this ⊢
  generalize Dp was is i=cg at hl this ⊢
  rw[cA (by simp only[adf,af7];omega),aA (n:=(i:Int)+1) (by omega) (by omega)]
  refine hagain _ ?_
  rw[this];rfl
 ·intro x again hx
  subst hx
  unfold sV
  dsimp only
  rw[af4 (show ¬((U:Int)<(U:Int)) by omega),af1]
end Go.Md
namespace Go.Md
open Go.Dn
def sN (day:Int) (D:List aa) (i:Nat):List aa:=gE 0 ((D.take i).map (tY day))++D.drop i
theorem Y5 (day:Int) (D:List aa) {i:Nat} (hi:i<=D.length):(sN day D i).length=D.length:=by
 unfold sN
 rw[aev,vA,aeA,aeH,aex]
 omega
theorem YZ (day:Int) (D:List aa) {i:Nat} {d:aa} (hd:D[i]? =some d):(sN day D i)[i]? =some d:=by
 have hi:=(aej.1 hd).1
 unfold sN
 have hl:(gE 0 ((D.take i).map (tY day))).length=i:=by rw[vA,aeA,aeH];omega
 rw[aed (by omega),hl,Nat.sub_self,aeg]
 exact hd
theorem Xn (day:Int) (D:List aa) {i:Nat} {d:aa} (hd:D[i]? =some d):(sN day D i).set i (day,1,(i:Int)+1,d.2.2.2)=sN day D (i+1):=by
 have hi:=(aej.1 hd).1
 have hl:(gE 0 ((D.take i).map (tY day))).length=i:=by rw[vA,aeA,aeH];omega
 have hdr:D.drop i=d::D.drop (i+1):=by
  rw[ad0 hi]
  congr 1
  exact (aej.1 hd).2
 unfold sN
 rw[mX hd,aeI,IQ,hdr,List.set_append_right _ _ (by omega),hl,Nat.sub_self,List.set_cons_zero,adT]
 congr 1
 rw[aeA,aeH,afC (by omega),afM]
 rfl
theorem Y6 (day:Int) (i1 i2 i3:Bys) (i5:Int) (i6:List ai) (D:List aa) (hD:D.length<=300000) (n:Nat) (hn:D.length<n): iter (X:=oE) (β:=sY) n (D,(D.length:Int),0,i1,i2,i3,day,i5,i6,()) sW=some (Sum.inr (gE 0 (D.map (tY day)),())):=by
 have e0:sN day D 0=D:=by unfold sN;rw[List.take_zero,ad3];rfl
 have e1:sN day D D.length=gE 0 (D.map (tY day)):=by unfold sN;rw[afg,List.drop_length,adU]
 refine cG (Inv:=fun (i:Nat) X=>X=((sN day D i,(D.length:Int),(i:Int),i1,i2,i3,day,i5,i6,()):oE)) D.length
  (fun z=>z=some (Sum.inr (gE 0 (D.map (tY day)),()))) ?_ ?_ n 0 _ (by rw[e0];rfl) (afN _) (by omega)
 ·intro i x again hi hx hagain
  subst hx
  obtain⟨d,hd⟩:∃ d,D[i]? =some d:=⟨_,aeh hi⟩
  have hg:=YZ day D hd
  have hs:=Xn day D hd
  have hl:=Y5 day D (afs hi)
  unfold sW
  dsimp only
  generalize sN day D i=X at hg hs hl
  have hiX:i<X.length:=by omega
  have g:∀ v:aa,(X.set i v)[i]? =some v:=fun v=>aep hiX
  rw[af6 (show (i:Int)<(D.length:Int) by omega),af2]
  simp only[adN,aeF,hg,afO,g,ae9]
  rw[cA (by simp only[adf,af7];omega),cA (by simp only[adf,af7];omega),cA (by simp only[adf,af7];omega),aA (n:=(i:Int)+1) (by omega) (by omega)]
  refine hagain _ ?_
  rw[hs];rfl
 ·intro x again hx
  subst hx
  unfold sW
  dsimp only
  rw[af4 (show ¬((D.length:Int)<(D.length:Int)) by omega),af1,e1]
end Go.Md
namespace Go.Md
open Go.Dn
def cl2 (a y:ai):Bool:=(a.1==y.1)&&(!(a.2.1==y.2.1)|| !(a.2.2.2.1==y.2.2.2.1))
theorem Lv {β:Type} (p:ai->Bool) (X F:Option β):∀ (r:List ai) (i:Nat),tr (fun (_:Unit) (_:Nat) (y:ai) (k:Unit->Option β)=>if p y=true then X else k ()) (fun _=>F) r i ()=if r.any p=true then X else F
 | [],_=>rfl
 | y::r,i=>by
  rw[tr,List.any_cons]
  cases h:p y with
  | true=>rw[age rfl,Bool.true_or,age rfl]
  | false=>
   rw[agd adm,adn]
   exact Lv p X F r (i+1)
theorem UB (A B:List ai) (hB:B.length<=500) (la i:Int) (w1 w2 w3:Bys) (w4 w5:Int) (w6:List ai) (s1 s2 s3:Bys) (s4 s5:Int) (a:ai) (n:Nat) (hn:B.length<n): iter (X:=oC) (β:=oA) n (A,la,i,B,(B.length:Int),0,w1,w2,w3,w4,w5,w6,s1,s2,s3,s4,s5,B,a.1,a.2.1,a.2.2.1.1,a.2.2.1.2,a.2.2.2.1,a.2.2.2.2.1.1,a.2.2.2.2.1.2,a.2.2.2.2.2,()) oy= if B.any (cl2 a)=true then some (Sum.inl (Sum.inl ([],12,()))) else some (Sum.inr (A,la,i,w1,w2,w3,w4,w5,w6,s1,s2,s3,s4,s5,B,())):=by
 have loop:=ru (f:=oy) (fun (_:Unit) (j:Nat)=>((A,la,i,B,(B.length:Int),(j:Int),w1,w2,w3,w4,w5,w6,s1,s2,s3,s4,s5,B,a.1,a.2.1,a.2.2.1.1,a.2.2.1.2,a.2.2.2.1,a.2.2.2.2.1.1,a.2.2.2.2.1.2,a.2.2.2.2.2,()):oC)) B
  (fun (_:Unit) (_:Nat) (y:ai) (k:Unit->Option oA)=>if cl2 a y=true then some (Sum.inl (Sum.inl ([],12,()))) else k ()) (fun _=>some (Sum.inr (A,la,i,w1,w2,w3,w4,w5,w6,s1,s2,s3,s4,s5,B,()))) (fun s j y again hy=>by
    have hj:j<B.length:=(aej.1 hy).1
    unfold oy
    dsimp only
    rw[af6 (show (j:Int)<(B.length:Int) by omega),af2,bG hy,afO,aA (n:=(j:Int)+1) (by omega) (by omega)]
    have hc:(bif a.1==y.1 then (bif !(a.2.1==y.2.1) then some (true,()) else some (!(a.2.2.2.1==y.2.2.2.1),())) else some (false,()))=some (cl2 a y,()):=by
     unfold cl2
     cases a.1==y.1 with
     | false=>rfl
     | true=>cases a.2.1==y.2.1<;>rfl
    rw[hc,afO]
    dsimp only
    cases cl2 a y with
    | true=>rw[af2,age rfl];rfl
    | false=>rw[af1,agd adm];rfl) (fun s again=>by
    unfold oy
    dsimp only
    rw[af4 (show ¬((B.length:Int)<(B.length:Int)) by omega),af1]) () n hn
 refine loop.trans ?_
 exact Lv (cl2 a) _ _ B 0
theorem ZT {A B:List ai} (hB:B.Pairwise fun a b=>a.1<b.1):iq (bu A) (bu B)=A.any fun a=>B.any (cl2 a):=by
 have key:∀ a:ai,(match aM (bu B) a.1 with | some y=> !(y.2.1==a.2.1)|| !(y.2.2.2.1==a.2.2.2.1) | none=>false)=B.any (cl2 a):=by
  intro a
  cases hl:aM (bu B) a.1 with
  | none=>
   refine (adR.2 fun y hy=> ?_).symm
   have:=Xk hl hB y hy
   unfold cl2
   rw[show (a.1==y.1)=false from afX.2 fun e=>this e.symm]
   simp
  | some z=>
   obtain⟨hm,hz⟩:=wm hl
   dsimp only
   have hsym:(!(z.2.1==a.2.1)|| !(z.2.2.2.1==a.2.2.2.1))=cl2 a z:=by
    unfold cl2
    rw[show (a.1==z.1)=true from afY.2 hz.symm,adv,BEq.comm (a:=z.2.1),BEq.comm (a:=z.2.2.2.1)]
   rw[hsym]
   cases h:cl2 a z with
   | true=>exact (adS.2 ⟨z,hm,h⟩).symm
   | false=>
    refine (adR.2 fun y hy=> ?_).symm
    by_cases e:a.1=y.1
    ·have h2:=IK hB hy
     rw[<- e,hl] at h2
     cases h2
     rw[h];simp
    ·unfold cl2
     rw[show (a.1==y.1)=false from afX.2 e]
     simp
 unfold iq
 rw[List.any_map]
 congr 1
 funext a
 exact key a
end Go.Md
namespace Go.Md
open Go.Dn
theorem WG (A B:List ai) (hA:A.length<=500) (hB:B.length<=500) (w1 w2 w3:Bys) (w4 w5:Int) (s1 s2 s3:Bys) (s4 s5:Int) (n:Nat) (hn:A.length<n): iter (X:=oB) (β:=oz) n (A,(A.length:Int),0,w1,w2,w3,w4,w5,A,s1,s2,s3,s4,s5,B,()) ox= if (A.any fun a=>B.any (cl2 a))=true then some (Sum.inl ([],12,())) else some (Sum.inr (w1,w2,w3,w4,w5,A,s1,s2,s3,s4,s5,B,())):=by
 have loop:=ru (f:=ox) (fun (_:Unit) (j:Nat)=>((A,(A.length:Int),(j:Int),w1,w2,w3,w4,w5,A,s1,s2,s3,s4,s5,B,()):oB)) A
  (fun (_:Unit) (_:Nat) (y:ai) (k:Unit->Option oz)=>if (B.any (cl2 y))=true then some (Sum.inl ([],12,())) else k ()) (fun _=>some (Sum.inr (w1,w2,w3,w4,w5,A,s1,s2,s3,s4,s5,B,()))) (fun s j y again hy=>by
    have hj:j<A.length:=(aej.1 hy).1
    unfold ox
    dsimp only
    rw[af6 (show (j:Int)<(A.length:Int) by omega),af2,bG hy,afO]
    refine (congrArg (fun z=>aC z _) (UB A B hB (A.length:Int) (j:Int) w1 w2 w3 w4 w5 A s1 s2 s3 s4 s5 y _ ?_)).trans ?_
    ·refine afx (afv (afI fun h=> ?_)) (afu (Nat.le_add_left _ _) (afu (Nat.le_add_left _ _) (Nat.le_add_left _ _)))
     simp only[afk] at h
     obtain⟨_,_,_,_,_,_,_,_,_,_,_,_,_,_,_,_,_,_,_,_,_,_,h⟩:=h
     cases h
    by_cases hc:B.any (cl2 y)=true
    ·rw[age hc,age hc];rfl
    ·rw[agd hc,agd hc,aR]
     dsimp only
     rw[aA (n:=(j:Int)+1) (by omega) (by omega)]
     rfl) (fun s again=>by
    unfold ox
    dsimp only
    rw[af4 (show ¬((A.length:Int)<(A.length:Int)) by omega),af1]) () n hn
 exact loop.trans (Lv (fun a=>B.any (cl2 a)) _ _ A 0)
end Go.Md
namespace Go.Md
open Go.Dn
theorem ZQ {day n:Int} {a b:Option ai} (hb:∀ y,b=some y->cK y.2.1=true/\cK y.2.2.2.1=true) {e:aa} (h:e∈q7 day n a b) (m:Int):Txt (Ow e m):=by
 have lZ:maxLen=9223372036854775807:=rfl
 have h0:∀ x:aa,x.2.2.2.2.2.1=[]->x.2.2.2.2.2.2.2.1=[]->Txt (Ow x m):=fun x e1 e2=>by
  show x.2.2.2.2.2.1.length+x.2.2.2.2.2.2.2.1.length<=maxLen
  rw[e1,e2];exact afN _
 cases a with
 | none=>
  cases b with
  | none=>rw[q7,ae0] at h;subst h;exact h0 _ rfl rfl
  | some y=>
   rw[q7,ae0] at h;subst h
   obtain⟨h1,h2⟩:=hb y rfl
   have l1:=(NK h1).2.1
   have l2:=(NK h2).2.1
   show y.2.1.length+y.2.2.2.1.length<=maxLen
   omega
 | some x=>
  cases b with
  | none=>rw[q7,ae0] at h;subst h;exact h0 _ rfl rfl
  | some y=>
   rw[q7,aeM,aeM] at h
   rcases h with h | h | h
   ·split at h
    ·rw[ae0] at h;subst h;exact h0 _ rfl rfl
    ·cases h
   ·split at h
    ·rw[ae0] at h;subst h;exact h0 _ rfl rfl
    ·cases h
   ·split at h
    ·rw[ae0] at h;subst h;exact h0 _ rfl rfl
    ·cases h
theorem aa1 {was is:aj} (h2:jB is):∀ d∈ko was is,Txt d:=fun d hd=>by
 obtain⟨n,_,e,he,m,rfl⟩:=aa0 hd
 refine ZQ (fun y hy=> ?_) he m
 obtain⟨hm,_⟩:=wm hy
 obtain⟨a,_,b,_⟩:=h2.line y hm
 exact⟨a,b⟩
theorem RY (was is:aj):AH was is=some ((fX was is).1,(fX was is).2,()):=by
 unfold AH fX
 rw[uZ,afO]
 dsimp only
 by_cases h1:dP was=0
 rotate_left
 ·rw[cr h1,af2,age h1]
 rw[show (dP was != 0)=false by simp[h1],af1,agd (fun e=>e h1),uZ,afO]
 dsimp only
 by_cases h2:dP is=0
 rotate_left
 ·rw[cr h2,af2,age h2]
 have o1:=N6 h1
 have o2:=N6 h2
 rw[show (dP is != 0)=false by simp[h2],af1,agd (fun e=>e h2)]
 by_cases n1:was.1=is.1
 rotate_left
 ·rw[show (!(was.1==is.1))=true by simp[n1],af2,age (show ¬rO was is from fun e=>n1 e.1)]
 rw[show (!(was.1==is.1))=false by simp[n1],af1]
 by_cases n2:was.2.1=is.2.1
 rotate_left
 ·rw[show (!(was.2.1==is.2.1))=true by simp[n2],af2,age (show ¬rO was is from fun e=>n2 e.2.1)]
 rw[show (!(was.2.1==is.2.1))=false by simp[n2],af1]
 by_cases n3:was.2.2.1=is.2.2.1
 rotate_left
 ·rw[show (!(was.2.2.1==is.2.2.1))=true by simp[n3],af2,age (show ¬rO was is from fun e=>n3 e.2.2)]
 rw[show (!(was.2.2.1==is.2.2.1))=false by simp[n3],af1,agd (show ¬¬rO was is from fun e=>e ⟨n1,n2,n3⟩)]
 refine (congrArg (fun z=>aC z _) (WG was.2.2.2.2.2 is.2.2.2.2.2 o1.len o2.len was.1 was.2.1 was.2.2.1 was.2.2.2.1 was.2.2.2.2.1 is.1 is.2.1 is.2.2.1 is.2.2.2.1 is.2.2.2.2.1 _ ?_)).trans ?_
 ·refine afv (afI fun h=> ?_)
  simp only[afk] at h
  obtain⟨_,_,_,_,_,_,_,_,_,_,_,_,_,_,h⟩:=h
  cases h
 rw[ZT (A:=aS was) (B:=aS is) o2.srt]
 by_cases hc:((aS was).any fun a=>(aS is).any (cl2 a))=true
 ·rw[age hc,age hc];rfl
 rw[agd hc,agd hc,aR]
 dsimp only
 by_cases h5:bZ is<bZ was
 ·rw[age h5,show decide (is.2.2.2.1<was.2.2.2.1)=true from af6 h5,af2]
 rw[agd h5,show decide (is.2.2.2.1<was.2.2.2.1)=false from af4 h5,af1]
 obtain⟨U,e1,hU,hU2⟩:=Vr o1 o2
 refine (congrArg (fun z=>Option.bind z _) e1).trans ?_
 rw[afO]
 dsimp only
 refine (congrArg (fun z=>aC z _) (XJ o1 o2 U hU2 _ ?_)).trans ?_
 ·refine afx (afv (n:=U) (afI fun h=> ?_)) (Nat.le_add_left _ _)
  simp only[afk] at h
  obtain⟨_,_,_,_,_,_,_,_,_,_,_,_,_,h⟩:=h
  cases h
 rw[aR]
 dsimp only
 have hl:(Dp was is U).length<=300000:=by
  have h:=L6 (fun n=>uQ n (aM (bu (aS was)) n) (aM (bu (aS is)) n)) (fun n=>LA _ _ _) (upTo U)
  rw[Ul] at h
  exact afu h (by omega)
 refine (congrArg (fun z=>aC z _) (Y6 is.2.2.2.1 is.1 is.2.1 is.2.2.1 is.2.2.2.2.1 is.2.2.2.2.2 (Dp was is U) hl _ ?_)).trans ?_
 ·refine afv (afI fun h=> ?_)
  simp only[afk] at h
  obtain⟨_,_,_,_,_,_,_,_,h⟩:=h
  cases h
 rw[aR]
 dsimp only
 have he:gE 0 ((Dp was is U).map (tY is.2.2.2.1))=ko was is:=congrArg (gE 0) (Zo o1 o2 (bZ is) U hU)
 rw[he,BW _ (aa1 o2),afO]
 dsimp only
 by_cases h6:eY (ko was is)=0
 ·rw[show (eY (ko was is) != 0)=false by simp[h6],af1,agd (fun e=>e h6)]
 ·rw[cr h6,af2,age h6]
end Go.Md
namespace Go.Md
open Go.Dn
def FU (S:List ak):List ai:=(S.filter qs).map ot
theorem aag (S:List ak):(FU S).length<=S.length:=by
 unfold FU
 rw[aeA]
 exact aez _ _
theorem aaL (x:ak):decide ((bE x.ord).1>0)=qs x:=by
 obtain⟨h1,h2⟩:=FH 3 x.ord
 have h3:(bE x.ord).1=(few 3 x.ord).1:=rfl
 unfold qs
 by_cases h:0<x.ord
 ·rw[af6 h,af6 (by rw[h3];omega)]
 ·rw[af4 h,af4 (by rw[h3];omega)]
theorem aah (S:List ak) (hS:S.length<=500) (o1 o2 o3:Bys) (o4 o5:Int) (n:Nat) (hn:S.length<n): iter (X:=rK) (β:=wO) n ((S.length:Int),0,[],[],[],0,0,[],o1,o2,o3,o4,o5,[],S.map bV,()) wN= some (Sum.inr ([],[],[],0,0,[],o1,o2,o3,o4,o5,FU S,())):=by
 have lZ:maxLen=9223372036854775807:=rfl
 refine cG (Inv:=fun (i:Nat) X=>X=(((S.length:Int),(i:Int),[],[],[],0,0,[],o1,o2,o3,o4,o5,FU (S.take i),S.map bV,()):rK)) S.length
  (fun z=>z=some (Sum.inr ([],[],[],0,0,[],o1,o2,o3,o4,o5,FU S,()))) ?_ ?_ n 0 _ rfl (afN _) (by omega)
 ·intro i x again hi hx hagain
  subst hx
  obtain⟨s,hs⟩:∃ s,S[i]? =some s:=⟨_,aeh hi⟩
  have hl:=aag (S.take i)
  rw[aeH] at hl
  have hst:FU (S.take (i+1))=if qs s=true then FU (S.take i)++[ot s] else FU (S.take i):=by
   rw[mX hs]
   unfold FU
   rw[ad7,ad8,List.filter_nil]
   cases qs s with
   | true=>rw[age rfl,age rfl,aeI];rfl
   | false=>rw[agd adm,agd adm,adU]
  unfold wN
  dsimp only
  rw[af6 (show (i:Int)<(S.length:Int) by omega),af2,adN,aek,hs,afU,aeA,cA (by simp only[adf,af7];omega),afO]
  have ht:=aaL s
  show (bif decide ((bE s.ord).1>0) then _ else _)=_
  rw[ht]
  cases hon:qs s with
  | true=>
   rw[af2,cA (by simp only[adf,af7];omega),aA (n:=(i:Int)+1) (by omega) (by omega)]
   refine hagain _ ?_
   rw[hst,hon,age rfl];rfl
  | false=>
   rw[af1,aA (n:=(i:Int)+1) (by omega) (by omega)]
   refine hagain _ ?_
   rw[hst,hon,agd adm];rfl
 ·intro x again hx
  subst hx
  unfold wN
  dsimp only
  rw[af4 (show ¬((S.length:Int)<(S.length:Int)) by omega),af1,afg]
theorem T9 (o:aj) (l:List aa) (tx:∀ d,d∈l->Txt d):CN o l=some (if dV o l≠0 then (jt,dV o l,()) else if rA (ez o l 0 3652059).1=[] then (jt,9,()) else (Xf o (ez o l 0 3652059).1,0,())):=by
 unfold CN
 rw[QO o l tx,afO]
 dsimp only
 by_cases h:dV o l=0
 rotate_left
 ·rw[cr h,af2,age h];rfl
 rw[show (dV o l != 0)=false by simp[h],af1,agd (fun e=>e h)]
 obtain⟨L,e1,e2⟩:=QS h 3652059
 obtain⟨_,hI⟩:=Ff h 0 3652059
 rw[e1,afO]
 dsimp only
 rw[Ub e2 hI,afO]
 dsimp only
 have hlen:(bD (ez o l 0 3652059).1).length<=500:=by rw[(eE _).length_eq];exact hI.len
 show aC (iter _ ((List.length ((bD (ez o l 0 3652059).1).map bV):Int),_) _) _=_
 rw[aeA]
 refine (congrArg (fun z=>aC z _) (aah (bD (ez o l 0 3652059).1) hlen o.1 o.2.1 o.2.2.1 o.2.2.2.1 o.2.2.2.2.1 _ ?_)).trans ?_
 ·rw[adE]
  refine afv (afI fun h=> ?_)
  simp only[afk] at h
  obtain⟨_,_,_,_,_,_,_,_,_,_,_,_,_,_,h⟩:=h
  cases h
 rw[aR]
 dsimp only
 show (bif ((List.length (rA (ez o l 0 3652059).1):Int))==0 then _ else _)=_
 by_cases hz:rA (ez o l 0 3652059).1=[]
 ·rw[age hz,hz];rfl
 ·have hp:0<(rA (ez o l 0 3652059).1).length:=aeD.2 hz
  rw[agd hz,show (((List.length (rA (ez o l 0 3652059).1):Int))==0)=false from afX.2 (by omega),af1]
  rfl
end Go.Md
namespace Go.Md
open Go.Dn
theorem RZ (o:aj) (l:List aa) (line:Int) (tx:∀ d,d∈l->Txt d):AI o l line=some (if dV o l≠0 then ([],dV o l,()) else if line<1\/99999<line then ([],1,()) else ((ez o l line 3652059).2.2,0,())):=by
 unfold AI
 rw[QO o l tx,afO]
 dsimp only
 by_cases h:dV o l=0
 rotate_left
 ·rw[cr h,af2,age h]
 rw[show (dV o l != 0)=false by simp[h],af1,agd (fun e=>e h),jy,afO]
 dsimp only
 by_cases hr:line<1\/99999<line
 ·rw[age hr,af4 (show ¬(1<=line/\line<=99999) by omega)];rfl
 rw[agd hr,af6 (show 1<=line/\line<=99999 by omega),ads,af1]
 obtain⟨L,e1,e2⟩:=QS h 3652059
 obtain⟨_,hI⟩:=Ff h 0 3652059
 rw[e1,afO]
 dsimp only
 rw[wZ e2 hI.len l,afO]
 cases hf:lS line (ez o l 0 3652059).1 with
 | none=>
  dsimp only
  rw[af4 (show ¬(-1:Int)>=0 by omega),af1]
  obtain⟨_,hp⟩:=ZJ h line 3652059
  have hA:(ez o l line 3652059).1=(ez o l 0 3652059).1:=(JZ line 0 3652059 l 0 _ [] [] []).1
  rw[hA] at hp
  have hn:(ez o l line 3652059).2.2=[]:=by
   cases hl:(ez o l line 3652059).2.2.getLast? with
   | none=>exact List.getLast?_eq_none_iff.1 hl
   | some p=>
    obtain⟨x,hx,_⟩:=hp.last p hl
    rw[Xh hI,hf] at hx
    cases hx
  rw[hn]
 | some k=>
  obtain⟨x,j,hx,hno,_,_⟩:=vX hI hf
  obtain⟨y,hy,hr⟩:=e2.get hx
  have hlt:=(aej.1 hy).1
  dsimp only
  rw[af6 (show (k:Int)>=0 by omega),af2,cA (by rw[adf];exact⟨rfl,af6 (by omega)⟩),adN,hy,afO,hr.ev,hno]
theorem Cq (l:List ay) (hl:l.length<=2001):jk l l=some (true,()):=by
 unfold jk
 rw[show ((l.length:Int) != (l.length:Int))=false by simp,af1]
 have:∀ n,l.length<n->iter (X:=fA) (β:=ia) n (l,l,(l.length:Int),0,()) gZ=some (Sum.inr ()):=by
  intro n hn
  refine cG (Inv:=fun i X=>X=((l,l,(l.length:Int),(i:Int),()):fA)) l.length (fun z=>z=some (Sum.inr ())) ?_ ?_ n 0 _ rfl (afN _) (by omega)
  ·rintro i X again hi rfl hag
   unfold gZ
   dsimp only
   obtain⟨y,hy⟩:∃ y,l[i]? =some y:=⟨l[i],aeh hi⟩
   rw[af6 (show (i:Int)<(l.length:Int) by omega),af2,bG hy,afO,afO,aA (n:=(i:Int)+1) (by omega) (by omega)]
   simp only[afZ,adh,ads,af1]
   exact hag _ rfl
  ·rintro X again rfl
   unfold gZ
   dsimp only
   rw[af4 (show ¬(l.length:Int)<(l.length:Int) by omega),af1]
 rw[this _ (by omega)]
 rfl
theorem law9_ChangesMatchSpec (was is:aj) (l:List aa) (line:Int) (tx:∀ d,d∈l->Txt d):iu was is l line=some (true,()):=by
 unfold iu
 rw[Mj,afO,RY,afO]
 dsimp only
 have hq:(fX was is).1.length<=2000:=by
  by_cases hf:(fX was is).2=0
  ·obtain⟨h1,_,_,_,_,h6⟩:=Rn hf
   rw[h1]
   exact (nh h6).1
  ·rw[SM hf];exact afN _
 rw[show ((fX was is).2 != (fX was is).2)=false by simp,af1,DZ _ hq,afO]
 dsimp only
 rw[ads,af1,N7,afO,T9 was l tx,afO]
 have hso:∀ v:aj×Int×Unit,v=(if dV was l≠0 then (jt,dV was l,()) else if rA (ez was l 0 3652059).1=[] then (jt,9,()) else (Xf was (ez was l 0 3652059).1,0,()))->(aS v.1).length<=2001:=by
  rintro v rfl
  by_cases h:dV was l=0
  ·rw[agd (fun e=>e h)]
   obtain⟨_,hI⟩:=Ff h 0 3652059
   have:=hI.len
   split
   ·exact afN _
   ·have h2:=aaf (ez was l 0 3652059).1
    show (rA (ez was l 0 3652059).1).length<=2001
    omega
  ·rw[age h];exact afN _
 have hso':=hso _ rfl
 generalize (if dV was l≠0 then (jt,dV was l,()) else if rA (ez was l 0 3652059).1=[] then (jt,9,()) else (Xf was (ez was l 0 3652059).1,0,()):aj×Int×Unit)=v at hso'
 rw[show (v.2.1 != v.2.1)=false by simp,af1,Ku _ hso',afO]
 dsimp only
 rw[ads,af1,Mk,afO,RZ was l line tx,afO]
 have hpt:∀ v:List ay×Int×Unit,v=(if dV was l≠0 then ([],dV was l,()) else if line<1\/99999<line then ([],1,()) else ((ez was l line 3652059).2.2,0,()))->v.1.length<=2001:=by
  rintro v rfl
  by_cases h:dV was l=0
  ·rw[agd (fun e=>e h)]
   split
   ·exact afN _
   ·obtain⟨h1,h2⟩:=yV h
    obtain⟨h3,_⟩:=nh h2
    have hle:∀ (r:List aa) (i:Nat) (A:List ak) (ref:List (Int×Int)) (pts:List ay),(eZ was l line 3652059 r i A ref pts).2.2.length<=pts.length+r.length:=by
     intro r
     induction r with
     | nil=>intro i A ref pts;exact aft _
     | cons d r ih=>
      intro i A ref pts
      rw[eZ]
      split
      ·exact Nat.le_add_right _ _
      ·split
       ·have:=ih (i+1) (bS was l i d A).2 (ref++[((i:Int),(bS was l i d A).1)]) pts
        rw[aew];omega
       ·have:=ih (i+1) (bS was l i d A).2 ref (nv line i d (bS was l i d A).2 pts)
        have hp:(nv line i d (bS was l i d A).2 pts).length<=pts.length+1:=by
         unfold nv
         split
         ·split
          ·rw[aev];exact aft _
          ·omega
         ·omega
        rw[aew];omega
    have:=hle l 0 (gm was) [] []
    show (eZ was l line 3652059 l 0 (gm was) [] []).2.2.length<=2001
    simp only[aeC] at this
    omega
  ·rw[age h];exact afN _
 have hpt':=hpt _ rfl
 generalize (if dV was l≠0 then ([],dV was l,()) else if line<1\/99999<line then ([],1,()) else ((ez was l line 3652059).2.2,0,()):List ay×Int×Unit)=u at hpt'
 rw[show (u.2.1==u.2.1)=true from afZ _,af2,Cq _ hpt',afO]
 dsimp only
 rw[af2,abN]
 rfl
end Go.Md
