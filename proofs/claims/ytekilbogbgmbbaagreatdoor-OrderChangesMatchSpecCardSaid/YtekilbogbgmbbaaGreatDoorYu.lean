/-
  Plain facts: the lines by their numbers; the latest order. No condition.
-/
import Derived.Test.YtekilbogbgmbbaaGreatDoorYt
import Derived.Test.YtekilbogbgmbbaaGreatDoorYg
set_option linter.all false
namespace Go.Md
open Go.Dn
structure Ids (A:List ak):Prop where
 nd:(A.map ak.no).Nodup
 rg:∀ x,x∈A->1<=x.no/\x.no<=99999
 len:A.length<=500
 ne:A≠[]
theorem CE {n:Int}:∀ {A:List ak} {i:Nat},cc n i A=none->n∉A.map ak.no
 | [],_,_=>by simp
 | x::r,i,h=>by
  simp only[cc] at h
  by_cases hx:n=x.no
  ·rw[age hx] at h;cases h
  ·rw[agd hx] at h
   have:=CE h
   simp only[aeK,aeP,agk]
   exact⟨hx,this⟩
theorem NU {A:List ak} {k:Nat} {y x:ak} (hx:A[k]? =some x) (h:y.no=x.no):(A.set k y).map ak.no=A.map ak.no:=by
 rw[List.map_set]
 refine ad6 fun i=> ?_
 rw[aen]
 split
 ·rename_i e
  subst e
  have hl:=(aej.1 hx).1
  simp only[aeA,hl,agf,aek,hx,afU,h]
 ·rfl
theorem Qg {o:aj} {l:List aa} {i:Nat} {d:aa} {A:List ak} (hA:Good l A) (hI:Ids A) (hl:∀ d,d∈l->bp d=0) (hd:l[i]? =some d):Ids (bS o l i d A).2:=by
 unfold bS
 by_cases k1:aD d=1
 ·rw[age k1]
  split
  ·exact hI
  ·rename_i hf
   split
   ·exact hI
   ·split
    ·exact hI
    ·rename_i h5 _
     obtain⟨_,_,_,_,_,hln,_⟩:=bH (hl d (aeW hd))
     refine⟨?_,fun x hx=> ?_, ?_,by simp⟩
     ·rw[aeI,ae3]
      refine⟨hI.nd,by simp,fun a ha b hb e=> ?_⟩
      simp only[aeK,List.map_nil,ae0] at hb
      subst hb;subst e
      exact CE hf ha
     ·rcases aeM.1 hx with hx | hx
      ·exact hI.rg x hx
      ·simp only[ae0] at hx
       subst hx
       exact hln
     ·rw[aev]
      show A.length+1<=500
      omega
 ·rw[agd k1]
  split
  ·exact hI
  ·rename_i k hk
   split
   ·rename_i x hx
    obtain⟨h1,h2⟩:=hA.sound.line x (aeW hx)
    obtain⟨_,_,a3,_⟩:=AS (o:=o) h1 h2 hl hd
    refine⟨by rw[NU hx a3];exact hI.nd,fun y hy=> ?_,by rw[aeF];exact hI.len,fun e=>hI.ne (by simpa using e)⟩
    rcases aeY hy with hy | hy
    ·exact hI.rg y hy
    ·subst hy;rw[a3];exact hI.rg x (aeW hx)
   ·exact hI
theorem aaB {o:aj} {l:List aa} {wt day:Int} (hl:∀ d,d∈l->bp d=0):∀ (r:List aa) (i:Nat) (A:List ak) (ref:List (Int×Int)) (pts:List ay),l.drop i=r->Good l A->Ids A-> Good l (eZ o l wt day r i A ref pts).1/\Ids (eZ o l wt day r i A ref pts).1:=by
 intro r
 induction r with
 | nil=>intro i A ref pts _ hA hI;exact⟨hA,hI⟩
 | cons d r ih=>
  intro i A ref pts hdr hA hI
  have hd:l[i]? =some d:=by
   have:=congrArg (·[0]?) hdr
   simpa [aeg] using this
  have hr':l.drop (i+1)=r:=by
   have:=congrArg List.tail hdr
   simpa [afb] using this
  have hgood:=vQ (o:=o) hA hl hd
  have hids:=Qg (o:=o) hA hI hl hd
  simp only[eZ]
  split
  ·exact⟨hA,hI⟩
  ·split
   ·exact ih (i+1) _ _ _ hr' hgood hids
   ·exact ih (i+1) _ _ _ hr' hgood hids
theorem IJ {o:aj} (ho:dP o=0):Ids (gm o):=by
 obtain⟨_,_,hlen,hne,hgo,_⟩:=oI ho
 obtain⟨hln,_,hpw⟩:=jY hgo
 refine⟨?_,fun x hx=> ?_,by rw[aeA];exact hlen,fun e=>hne (by simpa using e)⟩
 ·rw[aeL]
  exact List.Pairwise.map _ (fun a b (h:a.1<b.1) e=>by
   have e':a.1=b.1:=e
   omega) hpw
 ·obtain⟨q,hq,rfl⟩:=aeV.1 hx
  exact (hln q hq).2.2.2.2.1
theorem Ff {o:aj} {l:List aa} (h:dV o l=0) (wt day:Int):Good l (ez o l wt day).1/\Ids (ez o l wt day).1:=by
 obtain⟨h1,h2⟩:=yV h
 obtain⟨h3,h4⟩:=nh h2
 exact aaB h4 l 0 _ [] [] rfl (wk h1 l) (IJ h1)
def bD (A:List ak):List ak:=A.mergeSort fun x y=>decide (x.no<=y.no)
theorem eE (A:List ak):(bD A).Perm A:=ae1 A _
theorem Mz (A:List ak):(bD A).Pairwise fun x y=>x.no<=y.no:=by
 have:=List.pairwise_mergeSort (le:=fun x y:ak=>decide (x.no<=y.no)) (fun a b c h1 h2=>by
  simp only[af7] at *;omega) (fun a b=>by simp only[adu,af7];omega) A
 exact this.imp fun h=>by simpa using h
theorem PR {A:List ak} (hI:Ids A):(bD A).Pairwise fun x y=>x.no<y.no:=by
 have h1:=Mz A
 have h2:((bD A).map ak.no).Nodup:=((eE A).map _).nodup_iff.2 hI.nd
 have h3:(bD A).Pairwise fun x y=>x.no≠y.no:=ae7.1 h2
 exact (h1.and h3).imp fun ⟨a,b⟩=>by omega
theorem CI:∀ (A:List ak) (i:Nat),(o9 i A).map (·.1)=A.map ak.no
 | [],_=>rfl
 | x::r,i=>by simp only[o9,aeK,CI r]
theorem TD {A:List ak} (hI:Ids A):mK (mapOf A)=true:=by
 unfold mK
 rw[CI,zk]
 have:=hI.len
 simp only[adf,af7,adQ]
 refine⟨by omega,fun p hp=> ?_,hI.nd⟩
 have hm:p.1∈(mapOf A).map (·.1):=aeV.2 ⟨p,hp,rfl⟩
 rw[CI] at hm
 obtain⟨x,hx,e⟩:=aeV.1 hm
 have:=hI.rg x hx
 omega
theorem KP (A:List ak):sK (mapOf A)=(bD A).map ak.no:=by
 unfold sK
 rw[CI]
 refine adO (le:=fun a b:Int=>decide (a<=b)=true) (fun a b _ _ h1 h2=> ?_) ?_ ?_ ?_
 ·simp only[af7] at h1 h2;omega
 ·exact List.pairwise_mergeSort (le:=fun x y:Int=>decide (x<=y)) (fun a b c h1 h2=>by simp only[af7] at *;omega) (fun a b=>by simp only[adu,af7];omega) _
 ·exact ae7.2 ((Mz A).imp fun h=>by simpa using h)
 ·exact (ae1 _ _).trans ((eE A).map _).symm
theorem NB {n:Int}:∀ {A:List ak} {i k:Nat} {x:ak},(A.map ak.no).Nodup->A[k]? =some x->x.no=n->cc n i A=some (i+k)
 | [],_,_,_,_,h,_=>by simp at h
 | y::r,i,0,x,_,h,hn=>by
  have e:y=x:=by simpa using h
  subst e
  simp only[cc,age hn.symm,afm]
 | y::r,i,k+1,x,hnd,h,hn=>by
  have h':r[k]? =some x:=by simpa using h
  rw[aeK,List.nodup_cons] at hnd
  have hne:¬n=y.no:=fun e=>hnd.1 (by
   rw[<- e, <- hn]
   exact aeV.2 ⟨x,aeW h',rfl⟩)
  simp only[cc,agd hne]
  rw[NB hnd.2 h' hn,show i+1+k=i+(k+1) by omega]
theorem Q6 {A:List ak} (hI:Ids A) {x:ak} (hx:x∈bD A):∃ k,ef x.no A=some k/\A[k]? =some x:=by
 obtain⟨k,hk⟩:=ael ((eE A).mem_iff.1 hx)
 exact⟨k,by have:=NB (i:=0) hI.nd hk rfl;rwa [afM] at this,hk⟩
def FL (A:List ak):List (Option Nat):=(bD A).map fun x=>ef x.no A
end Go.Md
namespace Go.Md
open Go.Dn
theorem abi (A:List ak):FL A=(sK (mapOf A)).map fun k=>ef k A:=by
 rw[KP,aeL];rfl
theorem BO {A:List ak} (hI:Ids A) (o:aj) (l:List aa) (ref:List ah) (pts:List ay) (wt:Int): jJ (o,l,mapOf A,ref,pts,wt,())=some (FL A,(o,l,mapOf A,ref,pts,wt,()),()):=by
 obtain⟨onum,obuy,osel,oday,oext,olns⟩:=o
 have lZ:maxLen=9223372036854775807:=rfl
 unfold jJ
 dsimp only
 rw[cA (TD hI)]
 have hkl:(sK (mapOf A)).length<=500:=by
  rw[KP,aeA,(eE A).length_eq];exact hI.len
 rw[abi]
 generalize sK (mapOf A)=ks at hkl
 have loop:∀ n,ks.length<n->iter (X:=fJ) (β:=iB) n ([],(ks.length:Int),0,onum,obuy,osel,oday,oext,olns,l,wt,ks,ref,pts,mapOf A,()) iA=some (Sum.inr (ks.map (fun k=>ef k A),onum,obuy,osel,oday,oext,olns,l,wt,ref,pts,mapOf A,())):=by
  intro n hn
  refine cG (Inv:=fun i X=>X=(((ks.map (fun k=>ef k A)).take i,(ks.length:Int),(i:Int),onum,obuy,osel,oday,oext,olns,l,wt,ks,ref,pts,mapOf A,()):fJ)) ks.length (fun z=>z=some (Sum.inr (ks.map (fun k=>ef k A),onum,obuy,osel,oday,oext,olns,l,wt,ref,pts,mapOf A,()))) ?_ ?_ n 0 _ rfl (afN _) (by omega)
  ·rintro i X again hi rfl hag
   unfold iA
   dsimp only
   obtain⟨y,hy⟩:∃ y,ks[i]? =some y:=⟨ks[i],aeh hi⟩
   have hlen:((ks.map (fun k=>ef k A)).take i).length=i:=by rw[aeH,aeA];omega
   rw[af6 (show (i:Int)<(ks.length:Int) by omega),af2,cA (by simp),adN,hy,afO,hlen,cA (by
    rw[adf];exact⟨af6 (by omega),af6 (by omega)⟩),aA (n:=(i:Int)+1) (by omega) (by omega),gJ]
   have e:(ks.map (fun k=>ef k A)).take i++[cc y 0 A]=(ks.map (fun k=>ef k A)).take (i+1):=by
    rw[afc,aek,hy];rfl
   rw[e]
   exact hag _ rfl
  ·rintro X again rfl
   unfold iA
   dsimp only
   rw[af4 (show ¬(ks.length:Int)<(ks.length:Int) by omega),af1,afh (by rw[aeA];exact aft _)]
 have h2:=zk A 0
 rw[loop _ (by
  simp only[aeC,adE]
  omega)]
 rfl
theorem YD {l:List aa} {A:List ak} (hA:Good l A) (hI:Ids A) {i:Nat} {x:ak} (hx:(bD A)[i]? =some x):∃ k,(FL A)[i]? =some (some k)/\A[k]? =some x/\ja (some k) (A.map ak.tup)=some (bV x,())/\x∈A:=by
 obtain⟨k,hk,hxk⟩:=Q6 hI (aeW hx)
 have hm:=aeW hxk
 refine⟨k, ?_,hxk,xF hxk (hA.sound.line x hm).1 (hA.pr x hm),hm⟩
 unfold FL
 rw[aek,hx,afU,hk]
end Go.Md
namespace Go.Md
open Go.Dn
theorem GM (z:Int) (hz:z.natAbs<=9000000000000000000) (p:Nat) (hp:p<=1000):fM (z,(p:Int))=some (((few p z).1,((few p z).2:Int)),()):=by
 have loop:∀ (n:Nat) (z:Int) (p:Nat),z.natAbs<=9000000000000000000->p<=1000->p<n->iter (X:=wI) (β:=wH) n (z,(p:Int),0,0,()) wG=some (Sum.inr ((few p z).1,((few p z).2:Int),0,0,())):=by
  intro n
  induction n with
  | zero=>intro z p _ _ h;omega
  | succ n ih=>
   intro z p hz hp hn
   rw[fk]
   generalize hag:(fun y=>iter n y wG)=again
   unfold wG
   dsimp only
   cases p with
   | zero=>rw[bW (by omega)];rfl
   | succ p=>
    rw[bF (by omega)]
    by_cases hm:z % 10=0
    ·have h1:Int.tmod z 10=0:=Int.tmod_eq_zero_of_dvd (Int.dvd_of_emod_eq_zero hm)
     have h2:Int.tdiv z 10=z / 10:=Int.tdiv_eq_ediv_of_dvd (Int.dvd_of_emod_eq_zero hm)
     have e:few (p+1) z=few p (z / 10):=by simp[few,hm]
     rw[h1,h2,show ((0:Int)==0)=true from rfl,af2,aA (by omega) (by omega),aA (by omega) (by omega),e, <- hag,show ((p+1:Nat):Int) - 1=(p:Int) by omega]
     exact ih (z / 10) p (by omega) (by omega) (by omega)
    ·have h1:(Int.tmod z 10==0)=false:=by
      simp only[afX,ne_eq]
      intro h
      exact hm (Int.emod_eq_zero_of_dvd (Int.dvd_of_tmod_eq_zero h))
     have e:few (p+1) z=(z,p+1):=by simp[few,hm]
     rw[h1,af1,e]
 unfold fM
 dsimp only
 rw[loop _ z p hz hp (by omega),aR]
structure jA (d:ah) (n:Int):Prop where
 p0:0<=d.2
 p3:d.2<=3
 val:d.1*10 ^ (3 - d.2).toNat=n
 bd:n.natAbs<=2000000000000000
theorem jA.unit {d:ah} {n:Int} (h:jA d n):d.1.natAbs<=n.natAbs:=by
 have:=h.val
 have h1:(1:Nat)<=10 ^ (3 - d.2).toNat:=Nat.one_le_pow _ _ (by omega)
 rw[<- h.val,adD,adF]
 exact Nat.le_mul_of_pos_right _ h1
theorem qj {d:ah} {n:Int} (h:jA d n):nw d=some (n,()):=by
 obtain⟨u,p⟩:=d
 have hu:=h.unit
 have hb:=h.bd
 have p0:=h.p0
 have p3:=h.p3
 obtain⟨k,hk⟩:∃ k:Nat,(3 - p:Int)=(k:Int):=⟨(3 - p).toNat,by dsimp only at p3;omega⟩
 have hk3:k<=3:=by dsimp only at p0;omega
 have hv:u*10 ^ k=n:=by
  have:=h.val
  dsimp only at this
  rwa [hk,adN] at this
 dsimp only at hu
 unfold nw
 dsimp only
 rw[hk,aA (n:=(k:Int)) (by omega) (by omega)]
 have hm:∀ i,i<=k->(u*10 ^ i).natAbs<=n.natAbs:=fun i hi=>by
  rw[<- hv,adD,adD,adF,adF]
  exact Nat.mul_le_mul_left _ (afK (by decide) hi)
 have loop:∀ m,k<m->iter (X:=tW) (β:=yN) m (u,(k:Int),0,()) yM=some (Sum.inr (n,())):=by
  intro m hm'
  refine cG (Inv:=fun i X=>X=((u*10 ^ i,(k:Int),(i:Int),()):tW)) k (fun z=>z=some (Sum.inr (n,()))) ?_ ?_ m 0 _ (by simp) (afN _) (by omega)
  ·rintro i X again hi rfl hag
   unfold yM
   dsimp only
   have h1:=hm (i+1) (by omega)
   have e:u*10 ^ i*10=u*10 ^ (i+1):=by rw[adI,adz]
   rw[af6 (show (i:Int)<(k:Int) by omega),af2,e,aA (n:=u*10 ^ (i+1)) (by omega) (by omega),aA (n:=(i:Int)+1) (by omega) (by omega)]
   exact hag _ rfl
  ·rintro X again rfl
   unfold yM
   dsimp only
   rw[af4 (show ¬(k:Int)<(k:Int) by omega),af1,hv]
 rw[loop _ (by simp only[adE];omega)]
 rfl
theorem cU {n:Int} (h:n.natAbs<=2000000000000000):jA (bE n) n:=by
 obtain⟨h1,h2,h3⟩:=EE 3 n
 refine⟨by show (0:Int)<=((few 3 n).2:Int);omega,by show ((few 3 n).2:Int)<=3;omega, ?_,h⟩
 show (few 3 n).1*10 ^ (3 - ((few 3 n).2:Int)).toNat=n
 rw[show (3 - ((few 3 n).2:Int)).toNat=3 - (few 3 n).2 by omega]
 exact h2
theorem pF {a b:ah} {m n:Int} (ha:jA a m) (hb:jA b n):jN a b=some (bE (m+n),()):=by
 have h1:=ha.bd
 have h2:=hb.bd
 unfold jN
 rw[qj ha,afO,qj hb,afO]
 dsimp only
 rw[aA (by omega) (by omega)]
 have:=GM (m+n) (by omega) 3 (by omega)
 rw[show ((3:Nat):Int)=3 from rfl] at this
 rw[this]
 rfl
theorem jA.neg {d:ah} {n:Int} (h:jA d n):jA (-d.1,d.2) (-n):=⟨h.p0,h.p3,by show -d.1*10 ^ (3 - d.2).toNat= -n;rw[Int.neg_mul,h.val],by rw[Int.natAbs_neg];exact h.bd⟩
theorem KW {a b:ah} {m n:Int} (ha:jA a m) (hb:jA b n):BY a b=some (bE (m - n),()):=by
 have h2:=hb.unit
 have h3:=hb.bd
 unfold BY
 rw[Int.zero_sub,aA (n:= -b.1) (by omega) (by omega),pF ha hb.neg,afO,Int.sub_eq_add_neg]
theorem FH (p:Nat) (n:Int):((few p n).1<0↔n<0)/\((few p n).1=0↔n=0):=by
 obtain⟨_,h2,_⟩:=EE p n
 have hp:(0:Int)<10 ^ (p - (few p n).2):=Int.pow_pos (by decide)
 generalize (few p n).1=u at h2
 generalize (10:Int) ^ (p - (few p n).2)=q at h2 hp
 subst h2
 refine⟨⟨fun h=>Int.mul_neg_of_neg_of_pos h hp,fun h=> ?_⟩,⟨fun h=>by rw[h,Int.zero_mul],fun h=> ?_⟩⟩
 ·rcases Classical.em (u<0) with h1 | h1
  ·exact h1
  ·have:=adB (show 0<=u by omega) (Int.le_of_lt hp);omega
 ·rcases Int.mul_eq_zero.1 h with h1 | h1
  ·exact h1
  ·omega
theorem Oh {s:dD} {m n:Int} (h1:jA s.2.2.2.2.2.2.1 m) (h2:jA s.2.2.2.2.2.2.2.2.1 n):vE s=some (bE (m - n),()):=by
 unfold vE
 rw[KW h1 h2];rfl
theorem PG {s:dD} {c m n:Int} (h0:jA s.2.2.2.1 c) (h1:jA s.2.2.2.2.2.2.1 m) (h2:jA s.2.2.2.2.2.2.2.2.1 n) (hb:(m - n).natAbs<=2000000000000000): nx s=some ((s.1,s.2.1,s.2.2.1,s.2.2.2.1,s.2.2.2.2.1,s.2.2.2.2.2.1,s.2.2.2.2.2.2.1,s.2.2.2.2.2.2.2.1,s.2.2.2.2.2.2.2.2.1,bE (if c - m+n>0 then c - m+n else 0)),()):=by
 unfold nx
 rw[Oh h1 h2,afO,KW h0 (cU hb),afO]
 dsimp only
 have e:c - (m - n)=c - m+n:=by omega
 rw[e]
 by_cases h:c - m+n<0
 ·rw[af6 (show (bE (c - m+n)).1<0 from (FH 3 _).1.2 h),af2,agd (by omega)]
  unfold bE
  rw[LY]
  rfl
 ·rw[af4 (show ¬(bE (c - m+n)).1<0 from fun h'=>h ((FH 3 _).1.1 h')),af1]
  by_cases h0:c - m+n>0
  ·rw[age h0]
  ·rw[agd h0,show c - m+n=0 by omega]
end Go.Md
namespace Go.Md
open Go.Dn
def ot (x:ak):ai:=(x.no,x.art,bE x.ord,x.unit,dK x.price,x.due)
def qs (x:ak):Bool:=decide (0<x.ord)
def rA (A:List ak):List ai:=((bD A).filter qs).map ot
def Xf (o:aj) (A:List ak):aj:=(o.1,o.2.1,o.2.2.1,o.2.2.2.1,o.2.2.2.2.1,rA A)
def jt:aj:=([],[],[],0,0,[])
theorem aaf (A:List ak):(rA A).length<=A.length:=by
 unfold rA
 rw[aeA]
 have:=aez qs (bD A)
 rwa [(eE A).length_eq] at this
theorem N7 (o:aj) (l:List aa):wB o l=some (if dV o l≠0 then (jt,dV o l,()) else if rA (ez o l 0 3652059).1=[] then (jt,9,()) else (Xf o (ez o l 0 3652059).1,0,())):=by
 have lZ:maxLen=9223372036854775807:=rfl
 unfold wB
 rw[RU]
 by_cases h:dV o l=0
 rotate_left
 ·rw[age (show dV o l≠0 from h),age (show dV o l≠0 from h)]
  show (bif dV o l != 0 then _ else _)=_
  rw[cr h,af2];rfl
 rw[agd (show ¬dV o l≠0 from fun e=>e h),agd (show ¬dV o l≠0 from fun e=>e h),agd (show ¬¬((1:Int)<=3652059/\(3652059:Int)<=3652059) from fun e=>e (by omega))]
 refine Eq.trans Xv ?_
 rw[Vj h (by omega),afO]
 dsimp only
 rw[zne,af1]
 obtain⟨hg,hI⟩:=Ff h 0 3652059
 rw[BO hI o l,afO]
 generalize (ez o l 0 3652059).1=A at hg hI
 obtain⟨onum,obuy,osel,oday,oext,olns⟩:=o
 have hSl:(bD A).length<=500:=by rw[(eE A).length_eq];exact hI.len
 have hHl:(FL A).length=(bD A).length:=by unfold FL;rw[aeA]
 dsimp only
 rw[hHl]
 have loop:∀ n,(bD A).length<n->iter (X:=jD) (β:=qH) n (((bD A).length:Int),0,[],[],[],0,0,[],onum,obuy,osel,oday,oext,[],FL A,A.map ak.tup,()) qG=some (Sum.inr ([],[],[],0,0,[],onum,obuy,osel,oday,oext,rA A,A.map ak.tup,())):=by
  intro n hn
  refine cG (Inv:=fun i X=>X=((((bD A).length:Int),(i:Int),[],[],[],0,0,[],onum,obuy,osel,oday,oext,(((bD A).take i).filter qs).map ot,FL A,A.map ak.tup,()):jD)) (bD A).length (fun z=>z=some (Sum.inr ([],[],[],0,0,[],onum,obuy,osel,oday,oext,rA A,A.map ak.tup,()))) ?_ ?_ n 0 _ rfl (afN _) (by omega)
  ·rintro i X again hi rfl hag
   unfold qG
   dsimp only
   obtain⟨x,hx⟩:∃ y,(bD A)[i]? =some y:=⟨(bD A)[i],aeh hi⟩
   obtain⟨k,hk,hkx,hst,_⟩:=YD hg hI hx
   have hlen:((((bD A).take i).filter qs).map ot).length<=i:=by
    rw[aeA]
    have:=aez qs ((bD A).take i)
    rw[aeH] at this
    omega
   have e:(bD A).take (i+1)=(bD A).take i++[x]:=by rw[afc,hx];rfl
   rw[af6 (show (i:Int)<((bD A).length:Int) by omega),af2,hHl,cA (by simp;omega),adN,hk,afO,afO,mq hkx,afO]
   dsimp only
   by_cases h0:0<x.ord
   ·rw[af6 (show x.ord>0 from h0),af2,hst,afO,cA (by
     rw[adf];exact⟨af6 (by omega),af6 (by omega)⟩),aA (n:=(i:Int)+1) (by omega) (by omega)]
    have e2:(((bD A).take i).filter qs).map ot++[ot x]=(((bD A).take (i+1)).filter qs).map ot:=by
     rw[e,ad7,aeI,ad8,age (show qs x=true from af6 h0)];rfl
    have:=hag ((((bD A).length:Int),((i+1:Nat):Int),[],[],[],0,0,[],onum,obuy,osel,oday,oext,(((bD A).take (i+1)).filter qs).map ot,FL A,A.map ak.tup,()):jD) rfl
    rw[<- e2] at this
    exact this
   ·rw[af4 (show ¬x.ord>0 from h0),af1,aA (n:=(i:Int)+1) (by omega) (by omega)]
    have e2:(((bD A).take i).filter qs).map ot=(((bD A).take (i+1)).filter qs).map ot:=by
     rw[e,ad7,ad8,agd (show ¬qs x=true from fun h=>h0 (agl h)),List.filter_nil,adU]
    rw[e2]
    exact hag _ rfl
  ·rintro X again rfl
   unfold qG
   dsimp only
   rw[af4 (show ¬((bD A).length:Int)<((bD A).length:Int) by omega),af1,afh (aft _)]
   rfl
 rw[loop _ (by simp only[adE];omega),aR]
 dsimp only
 by_cases h0:rA A=[]
 ·rw[age h0,h0];rfl
 ·have:0<(rA A).length:=aeD.2 h0
  rw[agd h0,show (((rA A).length:Int)==0)=false by simp;omega,af1]
  rfl
theorem D6 (l:List ai) (hl:l.length<=2001):jQ l l=some (true,()):=by
 unfold jQ
 rw[show ((l.length:Int) != (l.length:Int))=false by simp,af1]
 have:∀ n,l.length<n->iter (X:=fO) (β:=iI) n (l,l,(l.length:Int),0,()) iH=some (Sum.inr ()):=by
  intro n hn
  refine cG (Inv:=fun i X=>X=((l,l,(l.length:Int),(i:Int),()):fO)) l.length (fun z=>z=some (Sum.inr ())) ?_ ?_ n 0 _ rfl (afN _) (by omega)
  ·rintro i X again hi rfl hag
   unfold iH
   dsimp only
   obtain⟨y,hy⟩:∃ y,l[i]? =some y:=⟨l[i],aeh hi⟩
   rw[af6 (show (i:Int)<(l.length:Int) by omega),af2,bG hy,afO,afO,aA (n:=(i:Int)+1) (by omega) (by omega)]
   simp only[afZ,adh,ads,af1]
   exact hag _ rfl
  ·rintro X again rfl
   unfold iH
   dsimp only
   rw[af4 (show ¬(l.length:Int)<(l.length:Int) by omega),af1]
 rw[this _ (by omega)]
 rfl
theorem Ku (o:aj) (hl:(aS o).length<=2001):wP o o=some (true,()):=by
 unfold wP
 simp only[afZ,af2]
 rw[D6 _ hl]
 rfl
end Go.Md
namespace Go.Md
open Go.Dn
end Go.Md
namespace Go.Md
open Go.Dn
def d0:aa:=(0,0,0,0,0,[],(0,0),[],(0,0),0,0)
end Go.Md
set_option linter.all false
namespace Go.Md
open Go.Dn
theorem acm (b:Bool):((if b=true then (0:Int) else 1) != 0)= !b:=by cases b<;>rfl
theorem Oi (o:aj) (i:Nat) (x:ai) (hi:(aS o)[i]? =some x) (hl:(aS o).length<=500):wR o (i:Int)=some (di (bZ o) (bM (aS o) i) x,()):=by
 have hlt:i<(aS o).length:=(aej.1 hi).1
 unfold wR
 rw[bG hi,afO]
 simp only[jy,BQ,xH,BX,afO,acm]
 have tail:∀ (p:Option ai) (hp:(p.any fun q=>decide (x.1<=q.1))=false) (h1:1<=x.1/\x.1<=99999),
  (bif !cK x.2.1 then some (5,()) else bif !qOk x.2.2.1 false then some (1,()) else bif !cK x.2.2.2.1 then some (5,()) else
    bif !inR x.2.2.2.2.1 0 1000000000 4 then some (1,()) else bif !decide (bZ o<=x.2.2.2.2.2/\x.2.2.2.2.2<=3652059) then some (1,()) else some (0,()))=some (di (bZ o) p x,()):=fun p hp h1=>by
  unfold di
  rw[agd (show ¬¬(1<=x.1/\x.1<=99999) from fun h=>h h1),agd (show ¬(p.any fun q=>decide (x.1<=q.1))=true by rw[hp];exact adm)]
  cases cK x.2.1
  ·rfl
  ·cases qOk x.2.2.1 false
   ·rfl
   ·cases cK x.2.2.2.1
    ·rfl
    ·cases inR x.2.2.2.2.1 0 1000000000 4
     ·rfl
     ·by_cases hd:bZ o<=x.2.2.2.2.2/\x.2.2.2.2.2<=3652059
      ·simp[hd]
      ·simp[hd]
 by_cases h1:1<=x.1/\x.1<=99999
 ·rw[af6 h1,ads,af1]
  cases i with
  | zero=>
   rw[af4 (show ¬((0:Nat):Int)>0 by omega),af1]
   exact tail none rfl h1
  | succ j=>
   have hq:(aS o)[j]? =some (aS o)[j]:=aeh (by omega)
   have e:w64 (((j+1:Nat):Int) - 1)=(j:Int):=by rw[aA (by omega) (by omega)];omega
   rw[af6 (show ((j+1:Nat):Int)>0 by omega),af2,e,bG hq,afO]
   simp only[bM,hq]
   by_cases h2:x.1<=(aS o)[j].1
   ·rw[af6 h2,afO]
    have:di (bZ o) (some (aS o)[j]) x=8:=by
     unfold di
     rw[agd (show ¬¬(1<=x.1/\x.1<=99999) from fun h=>h h1),age (show (Option.any (fun q=>decide (x.1<=q.1)) (some (aS o)[j]))=true from af6 h2)]
    rw[this]
    rfl
   ·rw[af4 h2,afO]
    exact tail (some (aS o)[j]) (by simp[h2]) h1
 ·rw[af4 h1,adr,af2]
  unfold di
  rw[age h1]
theorem uZ (o:aj):mj o=some (dP o,()):=by
 unfold mj dP
 simp only[BQ,DR,jy,afO]
 cases h1:cK o.1
 ·simp[BM,h1]
 cases h2:cK o.2.1
 ·simp[BM,BL,h1,h2]
 cases h3:cK o.2.2.1
 ·simp[BM,BL,F9,h1,h2,h3]
 rw[agd (by simp[BM,BL,F9,h1,h2,h3])]
 simp only[ads,af1]
 by_cases h4:o.2.1=o.2.2.1
 ·rw[age h4,show (o.2.1==o.2.2.1)=true by simp[h4],af2]
 rw[agd h4,show (o.2.1==o.2.2.1)=false by simp[h4],af1]
 by_cases h5:1<=o.2.2.2.1/\o.2.2.2.1<=3652059
 ·rw[agd (by simp[bZ,h5]),af6 h5,ads,af1]
  by_cases h6:0<=o.2.2.2.2.1/\o.2.2.2.2.1<=1000
  ·rw[agd (by simp[b8,h6]),af6 h6,ads,af1]
   by_cases h7:o.2.2.2.2.2=[]
   ·rw[age h7,h7];rfl
   ·have h7':o.2.2.2.2.2.length≠0:=fun e=>h7 (ad5 e)
    rw[agd h7,cL (show (o.2.2.2.2.2.length:Int)≠0 by omega),af1]
    by_cases h8:500<o.2.2.2.2.2.length
    ·rw[age h8,af6 (by omega),af2]
    ·rw[agd h8,af4 (by omega),af1]
     have:=ru (f:=nG) (fun (_:Unit) (i:Nat)=>(((o.2.2.2.2.2.length:Int),(i:Int),o.1,o.2.1,o.2.2.1,o.2.2.2.1,o.2.2.2.2.1,o.2.2.2.2.2,()):nH)) o.2.2.2.2.2
      (fun (_:Unit) i y k=>if di (bZ o) (bM o.2.2.2.2.2 i) y≠0 then some (Sum.inl (di (bZ o) (bM o.2.2.2.2.2 i) y,())) else k ()) (fun _=>some (Sum.inr ()))
      (fun s i y again hy=>by
        have hlt:i<o.2.2.2.2.2.length:=(aej.1 hy).1
        unfold nG
        dsimp only
        rw[af6 (by omega),af2]
        have:=Oi o i y hy (by show o.2.2.2.2.2.length<=500;omega)
        rw[show ((o.1,o.2.1,o.2.2.1,o.2.2.2.1,o.2.2.2.2.1,o.2.2.2.2.2):aj)=o from rfl,this,afO]
        dsimp only
        by_cases hf:di (bZ o) (bM o.2.2.2.2.2 i) y=0
        ·rw[agd (by simp[hf]),show (di (bZ o) (bM (aS o) i) y != 0)=false by simp[hf],af1,aA (by omega) (by omega)]
         rfl
        ·rw[age hf,show (di (bZ o) (bM (aS o) i) y != 0)=true by simp[hf],af2]) (fun s again=>by
        unfold nG
        dsimp only
        rw[af4 (show ¬((o.2.2.2.2.2.length:Int)<(o.2.2.2.2.2.length:Int)) by omega)];rfl) ()
     refine (congrArg (fun z=>aC (β:=(Int×Unit)) (γ:=Unit) z fun _=>some (0,())) (this _ (by omega))).trans ?_
     have e:=zV o.2.2.2.2.2 (bZ o) o.2.2.2.2.2 0 () rfl
     change tr _ _ _ 0 ()=_ at e
     refine (congrArg (fun z=>aC (β:=(Int×Unit)) (γ:=Unit) z fun _=>some (0,())) e).trans ?_
     simp only[bM]
     by_cases h:iy (bZ o) o.2.2.2.2.2 none=0
     ·rw[Iw h,h];rfl
     ·rw[EF h];rfl
  ·rw[age h6,af4 h6];rfl
 ·rw[age h5,af4 h5];rfl
section merge
variable (x y:List aa) (hx:x.length<=2000) (hy:y.length<=2000)
end merge
end Go.Md
set_option linter.all false
namespace Go.Md
open Go.Dn
theorem Nk {d:ah} {n:Int} (h:jA d n):fS d=n*1000000:=by
 have h0:=h.p0;have h3:=h.p3
 unfold fS
 rw[show (9 - d.2).toNat=(3 - d.2).toNat+6 by omega,adH, <- adz,h.val]
 rfl
theorem Og {d:ah} (h1:d.1.natAbs<=4000000000000000) (h2:0<=d.2) (h3:d.2<=9):AF d 9=some (N (fS d),()):=by
 unfold AF
 rw[Gn _ (by omega) (by omega),afO,aA (by omega) (by omega)]
 dsimp only
 obtain⟨m,hm⟩:∃ m:Nat,9 - d.2=m:=⟨(9 - d.2).toNat,by omega⟩
 rw[hm,KV m (by omega),afO]
 dsimp only
 have hl1:(dg6 d.1.natAbs).length<=10:=DL (by omega)
 have hl2:(dg6 ((10:Int) ^ m).natAbs).length<=10:=by
  refine DL ?_
  have h1:((10:Int) ^ m).natAbs=10 ^ m:=by rw[adF];rfl
  have h2:=afK (n:=10) (by omega) (show m<=9 by omega)
  omega
 rw[zZ _ _ (by omega) (by omega),afO]
 unfold fS
 rw[hm];rfl
theorem wS {a b:ah} {m n:Int} (ha:jA a m) (hb:jA b n):mV a b=some ((m - n).sign,()):=by
 have a1:=ha.unit;have a2:=ha.bd;have a3:=ha.p0;have a4:=ha.p3
 have b1:=hb.unit;have b2:=hb.bd;have b3:=hb.p0;have b4:=hb.p3
 have e1:=Nk ha
 have e2:=Nk hb
 have m1:=DL (z:=fS a) (by omega)
 have m2:=DL (z:=fS b) (by omega)
 unfold mV
 rw[Og (by omega) a3 (by omega),afO,Og (by omega) b3 (by omega),afO,QN _ _ (by omega) (by omega),e1,e2]
 have:m*1000000 - n*1000000=(m - n)*1000000:=by omega
 rw[this,Int.sign_mul,show Int.sign 1000000=1 from rfl,adC]
 rfl
theorem oe {d:ah} {z:Bool} (h:qOk d z=true):jA d (aL d):=by
 obtain⟨⟨h1,h2⟩,h3,h4,_⟩:=zy h
 obtain⟨u1,u2,_⟩:=jz h
 exact⟨h1,h2,rfl,by omega⟩
theorem Iu:∀ (k p:Nat) (z:Int),few (p+k) (z*10 ^ k)=few p z
 | 0,p,z=>by simp
 | k+1,p,z=>by
  rw[<- afj,few,age (by rw[adI, <- adz];omega)]
  rw[show z*10 ^ (k+1) / 10=z*10 ^ k by rw[adI, <- adz];omega]
  exact Iu k p z
theorem XV {d:ah} {z:Bool} (h:qOk d z=true):bE (aL d)=dK d:=by
 obtain⟨⟨h1,h2⟩,_⟩:=zy h
 unfold bE dK aL
 have:=Iu (3 - d.2).toNat d.2.toNat d.1
 rw[show d.2.toNat+(3 - d.2).toNat=3 by omega] at this
 rw[this]
theorem CM {d:ah} (h:d.1.natAbs<=9000000000000000000) (h0:0<=d.2) (h1:d.2<=9):fM d=some (dK d,()):=by
 have:=GM d.1 h d.2.toNat (by omega)
 rw[show ((d.2.toNat:Nat):Int)=d.2 by omega] at this
 exact this
theorem DT {d:ah} {z:Bool} (h:qOk d z=true):fM d=some (bE (aL d),()):=by
 obtain⟨⟨h1,h2⟩,h3,h4,_⟩:=zy h
 have hm:=(oe h).unit
 have:=(oe h).bd
 rw[XV h]
 exact CM (by omega) h1 (by omega)
theorem DS {d:ah} (h:inR d 0 1000000000 4=true):fM d=some (dK d,()):=by
 obtain⟨h1,h2,h3,h4⟩:=ri h
 exact CM (by omega) h3 h4
theorem Z6 {M:List ak} (hs:M.Pairwise fun x y=>x.no<y.no) {a b:ak} (ha:a∈M) (hb:b∈M) (h:a.no=b.no):a=b:=by
 obtain⟨i,hi,rfl⟩:=List.mem_iff_getElem.1 ha
 obtain⟨j,hj,rfl⟩:=List.mem_iff_getElem.1 hb
 rw[ae6] at hs
 rcases afB i j with c | c | c
 ·have:=hs i j hi hj c;omega
 ·subst c;rfl
 ·have:=hs j i hj hi c;omega
theorem PS {A M:List ak} (hp:M.Perm A) (hs:M.Pairwise fun x y=>x.no<y.no):bD A=M:=by
 refine adO (le:=fun x y=>x.no<=y.no) ?_ (Mz A) (hs.imp fun h=>Int.le_of_lt h) ((eE A).trans hp.symm)
 intro a b ha hb h1 h2
 exact Z6 hs (hp.mem_iff.2 ((eE A).mem_iff.1 ha)) hb (by omega)
theorem V8 {M:List ak}:(M.Pairwise fun x y=>x.no<y.no)↔(M.map ak.no).Pairwise (· < ·):=by rw[ae7]
theorem Mw {α:Type} {x y:α}:∀ {l:List α} {j:Nat},l[j]? =some x->(x::l.set j y).Perm (y::l)
 | [],_,h=>by simp at h
 | a::l,0,h=>by cases h;exact List.Perm.swap _ _ _
 | a::l,j+1,h=>by
  have ih:=Mw (x:=x) (y:=y) (l:=l) (j:=j) (by simpa using h)
  exact ((List.Perm.swap a x _).trans (ih.cons a)).trans (List.Perm.swap y a l)
theorem aaI {A:List ak} (hI:Ids A) {k j:Nat} {x y:ak} (hk:A[k]? =some x) (hj:(bD A)[j]? =some x) (hy:y.no=x.no):bD (A.set k y)=(bD A).set j y:=by
 refine PS ?_ ?_
 ·have h1:=Mw (y:=y) hj
  have h2:=Mw (y:=y) hk
  exact (h1.trans (((eE A).cons y).trans h2.symm)).cons_inv
 ·rw[V8,NU hj hy, <- V8]
  exact PR hI
def fL (n:Int):List ak->Nat
 | []=>0
 | x::r=>if x.no<n then fL n r+1 else 0
theorem JU (n:Int):∀ l,fL n l<=l.length
 | []=>aft _
 | x::r=>by
  have:=JU n r
  simp only[fL,aew]
  split<;>omega
theorem Wc (n:Int):∀ (l:List ak) (k:Nat) (x:ak),k<fL n l->l[k]? =some x->x.no<n
 | [],k,x,h,_=>by simp[fL] at h
 | y::r,k,x,h,hx=>by
  simp only[fL] at h
  split at h
  ·rename_i c
   cases k with
   | zero=>cases hx;exact c
   | succ k=>exact Wc n r k x (by omega) (by simpa using hx)
  ·omega
theorem Wb (n:Int):∀ (l:List ak) (x:ak),l[fL n l]? =some x->¬x.no<n
 | [],x,h=>by simp[fL] at h
 | y::r,x,h=>by
  simp only[fL] at h
  split at h
  ·exact Wb n r x (by simpa using h)
  ·rename_i c;cases h;exact c
theorem VJ {n:Int} {y:ak} (hy:y.no=n):∀ {l:List ak},(l.Pairwise fun x y=>x.no<y.no)->(∀ x,x∈l->x.no≠n)->(l.take (fL n l)++y::l.drop (fL n l)).Pairwise fun x y=>x.no<y.no
 | [],_,_=>by simp[fL]
 | x::r,hs,hn=>by
  obtain⟨s1,s2⟩:=ae5.1 hs
  simp only[fL]
  split
  ·rename_i c
   rw[List.take_succ_cons,List.drop_succ_cons,adV]
   refine List.Pairwise.cons (fun z hz=> ?_) (VJ hy s2 (fun z hz=>hn z (by simp[hz])))
   rcases aeM.1 hz with hz | hz
   ·exact s1 z (List.mem_of_mem_take hz)
   ·rcases aeP.1 hz with rfl | hz
    ·omega
    ·exact s1 z (aeX hz)
  ·rename_i c
   have hx:=hn x (by simp)
   rw[List.take_zero,ad3,ae2]
   refine List.Pairwise.cons (fun z hz=> ?_) hs
   rcases aeP.1 hz with rfl | hz
   ·omega
   ·have:=s1 z hz;omega
theorem aaH {A:List ak} (hI:Ids A) {y:ak} (hn:∀ x,x∈A->x.no≠y.no):bD (A++[y])=(bD A).take (fL y.no (bD A))++y::(bD A).drop (fL y.no (bD A)):=by
 refine PS ?_ (VJ rfl (PR hI) fun x hx=>hn x ((eE A).mem_iff.1 hx))
 refine List.perm_middle.trans ?_
 rw[afd]
 exact ((eE A).cons y).trans (List.perm_append_singleton y A).symm
end Go.Md
