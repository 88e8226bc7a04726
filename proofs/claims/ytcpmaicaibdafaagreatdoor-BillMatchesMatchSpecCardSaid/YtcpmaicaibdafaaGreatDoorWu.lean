/-
  Plain facts: the lines by their numbers; quantities. No condition.
-/
import Derived.Test.YtcpmaicaibdafaaGreatDoorWt
import Derived.Test.YtcpmaicaibdafaaGreatDoorWx
set_option linter.all false
namespace Go.Md
open Go.Dn
structure Ids (A:List ak):Prop where
 nd:(A.map ak.no).Nodup
 rg:∀ x,x∈A→1≤x.no∧x.no≤99999
 len:A.length≤500
 ne:A≠[]
theorem G6 {n:Int}:∀ {A:List ak} {i:Nat},cB n i A=none→n∉A.map ak.no
 | [],_,_=>by simp
 | x::r,i,h=>by
  simp only[cB] at h
  by_cases hx:n=x.no
  ·rw[aiv hx] at h;cases h
  ·rw[aiu hx] at h
   have:=G6 h
   simp only[agY,ag4,aiA]
   exact⟨hx,this⟩
theorem RY {A:List ak} {k:Nat} {y x:ak} (hx:A[k]? =some x) (h:y.no=x.no):(A.set k y).map ak.no=A.map ak.no:=by
 rw[List.map_set]
 refine ago fun i=> ?_
 rw[agH]
 split
 ·rename_i e
  subst e
  have hl:=(agD.1 hx).1
  simp only[agQ,hl,aiw,agE,hx,aia,h]
 ·rfl
theorem Un {o:aj} {l:List aa} {i:Nat} {d:aa} {A:List ak} (hA:Good l A) (hI:Ids A) (hl:∀ d,d∈l→bF d=0) (hd:l[i]? =some d):Ids (cE o l i d A).2:=by
 unfold cE
 by_cases k1:aL d=1
 ·rw[aiv k1]
  split
  ·exact hI
  ·rename_i hf
   split
   ·exact hI
   ·split
    ·exact hI
    ·rename_i h5 _
     obtain⟨_,_,_,_,_,hln,_⟩:=bU (hl d (ahb hd))
     refine⟨?_,fun x hx=> ?_, ?_,by simp⟩
     ·rw[agW,List.nodup_append]
      refine⟨hI.nd,by simp,fun a ha b hb e=> ?_⟩
      simp only[agY,ag0,ahf] at hb
      subst hb;subst e
      exact G6 hf ha
     ·rcases ag1.1 hx with hx | hx
      ·exact hI.rg x hx
      ·simp only[ahf] at hx
       subst hx
       exact hln
     ·rw[agN]
      show A.length+1≤500
      omega
 ·rw[aiu k1]
  split
  ·exact hI
  ·rename_i k hk
   split
   ·rename_i x hx
    obtain⟨h1,h2⟩:=hA.sound.line x (ahb hx)
    obtain⟨_,_,a3,_⟩:=EW (o:=o) h1 h2 hl hd
    refine⟨by rw[RY hx a3];exact hI.nd,fun y hy=> ?_,by rw[agT];exact hI.len,fun e=>hI.ne (by simpa using e)⟩
    rcases ahd hy with hy | hy
    ·exact hI.rg y hy
    ·subst hy;rw[a3];exact hI.rg x (ahb hx)
   ·exact hI
theorem acS {o:aj} {l:List aa} {wt day:Int} (hl:∀ d,d∈l→bF d=0):∀ (r:List aa) (i:Nat) (A:List ak) (ref:List (Int×Int)) (pts:List aI),l.drop i=r→Good l A→Ids A→
 Good l (jf o l wt day r i A ref pts).1∧Ids (jf o l wt day r i A ref pts).1:=by
 intro r
 induction r with
 | nil=>intro i A ref pts _ hA hI;exact⟨hA,hI⟩
 | cons d r ih=>
  intro i A ref pts hdr hA hI
  have hd:l[i]? =some d:=by
   have:=congrArg (·[0]?) hdr
   simpa [agA] using this
  have hr':l.drop (i+1)=r:=by
   have:=congrArg List.tail hdr
   simpa [aho] using this
  have hgood:=Ew (o:=o) hA hl hd
  have hids:=Un (o:=o) hA hI hl hd
  simp only[jf]
  split
  ·exact⟨hA,hI⟩
  ·split
   ·exact ih (i+1) _ _ _ hr' hgood hids
   ·exact ih (i+1) _ _ _ hr' hgood hids
theorem Nb {o:aj} (ho:kK o=0):Ids (jV o):=by
 obtain⟨_,_,hlen,hne,hgo,_⟩:=vN ho
 obtain⟨hln,_,hpw⟩:=oN hgo
 refine⟨?_,fun x hx=> ?_,by rw[agQ];exact hlen,fun e=>hne (by simpa using e)⟩
 ·rw[agZ]
  exact List.Pairwise.map _ (fun a b (h:a.1<b.1) e=>by
   have e':a.1=b.1:=e
   omega) hpw
 ·obtain⟨q,hq,rfl⟩:=ag9.1 hx
  exact (hln q hq).2.2.2.2.1
theorem Fe {o:aj} {l:List aa} (h:fL o l=0) (wt day:Int):Good l (vA o l wt day).1∧Ids (vA o l wt day).1:=by
 obtain⟨h1,h2⟩:=GV h
 obtain⟨h3,h4⟩:=Cz h2
 exact acS h4 l 0 _ [] [] rfl (EI h1 l) (Nb h1)
def bT (A:List ak):List ak:=A.mergeSort fun x y=>decide (x.no≤y.no)
theorem eN (A:List ak):(bT A).Perm A:=List.mergeSort_perm A _
theorem QD (A:List ak):(bT A).Pairwise fun x y=>x.no≤y.no:=by
 have:=List.pairwise_mergeSort (le:=fun x y:ak=>decide (x.no≤y.no)) (fun a b c h1 h2=>by
  simp only[ain] at *;omega) (fun a b=>by simp only[afG,ain];omega) A
 exact this.imp fun h=>by simpa using h
theorem T3 {A:List ak} (hI:Ids A):(bT A).Pairwise fun x y=>x.no<y.no:=by
 have h1:=QD A
 have h2:((bT A).map ak.no).Nodup:=((eN A).map _).nodup_iff.2 hI.nd
 have h3:(bT A).Pairwise fun x y=>x.no≠y.no:=ahj.1 h2
 exact (h1.and h3).imp fun ⟨a,b⟩=>by omega
theorem Hh:∀ (A:List ak) (i:Nat),(sL i A).map (·.1)=A.map ak.no
 | [],_=>rfl
 | x::r,i=>by simp only[sL,agY,Hh r]
theorem WY {A:List ak} (hI:Ids A):M3 (mapOf A)=true:=by
 unfold M3
 rw[Hh,Dh]
 have:=hI.len
 simp only[afr,ain,af7]
 refine⟨by omega,fun p hp=> ?_,hI.nd⟩
 have hm:p.1∈(mapOf A).map (·.1):=ag9.2 ⟨p,hp,rfl⟩
 rw[Hh] at hm
 obtain⟨x,hx,e⟩:=ag9.1 hm
 have:=hI.rg x hx
 omega
theorem Pc (A:List ak):w9 (mapOf A)=(bT A).map ak.no:=by
 unfold w9
 rw[Hh]
 refine List.Perm.eq_of_pairwise (le:=fun a b:Int=>decide (a≤b)=true) (fun a b _ _ h1 h2=> ?_) ?_ ?_ ?_
 ·simp only[ain] at h1 h2;omega
 ·exact List.pairwise_mergeSort (le:=fun x y:Int=>decide (x≤y)) (fun a b c h1 h2=>by simp only[ain] at *;omega) (fun a b=>by simp only[afG,ain];omega) _
 ·exact ahj.2 ((QD A).imp fun h=>by simpa using h)
 ·exact (List.mergeSort_perm _ _).trans ((eN A).map _).symm
theorem RF {n:Int}:∀ {A:List ak} {i k:Nat} {x:ak},(A.map ak.no).Nodup→A[k]? =some x→x.no=n→cB n i A=some (i+k)
 | [],_,_,_,_,h,_=>by simp at h
 | y::r,i,0,x,_,h,hn=>by
  have e:y=x:=by simpa using h
  subst e
  simp only[cB,aiv hn.symm,ahy]
 | y::r,i,k+1,x,hnd,h,hn=>by
  have h':r[k]? =some x:=by simpa using h
  rw[agY,List.nodup_cons] at hnd
  have hne:¬n=y.no:=fun e=>hnd.1 (by
   rw[← e, ← hn]
   exact ag9.2 ⟨x,ahb h',rfl⟩)
  simp only[cB,aiu hne]
  rw[RF hnd.2 h' hn,show i+1+k=i+(k+1) by omega]
theorem US {A:List ak} (hI:Ids A) {x:ak} (hx:x∈bT A):∃ k,eL x.no A=some k∧A[k]? =some x:=by
 obtain⟨k,hk⟩:=List.getElem?_of_mem ((eN A).mem_iff.1 hx)
 exact⟨k,by have:=RF (i:=0) hI.nd hk rfl;rwa [ah1] at this,hk⟩
def MW (A:List ak):List (Option Nat):=(bT A).map fun x=>eL x.no A
end Go.Md
namespace Go.Md
open Go.Dn
theorem adw (A:List ak):MW A=(w9 (mapOf A)).map fun k=>eL k A:=by
 rw[Pc,agZ];rfl
theorem FW {A:List ak} (hI:Ids A) (o:aj) (l:List aa) (ref:List ah) (pts:List aI) (wt:Int):
 mw (o,l,mapOf A,ref,pts,wt,())=some (MW A,(o,l,mapOf A,ref,pts,wt,()),()):=by
 obtain⟨onum,obuy,osel,oday,oext,olns⟩:=o
 have sH:maxLen=9223372036854775807:=rfl
 unfold mw
 dsimp only
 rw[fh (WY hI)]
 have hkl:(w9 (mapOf A)).length≤500:=by
  rw[Pc,agQ,(eN A).length_eq];exact hI.len
 rw[adw]
 generalize w9 (mapOf A)=ks at hkl
 have loop:∀ n,ks.length<n→iter (X:=gJ) (β:=jO) n ([],(ks.length:Int),0,onum,obuy,osel,oday,oext,olns,l,wt,ks,ref,pts,mapOf A,()) jN=some (Sum.inr (ks.map (fun k=>eL k A),onum,obuy,osel,oday,oext,olns,l,wt,ref,pts,mapOf A,())):=by
  intro n hn
  refine cN (Inv:=fun i X=>X=(((ks.map (fun k=>eL k A)).take i,(ks.length:Int),(i:Int),onum,obuy,osel,oday,oext,olns,l,wt,ks,ref,pts,mapOf A,()):gJ)) ks.length (fun z=>z=some (Sum.inr (ks.map (fun k=>eL k A),onum,obuy,osel,oday,oext,olns,l,wt,ref,pts,mapOf A,()))) ?_ ?_ n 0 _ rfl (ah2 _) (by omega)
  ·rintro i X again hi rfl hag
   unfold jN
   dsimp only
   obtain⟨y,hy⟩:∃ y,ks[i]? =some y:=⟨ks[i],agB hi⟩
   have hlen:((ks.map (fun k=>eL k A)).take i).length=i:=by rw[agV,agQ];omega
   rw[aim (show (i:Int)<(ks.length:Int) by omega),aii,fh (by simp),af4,hy,ah4,hlen,fh (by
    rw[afr];exact⟨aim (by omega),aim (by omega)⟩),av (n:=(i:Int)+1) (by omega) (by omega),jb]
   have e:(ks.map (fun k=>eL k A)).take i++[cB y 0 A]=(ks.map (fun k=>eL k A)).take (i+1):=by
    rw[ahp,agE,hy];rfl
   rw[e]
   exact hag _ rfl
  ·rintro X again rfl
   unfold jN
   dsimp only
   rw[aik (show ¬(ks.length:Int)<(ks.length:Int) by omega),aih,ahu (by rw[agQ];exact ahF _)]
 have h2:=Dh A 0
 rw[loop _ (by
  simp only[agR,afU]
  omega)]
 rfl
theorem abi {l:List aa} {A:List ak} (hA:Good l A) (hI:Ids A) {i:Nat} {x:ak} (hx:(bT A)[i]? =some x):∃ k,(MW A)[i]? =some (some k)∧A[k]? =some x∧kN (some k) (A.map ak.tup)=some (bL x,())∧x∈A:=by
 obtain⟨k,hk,hxk⟩:=US hI (ahb hx)
 have hm:=ahb hxk
 refine⟨k, ?_,hxk,BP hxk (hA.sound.line x hm).1 (hA.pr x hm),hm⟩
 unfold MW
 rw[agE,hx,aia,hk]
def lnF (o:aj) (l:List aa) (day:Int):Int:=if fL o l≠0 then fL o l else if 1≤day∧day≤3652059 then 0 else 1
theorem Qr (o:aj) (l:List aa) (day:Int):zg o l day=some (if lnF o l day=0 then (bT (vA o l 0 day).1).map bL else [],lnF o l day,()):=by
 have sH:maxLen=9223372036854775807:=rfl
 unfold zg
 rw[Vy]
 unfold lnF
 by_cases h:fL o l=0
 rotate_left
 ·rw[aiv (show fL o l≠0 from h),aiv (show fL o l≠0 from h)]
  show (bif fL o l != 0 then _ else _)=_
  rw[cq h,aii,aiu h]
 rw[aiu (show ¬fL o l≠0 from fun e=>e h),aiu (show ¬fL o l≠0 from fun e=>e h)]
 by_cases hd:1≤day∧day≤3652059
 rotate_left
 ·rw[aiv hd,aiu hd];rfl
 rw[aiu (show ¬¬(1≤day∧day≤3652059) from fun e=>e hd),aiv hd,aiv rfl]
 refine Eq.trans KC ?_
 rw[Yo h hd,ah4]
 dsimp only
 rw[zne,aih]
 obtain⟨hg,hI⟩:=Fe h 0 day
 rw[FW hI o l,ah4]
 generalize (vA o l 0 day).1=A at hg hI
 have hSl:(bT A).length≤500:=by rw[(eN A).length_eq];exact hI.len
 have hHl:(MW A).length=(bT A).length:=by unfold MW;rw[agQ]
 dsimp only
 rw[hHl]
 have loop:∀ n,(bT A).length<n→iter (X:=nM) (β:=sN) n ([],((bT A).length:Int),0,MW A,A.map ak.tup,()) sM=some (Sum.inr ((bT A).map bL,A.map ak.tup,())):=by
  intro n hn
  refine cN (Inv:=fun i X=>X=((((bT A).map bL).take i,((bT A).length:Int),(i:Int),MW A,A.map ak.tup,()):nM)) (bT A).length (fun z=>z=some (Sum.inr ((bT A).map bL,A.map ak.tup,()))) ?_ ?_ n 0 _ rfl (ah2 _) (by omega)
  ·rintro i X again hi rfl hag
   unfold sM
   dsimp only
   obtain⟨x,hx⟩:∃ y,(bT A)[i]? =some y:=⟨(bT A)[i],agB hi⟩
   obtain⟨k,hk,_,hst,_⟩:=abi hg hI hx
   have hlen:(((bT A).map bL).take i).length=i:=by rw[agV,agQ];omega
   rw[aim (show (i:Int)<((bT A).length:Int) by omega),aii,hHl,fh (by simp;omega),af4,hk,ah4,hst,ah4,hlen,fh (by
    rw[afr];exact⟨aim (by omega),aim (by omega)⟩),av (n:=(i:Int)+1) (by omega) (by omega)]
   have e:((bT A).map bL).take i++[bL x]=((bT A).map bL).take (i+1):=by
    rw[ahp,agE,hx];rfl
   dsimp only
   rw[e]
   exact hag _ rfl
  ·rintro X again rfl
   unfold sM
   dsimp only
   rw[aik (show ¬((bT A).length:Int)<((bT A).length:Int) by omega),aih,ahu (by rw[agQ];exact ahF _)]
 rw[loop _ (by simp only[agR,afU];omega)]
 rfl
theorem acI {o:aj} {l:List aa} {day:Int} (h:lnF o l day=0):fL o l=0∧1≤day∧day≤3652059:=by
 unfold lnF at h
 split at h
 ·rename_i h1;exact absurd h h1
 ·rename_i h1
  split at h
  ·rename_i h2;exact⟨afJ.1 h1,h2⟩
  ·cases h
end Go.Md
namespace Go.Md
open Go.Dn
theorem Ll (z:Int) (hz:z.natAbs≤9000000000000000000) (p:Nat) (hp:p≤1000):gM (z,(p:Int))=some (((few p z).1,((few p z).2:Int)),()):=by
 have loop:∀ (n:Nat) (z:Int) (p:Nat),z.natAbs≤9000000000000000000→p≤1000→p<n→iter (X:=Bb) (β:=Ba) n (z,(p:Int),0,0,()) A9=some (Sum.inr ((few p z).1,((few p z).2:Int),0,0,())):=by
  intro n
  induction n with
  | zero=>intro z p _ _ h;omega
  | succ n ih=>
   intro z p hz hp hn
   rw[br]
   generalize hag:(fun y=>iter n y A9)=again
   unfold A9
   dsimp only
   cases p with
   | zero=>rw[aN (by omega)];rfl
   | succ p=>
    rw[aK (by omega)]
    by_cases hm:z % 10=0
    ·have h1:Int.tmod z 10=0:=Int.tmod_eq_zero_of_dvd (Int.dvd_of_emod_eq_zero hm)
     have h2:Int.tdiv z 10=z / 10:=Int.tdiv_eq_ediv_of_dvd (Int.dvd_of_emod_eq_zero hm)
     have e:few (p+1) z=few p (z / 10):=by simp[few,hm]
     rw[h1,h2,show ((0:Int)==0)=true from rfl,aii,av (by omega) (by omega),av (by omega) (by omega),e, ← hag,show ((p+1:Nat):Int) - 1=(p:Int) by omega]
     exact ih (z / 10) p (by omega) (by omega) (by omega)
    ·have h1:(Int.tmod z 10==0)=false:=by
      simp only[aid,ne_eq]
      intro h
      exact hm (Int.emod_eq_zero_of_dvd (Int.dvd_of_tmod_eq_zero h))
     have e:few (p+1) z=(z,p+1):=by simp[few,hm]
     rw[h1,aih,e]
 unfold gM
 dsimp only
 rw[loop _ z p hz hp (by omega),aU]
structure l7 (d:ah) (n:Int):Prop where
 p0:0≤d.2
 p3:d.2≤3
 val:d.1*10 ^ (3 - d.2).toNat=n
 bd:n.natAbs≤2000000000000000
theorem l7.unit {d:ah} {n:Int} (h:l7 d n):d.1.natAbs≤n.natAbs:=by
 have:=h.val
 have h1:(1:Nat)≤10 ^ (3 - d.2).toNat:=Nat.one_le_pow _ _ (by omega)
 rw[← h.val,afT,afV]
 exact Nat.le_mul_of_pos_right _ h1
theorem uk {d:ah} {n:Int} (h:l7 d n):qw d=some (n,()):=by
 obtain⟨u,p⟩:=d
 have hu:=h.unit
 have hb:=h.bd
 have p0:=h.p0
 have p3:=h.p3
 obtain⟨k,hk⟩:∃ k:Nat,(3 - p:Int)=(k:Int):=⟨(3 - p).toNat,by dsimp only at p3;omega⟩
 have hk3:k≤3:=by dsimp only at p0;omega
 have hv:u*10 ^ k=n:=by
  have:=h.val
  dsimp only at this
  rwa [hk,af4] at this
 dsimp only at hu
 unfold qw
 dsimp only
 rw[hk,av (n:=(k:Int)) (by omega) (by omega)]
 have hm:∀ i,i≤k→(u*10 ^ i).natAbs≤n.natAbs:=fun i hi=>by
  rw[← hv,afT,afT,afV,afV]
  exact ahU _ (ahZ (by decide) hi)
 have loop:∀ m,k<m→iter (X:=yG) (β:=CR) m (u,(k:Int),0,()) CQ=some (Sum.inr (n,())):=by
  intro m hm'
  refine cN (Inv:=fun i X=>X=((u*10 ^ i,(k:Int),(i:Int),()):yG)) k (fun z=>z=some (Sum.inr (n,()))) ?_ ?_ m 0 _ (by simp) (ah2 _) (by omega)
  ·rintro i X again hi rfl hag
   unfold CQ
   dsimp only
   have h1:=hm (i+1) (by omega)
   have e:u*10 ^ i*10=u*10 ^ (i+1):=by rw[afZ,afO]
   rw[aim (show (i:Int)<(k:Int) by omega),aii,e,av (n:=u*10 ^ (i+1)) (by omega) (by omega),av (n:=(i:Int)+1) (by omega) (by omega)]
   exact hag _ rfl
  ·rintro X again rfl
   unfold CQ
   dsimp only
   rw[aik (show ¬(k:Int)<(k:Int) by omega),aih,hv]
 rw[loop _ (by simp only[afU];omega)]
 rfl
theorem dn {n:Int} (h:n.natAbs≤2000000000000000):l7 (bR n) n:=by
 obtain⟨h1,h2,h3⟩:=EY 3 n
 refine⟨by show (0:Int)≤((few 3 n).2:Int);omega,by show ((few 3 n).2:Int)≤3;omega, ?_,h⟩
 show (few 3 n).1*10 ^ (3 - ((few 3 n).2:Int)).toNat=n
 rw[show (3 - ((few 3 n).2:Int)).toNat=3 - (few 3 n).2 by omega]
 exact h2
theorem s5 {a b:ah} {m n:Int} (ha:l7 a m) (hb:l7 b n):mC a b=some (bR (m+n),()):=by
 have h1:=ha.bd
 have h2:=hb.bd
 unfold mC
 rw[uk ha,ah4,uk hb,ah4]
 dsimp only
 rw[av (by omega) (by omega)]
 have:=Ll (m+n) (by omega) 3 (by omega)
 rw[show ((3:Nat):Int)=3 from rfl] at this
 rw[this]
 rfl
theorem l7.neg {d:ah} {n:Int} (h:l7 d n):l7 (-d.1,d.2) (-n):=⟨h.p0,h.p3,by show -d.1*10 ^ (3 - d.2).toNat= -n;rw[Int.neg_mul,h.val],by rw[Int.natAbs_neg];exact h.bd⟩
theorem Ph {a b:ah} {m n:Int} (ha:l7 a m) (hb:l7 b n):Gd a b=some (bR (m - n),()):=by
 have h2:=hb.unit
 have h3:=hb.bd
 unfold Gd
 rw[Int.zero_sub,av (n:= -b.1) (by omega) (by omega),s5 ha hb.neg,ah4,Int.sub_eq_add_neg]
theorem Qg (p:Nat) (n:Int):((few p n).1<0↔n<0)∧((few p n).1=0↔n=0):=by
 obtain⟨_,h2,_⟩:=EY p n
 have hp:(0:Int)<10 ^ (p - (few p n).2):=Int.pow_pos (by decide)
 generalize (few p n).1=u at h2
 generalize (10:Int) ^ (p - (few p n).2)=q at h2 hp
 subst h2
 refine⟨⟨fun h=>Int.mul_neg_of_neg_of_pos h hp,fun h=> ?_⟩,⟨fun h=>by rw[h,af5],fun h=> ?_⟩⟩
 ·rcases Classical.em (u<0) with h1 | h1
  ·exact h1
  ·have:=afR (show 0≤u by omega) (Int.le_of_lt hp);omega
 ·rcases Int.mul_eq_zero.1 h with h1 | h1
  ·exact h1
  ·omega
theorem Sh {s:ax} {m n:Int} (h1:l7 s.2.2.2.2.2.2.1 m) (h2:l7 s.2.2.2.2.2.2.2.2.1 n):Al s=some (bR (m - n),()):=by
 unfold Al
 rw[Ph h1 h2];rfl
theorem TR {s:ax} {c m n:Int} (h0:l7 s.2.2.2.1 c) (h1:l7 s.2.2.2.2.2.2.1 m) (h2:l7 s.2.2.2.2.2.2.2.2.1 n) (hb:(m - n).natAbs≤2000000000000000):
 qx s=some ((s.1,s.2.1,s.2.2.1,s.2.2.2.1,s.2.2.2.2.1,s.2.2.2.2.2.1,s.2.2.2.2.2.2.1,s.2.2.2.2.2.2.2.1,s.2.2.2.2.2.2.2.2.1,bR (if c - m+n>0 then c - m+n else 0)),()):=by
 unfold qx
 rw[Sh h1 h2,ah4,Ph h0 (dn hb),ah4]
 dsimp only
 have e:c - (m - n)=c - m+n:=by omega
 rw[e]
 by_cases h:c - m+n<0
 ·rw[aim (show (bR (c - m+n)).1<0 from (Qg 3 _).1.2 h),aii,aiu (by omega)]
  unfold bR
  rw[Qh]
  rfl
 ·rw[aik (show ¬(bR (c - m+n)).1<0 from fun h'=>h ((Qg 3 _).1.1 h')),aih]
  by_cases h0:c - m+n>0
  ·rw[aiv h0]
  ·rw[aiu h0,show c - m+n=0 by omega]
theorem J3 {n:Int} (h:n.natAbs≤1000000000000000):b8 (bR n)∧bX (bR n)=n*1000000:=by
 obtain⟨h1,h2,h3⟩:=EY 3 n
 refine⟨⟨by show (few 3 n).1.natAbs≤_;omega,by show (0:Int)≤((few 3 n).2:Int);omega,by show ((few 3 n).2:Int)≤9;omega⟩, ?_⟩
 show (few 3 n).1*10 ^ (9 - ((few 3 n).2:Int)).toNat=n*1000000
 rw[show (9 - ((few 3 n).2:Int)).toNat=(3 - (few 3 n).2)+6 by omega,afY, ← afO,h2]
 rfl
end Go.Md
namespace Go.Md
open Go.Dn
structure FOk (o:aj) (l:List aa) (x:ak):Prop where
 art:bV x.art=true
 unit:bV x.unit=true
 pr:inR x.price 0 1000000000 4=true
 due:dA o≤x.due∧x.due≤3652059
 wish:0≤x.wish→aL (kV l x)=3→dA o≤gG (kV l x)
 off:x.ono≠0→dA o≤x.ount∧x.ount≤3652059
theorem FOk.clr {o:aj} {l:List aa} {x:ak} (h:FOk o l x):FOk o l x.clr:=⟨h.art,h.unit,h.pr,h.due,h.wish,fun e=>absurd rfl e⟩
def uC:aj:=([],[],[],0,0,[])
end Go.Md
namespace Go.Md
open Go.Dn
end Go.Md
namespace Go.Md
open Go.Dn
def d0:aa:=(0,0,0,0,0,[],(0,0),[],(0,0),0,0)
end Go.Md
set_option linter.all false
namespace Go.Md
open Go.Dn
theorem aey (b:Bool):((if b=true then (0:Int) else 1) != 0)= !b:=by cases b<;>rfl
theorem Si (o:aj) (i:Nat) (x:aH) (hi:(jc o)[i]? =some x) (hl:(jc o).length≤500):Bk o (i:Int)=some (dI (dA o) (bK (jc o) i) x,()):=by
 have hlt:i<(jc o).length:=(agD.1 hi).1
 unfold Bk
 rw[cM hi,ah4]
 simp only[nU,rL,BQ,Ga,ah4,aey]
 have tail:∀ (p:Option aH) (hp:(p.any fun q=>decide (x.1≤q.1))=false) (h1:1≤x.1∧x.1≤99999),
  (bif !bV x.2.1 then some (5,()) else bif !qOk x.2.2.1 false then some (1,()) else bif !bV x.2.2.2.1 then some (5,()) else
    bif !inR x.2.2.2.2.1 0 1000000000 4 then some (1,()) else bif !decide (dA o≤x.2.2.2.2.2∧x.2.2.2.2.2≤3652059) then some (1,()) else some (0,()))=some (dI (dA o) p x,()):=fun p hp h1=>by
  unfold dI
  rw[aiu (show ¬¬(1≤x.1∧x.1≤99999) from fun h=>h h1),aiu (show ¬(p.any fun q=>decide (x.1≤q.1))=true by rw[hp];exact afy)]
  cases bV x.2.1
  ·rfl
  ·cases qOk x.2.2.1 false
   ·rfl
   ·cases bV x.2.2.2.1
    ·rfl
    ·cases inR x.2.2.2.2.1 0 1000000000 4
     ·rfl
     ·by_cases hd:dA o≤x.2.2.2.2.2∧x.2.2.2.2.2≤3652059
      ·simp[hd]
      ·simp[hd]
 by_cases h1:1≤x.1∧x.1≤99999
 ·rw[aim h1,afE,aih]
  cases i with
  | zero=>
   rw[aik (show ¬((0:Nat):Int)>0 by omega),aih]
   exact tail none rfl h1
  | succ j=>
   have hq:(jc o)[j]? =some (jc o)[j]:=agB (by omega)
   have e:w64 (((j+1:Nat):Int) - 1)=(j:Int):=by rw[av (by omega) (by omega)];omega
   rw[aim (show ((j+1:Nat):Int)>0 by omega),aii,e,cM hq,ah4]
   simp only[bK,hq]
   by_cases h2:x.1≤(jc o)[j].1
   ·rw[aim h2,ah4]
    have:dI (dA o) (some (jc o)[j]) x=8:=by
     unfold dI
     rw[aiu (show ¬¬(1≤x.1∧x.1≤99999) from fun h=>h h1),aiv (show (Option.any (fun q=>decide (x.1≤q.1)) (some (jc o)[j]))=true from aim h2)]
    rw[this]
    rfl
   ·rw[aik h2,ah4]
    exact tail (some (jc o)[j]) (by simp[h2]) h1
 ·rw[aik h1,afD,aii]
  unfold dI
  rw[aiv h1]
theorem F9 (o:aj):tV o=some (kK o,()):=by
 unfold tV kK
 simp only[rL,yE,nU,ah4]
 cases h1:bV o.1
 ·simp[FU,h1]
 cases h2:bV o.2.1
 ·simp[FU,FT,h1,h2]
 cases h3:bV o.2.2.1
 ·simp[FU,FT,KA,h1,h2,h3]
 rw[aiu (by simp[FU,FT,KA,h1,h2,h3])]
 simp only[afE,aih]
 by_cases h4:o.2.1=o.2.2.1
 ·rw[aiv h4,show (o.2.1==o.2.2.1)=true by simp[h4],aii]
 rw[aiu h4,show (o.2.1==o.2.2.1)=false by simp[h4],aih]
 by_cases h5:1≤o.2.2.2.1∧o.2.2.2.1≤3652059
 ·rw[aiu (by simp[dA,h5]),aim h5,afE,aih]
  by_cases h6:0≤o.2.2.2.2.1∧o.2.2.2.2.1≤1000
  ·rw[aiu (by simp[cm,h6]),aim h6,afE,aih]
   by_cases h7:o.2.2.2.2.2=[]
   ·rw[aiv h7,h7];rfl
   ·have h7':o.2.2.2.2.2.length≠0:=fun e=>h7 (agn e)
    rw[aiu h7,dx (show (o.2.2.2.2.2.length:Int)≠0 by omega),aih]
    by_cases h8:500<o.2.2.2.2.2.length
    ·rw[aiv h8,aim (by omega),aii]
    ·rw[aiu h8,aik (by omega),aih]
     have:=Kr (f:=qI) (fun (_:Unit) (i:Nat)=>(((o.2.2.2.2.2.length:Int),(i:Int),o.1,o.2.1,o.2.2.1,o.2.2.2.1,o.2.2.2.2.1,o.2.2.2.2.2,()):qJ)) o.2.2.2.2.2
      (fun (_:Unit) i y k=>if dI (dA o) (bK o.2.2.2.2.2 i) y≠0 then some (Sum.inl (dI (dA o) (bK o.2.2.2.2.2 i) y,())) else k ()) (fun _=>some (Sum.inr ()))
      (fun s i y again hy=>by
        have hlt:i<o.2.2.2.2.2.length:=(agD.1 hy).1
        unfold qI
        dsimp only
        rw[aim (by omega),aii]
        have:=Si o i y hy (by show o.2.2.2.2.2.length≤500;omega)
        rw[show ((o.1,o.2.1,o.2.2.1,o.2.2.2.1,o.2.2.2.2.1,o.2.2.2.2.2):aj)=o from rfl,this,ah4]
        dsimp only
        by_cases hf:dI (dA o) (bK o.2.2.2.2.2 i) y=0
        ·rw[aiu (by simp[hf]),show (dI (dA o) (bK (jc o) i) y != 0)=false by simp[hf],aih,av (by omega) (by omega)]
         rfl
        ·rw[aiv hf,show (dI (dA o) (bK (jc o) i) y != 0)=true by simp[hf],aii]) (fun s again=>by
        unfold qI
        dsimp only
        rw[aik (show ¬((o.2.2.2.2.2.length:Int)<(o.2.2.2.2.2.length:Int)) by omega)];rfl) ()
     refine (congrArg (fun z=>az (β:=(Int×Unit)) (γ:=Unit) z fun _=>some (0,())) (this _ (by omega))).trans ?_
     have e:=DY o.2.2.2.2.2 (dA o) o.2.2.2.2.2 0 () rfl
     change FJ _ _ _ 0 ()=_ at e
     refine (congrArg (fun z=>az (β:=(Int×Unit)) (γ:=Unit) z fun _=>some (0,())) e).trans ?_
     simp only[bK]
     by_cases h:jM (dA o) o.2.2.2.2.2 none=0
     ·rw[MS h,h];rfl
     ·rw[Jg h];rfl
  ·rw[aiv h6,aik h6];rfl
 ·rw[aiv h5,aik h5];rfl
section merge
variable (x y:List aa) (hx:x.length≤2000) (hy:y.length≤2000)
end merge
end Go.Md
set_option linter.all false
namespace Go.Md
open Go.Dn
theorem Rp {d:ah} {n:Int} (h:l7 d n):bX d=n*1000000:=by
 have h0:=h.p0;have h3:=h.p3
 unfold bX
 rw[show (9 - d.2).toNat=(3 - d.2).toNat+6 by omega,afY, ← afO,h.val]
 rfl
theorem Sf {d:ah} (h1:d.1.natAbs≤4000000000000000) (h2:0≤d.2) (h3:d.2≤9):A8 d 9=some (N (bX d),()):=by
 unfold A8
 rw[nR _ (by omega) (by omega),ah4,av (by omega) (by omega)]
 dsimp only
 obtain⟨m,hm⟩:∃ m:Nat,9 - d.2=m:=⟨(9 - d.2).toNat,by omega⟩
 rw[hm,Pg m (by omega),ah4]
 dsimp only
 have hl1:(dg6 d.1.natAbs).length≤10:=FO (by omega)
 have hl2:(dg6 ((10:Int) ^ m).natAbs).length≤10:=by
  refine FO ?_
  have h1:((10:Int) ^ m).natAbs=10 ^ m:=by rw[afV];rfl
  have h2:=ahZ (n:=10) (by omega) (show m≤9 by omega)
  omega
 rw[tQ _ _ (by omega) (by omega),ah4]
 unfold bX
 rw[hm];rfl
theorem Bl {a b:ah} {m n:Int} (ha:l7 a m) (hb:l7 b n):wg a b=some ((m - n).sign,()):=by
 have a1:=ha.unit;have a2:=ha.bd;have a3:=ha.p0;have a4:=ha.p3
 have b1:=hb.unit;have b2:=hb.bd;have b3:=hb.p0;have b4:=hb.p3
 have e1:=Rp ha
 have e2:=Rp hb
 have m1:=FO (z:=bX a) (by omega)
 have m2:=FO (z:=bX b) (by omega)
 unfold wg
 rw[Sf (by omega) a3 (by omega),ah4,Sf (by omega) b3 (by omega),ah4,Nx _ _ (by omega) (by omega),e1,e2]
 have:m*1000000 - n*1000000=(m - n)*1000000:=by omega
 rw[this,Int.sign_mul,show Int.sign 1000000=1 from rfl,afS]
 rfl
theorem ry {d:ah} {z:Bool} (h:qOk d z=true):l7 d (aW d):=by
 obtain⟨⟨h1,h2⟩,h3,h4,_⟩:=Dt h
 obtain⟨u1,u2,_⟩:=lY h
 exact⟨h1,h2,rfl,by omega⟩
theorem Ur:∀ (k p:Nat) (z:Int),few (p+k) (z*10 ^ k)=few p z
 | 0,p,z=>by simp
 | k+1,p,z=>by
  rw[← ahw,few,aiv (by rw[afZ, ← afO];omega)]
  rw[show z*10 ^ (k+1) / 10=z*10 ^ k by rw[afZ, ← afO];omega]
  exact Ur k p z
theorem aaC {d:ah} {z:Bool} (h:qOk d z=true):bR (aW d)=pM d:=by
 obtain⟨⟨h1,h2⟩,_⟩:=Dt h
 unfold bR pM aW
 have:=Ur (3 - d.2).toNat d.2.toNat d.1
 rw[show d.2.toNat+(3 - d.2).toNat=3 by omega] at this
 rw[this]
theorem Hl {d:ah} (h:d.1.natAbs≤9000000000000000000) (h0:0≤d.2) (h1:d.2≤9):gM d=some (pM d,()):=by
 have:=Ll d.1 h d.2.toNat (by omega)
 rw[show ((d.2.toNat:Nat):Int)=d.2 by omega] at this
 exact this
theorem Is {d:ah} {z:Bool} (h:qOk d z=true):gM d=some (bR (aW d),()):=by
 obtain⟨⟨h1,h2⟩,h3,h4,_⟩:=Dt h
 have hm:=(ry h).unit
 have:=(ry h).bd
 rw[aaC h]
 exact Hl (by omega) h1 (by omega)
theorem Ir {d:ah} (h:inR d 0 1000000000 4=true):gM d=some (pM d,()):=by
 obtain⟨h1,h2,h3,h4⟩:=G7 h
 exact Hl (by omega) h3 h4
theorem acu {M:List ak} (hs:M.Pairwise fun x y=>x.no<y.no) {a b:ak} (ha:a∈M) (hb:b∈M) (h:a.no=b.no):a=b:=by
 obtain⟨i,hi,rfl⟩:=List.mem_iff_getElem.1 ha
 obtain⟨j,hj,rfl⟩:=List.mem_iff_getElem.1 hb
 rw[ahi] at hs
 rcases ahP i j with c | c | c
 ·have:=hs i j hi hj c;omega
 ·subst c;rfl
 ·have:=hs j i hj hi c;omega
theorem T4 {A M:List ak} (hp:M.Perm A) (hs:M.Pairwise fun x y=>x.no<y.no):bT A=M:=by
 refine List.Perm.eq_of_pairwise (le:=fun x y=>x.no≤y.no) ?_ (QD A) (hs.imp fun h=>Int.le_of_lt h) ((eN A).trans hp.symm)
 intro a b ha hb h1 h2
 exact acu hs (hp.mem_iff.2 ((eN A).mem_iff.1 ha)) hb (by omega)
theorem Zh {M:List ak}:(M.Pairwise fun x y=>x.no<y.no)↔(M.map ak.no).Pairwise (· < ·):=by rw[ahj]
theorem QC {α:Type} {x y:α}:∀ {l:List α} {j:Nat},l[j]? =some x→(x::l.set j y).Perm (y::l)
 | [],_,h=>by simp at h
 | a::l,0,h=>by cases h;exact List.Perm.swap _ _ _
 | a::l,j+1,h=>by
  have ih:=QC (x:=x) (y:=y) (l:=l) (j:=j) (by simpa using h)
  exact ((List.Perm.swap a x _).trans (ih.cons a)).trans (List.Perm.swap y a l)
theorem acY {A:List ak} (hI:Ids A) {k j:Nat} {x y:ak} (hk:A[k]? =some x) (hj:(bT A)[j]? =some x) (hy:y.no=x.no):bT (A.set k y)=(bT A).set j y:=by
 refine T4 ?_ ?_
 ·have h1:=QC (y:=y) hj
  have h2:=QC (y:=y) hk
  exact (h1.trans (((eN A).cons y).trans h2.symm)).cons_inv
 ·rw[Zh,RY hj hy, ← Zh]
  exact T3 hI
def gL (n:Int):List ak→Nat
 | []=>0
 | x::r=>if x.no<n then gL n r+1 else 0
theorem Oa (n:Int):∀ l,gL n l≤l.length
 | []=>ahF _
 | x::r=>by
  have:=Oa n r
  simp only[gL,agO]
  split<;>omega
theorem Zl (n:Int):∀ (l:List ak) (k:Nat) (x:ak),k<gL n l→l[k]? =some x→x.no<n
 | [],k,x,h,_=>by simp[gL] at h
 | y::r,k,x,h,hx=>by
  simp only[gL] at h
  split at h
  ·rename_i c
   cases k with
   | zero=>cases hx;exact c
   | succ k=>exact Zl n r k x (by omega) (by simpa using hx)
  ·omega
theorem Zk (n:Int):∀ (l:List ak) (x:ak),l[gL n l]? =some x→¬x.no<n
 | [],x,h=>by simp[gL] at h
 | y::r,x,h=>by
  simp only[gL] at h
  split at h
  ·exact Zk n r x (by simpa using h)
  ·rename_i c;cases h;exact c
theorem YS {n:Int} {y:ak} (hy:y.no=n):∀ {l:List ak},(l.Pairwise fun x y=>x.no<y.no)→(∀ x,x∈l→x.no≠n)→(l.take (gL n l)++y::l.drop (gL n l)).Pairwise fun x y=>x.no<y.no
 | [],_,_=>by simp[gL]
 | x::r,hs,hn=>by
  obtain⟨s1,s2⟩:=List.pairwise_cons.1 hs
  simp only[gL]
  split
  ·rename_i c
   rw[List.take_succ_cons,List.drop_succ_cons,agd]
   refine List.Pairwise.cons (fun z hz=> ?_) (YS hy s2 (fun z hz=>hn z (by simp[hz])))
   rcases ag1.1 hz with hz | hz
   ·exact s1 z (List.mem_of_mem_take hz)
   ·rcases ag4.1 hz with rfl | hz
    ·omega
    ·exact s1 z (ahc hz)
  ·rename_i c
   have hx:=hn x (by simp)
   rw[List.take_zero,agl,ahg]
   refine List.Pairwise.cons (fun z hz=> ?_) hs
   rcases ag4.1 hz with rfl | hz
   ·omega
   ·have:=s1 z hz;omega
theorem acX {A:List ak} (hI:Ids A) {y:ak} (hn:∀ x,x∈A→x.no≠y.no):bT (A++[y])=(bT A).take (gL y.no (bT A))++y::(bT A).drop (gL y.no (bT A)):=by
 refine T4 ?_ (YS rfl (T3 hI) fun x hx=>hn x ((eN A).mem_iff.1 hx))
 refine List.perm_middle.trans ?_
 rw[ahq]
 exact ((eN A).cons y).trans (List.perm_append_singleton y A).symm
end Go.Md
