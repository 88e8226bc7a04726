/-
  Plain facts: the lines by their numbers; quantities. No condition.
-/
import Derived.Test.YtilaijcbckgmmabGreatDoorYt
import Derived.Test.YtilaijcbckgmmabGreatDoorYx
set_option linter.all false
namespace Go.Md
open Go.Dn
structure Ids (A:List ak):Prop where
 nd:(A.map ak.no).Nodup
 rg:∀ x,x∈A->1<=x.no/\x.no<=99999
 len:A.length<=500
 ne:A≠[]
theorem HA {n:Int}:∀ {A:List ak} {i:Nat},cw n i A=none->n∉A.map ak.no
 | [],_,_=>by simp
 | x::r,i,h=>by
  simp only[cw] at h
  by_cases hx:n=x.no
  ·rw[aiM hx] at h;cases h
  ·rw[aiL hx] at h
   have:=HA h
   simp only[ahh,ahn,aiR]
   exact⟨hx,this⟩
theorem Sl {A:List ak} {k:Nat} {y x:ak} (hx:A[k]? =some x) (h:y.no=x.no):(A.set k y).map ak.no=A.map ak.no:=by
 rw[List.map_set]
 refine agJ fun i=> ?_
 rw[ag0]
 split
 ·rename_i e
  subst e
  have hl:=(agW.1 hx).1
  simp only[aha,hl,aiN,agX,hx,ais,h]
 ·rfl
theorem UN {o:aj} {l:List aa} {i:Nat} {d:aa} {A:List ak} (hA:Good l A) (hI:Ids A) (hl:∀ d,d∈l->bH d=0) (hd:l[i]? =some d):Ids (cB o l i d A).2:=by
 unfold cB
 by_cases k1:aM d=1
 ·rw[aiM k1]
  split
  ·exact hI
  ·rename_i hf
   split
   ·exact hI
   ·split
    ·exact hI
    ·rename_i h5 _
     obtain⟨_,_,_,_,_,hln,_⟩:=bW (hl d (ahu hd))
     refine⟨?_,fun x hx=> ?_, ?_,by simp⟩
     ·rw[ahf,List.nodup_append]
      refine⟨hI.nd,by simp,fun a ha b hb e=> ?_⟩
      simp only[ahh,ahj,ahx] at hb
      subst hb;subst e
      exact HA hf ha
     ·rcases ahk.1 hx with hx | hx
      ·exact hI.rg x hx
      ·simp only[ahx] at hx
       subst hx
       exact hln
     ·rw[ag7]
      show A.length+1<=500
      omega
 ·rw[aiL k1]
  split
  ·exact hI
  ·rename_i k hk
   split
   ·rename_i x hx
    obtain⟨h1,h2⟩:=hA.sound.line x (ahu hx)
    obtain⟨_,_,a3,_⟩:=Fi (o:=o) h1 h2 hl hd
    refine⟨by rw[Sl hx a3];exact hI.nd,fun y hy=> ?_,by rw[ahd];exact hI.len,fun e=>hI.ne (by simpa using e)⟩
    rcases ahv hy with hy | hy
    ·exact hI.rg y hy
    ·subst hy;rw[a3];exact hI.rg x (ahu hx)
   ·exact hI
theorem adj {o:aj} {l:List aa} {wt day:Int} (hl:∀ d,d∈l->bH d=0):∀ (r:List aa) (i:Nat) (A:List ak) (ref:List (Int×Int)) (pts:List aL),l.drop i=r->Good l A->Ids A-> Good l (ja o l wt day r i A ref pts).1/\Ids (ja o l wt day r i A ref pts).1:=by
 intro r
 induction r with
 | nil=>intro i A ref pts _ hA hI;exact⟨hA,hI⟩
 | cons d r ih=>
  intro i A ref pts hdr hA hI
  have hd:l[i]? =some d:=by
   have:=congrArg (·[0]?) hdr
   simpa [agT] using this
  have hr':l.drop (i+1)=r:=by
   have:=congrArg List.tail hdr
   simpa [ahG] using this
  have hgood:=EN (o:=o) hA hl hd
  have hids:=UN (o:=o) hA hI hl hd
  simp only[ja]
  split
  ·exact⟨hA,hI⟩
  ·split
   ·exact ih (i+1) _ _ _ hr' hgood hids
   ·exact ih (i+1) _ _ _ hr' hgood hids
theorem NA {o:aj} (ho:jt o=0):Ids (jW o):=by
 obtain⟨_,_,hlen,hne,hgo,_⟩:=wg ho
 obtain⟨hln,_,hpw⟩:=pe hgo
 refine⟨?_,fun x hx=> ?_,by rw[aha];exact hlen,fun e=>hne (by simpa using e)⟩
 ·rw[ahi]
  exact List.Pairwise.map _ (fun a b (h:a.1<b.1) e=>by
   have e':a.1=b.1:=e
   omega) hpw
 ·obtain⟨q,hq,rfl⟩:=ahs.1 hx
  exact (hln q hq).2.2.2.2.1
theorem Fy {o:aj} {l:List aa} (h:dD o l=0) (wt day:Int):Good l (uJ o l wt day).1/\Ids (uJ o l wt day).1:=by
 obtain⟨h1,h2⟩:=Hu h
 obtain⟨h3,h4⟩:=CN h2
 exact adj h4 l 0 _ [] [] rfl (EY h1 l) (NA h1)
def bT (A:List ak):List ak:=A.mergeSort fun x y=>decide (x.no<=y.no)
theorem eL (A:List ak):(bT A).Perm A:=List.mergeSort_perm A _
theorem QZ (A:List ak):(bT A).Pairwise fun x y=>x.no<=y.no:=by
 have:=List.pairwise_mergeSort (le:=fun x y:ak=>decide (x.no<=y.no)) (fun a b c h1 h2=>by
  simp only[aiE] at *;omega) (fun a b=>by simp only[af4,aiE];omega) A
 exact this.imp fun h=>by simpa using h
theorem Uu {A:List ak} (hI:Ids A):(bT A).Pairwise fun x y=>x.no<y.no:=by
 have h1:=QZ A
 have h2:((bT A).map ak.no).Nodup:=((eL A).map _).nodup_iff.2 hI.nd
 have h3:(bT A).Pairwise fun x y=>x.no≠y.no:=ahB.1 h2
 exact (h1.and h3).imp fun ⟨a,b⟩=>by omega
theorem HG:∀ (A:List ak) (i:Nat),(sW i A).map (·.1)=A.map ak.no
 | [],_=>rfl
 | x::r,i=>by simp only[sW,ahh,HG r]
theorem Xk {A:List ak} (hI:Ids A):Nr (mapOf A)=true:=by
 unfold Nr
 rw[HG,Dx]
 have:=hI.len
 simp only[afP,aiE,agu]
 refine⟨by omega,fun p hp=> ?_,hI.nd⟩
 have hm:p.1∈(mapOf A).map (·.1):=ahs.2 ⟨p,hp,rfl⟩
 rw[HG] at hm
 obtain⟨x,hx,e⟩:=ahs.1 hm
 have:=hI.rg x hx
 omega
theorem Py (A:List ak):xC (mapOf A)=(bT A).map ak.no:=by
 unfold xC
 rw[HG]
 refine List.Perm.eq_of_pairwise (le:=fun a b:Int=>decide (a<=b)=true) (fun a b _ _ h1 h2=> ?_) ?_ ?_ ?_
 ·simp only[aiE] at h1 h2;omega
 ·exact List.pairwise_mergeSort (le:=fun x y:Int=>decide (x<=y)) (fun a b c h1 h2=>by simp only[aiE] at *;omega) (fun a b=>by simp only[af4,aiE];omega) _
 ·exact ahB.2 ((QZ A).imp fun h=>by simpa using h)
 ·exact (List.mergeSort_perm _ _).trans ((eL A).map _).symm
theorem R4 {n:Int}:∀ {A:List ak} {i k:Nat} {x:ak},(A.map ak.no).Nodup->A[k]? =some x->x.no=n->cw n i A=some (i+k)
 | [],_,_,_,_,h,_=>by simp at h
 | y::r,i,0,x,_,h,hn=>by
  have e:y=x:=by simpa using h
  subst e
  simp only[cw,aiM hn.symm,ahS]
 | y::r,i,k+1,x,hnd,h,hn=>by
  have h':r[k]? =some x:=by simpa using h
  rw[ahh,List.nodup_cons] at hnd
  have hne:¬n=y.no:=fun e=>hnd.1 (by
   rw[<- e, <- hn]
   exact ahs.2 ⟨x,ahu h',rfl⟩)
  simp only[cw,aiL hne]
  rw[R4 hnd.2 h' hn,show i+1+k=i+(k+1) by omega]
theorem Vm {A:List ak} (hI:Ids A) {x:ak} (hx:x∈bT A):∃ k,eF x.no A=some k/\A[k]? =some x:=by
 obtain⟨k,hk⟩:=List.getElem?_of_mem ((eL A).mem_iff.1 hx)
 exact⟨k,by have:=R4 (i:=0) hI.nd hk rfl;rwa [aij] at this,hk⟩
def Nn (A:List ak):List (Option Nat):=(bT A).map fun x=>eF x.no A
end Go.Md
namespace Go.Md
open Go.Dn
theorem ad1 (A:List ak):Nn A=(xC (mapOf A)).map fun k=>eF k A:=by
 rw[Py,ahi];rfl
theorem Gs {A:List ak} (hI:Ids A) (o:aj) (l:List aa) (ref:List ah) (pts:List aL) (wt:Int): mo (o,l,mapOf A,ref,pts,wt,())=some (Nn A,(o,l,mapOf A,ref,pts,wt,()),()):=by
 obtain⟨onum,obuy,osel,oday,oext,olns⟩:=o
 have oY:maxLen=9223372036854775807:=rfl
 unfold mo
 dsimp only
 rw[eW (Xk hI)]
 have hkl:(xC (mapOf A)).length<=500:=by
  rw[Py,aha,(eL A).length_eq];exact hI.len
 rw[ad1]
 generalize xC (mapOf A)=ks at hkl
 have loop:∀ n,ks.length<n->iter (X:=gD) (β:=jK) n ([],(ks.length:Int),0,onum,obuy,osel,oday,oext,olns,l,wt,ks,ref,pts,mapOf A,()) jJ=some (Sum.inr (ks.map (fun k=>eF k A),onum,obuy,osel,oday,oext,olns,l,wt,ref,pts,mapOf A,())):=by
  intro n hn
  refine cx (Inv:=fun i X=>X=(((ks.map (fun k=>eF k A)).take i,(ks.length:Int),(i:Int),onum,obuy,osel,oday,oext,olns,l,wt,ks,ref,pts,mapOf A,()):gD)) ks.length (fun z=>z=some (Sum.inr (ks.map (fun k=>eF k A),onum,obuy,osel,oday,oext,olns,l,wt,ref,pts,mapOf A,()))) ?_ ?_ n 0 _ rfl (aik _) (by omega)
  ·rintro i X again hi rfl hag
   unfold jJ
   dsimp only
   obtain⟨y,hy⟩:∃ y,ks[i]? =some y:=⟨ks[i],agU hi⟩
   have hlen:((ks.map (fun k=>eF k A)).take i).length=i:=by rw[ahe,aha];omega
   rw[aiD (show (i:Int)<(ks.length:Int) by omega),aiz,eW (by simp),agq,hy,aim,hlen,eW (by
    rw[afP];exact⟨aiD (by omega),aiD (by omega)⟩),ax (n:=(i:Int)+1) (by omega) (by omega),iV]
   have e:(ks.map (fun k=>eF k A)).take i++[cw y 0 A]=(ks.map (fun k=>eF k A)).take (i+1):=by
    rw[ahI,agX,hy];rfl
   rw[e]
   exact hag _ rfl
  ·rintro X again rfl
   unfold jJ
   dsimp only
   rw[aiB (show ¬(ks.length:Int)<(ks.length:Int) by omega),aiy,ahN (by rw[aha];exact ahY _)]
 have h2:=Dx A 0
 rw[loop _ (by
  simp only[ahb,agh]
  omega)]
 rfl
theorem abH {l:List aa} {A:List ak} (hA:Good l A) (hI:Ids A) {i:Nat} {x:ak} (hx:(bT A)[i]? =some x):∃ k,(Nn A)[i]? =some (some k)/\A[k]? =some x/\kR (some k) (A.map ak.tup)=some (bM x,())/\x∈A:=by
 obtain⟨k,hk,hxk⟩:=Vm hI (ahu hx)
 have hm:=ahu hxk
 refine⟨k, ?_,hxk,B5 hxk (hA.sound.line x hm).1 (hA.pr x hm),hm⟩
 unfold Nn
 rw[agX,hx,ais,hk]
def lnF (o:aj) (l:List aa) (day:Int):Int:=if dD o l≠0 then dD o l else if 1<=day/\day<=3652059 then 0 else 1
theorem Gq (o:aj) (l:List aa) (day:Int):tP o l day=some (if lnF o l day=0 then (bT (uJ o l 0 day).1).map bM else [],lnF o l day,()):=by
 have oY:maxLen=9223372036854775807:=rfl
 unfold tP
 rw[VX]
 unfold lnF
 by_cases h:dD o l=0
 rotate_left
 ·rw[aiM (show dD o l≠0 from h),aiM (show dD o l≠0 from h)]
  show (bif dD o l != 0 then _ else _)=_
  rw[bR h,aiz,aiL h]
 rw[aiL (show ¬dD o l≠0 from fun e=>e h),aiL (show ¬dD o l≠0 from fun e=>e h)]
 by_cases hd:1<=day/\day<=3652059
 rotate_left
 ·rw[aiM hd,aiL hd];rfl
 rw[aiL (show ¬¬(1<=day/\day<=3652059) from fun e=>e hd),aiM hd,aiM rfl]
 refine Eq.trans Sr ?_
 rw[YO h hd,aim]
 dsimp only
 rw[zne,aiy]
 obtain⟨hg,hI⟩:=Fy h 0 day
 rw[Gs hI o l,aim]
 generalize (uJ o l 0 day).1=A at hg hI
 have hSl:(bT A).length<=500:=by rw[(eL A).length_eq];exact hI.len
 have hHl:(Nn A).length=(bT A).length:=by unfold Nn;rw[aha]
 dsimp only
 rw[hHl]
 have loop:∀ n,(bT A).length<n->iter (X:=nQ) (β:=sY) n ([],((bT A).length:Int),0,Nn A,A.map ak.tup,()) sX=some (Sum.inr ((bT A).map bM,A.map ak.tup,())):=by
  intro n hn
  refine cx (Inv:=fun i X=>X=((((bT A).map bM).take i,((bT A).length:Int),(i:Int),Nn A,A.map ak.tup,()):nQ)) (bT A).length (fun z=>z=some (Sum.inr ((bT A).map bM,A.map ak.tup,()))) ?_ ?_ n 0 _ rfl (aik _) (by omega)
  ·rintro i X again hi rfl hag
   unfold sX
   dsimp only
   obtain⟨x,hx⟩:∃ y,(bT A)[i]? =some y:=⟨(bT A)[i],agU hi⟩
   obtain⟨k,hk,_,hst,_⟩:=abH hg hI hx
   have hlen:(((bT A).map bM).take i).length=i:=by rw[ahe,aha];omega
   rw[aiD (show (i:Int)<((bT A).length:Int) by omega),aiz,hHl,eW (by simp;omega),agq,hk,aim,hst,aim,hlen,eW (by
    rw[afP];exact⟨aiD (by omega),aiD (by omega)⟩),ax (n:=(i:Int)+1) (by omega) (by omega)]
   have e:((bT A).map bM).take i++[bM x]=((bT A).map bM).take (i+1):=by
    rw[ahI,agX,hx];rfl
   dsimp only
   rw[e]
   exact hag _ rfl
  ·rintro X again rfl
   unfold sX
   dsimp only
   rw[aiB (show ¬((bT A).length:Int)<((bT A).length:Int) by omega),aiy,ahN (by rw[aha];exact ahY _)]
 rw[loop _ (by simp only[ahb,agh];omega)]
 rfl
theorem ac9 {o:aj} {l:List aa} {day:Int} (h:lnF o l day=0):dD o l=0/\1<=day/\day<=3652059:=by
 unfold lnF at h
 split at h
 ·rename_i h1;exact absurd h h1
 ·rename_i h1
  split at h
  ·rename_i h2;exact⟨af7.1 h1,h2⟩
  ·cases h
end Go.Md
namespace Go.Md
open Go.Dn
theorem Ej (z:Int) (hz:z.natAbs<=9000000000000000000) (p:Nat) (hp:p<=1000):eY (z,(p:Int))=some (((few p z).1,((few p z).2:Int)),()):=by
 have loop:∀ (n:Nat) (z:Int) (p:Nat),z.natAbs<=9000000000000000000->p<=1000->p<n->iter (X:=Bu) (β:=Bt) n (z,(p:Int),0,0,()) Br=some (Sum.inr ((few p z).1,((few p z).2:Int),0,0,())):=by
  intro n
  induction n with
  | zero=>intro z p _ _ h;omega
  | succ n ih=>
   intro z p hz hp hn
   rw[aX]
   generalize hag:(fun y=>iter n y Br)=again
   unfold Br
   dsimp only
   cases p with
   | zero=>rw[aK (by omega)];rfl
   | succ p=>
    rw[aG (by omega)]
    by_cases hm:z % 10=0
    ·have h1:Int.tmod z 10=0:=Int.tmod_eq_zero_of_dvd (Int.dvd_of_emod_eq_zero hm)
     have h2:Int.tdiv z 10=z / 10:=Int.tdiv_eq_ediv_of_dvd (Int.dvd_of_emod_eq_zero hm)
     have e:few (p+1) z=few p (z / 10):=by simp[few,hm]
     rw[h1,h2,show ((0:Int)==0)=true from rfl,aiz,ax (by omega) (by omega),ax (by omega) (by omega),e, <- hag,show ((p+1:Nat):Int) - 1=(p:Int) by omega]
     exact ih (z / 10) p (by omega) (by omega) (by omega)
    ·have h1:(Int.tmod z 10==0)=false:=by
      simp only[aiv,ne_eq]
      intro h
      exact hm (Int.emod_eq_zero_of_dvd (Int.dvd_of_tmod_eq_zero h))
     have e:few (p+1) z=(z,p+1):=by simp[few,hm]
     rw[h1,aiy,e]
 unfold eY
 dsimp only
 rw[loop _ z p hz hp (by omega),aR]
structure lZ (d:ah) (n:Int):Prop where
 p0:0<=d.2
 p3:d.2<=3
 val:d.1*10 ^ (3 - d.2).toNat=n
 bd:n.natAbs<=2000000000000000
theorem lZ.unit {d:ah} {n:Int} (h:lZ d n):d.1.natAbs<=n.natAbs:=by
 have:=h.val
 have h1:(1:Nat)<=10 ^ (3 - d.2).toNat:=Nat.one_le_pow _ _ (by omega)
 rw[<- h.val,agf,agi]
 exact Nat.le_mul_of_pos_right _ h1
theorem uE {d:ah} {n:Int} (h:lZ d n):qL d=some (n,()):=by
 obtain⟨u,p⟩:=d
 have hu:=h.unit
 have hb:=h.bd
 have p0:=h.p0
 have p3:=h.p3
 obtain⟨k,hk⟩:∃ k:Nat,(3 - p:Int)=(k:Int):=⟨(3 - p).toNat,by dsimp only at p3;omega⟩
 have hk3:k<=3:=by dsimp only at p0;omega
 have hv:u*10 ^ k=n:=by
  have:=h.val
  dsimp only at this
  rwa [hk,agq] at this
 dsimp only at hu
 unfold qL
 dsimp only
 rw[hk,ax (n:=(k:Int)) (by omega) (by omega)]
 have hm:∀ i,i<=k->(u*10 ^ i).natAbs<=n.natAbs:=fun i hi=>by
  rw[<- hv,agf,agf,agi,agi]
  exact Nat.mul_le_mul_left _ (aih (by decide) hi)
 have loop:∀ m,k<m->iter (X:=yV) (β:=C8) m (u,(k:Int),0,()) C7=some (Sum.inr (n,())):=by
  intro m hm'
  refine cx (Inv:=fun i X=>X=((u*10 ^ i,(k:Int),(i:Int),()):yV)) k (fun z=>z=some (Sum.inr (n,()))) ?_ ?_ m 0 _ (by simp) (aik _) (by omega)
  ·rintro i X again hi rfl hag
   unfold C7
   dsimp only
   have h1:=hm (i+1) (by omega)
   have e:u*10 ^ i*10=u*10 ^ (i+1):=by rw[agl,agb]
   rw[aiD (show (i:Int)<(k:Int) by omega),aiz,e,ax (n:=u*10 ^ (i+1)) (by omega) (by omega),ax (n:=(i:Int)+1) (by omega) (by omega)]
   exact hag _ rfl
  ·rintro X again rfl
   unfold C7
   dsimp only
   rw[aiB (show ¬(k:Int)<(k:Int) by omega),aiy,hv]
 rw[loop _ (by simp only[agh];omega)]
 rfl
theorem cV {n:Int} (h:n.natAbs<=2000000000000000):lZ (bQ n) n:=by
 obtain⟨h1,h2,h3⟩:=Ci 3 n
 refine⟨by show (0:Int)<=((few 3 n).2:Int);omega,by show ((few 3 n).2:Int)<=3;omega, ?_,h⟩
 show (few 3 n).1*10 ^ (3 - ((few 3 n).2:Int)).toNat=n
 rw[show (3 - ((few 3 n).2:Int)).toNat=3 - (few 3 n).2 by omega]
 exact h2
theorem tr {a b:ah} {m n:Int} (ha:lZ a m) (hb:lZ b n):mz a b=some (bQ (m+n),()):=by
 have h1:=ha.bd
 have h2:=hb.bd
 unfold mz
 rw[uE ha,aim,uE hb,aim]
 dsimp only
 rw[ax (by omega) (by omega)]
 have:=Ej (m+n) (by omega) 3 (by omega)
 rw[show ((3:Nat):Int)=3 from rfl] at this
 rw[this]
 rfl
theorem lZ.neg {d:ah} {n:Int} (h:lZ d n):lZ (-d.1,d.2) (-n):=⟨h.p0,h.p3,by show -d.1*10 ^ (3 - d.2).toNat= -n;rw[Int.neg_mul,h.val],by rw[Int.natAbs_neg];exact h.bd⟩
theorem PE {a b:ah} {m n:Int} (ha:lZ a m) (hb:lZ b n):GF a b=some (bQ (m - n),()):=by
 have h2:=hb.unit
 have h3:=hb.bd
 unfold GF
 rw[Int.zero_sub,ax (n:= -b.1) (by omega) (by omega),tr ha hb.neg,aim,Int.sub_eq_add_neg]
theorem QA (p:Nat) (n:Int):((few p n).1<0↔n<0)/\((few p n).1=0↔n=0):=by
 obtain⟨_,h2,_⟩:=Ci p n
 have hp:(0:Int)<10 ^ (p - (few p n).2):=Int.pow_pos (by decide)
 generalize (few p n).1=u at h2
 generalize (10:Int) ^ (p - (few p n).2)=q at h2 hp
 subst h2
 refine⟨⟨fun h=>Int.mul_neg_of_neg_of_pos h hp,fun h=> ?_⟩,⟨fun h=>by rw[h,ags],fun h=> ?_⟩⟩
 ·rcases Classical.em (u<0) with h1 | h1
  ·exact h1
  ·have:=agd (show 0<=u by omega) (Int.le_of_lt hp);omega
 ·rcases Int.mul_eq_zero.1 h with h1 | h1
  ·exact h1
  ·omega
theorem SG {s:aq} {m n:Int} (h1:lZ s.2.2.2.2.2.2.1 m) (h2:lZ s.2.2.2.2.2.2.2.2.1 n):AA s=some (bQ (m - n),()):=by
 unfold AA
 rw[PE h1 h2];rfl
theorem Uk {s:aq} {c m n:Int} (h0:lZ s.2.2.2.1 c) (h1:lZ s.2.2.2.2.2.2.1 m) (h2:lZ s.2.2.2.2.2.2.2.2.1 n) (hb:(m - n).natAbs<=2000000000000000): qM s=some ((s.1,s.2.1,s.2.2.1,s.2.2.2.1,s.2.2.2.2.1,s.2.2.2.2.2.1,s.2.2.2.2.2.2.1,s.2.2.2.2.2.2.2.1,s.2.2.2.2.2.2.2.2.1,bQ (if c - m+n>0 then c - m+n else 0)),()):=by
 unfold qM
 rw[SG h1 h2,aim,PE h0 (cV hb),aim]
 dsimp only
 have e:c - (m - n)=c - m+n:=by omega
 rw[e]
 by_cases h:c - m+n<0
 ·rw[aiD (show (bQ (c - m+n)).1<0 from (QA 3 _).1.2 h),aiz,aiL (by omega)]
  unfold bQ
  rw[QB]
  rfl
 ·rw[aiB (show ¬(bQ (c - m+n)).1<0 from fun h'=>h ((QA 3 _).1.1 h')),aiy]
  by_cases h0:c - m+n>0
  ·rw[aiM h0]
  ·rw[aiL h0,show c - m+n=0 by omega]
theorem Ko {n:Int} (h:n.natAbs<=1000000000000000):b9 (bQ n)/\bZ (bQ n)=n*1000000:=by
 obtain⟨h1,h2,h3⟩:=Ci 3 n
 refine⟨⟨by show (few 3 n).1.natAbs<=_;omega,by show (0:Int)<=((few 3 n).2:Int);omega,by show ((few 3 n).2:Int)<=9;omega⟩, ?_⟩
 show (few 3 n).1*10 ^ (9 - ((few 3 n).2:Int)).toNat=n*1000000
 rw[show (9 - ((few 3 n).2:Int)).toNat=(3 - (few 3 n).2)+6 by omega,agk, <- agb,h2]
 rfl
end Go.Md
namespace Go.Md
open Go.Dn
def uO:aj:=([],[],[],0,0,[])
end Go.Md
namespace Go.Md
open Go.Dn
end Go.Md
namespace Go.Md
open Go.Dn
def d0:aa:=(0,0,0,0,0,[],(0,0),[],(0,0),0,0)
end Go.Md
set_option linter.all false
namespace Go.Md
open Go.Dn
theorem aeX (b:Bool):((if b=true then (0:Int) else 1) != 0)= !b:=by cases b<;>rfl
theorem SH (o:aj) (i:Nat) (x:aF) (hi:(iW o)[i]? =some x) (hl:(iW o).length<=500):BD o (i:Int)=some (dz (dw o) (bL (iW o) i) x,()):=by
 have hlt:i<(iW o).length:=(agW.1 hi).1
 unfold BD
 rw[cF hi,aim]
 simp only[oc,nX,B6,GC,aim,aeX]
 have tail:∀ (p:Option aF) (hp:(p.any fun q=>decide (x.1<=q.1))=false) (h1:1<=x.1/\x.1<=99999),
  (bif !bU x.2.1 then some (5,()) else bif !qOk x.2.2.1 false then some (1,()) else bif !bU x.2.2.2.1 then some (5,()) else
    bif !inR x.2.2.2.2.1 0 1000000000 4 then some (1,()) else bif !decide (dw o<=x.2.2.2.2.2/\x.2.2.2.2.2<=3652059) then some (1,()) else some (0,()))=some (dz (dw o) p x,()):=fun p hp h1=>by
  unfold dz
  rw[aiL (show ¬¬(1<=x.1/\x.1<=99999) from fun h=>h h1),aiL (show ¬(p.any fun q=>decide (x.1<=q.1))=true by rw[hp];exact afW)]
  cases bU x.2.1
  ·rfl
  ·cases qOk x.2.2.1 false
   ·rfl
   ·cases bU x.2.2.2.1
    ·rfl
    ·cases inR x.2.2.2.2.1 0 1000000000 4
     ·rfl
     ·by_cases hd:dw o<=x.2.2.2.2.2/\x.2.2.2.2.2<=3652059
      ·simp[hd]
      ·simp[hd]
 by_cases h1:1<=x.1/\x.1<=99999
 ·rw[aiD h1,af2,aiy]
  cases i with
  | zero=>
   rw[aiB (show ¬((0:Nat):Int)>0 by omega),aiy]
   exact tail none rfl h1
  | succ j=>
   have hq:(iW o)[j]? =some (iW o)[j]:=agU (by omega)
   have e:w64 (((j+1:Nat):Int) - 1)=(j:Int):=by rw[ax (by omega) (by omega)];omega
   rw[aiD (show ((j+1:Nat):Int)>0 by omega),aiz,e,cF hq,aim]
   simp only[bL,hq]
   by_cases h2:x.1<=(iW o)[j].1
   ·rw[aiD h2,aim]
    have:dz (dw o) (some (iW o)[j]) x=8:=by
     unfold dz
     rw[aiL (show ¬¬(1<=x.1/\x.1<=99999) from fun h=>h h1),aiM (show (Option.any (fun q=>decide (x.1<=q.1)) (some (iW o)[j]))=true from aiD h2)]
    rw[this]
    rfl
   ·rw[aiB h2,aim]
    exact tail (some (iW o)[j]) (by simp[h2]) h1
 ·rw[aiB h1,af1,aiz]
  unfold dz
  rw[aiM h1]
theorem GB (o:aj):uk o=some (jt o,()):=by
 unfold uk jt
 simp only[nX,uD,oc,aim]
 cases h1:bU o.1
 ·simp[Gp,h1]
 cases h2:bU o.2.1
 ·simp[Gp,Gn,h1,h2]
 cases h3:bU o.2.2.1
 ·simp[Gp,Gn,KV,h1,h2,h3]
 rw[aiL (by simp[Gp,Gn,KV,h1,h2,h3])]
 simp only[af2,aiy]
 by_cases h4:o.2.1=o.2.2.1
 ·rw[aiM h4,show (o.2.1==o.2.2.1)=true by simp[h4],aiz]
 rw[aiL h4,show (o.2.1==o.2.2.1)=false by simp[h4],aiy]
 by_cases h5:1<=o.2.2.2.1/\o.2.2.2.1<=3652059
 ·rw[aiL (by simp[dw,h5]),aiD h5,af2,aiy]
  by_cases h6:0<=o.2.2.2.2.1/\o.2.2.2.2.1<=1000
  ·rw[aiL (by simp[cm,h6]),aiD h6,af2,aiy]
   by_cases h7:o.2.2.2.2.2=[]
   ·rw[aiM h7,h7];rfl
   ·have h7':o.2.2.2.2.2.length≠0:=fun e=>h7 (agI e)
    rw[aiL h7,cY (show (o.2.2.2.2.2.length:Int)≠0 by omega),aiy]
    by_cases h8:500<o.2.2.2.2.2.length
    ·rw[aiM h8,aiD (by omega),aiz]
    ·rw[aiL h8,aiB (by omega),aiy]
     have:=KM (f:=qY) (fun (_:Unit) (i:Nat)=>(((o.2.2.2.2.2.length:Int),(i:Int),o.1,o.2.1,o.2.2.1,o.2.2.2.1,o.2.2.2.2.1,o.2.2.2.2.2,()):qZ)) o.2.2.2.2.2
      (fun (_:Unit) i y k=>if dz (dw o) (bL o.2.2.2.2.2 i) y≠0 then some (Sum.inl (dz (dw o) (bL o.2.2.2.2.2 i) y,())) else k ()) (fun _=>some (Sum.inr ()))
      (fun s i y again hy=>by
        have hlt:i<o.2.2.2.2.2.length:=(agW.1 hy).1
        unfold qY
        dsimp only
        rw[aiD (by omega),aiz]
        have:=SH o i y hy (by show o.2.2.2.2.2.length<=500;omega)
        rw[show ((o.1,o.2.1,o.2.2.1,o.2.2.2.1,o.2.2.2.2.1,o.2.2.2.2.2):aj)=o from rfl,this,aim]
        dsimp only
        by_cases hf:dz (dw o) (bL o.2.2.2.2.2 i) y=0
        ·rw[aiL (by simp[hf]),show (dz (dw o) (bL (iW o) i) y != 0)=false by simp[hf],aiy,ax (by omega) (by omega)]
         rfl
        ·rw[aiM hf,show (dz (dw o) (bL (iW o) i) y != 0)=true by simp[hf],aiz]) (fun s again=>by
        unfold qY
        dsimp only
        rw[aiB (show ¬((o.2.2.2.2.2.length:Int)<(o.2.2.2.2.2.length:Int)) by omega)];rfl) ()
     refine (congrArg (fun z=>aB (β:=(Int×Unit)) (γ:=Unit) z fun _=>some (0,())) (this _ (by omega))).trans ?_
     have e:=Eh o.2.2.2.2.2 (dw o) o.2.2.2.2.2 0 () rfl
     change Gd _ _ _ 0 ()=_ at e
     refine (congrArg (fun z=>aB (β:=(Int×Unit)) (γ:=Unit) z fun _=>some (0,())) e).trans ?_
     simp only[bL]
     by_cases h:jI (dw o) o.2.2.2.2.2 none=0
     ·rw[Ni h,h];rfl
     ·rw[Jz h];rfl
  ·rw[aiM h6,aiB h6];rfl
 ·rw[aiM h5,aiB h5];rfl
section merge
variable (x y:List aa) (hx:x.length<=2000) (hy:y.length<=2000)
end merge
end Go.Md
set_option linter.all false
namespace Go.Md
open Go.Dn
theorem RI {d:ah} {n:Int} (h:lZ d n):bZ d=n*1000000:=by
 have h0:=h.p0;have h3:=h.p3
 unfold bZ
 rw[show (9 - d.2).toNat=(3 - d.2).toNat+6 by omega,agk, <- agb,h.val]
 rfl
theorem SE {d:ah} (h1:d.1.natAbs<=4000000000000000) (h2:0<=d.2) (h3:d.2<=9):Bq d 9=some (N (bZ d),()):=by
 unfold Bq
 rw[nY _ (by omega) (by omega),aim,ax (by omega) (by omega)]
 dsimp only
 obtain⟨m,hm⟩:∃ m:Nat,9 - d.2=m:=⟨(9 - d.2).toNat,by omega⟩
 rw[hm,PD m (by omega),aim]
 dsimp only
 have hl1:(dg6 d.1.natAbs).length<=10:=Gj (by omega)
 have hl2:(dg6 ((10:Int) ^ m).natAbs).length<=10:=by
  refine Gj ?_
  have h1:((10:Int) ^ m).natAbs=10 ^ m:=by rw[agi];rfl
  have h2:=aih (n:=10) (by omega) (show m<=9 by omega)
  omega
 rw[ug _ _ (by omega) (by omega),aim]
 unfold bZ
 rw[hm];rfl
theorem BE {a b:ah} {m n:Int} (ha:lZ a m) (hb:lZ b n):wE a b=some ((m - n).sign,()):=by
 have a1:=ha.unit;have a2:=ha.bd;have a3:=ha.p0;have a4:=ha.p3
 have b1:=hb.unit;have b2:=hb.bd;have b3:=hb.p0;have b4:=hb.p3
 have e1:=RI ha
 have e2:=RI hb
 have m1:=Gj (z:=bZ a) (by omega)
 have m2:=Gj (z:=bZ b) (by omega)
 unfold wE
 rw[SE (by omega) a3 (by omega),aim,SE (by omega) b3 (by omega),aim,NS _ _ (by omega) (by omega),e1,e2]
 have:m*1000000 - n*1000000=(m - n)*1000000:=by omega
 rw[this,Int.sign_mul,show Int.sign 1000000=1 from rfl,age]
 rfl
theorem rN {d:ah} {z:Bool} (h:qOk d z=true):lZ d (aW d):=by
 obtain⟨⟨h1,h2⟩,h3,h4,_⟩:=DG h
 obtain⟨u1,u2,_⟩:=lV h
 exact⟨h1,h2,rfl,by omega⟩
theorem Nf:∀ (k p:Nat) (z:Int),few (p+k) (z*10 ^ k)=few p z
 | 0,p,z=>by simp
 | k+1,p,z=>by
  rw[<- ahQ,few,aiM (by rw[agl, <- agb];omega)]
  rw[show z*10 ^ (k+1) / 10=z*10 ^ k by rw[agl, <- agb];omega]
  exact Nf k p z
theorem aaZ {d:ah} {z:Bool} (h:qOk d z=true):bQ (aW d)=pY d:=by
 obtain⟨⟨h1,h2⟩,_⟩:=DG h
 unfold bQ pY aW
 have:=Nf (3 - d.2).toNat d.2.toNat d.1
 rw[show d.2.toNat+(3 - d.2).toNat=3 by omega] at this
 rw[this]
theorem HI {d:ah} (h:d.1.natAbs<=9000000000000000000) (h0:0<=d.2) (h1:d.2<=9):eY d=some (pY d,()):=by
 have:=Ej d.1 h d.2.toNat (by omega)
 rw[show ((d.2.toNat:Nat):Int)=d.2 by omega] at this
 exact this
theorem IM {d:ah} {z:Bool} (h:qOk d z=true):eY d=some (bQ (aW d),()):=by
 obtain⟨⟨h1,h2⟩,h3,h4,_⟩:=DG h
 have hm:=(rN h).unit
 have:=(rN h).bd
 rw[aaZ h]
 exact HI (by omega) h1 (by omega)
theorem IL {d:ah} (h:inR d 0 1000000000 4=true):eY d=some (pY d,()):=by
 obtain⟨h1,h2,h3,h4⟩:=HB h
 exact HI (by omega) h3 h4
theorem acX {M:List ak} (hs:M.Pairwise fun x y=>x.no<y.no) {a b:ak} (ha:a∈M) (hb:b∈M) (h:a.no=b.no):a=b:=by
 obtain⟨i,hi,rfl⟩:=List.mem_iff_getElem.1 ha
 obtain⟨j,hj,rfl⟩:=List.mem_iff_getElem.1 hb
 rw[ahA] at hs
 rcases ah8 i j with c | c | c
 ·have:=hs i j hi hj c;omega
 ·subst c;rfl
 ·have:=hs j i hj hi c;omega
theorem Uv {A M:List ak} (hp:M.Perm A) (hs:M.Pairwise fun x y=>x.no<y.no):bT A=M:=by
 refine List.Perm.eq_of_pairwise (le:=fun x y=>x.no<=y.no) ?_ (QZ A) (hs.imp fun h=>Int.le_of_lt h) ((eL A).trans hp.symm)
 intro a b ha hb h1 h2
 exact acX hs (hp.mem_iff.2 ((eL A).mem_iff.1 ha)) hb (by omega)
theorem ZH {M:List ak}:(M.Pairwise fun x y=>x.no<y.no)↔(M.map ak.no).Pairwise (· < ·):=by rw[ahB]
theorem QY {α:Type} {x y:α}:∀ {l:List α} {j:Nat},l[j]? =some x->(x::l.set j y).Perm (y::l)
 | [],_,h=>by simp at h
 | a::l,0,h=>by cases h;exact List.Perm.swap _ _ _
 | a::l,j+1,h=>by
  have ih:=QY (x:=x) (y:=y) (l:=l) (j:=j) (by simpa using h)
  exact ((List.Perm.swap a x _).trans (ih.cons a)).trans (List.Perm.swap y a l)
theorem adq {A:List ak} (hI:Ids A) {k j:Nat} {x y:ak} (hk:A[k]? =some x) (hj:(bT A)[j]? =some x) (hy:y.no=x.no):bT (A.set k y)=(bT A).set j y:=by
 refine Uv ?_ ?_
 ·have h1:=QY (y:=y) hj
  have h2:=QY (y:=y) hk
  exact (h1.trans (((eL A).cons y).trans h2.symm)).cons_inv
 ·rw[ZH,Sl hj hy, <- ZH]
  exact Uu hI
def gF (n:Int):List ak->Nat
 | []=>0
 | x::r=>if x.no<n then gF n r+1 else 0
theorem Ox (n:Int):∀ l,gF n l<=l.length
 | []=>ahY _
 | x::r=>by
  have:=Ox n r
  simp only[gF,ag8]
  split<;>omega
theorem ZL (n:Int):∀ (l:List ak) (k:Nat) (x:ak),k<gF n l->l[k]? =some x->x.no<n
 | [],k,x,h,_=>by simp[gF] at h
 | y::r,k,x,h,hx=>by
  simp only[gF] at h
  split at h
  ·rename_i c
   cases k with
   | zero=>cases hx;exact c
   | succ k=>exact ZL n r k x (by omega) (by simpa using hx)
  ·omega
theorem ZK (n:Int):∀ (l:List ak) (x:ak),l[gF n l]? =some x->¬x.no<n
 | [],x,h=>by simp[gF] at h
 | y::r,x,h=>by
  simp only[gF] at h
  split at h
  ·exact ZK n r x (by simpa using h)
  ·rename_i c;cases h;exact c
theorem Zj {n:Int} {y:ak} (hy:y.no=n):∀ {l:List ak},(l.Pairwise fun x y=>x.no<y.no)->(∀ x,x∈l->x.no≠n)->(l.take (gF n l)++y::l.drop (gF n l)).Pairwise fun x y=>x.no<y.no
 | [],_,_=>by simp[gF]
 | x::r,hs,hn=>by
  obtain⟨s1,s2⟩:=ahz.1 hs
  simp only[gF]
  split
  ·rename_i c
   rw[ahO,List.drop_succ_cons,agA]
   refine List.Pairwise.cons (fun z hz=> ?_) (Zj hy s2 (fun z hz=>hn z (by simp[hz])))
   rcases ahk.1 hz with hz | hz
   ·exact s1 z (List.mem_of_mem_take hz)
   ·rcases ahn.1 hz with rfl | hz
    ·omega
    ·exact s1 z (List.mem_of_mem_drop hz)
  ·rename_i c
   have hx:=hn x (by simp)
   rw[List.take_zero,agG,ahy]
   refine List.Pairwise.cons (fun z hz=> ?_) hs
   rcases ahn.1 hz with rfl | hz
   ·omega
   ·have:=s1 z hz;omega
theorem adp {A:List ak} (hI:Ids A) {y:ak} (hn:∀ x,x∈A->x.no≠y.no):bT (A++[y])=(bT A).take (gF y.no (bT A))++y::(bT A).drop (gF y.no (bT A)):=by
 refine Uv ?_ (Zj rfl (Uu hI) fun x hx=>hn x ((eL A).mem_iff.1 hx))
 refine List.perm_middle.trans ?_
 rw[ahJ]
 exact ((eL A).cons y).trans (List.perm_append_singleton y A).symm
end Go.Md
