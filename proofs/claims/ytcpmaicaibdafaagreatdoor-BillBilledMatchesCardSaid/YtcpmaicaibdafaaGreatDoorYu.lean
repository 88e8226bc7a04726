/-
  Plain facts: the lines by their numbers; quantities. No condition.
-/
import Derived.Test.YtcpmaicaibdafaaGreatDoorYt
import Derived.Test.YtcpmaicaibdafaaGreatDoorYx
set_option linter.all false
namespace Go.Md
open Go.Dn
structure Ids (A:List ak):Prop where
 nd:(A.map ak.no).Nodup
 rg:∀ x,x∈A→1≤x.no∧x.no≤99999
 len:A.length≤500
 ne:A≠[]
theorem CY {n:Int}:∀ {A:List ak} {i:Nat},bV n i A=none→n∉A.map ak.no
 | [],_,_=>by simp
 | x::r,i,h=>by
  simp only[bV] at h
  by_cases hx:n=x.no
  ·rw[aan hx] at h;cases h
  ·rw[aam hx] at h
   have:=CY h
   simp only[Y4,Y7,aas]
   exact⟨hx,this⟩
theorem Th {A:List ak} {k:Nat} {y x:ak} (hx:A[k]? =some x) (h:y.no=x.no):(A.set k y).map ak.no=A.map ak.no:=by
 rw[List.map_set]
 refine Yy fun i=> ?_
 rw[YP]
 split
 ·rename_i e
  subst e
  have hl:=(YL.1 hx).1
  simp only[YX,hl,aao,YM,hx,Z6,h]
 ·rfl
theorem T4 {o:ai} {l:List aa} {i:Nat} {d:aa} {A:List ak} (hA:Good l A) (hI:Ids A) (hl:∀ d,d∈l→dw d=0) (hd:l[i]? =some d):Ids (eN o l i d A).2:=by
 unfold eN
 by_cases k1:bJ d=1
 ·rw[aan k1]
  split
  ·exact hI
  ·rename_i hf
   split
   ·exact hI
   ·split
    ·exact hI
    ·rename_i h5 _
     obtain⟨_,_,_,_,_,hln,_⟩:=cW (hl d (Zd hd))
     refine⟨?_,fun x hx=> ?_, ?_,by simp⟩
     ·rw[Y2,List.nodup_append]
      refine⟨hI.nd,by simp,fun a ha b hb e=> ?_⟩
      simp only[Y4,List.map_nil,Zg] at hb
      subst hb;subst e
      exact CY hf ha
     ·rcases Y6.1 hx with hx | hx
      ·exact hI.rg x hx
      ·simp only[Zg] at hx
       subst hx
       exact hln
     ·rw[YV]
      show A.length+1≤500
      omega
 ·rw[aam k1]
  split
  ·exact hI
  ·rename_i k hk
   split
   ·rename_i x hx
    obtain⟨h1,h2⟩:=hA.sound.line x (Zd hx)
    obtain⟨_,_,a3,_⟩:=I7 (o:=o) h1 h2 hl hd
    refine⟨by rw[Th hx a3];exact hI.nd,fun y hy=> ?_,by rw[YZ];exact hI.len,fun e=>hI.ne (by simpa using e)⟩
    rcases Ze hy with hy | hy
    ·exact hI.rg y hy
    ·subst hy;rw[a3];exact hI.rg x (Zd hx)
   ·exact hI
theorem Vu {o:ai} {l:List aa} {wt day:Int} (hl:∀ d,d∈l→dw d=0):∀ (r:List aa) (i:Nat) (A:List ak) (ref:List (Int×Int)) (pts:List aH),l.drop i=r→Good l A→Ids A→
 Good l (rq o l wt day r i A ref pts).1∧Ids (rq o l wt day r i A ref pts).1:=by
 intro r
 induction r with
 | nil=>intro i A ref pts _ hA hI;exact⟨hA,hI⟩
 | cons d r ih=>
  intro i A ref pts hdr hA hI
  have hd:l[i]? =some d:=by
   have:=congrArg (·[0]?) hdr
   simpa [YI] using this
  have hr':l.drop (i+1)=r:=by
   have:=congrArg List.tail hdr
   simpa [Zp] using this
  have hgood:=L8 (o:=o) hA hl hd
  have hids:=T4 (o:=o) hA hI hl hd
  simp only[rq]
  split
  ·exact⟨hA,hI⟩
  ·split
   ·exact ih (i+1) _ _ _ hr' hgood hids
   ·exact ih (i+1) _ _ _ hr' hgood hids
theorem Uq {o:ai} (ho:mY o=0):Ids (uZ o):=by
 obtain⟨_,_,hlen,hne,hgo,_⟩:=Da ho
 obtain⟨hln,_,hpw⟩:=wN hgo
 refine⟨?_,fun x hx=> ?_,by rw[YX];exact hlen,fun e=>hne (by simpa using e)⟩
 ·rw[Y5]
  exact List.Pairwise.map _ (fun a b (h:a.1<b.1) e=>by
   have e':a.1=b.1:=e
   omega) hpw
 ·obtain⟨q,hq,rfl⟩:=Zc.1 hx
  exact (hln q hq).2.2.2.2.1
theorem Bz {o:ai} {l:List aa} (h:eo o l=0) (wt day:Int):Good l (vn o l wt day).1∧Ids (vn o l wt day).1:=by
 obtain⟨h1,h2⟩:=zT h
 obtain⟨h3,h4⟩:=zI h2
 exact Vu h4 l 0 _ [] [] rfl (MM h1 l) (Uq h1)
def iB (A:List ak):List ak:=A.mergeSort fun x y=>decide (x.no≤y.no)
theorem qM (A:List ak):(iB A).Perm A:=List.mergeSort_perm A _
theorem Rj (A:List ak):(iB A).Pairwise fun x y=>x.no≤y.no:=by
 have:=List.pairwise_mergeSort (le:=fun x y:ak=>decide (x.no≤y.no)) (fun a b c h1 h2=>by
  simp only[aag] at *;omega) (fun a b=>by simp only[X2,aag];omega) A
 exact this.imp fun h=>by simpa using h
theorem Wv {A:List ak} (hI:Ids A):(iB A).Pairwise fun x y=>x.no<y.no:=by
 have h1:=Rj A
 have h2:((iB A).map ak.no).Nodup:=((qM A).map _).nodup_iff.2 hI.nd
 have h3:(iB A).Pairwise fun x y=>x.no≠y.no:=Zl.1 h2
 exact (h1.and h3).imp fun ⟨a,b⟩=>by omega
theorem C7:∀ (A:List ak) (i:Nat),(qZ i A).map (·.1)=A.map ak.no
 | [],_=>rfl
 | x::r,i=>by simp only[qZ,Y4,C7 r]
theorem QO {A:List ak} (hI:Ids A):Io (mapOf A)=true:=by
 unfold Io
 rw[C7,Ac]
 have:=hI.len
 simp only[XN,aag,Yk]
 refine⟨by omega,fun p hp=> ?_,hI.nd⟩
 have hm:p.1∈(mapOf A).map (·.1):=Zc.2 ⟨p,hp,rfl⟩
 rw[C7] at hm
 obtain⟨x,hx,e⟩:=Zc.1 hm
 have:=hI.rg x hx
 omega
theorem Kl (A:List ak):uX (mapOf A)=(iB A).map ak.no:=by
 unfold uX
 rw[C7]
 refine List.Perm.eq_of_pairwise (le:=fun a b:Int=>decide (a≤b)=true) (fun a b _ _ h1 h2=> ?_) ?_ ?_ ?_
 ·simp only[aag] at h1 h2;omega
 ·exact List.pairwise_mergeSort (le:=fun x y:Int=>decide (x≤y)) (fun a b c h1 h2=>by simp only[aag] at *;omega) (fun a b=>by simp only[X2,aag];omega) _
 ·exact Zl.2 ((Rj A).imp fun h=>by simpa using h)
 ·exact (List.mergeSort_perm _ _).trans ((qM A).map _).symm
theorem Mo {n:Int}:∀ {A:List ak} {i k:Nat} {x:ak},(A.map ak.no).Nodup→A[k]? =some x→x.no=n→bV n i A=some (i+k)
 | [],_,_,_,_,h,_=>by simp at h
 | y::r,i,0,x,_,h,hn=>by
  have e:y=x:=by simpa using h
  subst e
  simp only[bV,aan hn.symm,Zx]
 | y::r,i,k+1,x,hnd,h,hn=>by
  have h':r[k]? =some x:=by simpa using h
  rw[Y4,List.nodup_cons] at hnd
  have hne:¬n=y.no:=fun e=>hnd.1 (by
   rw[← e, ← hn]
   exact Zc.2 ⟨x,Zd h',rfl⟩)
  simp only[bV,aam hne]
  rw[Mo hnd.2 h' hn,show i+1+k=i+(k+1) by omega]
theorem UT {A:List ak} (hI:Ids A) {x:ak} (hx:x∈iB A):∃ k,mq x.no A=some k∧A[k]? =some x:=by
 obtain⟨k,hk⟩:=List.getElem?_of_mem ((qM A).mem_iff.1 hx)
 exact⟨k,by have:=Mo (i:=0) hI.nd hk rfl;rwa [ZW] at this,hk⟩
def Ig (A:List ak):List (Option Nat):=(iB A).map fun x=>mq x.no A
end Go.Md
namespace Go.Md
open Go.Dn
theorem V3 (A:List ak):Ig A=(uX (mapOf A)).map fun k=>mq k A:=by
 rw[Kl,Y5];rfl
theorem Cl {A:List ak} (hI:Ids A) (o:ai) (l:List aa) (ref:List ah) (pts:List aH) (wt:Int):
 lJ (o,l,mapOf A,ref,pts,wt,())=some (Ig A,(o,l,mapOf A,ref,pts,wt,()),()):=by
 obtain⟨onum,obuy,osel,oday,oext,olns⟩:=o
 have DJ:maxLen=9223372036854775807:=rfl
 unfold lJ
 dsimp only
 rw[tK (QO hI)]
 have hkl:(uX (mapOf A)).length≤500:=by
  rw[Kl,YX,(qM A).length_eq];exact hI.len
 rw[V3]
 generalize uX (mapOf A)=ks at hkl
 have loop:∀ n,ks.length<n→iter (X:=gm) (β:=jm) n ([],(ks.length:Int),0,onum,obuy,osel,oday,oext,olns,l,wt,ks,ref,pts,mapOf A,()) jl=some (Sum.inr (ks.map (fun k=>mq k A),onum,obuy,osel,oday,oext,olns,l,wt,ref,pts,mapOf A,())):=by
  intro n hn
  refine jE (Inv:=fun i X=>X=(((ks.map (fun k=>mq k A)).take i,(ks.length:Int),(i:Int),onum,obuy,osel,oday,oext,olns,l,wt,ks,ref,pts,mapOf A,()):gm)) ks.length (fun z=>z=some (Sum.inr (ks.map (fun k=>mq k A),onum,obuy,osel,oday,oext,olns,l,wt,ref,pts,mapOf A,()))) ?_ ?_ n 0 _ rfl (ZX _) (by omega)
  ·rintro i X again hi rfl hag
   unfold jl
   dsimp only
   obtain⟨y,hy⟩:∃ y,ks[i]? =some y:=⟨ks[i],YJ hi⟩
   have hlen:((ks.map (fun k=>mq k A)).take i).length=i:=by rw[Y1,YX];omega
   rw[aaf (show (i:Int)<(ks.length:Int) by omega),aac,tK (by simp),Yi,hy,ZZ,hlen,tK (by
    rw[XN];exact⟨aaf (by omega),aaf (by omega)⟩),aV (n:=(i:Int)+1) (by omega) (by omega),iK]
   have e:(ks.map (fun k=>mq k A)).take i++[bV y 0 A]=(ks.map (fun k=>mq k A)).take (i+1):=by
    rw[Zq,YM,hy];rfl
   rw[e]
   exact hag _ rfl
  ·rintro X again rfl
   unfold jl
   dsimp only
   rw[aae (show ¬(ks.length:Int)<(ks.length:Int) by omega),aab,Zt (by rw[YX];exact ZE _)]
 have h2:=Ac A 0
 rw[loop _ (by
  simp only[YY,Yc]
  omega)]
 rfl
theorem Ug {l:List aa} {A:List ak} (hA:Good l A) (hI:Ids A) {i:Nat} {x:ak} (hx:(iB A)[i]? =some x):∃ k,(Ig A)[i]? =some (some k)∧A[k]? =some x∧ki (some k) (A.map ak.tup)=some (jv x,())∧x∈A:=by
 obtain⟨k,hk,hxk⟩:=UT hI (Zd hx)
 have hm:=Zd hxk
 refine⟨k, ?_,hxk,yM hxk (hA.sound.line x hm).1 (hA.pr x hm),hm⟩
 unfold Ig
 rw[YM,hx,Z6,hk]
def lnF (o:ai) (l:List aa) (day:Int):Int:=if eo o l≠0 then eo o l else if 1≤day∧day≤3652059 then 0 else 1
theorem Cj (o:ai) (l:List aa) (day:Int):rU o l day=some (if lnF o l day=0 then (iB (vn o l 0 day).1).map jv else [],lnF o l day,()):=by
 have DJ:maxLen=9223372036854775807:=rfl
 unfold rU
 rw[PO]
 unfold lnF
 by_cases h:eo o l=0
 rotate_left
 ·rw[aan (show eo o l≠0 from h),aan (show eo o l≠0 from h)]
  show (bif eo o l != 0 then _ else _)=_
  rw[eD h,aac,aam h]
 rw[aam (show ¬eo o l≠0 from fun e=>e h),aam (show ¬eo o l≠0 from fun e=>e h)]
 by_cases hd:1≤day∧day≤3652059
 rotate_left
 ·rw[aan hd,aam hd];rfl
 rw[aam (show ¬¬(1≤day∧day≤3652059) from fun e=>e hd),aan hd,aan rfl]
 refine Eq.trans FR ?_
 rw[RQ h hd,ZZ]
 dsimp only
 rw[zne,aab]
 obtain⟨hg,hI⟩:=Bz h 0 day
 rw[Cl hI o l,ZZ]
 generalize (vn o l 0 day).1=A at hg hI
 have hSl:(iB A).length≤500:=by rw[(qM A).length_eq];exact hI.len
 have hHl:(Ig A).length=(iB A).length:=by unfold Ig;rw[YX]
 dsimp only
 rw[hHl]
 have loop:∀ n,(iB A).length<n→iter (X:=mZ) (β:=ri) n ([],((iB A).length:Int),0,Ig A,A.map ak.tup,()) rf=some (Sum.inr ((iB A).map jv,A.map ak.tup,())):=by
  intro n hn
  refine jE (Inv:=fun i X=>X=((((iB A).map jv).take i,((iB A).length:Int),(i:Int),Ig A,A.map ak.tup,()):mZ)) (iB A).length (fun z=>z=some (Sum.inr ((iB A).map jv,A.map ak.tup,()))) ?_ ?_ n 0 _ rfl (ZX _) (by omega)
  ·rintro i X again hi rfl hag
   unfold rf
   dsimp only
   obtain⟨x,hx⟩:∃ y,(iB A)[i]? =some y:=⟨(iB A)[i],YJ hi⟩
   obtain⟨k,hk,_,hst,_⟩:=Ug hg hI hx
   have hlen:(((iB A).map jv).take i).length=i:=by rw[Y1,YX];omega
   rw[aaf (show (i:Int)<((iB A).length:Int) by omega),aac,hHl,tK (by simp;omega),Yi,hk,ZZ,hst,ZZ,hlen,tK (by
    rw[XN];exact⟨aaf (by omega),aaf (by omega)⟩),aV (n:=(i:Int)+1) (by omega) (by omega)]
   have e:((iB A).map jv).take i++[jv x]=((iB A).map jv).take (i+1):=by
    rw[Zq,YM,hx];rfl
   dsimp only
   rw[e]
   exact hag _ rfl
  ·rintro X again rfl
   unfold rf
   dsimp only
   rw[aae (show ¬((iB A).length:Int)<((iB A).length:Int) by omega),aab,Zt (by rw[YX];exact ZE _)]
 rw[loop _ (by simp only[YY,Yc];omega)]
 rfl
end Go.Md
namespace Go.Md
open Go.Dn
structure LC (d:ah) (n:Int):Prop where
 p0:0≤d.2
 p3:d.2≤3
 val:d.1*10 ^ (3 - d.2).toNat=n
 bd:n.natAbs≤2000000000000000
theorem LC.unit {d:ah} {n:Int} (h:LC d n):d.1.natAbs≤n.natAbs:=by
 have:=h.val
 have h1:(1:Nat)≤10 ^ (3 - d.2).toNat:=Nat.one_le_pow _ _ (by omega)
 rw[← h.val,Yb,Int.natAbs_pow]
 exact Nat.le_mul_of_pos_right _ h1
theorem LC.neg {d:ah} {n:Int} (h:LC d n):LC (-d.1,d.2) (-n):=⟨h.p0,h.p3,by show -d.1*10 ^ (3 - d.2).toNat= -n;rw[Int.neg_mul,h.val],by rw[Int.natAbs_neg];exact h.bd⟩
theorem BO {n:Int} (h:n.natAbs≤1000000000000000):dV (pT n)∧jX (pT n)=n*1000000:=by
 obtain⟨h1,h2,h3⟩:=EB 3 n
 refine⟨⟨by show (few 3 n).1.natAbs≤_;omega,by show (0:Int)≤((few 3 n).2:Int);omega,by show ((few 3 n).2:Int)≤9;omega⟩, ?_⟩
 show (few 3 n).1*10 ^ (9 - ((few 3 n).2:Int)).toNat=n*1000000
 rw[show (9 - ((few 3 n).2:Int)).toNat=(3 - (few 3 n).2)+6 by omega,Int.pow_add, ← X8,h2]
 rfl
end Go.Md
namespace Go.Md
open Go.Dn
structure FOk (o:ai) (l:List aa) (x:ak):Prop where
 art:bT x.art=true
 unit:bT x.unit=true
 pr:inR x.price 0 1000000000 4=true
 due:gj o≤x.due∧x.due≤3652059
 wish:0≤x.wish→bJ (kF l x)=3→gj o≤ot (kF l x)
 off:x.ono≠0→gj o≤x.ount∧x.ount≤3652059
theorem FOk.clr {o:ai} {l:List aa} {x:ak} (h:FOk o l x):FOk o l x.clr:=⟨h.art,h.unit,h.pr,h.due,h.wish,fun e=>absurd rfl e⟩
def yg:ai:=([],[],[],0,0,[])
end Go.Md
namespace Go.Md
open Go.Dn
end Go.Md
namespace Go.Md
open Go.Dn
def d0:aa:=(0,0,0,0,0,[],(0,0),[],(0,0),0,0)
end Go.Md
set_option linter.all false
namespace Go.Md
open Go.Dn
section merge
variable (x y:List aa) (hx:x.length≤2000) (hy:y.length≤2000)
end merge
end Go.Md
set_option linter.all false
namespace Go.Md
open Go.Dn
theorem OG:∀ (k p:Nat) (z:Int),few (p+k) (z*10 ^ k)=few p z
 | 0,p,z=>by simp
 | k+1,p,z=>by
  rw[← Zv,few,aan (by rw[Ye, ← X8];omega)]
  rw[show z*10 ^ (k+1) / 10=z*10 ^ k by rw[Ye, ← X8];omega]
  exact OG k p z
end Go.Md
