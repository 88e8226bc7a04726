/-
  Plain facts: the lines by their numbers; quantities. No condition.
-/
import Derived.Test.YtcpmaicaibdafaaGreatDoorZt
import Derived.Test.YtcpmaicaibdafaaGreatDoorZx
set_option linter.all false
namespace Go.Md
open Go.Dn
structure Ids (A:List az):Prop where
 nd:(A.map az.no).Nodup
 rg:∀ x,x∈A→1≤x.no∧x.no≤99999
 len:A.length≤500
 ne:A≠[]
theorem Im {n:Int}:∀ {A:List az} {i:Nat},cG n i A=none→n∉A.map az.no
 | [],_,_=>by simp
 | x::r,i,h=>by
  simp only[cG] at h
  by_cases hx:n=x.no
  ·rw[ajz hx] at h;cases h
  ·rw[ajy hx] at h
   have:=Im h
   simp only[ah2,ah7,ajE]
   exact⟨hx,this⟩
theorem aa3 {A:List az} {k:Nat} {y x:az} (hx:A[k]? =some x) (h:y.no=x.no):(A.set k y).map az.no=A.map az.no:=by
 rw[ah5]
 refine aht fun i=> ?_
 rw[ahL]
 split
 ·rename_i e
  subst e
  have hl:=(ahH.1 hx).1
  simp only[ahU,hl,ajA,ahI,hx,aji,h]
 ·rfl
theorem ab1 {o:av} {l:List aj} {i:Nat} {d:aj} {A:List az} (hA:Good l A) (hI:Ids A) (hl:∀ d,d∈l→fk d=0) (hd:l[i]? =some d):Ids (iD o l i d A).2:=by
 unfold iD
 by_cases k1:ck d=1
 ·rw[ajz k1]
  split
  ·exact hI
  ·rename_i hf
   split
   ·exact hI
   ·split
    ·exact hI
    ·rename_i h5 _
     obtain⟨_,_,_,_,_,hln,_⟩:=eP (hl d (aie hd))
     refine⟨?_,fun x hx=> ?_, ?_,by simp⟩
     ·rw[ah0,List.nodup_append]
      refine⟨hI.nd,by simp,fun a ha b hb e=> ?_⟩
      simp only[ah2,ah4,aij] at hb
      subst hb;subst e
      exact Im hf ha
     ·rcases ah6.1 hx with hx | hx
      ·exact hI.rg x hx
      ·simp only[aij] at hx
       subst hx
       exact hln
     ·rw[ahS]
      show A.length+1≤500
      omega
 ·rw[ajy k1]
  split
  ·exact hI
  ·rename_i k hk
   split
   ·rename_i x hx
    obtain⟨h1,h2⟩:=hA.sound.line x (aie hx)
    obtain⟨_,_,a3,_⟩:=OO (o:=o) h1 h2 hl hd
    refine⟨by rw[aa3 hx a3];exact hI.nd,fun y hy=> ?_,by rw[ahY];exact hI.len,fun e=>hI.ne (by simpa using e)⟩
    rcases aih hy with hy | hy
    ·exact hI.rg y hy
    ·subst hy;rw[a3];exact hI.rg x (aie hx)
   ·exact hI
theorem ad4 {o:av} {l:List aj} {wt day:Int} (hl:∀ d,d∈l→fk d=0):∀ (r:List aj) (i:Nat) (A:List az) (ref:List (Int×Int)) (pts:List aX),l.drop i=r→Good l A→Ids A→
 Good l (vW o l wt day r i A ref pts).1∧Ids (vW o l wt day r i A ref pts).1:=by
 intro r
 induction r with
 | nil=>intro i A ref pts _ hA hI;exact⟨hA,hI⟩
 | cons d r ih=>
  intro i A ref pts hdr hA hI
  have hd:l[i]? =some d:=by
   have:=congrArg (·[0]?) hdr
   simpa [ahE] using this
  have hr':l.drop (i+1)=r:=by
   have:=congrArg List.tail hdr
   simpa [aix] using this
  have hgood:=Sk (o:=o) hA hl hd
  have hids:=ab1 (o:=o) hA hI hl hd
  simp only[vW]
  split
  ·exact⟨hA,hI⟩
  ·split
   ·exact ih (i+1) _ _ _ hr' hgood hids
   ·exact ih (i+1) _ _ _ hr' hgood hids
theorem acw {o:av} (ho:qO o=0):Ids (zL o):=by
 obtain⟨_,_,hlen,hne,hgo,_⟩:=Iw ho
 obtain⟨hln,_,hpw⟩:=A7 hgo
 refine⟨?_,fun x hx=> ?_,by rw[ahU];exact hlen,fun e=>hne (by simpa using e)⟩
 ·rw[ah3]
  exact List.Pairwise.map _ (fun a b (h:a.1<b.1) e=>by
   have e':a.1=b.1:=e
   omega) hpw
 ·obtain⟨q,hq,rfl⟩:=aid.1 hx
  exact (hln q hq).2.2.2.2.1
theorem Gq {o:av} {l:List aj} (h:gA o l=0) (wt day:Int):Good l (yg o l wt day).1∧Ids (yg o l wt day).1:=by
 obtain⟨h1,h2⟩:=Ew h
 obtain⟨h3,h4⟩:=En h2
 exact ad4 h4 l 0 _ [] [] rfl (S8 h1 l) (acw h1)
def kF (A:List az):List az:=A.mergeSort fun x y=>decide (x.no≤y.no)
theorem vl (A:List az):(kF A).Perm A:=List.mergeSort_perm A _
theorem Yl (A:List az):(kF A).Pairwise fun x y=>x.no≤y.no:=by
 have:=List.pairwise_mergeSort (le:=fun x y:az=>decide (x.no≤y.no)) (fun a b c h1 h2=>by
  simp only[ajs] at *;omega) (fun a b=>by simp only[agP,ajs];omega) A
 exact this.imp fun h=>by simpa using h
theorem afh {A:List az} (hI:Ids A):(kF A).Pairwise fun x y=>x.no<y.no:=by
 have h1:=Yl A
 have h2:((kF A).map az.no).Nodup:=((vl A).map _).nodup_iff.2 hI.nd
 have h3:(kF A).Pairwise fun x y=>x.no≠y.no:=aip.1 h2
 exact (h1.and h3).imp fun ⟨a,b⟩=>by omega
theorem It:∀ (A:List az) (i:Nat),(vN i A).map (·.1)=A.map az.no
 | [],_=>rfl
 | x::r,i=>by simp only[vN,ah2,It r]
theorem XJ {A:List az} (hI:Ids A):N6 (mapOf A)=true:=by
 unfold N6
 rw[It,EL]
 have:=hI.len
 simp only[agC,ajs,ahe]
 refine⟨by omega,fun p hp=> ?_,hI.nd⟩
 have hm:p.1∈(mapOf A).map (·.1):=aid.2 ⟨p,hp,rfl⟩
 rw[It] at hm
 obtain⟨x,hx,e⟩:=aid.1 hm
 have:=hI.rg x hx
 omega
theorem Qf (A:List az):zJ (mapOf A)=(kF A).map az.no:=by
 unfold zJ
 rw[It]
 refine List.Perm.eq_of_pairwise (le:=fun a b:Int=>decide (a≤b)=true) (fun a b _ _ h1 h2=> ?_) ?_ ?_ ?_
 ·simp only[ajs] at h1 h2;omega
 ·exact List.pairwise_mergeSort (le:=fun x y:Int=>decide (x≤y)) (fun a b c h1 h2=>by simp only[ajs] at *;omega) (fun a b=>by simp only[agP,ajs];omega) _
 ·exact aip.2 ((Yl A).imp fun h=>by simpa using h)
 ·exact (List.mergeSort_perm _ _).trans ((vl A).map _).symm
theorem SF {n:Int}:∀ {A:List az} {i k:Nat} {x:az},(A.map az.no).Nodup→A[k]? =some x→x.no=n→cG n i A=some (i+k)
 | [],_,_,_,_,h,_=>by simp at h
 | y::r,i,0,x,_,h,hn=>by
  have e:y=x:=by simpa using h
  subst e
  simp only[cG,ajz hn.symm,aiG]
 | y::r,i,k+1,x,hnd,h,hn=>by
  have h':r[k]? =some x:=by simpa using h
  rw[ah2,List.nodup_cons] at hnd
  have hne:¬n=y.no:=fun e=>hnd.1 (by
   rw[← e, ← hn]
   exact aid.2 ⟨x,aie h',rfl⟩)
  simp only[cG,ajy hne]
  rw[SF hnd.2 h' hn,show i+1+k=i+(k+1) by omega]
theorem ac9 {A:List az} (hI:Ids A) {x:az} (hx:x∈kF A):∃ k,qa x.no A=some k∧A[k]? =some x:=by
 obtain⟨k,hk⟩:=List.getElem?_of_mem ((vl A).mem_iff.1 hx)
 exact⟨k,by have:=SF (i:=0) hI.nd hk rfl;rwa [ai7] at this,hk⟩
def NW (A:List az):List (Option Nat):=(kF A).map fun x=>qa x.no A
end Go.Md
namespace Go.Md
open Go.Dn
theorem aeK (A:List az):NW A=(zJ (mapOf A)).map fun k=>qa k A:=by
 rw[Qf,ah3];rfl
theorem Hq {A:List az} (hI:Ids A) (o:av) (l:List aj) (ref:List ai) (pts:List aX) (wt:Int):
 o9 (o,l,mapOf A,ref,pts,wt,())=some (NW A,(o,l,mapOf A,ref,pts,wt,()),()):=by
 obtain⟨onum,obuy,osel,oday,oext,olns⟩:=o
 have BE:maxLen=9223372036854775807:=rfl
 unfold o9
 dsimp only
 rw[ym (XJ hI)]
 have hkl:(zJ (mapOf A)).length≤500:=by
  rw[Qf,ahU,(vl A).length_eq];exact hI.len
 rw[aeK]
 generalize zJ (mapOf A)=ks at hkl
 have loop:∀ n,ks.length<n→iter (X:=jF) (β:=mA) n ([],(ks.length:Int),0,onum,obuy,osel,oday,oext,olns,l,wt,ks,ref,pts,mapOf A,()) mz=some (Sum.inr (ks.map (fun k=>qa k A),onum,obuy,osel,oday,oext,olns,l,wt,ref,pts,mapOf A,())):=by
  intro n hn
  refine bX (Inv:=fun i X=>X=(((ks.map (fun k=>qa k A)).take i,(ks.length:Int),(i:Int),onum,obuy,osel,oday,oext,olns,l,wt,ks,ref,pts,mapOf A,()):jF)) ks.length (fun z=>z=some (Sum.inr (ks.map (fun k=>qa k A),onum,obuy,osel,oday,oext,olns,l,wt,ref,pts,mapOf A,()))) ?_ ?_ n 0 _ rfl (ai8 _) (by omega)
  ·rintro i X again hi rfl hag
   unfold mz
   dsimp only
   obtain⟨y,hy⟩:∃ y,ks[i]? =some y:=⟨ks[i],ahF hi⟩
   have hlen:((ks.map (fun k=>qa k A)).take i).length=i:=by rw[ahZ,ahU];omega
   rw[ajr (show (i:Int)<(ks.length:Int) by omega),ajo,ym (by simp),ahc,hy,ajb,hlen,ym (by
    rw[agC];exact⟨ajr (by omega),ajr (by omega)⟩),aC (n:=(i:Int)+1) (by omega) (by omega),lB]
   have e:(ks.map (fun k=>qa k A)).take i++[cG y 0 A]=(ks.map (fun k=>qa k A)).take (i+1):=by
    rw[aiz,ahI,hy];rfl
   rw[e]
   exact hag _ rfl
  ·rintro X again rfl
   unfold mz
   dsimp only
   rw[ajq (show ¬(ks.length:Int)<(ks.length:Int) by omega),ajn,aiC (by rw[ahU];exact aiN _)]
 have h2:=EL A 0
 rw[loop _ (by
  simp only[ahV,ag1]
  omega)]
 rfl
theorem acj {l:List aj} {A:List az} (hA:Good l A) (hI:Ids A) {i:Nat} {x:az} (hx:(kF A)[i]? =some x):∃ k,(NW A)[i]? =some (some k)∧A[k]? =some x∧nP (some k) (A.map az.tup)=some (jO x,())∧x∈A:=by
 obtain⟨k,hk,hxk⟩:=ac9 hI (aie hx)
 have hm:=aie hxk
 refine⟨k, ?_,hxk,Dz hxk (hA.sound.line x hm).1 (hA.pr x hm),hm⟩
 unfold NW
 rw[ahI,hx,aji,hk]
def lnF (o:av) (l:List aj) (day:Int):Int:=if gA o l≠0 then gA o l else if 1≤day∧day≤3652059 then 0 else 1
theorem BL (o:av) (l:List aj) (day:Int):sd o l day=some (if lnF o l day=0 then (kF (yg o l 0 day).1).map jO else [],lnF o l day,()):=by
 have BE:maxLen=9223372036854775807:=rfl
 unfold sd
 rw[Ww]
 unfold lnF
 by_cases h:gA o l=0
 rotate_left
 ·rw[ajz (show gA o l≠0 from h),ajz (show gA o l≠0 from h)]
  show (bif gA o l != 0 then _ else _)=_
  rw[dM h,ajo,ajy h]
 rw[ajy (show ¬gA o l≠0 from fun e=>e h),ajy (show ¬gA o l≠0 from fun e=>e h)]
 by_cases hd:1≤day∧day≤3652059
 rotate_left
 ·rw[ajz hd,ajy hd];rfl
 rw[ajy (show ¬¬(1≤day∧day≤3652059) from fun e=>e hd),ajz hd,ajz rfl]
 refine Eq.trans Th ?_
 rw[Zp h hd,ajb]
 dsimp only
 rw[zne,ajn]
 obtain⟨hg,hI⟩:=Gq h 0 day
 rw[Hq hI o l,ajb]
 generalize (yg o l 0 day).1=A at hg hI
 have hSl:(kF A).length≤500:=by rw[(vl A).length_eq];exact hI.len
 have hHl:(NW A).length=(kF A).length:=by unfold NW;rw[ahU]
 dsimp only
 rw[hHl]
 have loop:∀ n,(kF A).length<n→iter (X:=qP) (β:=vU) n ([],((kF A).length:Int),0,NW A,A.map az.tup,()) vT=some (Sum.inr ((kF A).map jO,A.map az.tup,())):=by
  intro n hn
  refine bX (Inv:=fun i X=>X=((((kF A).map jO).take i,((kF A).length:Int),(i:Int),NW A,A.map az.tup,()):qP)) (kF A).length (fun z=>z=some (Sum.inr ((kF A).map jO,A.map az.tup,()))) ?_ ?_ n 0 _ rfl (ai8 _) (by omega)
  ·rintro i X again hi rfl hag
   unfold vT
   dsimp only
   obtain⟨x,hx⟩:∃ y,(kF A)[i]? =some y:=⟨(kF A)[i],ahF hi⟩
   obtain⟨k,hk,_,hst,_⟩:=acj hg hI hx
   have hlen:(((kF A).map jO).take i).length=i:=by rw[ahZ,ahU];omega
   rw[ajr (show (i:Int)<((kF A).length:Int) by omega),ajo,hHl,ym (by simp;omega),ahc,hk,ajb,hst,ajb,hlen,ym (by
    rw[agC];exact⟨ajr (by omega),ajr (by omega)⟩),aC (n:=(i:Int)+1) (by omega) (by omega)]
   have e:((kF A).map jO).take i++[jO x]=((kF A).map jO).take (i+1):=by
    rw[aiz,ahI,hx];rfl
   dsimp only
   rw[e]
   exact hag _ rfl
  ·rintro X again rfl
   unfold vT
   dsimp only
   rw[ajq (show ¬((kF A).length:Int)<((kF A).length:Int) by omega),ajn,aiC (by rw[ahU];exact aiN _)]
 rw[loop _ (by simp only[ahV,ag1];omega)]
 rfl
end Go.Md
namespace Go.Md
open Go.Dn
structure ON (d:ai) (n:Int):Prop where
 p0:0≤d.2
 p3:d.2≤3
 val:d.1*10 ^ (3 - d.2).toNat=n
 bd:n.natAbs≤2000000000000000
theorem ON.unit {d:ai} {n:Int} (h:ON d n):d.1.natAbs≤n.natAbs:=by
 have:=h.val
 have h1:(1:Nat)≤10 ^ (3 - d.2).toNat:=Nat.one_le_pow _ _ (by omega)
 rw[← h.val,ag0,ag3]
 exact Nat.le_mul_of_pos_right _ h1
theorem aa4 {n:Int} (h:n.natAbs≤2000000000000000):ON (nu n) n:=by
 obtain⟨h1,h2,h3⟩:=Ge 3 n
 refine⟨by show (0:Int)≤((few 3 n).2:Int);omega,by show ((few 3 n).2:Int)≤3;omega, ?_,h⟩
 show (few 3 n).1*10 ^ (3 - ((few 3 n).2:Int)).toNat=n
 rw[show (3 - ((few 3 n).2:Int)).toNat=3 - (few 3 n).2 by omega]
 exact h2
theorem ON.neg {d:ai} {n:Int} (h:ON d n):ON (-d.1,d.2) (-n):=⟨h.p0,h.p3,by show -d.1*10 ^ (3 - d.2).toNat= -n;rw[ag6,h.val],by rw[ag2];exact h.bd⟩
theorem GH {n:Int} (h:n.natAbs≤1000000000000000):cA (nu n)∧ko (nu n)=n*1000000:=by
 obtain⟨h1,h2,h3⟩:=Ge 3 n
 refine⟨⟨by show (few 3 n).1.natAbs≤_;omega,by show (0:Int)≤((few 3 n).2:Int);omega,by show ((few 3 n).2:Int)≤9;omega⟩, ?_⟩
 show (few 3 n).1*10 ^ (9 - ((few 3 n).2:Int)).toNat=n*1000000
 rw[show (9 - ((few 3 n).2:Int)).toNat=(3 - (few 3 n).2)+6 by omega,ag7, ← agX,h2]
 rfl
end Go.Md
namespace Go.Md
open Go.Dn
structure FOk (o:av) (l:List aj) (x:az):Prop where
 art:cM x.art=true
 unit:cM x.unit=true
 pr:inR x.price 0 1000000000 4=true
 due:jC o≤x.due∧x.due≤3652059
 wish:0≤x.wish→ck (nZ l x)=3→jC o≤sH (nZ l x)
 off:x.ono≠0→jC o≤x.ount∧x.ount≤3652059
theorem FOk.clr {o:av} {l:List aj} {x:az} (h:FOk o l x):FOk o l x.clr:=⟨h.art,h.unit,h.pr,h.due,h.wish,fun e=>absurd rfl e⟩
def C2:av:=([],[],[],0,0,[])
end Go.Md
namespace Go.Md
open Go.Dn
end Go.Md
namespace Go.Md
open Go.Dn
def d0:aj:=(0,0,0,0,0,[],(0,0),[],(0,0),0,0)
end Go.Md
set_option linter.all false
namespace Go.Md
open Go.Dn
section merge
variable (x y:List aj) (hx:x.length≤2000) (hy:y.length≤2000)
end merge
end Go.Md
set_option linter.all false
namespace Go.Md
open Go.Dn
theorem Vd:∀ (k p:Nat) (z:Int),few (p+k) (z*10 ^ k)=few p z
 | 0,p,z=>by simp
 | k+1,p,z=>by
  rw[← aiE,few,ajz (by rw[ag8, ← agX];omega)]
  rw[show z*10 ^ (k+1) / 10=z*10 ^ k by rw[ag8, ← agX];omega]
  exact Vd k p z
end Go.Md
