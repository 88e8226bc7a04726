/-
  Plain facts: the lines by their numbers; quantities. No condition.
-/
import Derived.Test.YtcpmaicaibdafaaGreatDoorXt
import Derived.Test.YtcpmaicaibdafaaGreatDoorXx
set_option linter.all false
namespace Go.Md
open Go.Dn
structure Ids (A:List ak):Prop where
 nd:(A.map ak.no).Nodup
 rg:∀ x,x∈A→1≤x.no∧x.no≤99999
 len:A.length≤500
 ne:A≠[]
theorem Gg {n:Int}:∀ {A:List ak} {i:Nat},bZ n i A=none→n∉A.map ak.no
 | [],_,_=>by simp
 | x::r,i,h=>by
  simp only[bZ] at h
  by_cases hx:n=x.no
  ·rw[acN hx] at h;cases h
  ·rw[acM hx] at h
   have:=Gg h
   simp only[abm,abp,acT]
   exact⟨hx,this⟩
theorem Vi {A:List ak} {k:Nat} {y x:ak} (hx:A[k]? =some x) (h:y.no=x.no):(A.set k y).map ak.no=A.map ak.no:=by
 rw[List.map_set]
 refine aaP fun i=> ?_
 rw[aa6]
 split
 ·rename_i e
  subst e
  have hl:=(aa2.1 hx).1
  simp only[abf,hl,acO,aa3,hx,acu,h]
 ·rfl
theorem V3 {o:ai} {l:List aa} {i:Nat} {d:aa} {A:List ak} (hA:Good l A) (hI:Ids A) (hl:∀ d,d∈l→dX d=0) (hd:l[i]? =some d):Ids (gJ o l i d A).2:=by
 unfold gJ
 by_cases k1:bN d=1
 ·rw[acN k1]
  split
  ·exact hI
  ·rename_i hf
   split
   ·exact hI
   ·split
    ·exact hI
    ·rename_i h5 _
     obtain⟨_,_,_,_,_,hln,_⟩:=ef (hl d (abw hd))
     refine⟨?_,fun x hx=> ?_, ?_,by simp⟩
     ·rw[abk,List.nodup_append]
      refine⟨hI.nd,by simp,fun a ha b hb e=> ?_⟩
      simp only[abm,List.map_nil,abz] at hb
      subst hb;subst e
      exact Gg hf ha
     ·rcases abo.1 hx with hx | hx
      ·exact hI.rg x hx
      ·simp only[abz] at hx
       subst hx
       exact hln
     ·rw[abd]
      show A.length+1≤500
      omega
 ·rw[acM k1]
  split
  ·exact hI
  ·rename_i k hk
   split
   ·rename_i x hx
    obtain⟨h1,h2⟩:=hA.sound.line x (abw hx)
    obtain⟨_,_,a3,_⟩:=LK (o:=o) h1 h2 hl hd
    refine⟨by rw[Vi hx a3];exact hI.nd,fun y hy=> ?_,by rw[abi];exact hI.len,fun e=>hI.ne (by simpa using e)⟩
    rcases abx hy with hy | hy
    ·exact hI.rg y hy
    ·subst hy;rw[a3];exact hI.rg x (abw hx)
   ·exact hI
theorem XJ {o:ai} {l:List aa} {wt day:Int} (hl:∀ d,d∈l→dX d=0):∀ (r:List aa) (i:Nat) (A:List ak) (ref:List (Int×Int)) (pts:List aJ),l.drop i=r→Good l A→Ids A→
 Good l (ya o l wt day r i A ref pts).1∧Ids (ya o l wt day r i A ref pts).1:=by
 intro r
 induction r with
 | nil=>intro i A ref pts _ hA hI;exact⟨hA,hI⟩
 | cons d r ih=>
  intro i A ref pts hdr hA hI
  have hd:l[i]? =some d:=by
   have:=congrArg (·[0]?) hdr
   simpa [aaZ] using this
  have hr':l.drop (i+1)=r:=by
   have:=congrArg List.tail hdr
   simpa [abI] using this
  have hgood:=Od (o:=o) hA hl hd
  have hids:=V3 (o:=o) hA hI hl hd
  simp only[ya]
  split
  ·exact⟨hA,hI⟩
  ·split
   ·exact ih (i+1) _ _ _ hr' hgood hids
   ·exact ih (i+1) _ _ _ hr' hgood hids
theorem Wq {o:ai} (ho:s7 o=0):Ids (xB o):=by
 obtain⟨_,_,hlen,hne,hgo,_⟩:=Gt ho
 obtain⟨hln,_,hpw⟩:=za hgo
 refine⟨?_,fun x hx=> ?_,by rw[abf];exact hlen,fun e=>hne (by simpa using e)⟩
 ·rw[abn]
  exact List.Pairwise.map _ (fun a b (h:a.1<b.1) e=>by
   have e':a.1=b.1:=e
   omega) hpw
 ·obtain⟨q,hq,rfl⟩:=abv.1 hx
  exact (hln q hq).2.2.2.2.1
theorem M9 {o:ai} {l:List aa} (h:mo o l=0) (wt day:Int):Good l (BF o l wt day).1∧Ids (BF o l wt day).1:=by
 obtain⟨h1,h2⟩:=Kf h
 obtain⟨h3,h4⟩:=MM h2
 exact XJ h4 l 0 _ [] [] rfl (ON h1 l) (Wq h1)
def mq (A:List ak):List ak:=A.mergeSort fun x y=>decide (x.no≤y.no)
theorem Aa (A:List ak):(mq A).Perm A:=List.mergeSort_perm A _
theorem XO (A:List ak):(mq A).Pairwise fun x y=>x.no≤y.no:=by
 have:=List.pairwise_mergeSort (le:=fun x y:ak=>decide (x.no≤y.no)) (fun a b c h1 h2=>by
  simp only[acG] at *;omega) (fun a b=>by simp only[aaf,acG];omega) A
 exact this.imp fun h=>by simpa using h
theorem Gq:∀ (A:List ak) (i:Nat),(ud i A).map (·.1)=A.map ak.no
 | [],_=>rfl
 | x::r,i=>by simp only[ud,abm,Gq r]
theorem SA {A:List ak} (hI:Ids A):KX (mapOf A)=true:=by
 unfold KX
 rw[Gq,CY]
 have:=hI.len
 simp only[Z2,acG,aaA]
 refine⟨by omega,fun p hp=> ?_,hI.nd⟩
 have hm:p.1∈(mapOf A).map (·.1):=abv.2 ⟨p,hp,rfl⟩
 rw[Gq] at hm
 obtain⟨x,hx,e⟩:=abv.1 hm
 have:=hI.rg x hx
 omega
theorem MT (A:List ak):xA (mapOf A)=(mq A).map ak.no:=by
 unfold xA
 rw[Gq]
 refine List.Perm.eq_of_pairwise (le:=fun a b:Int=>decide (a≤b)=true) (fun a b _ _ h1 h2=> ?_) ?_ ?_ ?_
 ·simp only[acG] at h1 h2;omega
 ·exact List.pairwise_mergeSort (le:=fun x y:Int=>decide (x≤y)) (fun a b c h1 h2=>by simp only[acG] at *;omega) (fun a b=>by simp only[aaf,acG];omega) _
 ·exact List.pairwise_map.2 ((XO A).imp fun h=>by simpa using h)
 ·exact (List.mergeSort_perm _ _).trans ((Aa A).map _).symm
theorem Ou {n:Int}:∀ {A:List ak} {i k:Nat} {x:ak},(A.map ak.no).Nodup→A[k]? =some x→x.no=n→bZ n i A=some (i+k)
 | [],_,_,_,_,h,_=>by simp at h
 | y::r,i,0,x,_,h,hn=>by
  have e:y=x:=by simpa using h
  subst e
  simp only[bZ,acN hn.symm,abQ]
 | y::r,i,k+1,x,hnd,h,hn=>by
  have h':r[k]? =some x:=by simpa using h
  rw[abm,List.nodup_cons] at hnd
  have hne:¬n=y.no:=fun e=>hnd.1 (by
   rw[← e, ← hn]
   exact abv.2 ⟨x,abw h',rfl⟩)
  simp only[bZ,acM hne]
  rw[Ou hnd.2 h' hn,show i+1+k=i+(k+1) by omega]
theorem W7 {A:List ak} (hI:Ids A) {x:ak} (hx:x∈mq A):∃ k,oU x.no A=some k∧A[k]? =some x:=by
 obtain⟨k,hk⟩:=List.getElem?_of_mem ((Aa A).mem_iff.1 hx)
 exact⟨k,by have:=Ou (i:=0) hI.nd hk rfl;rwa [aci] at this,hk⟩
def KQ (A:List ak):List (Option Nat):=(mq A).map fun x=>oU x.no A
end Go.Md
namespace Go.Md
open Go.Dn
theorem Ym (A:List ak):KQ A=(xA (mapOf A)).map fun k=>oU k A:=by
 rw[MT,abn];rfl
theorem Fl {A:List ak} (hI:Ids A) (o:ai) (l:List aa) (ref:List ah) (pts:List aJ) (wt:Int):
 ot (o,l,mapOf A,ref,pts,wt,())=some (KQ A,(o,l,mapOf A,ref,pts,wt,()),()):=by
 obtain⟨onum,obuy,osel,oday,oext,olns⟩:=o
 have Nx:maxLen=9223372036854775807:=rfl
 unfold ot
 dsimp only
 rw[tL (SA hI)]
 have hkl:(xA (mapOf A)).length≤500:=by
  rw[MT,abf,(Aa A).length_eq];exact hI.len
 rw[Ym]
 generalize xA (mapOf A)=ks at hkl
 have loop:∀ n,ks.length<n→iter (X:=iT) (β:=lS) n ([],(ks.length:Int),0,onum,obuy,osel,oday,oext,olns,l,wt,ks,ref,pts,mapOf A,()) lR=some (Sum.inr (ks.map (fun k=>oU k A),onum,obuy,osel,oday,oext,olns,l,wt,ref,pts,mapOf A,())):=by
  intro n hn
  refine dR (Inv:=fun i X=>X=(((ks.map (fun k=>oU k A)).take i,(ks.length:Int),(i:Int),onum,obuy,osel,oday,oext,olns,l,wt,ks,ref,pts,mapOf A,()):iT)) ks.length (fun z=>z=some (Sum.inr (ks.map (fun k=>oU k A),onum,obuy,osel,oday,oext,olns,l,wt,ref,pts,mapOf A,()))) ?_ ?_ n 0 _ rfl (acj _) (by omega)
  ·rintro i X again hi rfl hag
   unfold lR
   dsimp only
   obtain⟨y,hy⟩:∃ y,ks[i]? =some y:=⟨ks[i],aa0 hi⟩
   have hlen:((ks.map (fun k=>oU k A)).take i).length=i:=by rw[abj,abf];omega
   rw[acF (show (i:Int)<(ks.length:Int) by omega),acC,tL (by simp),aay,hy,acn,hlen,tL (by
    rw[Z2];exact⟨acF (by omega),acF (by omega)⟩),au (n:=(i:Int)+1) (by omega) (by omega),kD]
   have e:(ks.map (fun k=>oU k A)).take i++[bZ y 0 A]=(ks.map (fun k=>oU k A)).take (i+1):=by
    rw[abJ,aa3,hy];rfl
   rw[e]
   exact hag _ rfl
  ·rintro X again rfl
   unfold lR
   dsimp only
   rw[acE (show ¬(ks.length:Int)<(ks.length:Int) by omega),acB,abM (by rw[abf];exact abX _)]
 have h2:=CY A 0
 rw[loop _ (by
  simp only[abg,aar]
  omega)]
 rfl
theorem We {l:List aa} {A:List ak} (hA:Good l A) (hI:Ids A) {i:Nat} {x:ak} (hx:(mq A)[i]? =some x):∃ k,(KQ A)[i]? =some (some k)∧A[k]? =some x∧mO (some k) (A.map ak.tup)=some (mK x,())∧x∈A:=by
 obtain⟨k,hk,hxk⟩:=W7 hI (abw hx)
 have hm:=abw hxk
 refine⟨k, ?_,hxk,BD hxk (hA.sound.line x hm).1 (hA.pr x hm),hm⟩
 unfold KQ
 rw[aa3,hx,acu,hk]
def lnF (o:ai) (l:List aa) (day:Int):Int:=if mo o l≠0 then mo o l else if 1≤day∧day≤3652059 then 0 else 1
theorem NL (o:ai) (l:List aa) (day:Int):zb o l day=some (if lnF o l day=0 then (mq (BF o l 0 day).1).map mK else [],lnF o l day,()):=by
 have Nx:maxLen=9223372036854775807:=rfl
 unfold zb
 rw[RC]
 unfold lnF
 by_cases h:mo o l=0
 rotate_left
 ·rw[acN (show mo o l≠0 from h),acN (show mo o l≠0 from h)]
  show (bif mo o l != 0 then _ else _)=_
  rw[jy h,acC,acM h]
 rw[acM (show ¬mo o l≠0 from fun e=>e h),acM (show ¬mo o l≠0 from fun e=>e h)]
 by_cases hd:1≤day∧day≤3652059
 rotate_left
 ·rw[acN hd,acM hd];rfl
 rw[acM (show ¬¬(1≤day∧day≤3652059) from fun e=>e hd),acN hd,acN rfl]
 refine Eq.trans OZ ?_
 rw[TN h hd,acn]
 dsimp only
 rw[zne,acB]
 obtain⟨hg,hI⟩:=M9 h 0 day
 rw[Fl hI o l,acn]
 generalize (BF o l 0 day).1=A at hg hI
 have hSl:(mq A).length≤500:=by rw[(Aa A).length_eq];exact hI.len
 have hHl:(KQ A).length=(mq A).length:=by unfold KQ;rw[abf]
 dsimp only
 rw[hHl]
 have loop:∀ n,(mq A).length<n→iter (X:=pW) (β:=uh) n ([],((mq A).length:Int),0,KQ A,A.map ak.tup,()) ug=some (Sum.inr ((mq A).map mK,A.map ak.tup,())):=by
  intro n hn
  refine dR (Inv:=fun i X=>X=((((mq A).map mK).take i,((mq A).length:Int),(i:Int),KQ A,A.map ak.tup,()):pW)) (mq A).length (fun z=>z=some (Sum.inr ((mq A).map mK,A.map ak.tup,()))) ?_ ?_ n 0 _ rfl (acj _) (by omega)
  ·rintro i X again hi rfl hag
   unfold ug
   dsimp only
   obtain⟨x,hx⟩:∃ y,(mq A)[i]? =some y:=⟨(mq A)[i],aa0 hi⟩
   obtain⟨k,hk,_,hst,_⟩:=We hg hI hx
   have hlen:(((mq A).map mK).take i).length=i:=by rw[abj,abf];omega
   rw[acF (show (i:Int)<((mq A).length:Int) by omega),acC,hHl,tL (by simp;omega),aay,hk,acn,hst,acn,hlen,tL (by
    rw[Z2];exact⟨acF (by omega),acF (by omega)⟩),au (n:=(i:Int)+1) (by omega) (by omega)]
   have e:((mq A).map mK).take i++[mK x]=((mq A).map mK).take (i+1):=by
    rw[abJ,aa3,hx];rfl
   dsimp only
   rw[e]
   exact hag _ rfl
  ·rintro X again rfl
   unfold ug
   dsimp only
   rw[acE (show ¬((mq A).length:Int)<((mq A).length:Int) by omega),acB,abM (by rw[abf];exact abX _)]
 rw[loop _ (by simp only[abg,aar];omega)]
 rfl
theorem TS (x n:Int) (h0:0<n) (h1:n≤9223372036854775807):∃ k,S8 x n=some (k,())∧0≤k∧k<n:=by
 unfold S8
 have hne:(n != (0:Int))=true:=by simp;omega
 rw[tL hne]
 have hb:=Int.tmod_lt_of_pos x h0
 have hb2: -n<Int.tmod x n:=Int.lt_tmod_of_pos x h0
 by_cases h:Int.tmod x n<0
 ·rw[acF h,acC]
  refine⟨_,rfl, ?_⟩
  rw[au (by omega) (by omega)];omega
 ·rw[acE h,acB]
  exact⟨_,rfl,by omega,hb⟩
end Go.Md
namespace Go.Md
open Go.Dn
structure NX (d:ah) (n:Int):Prop where
 p0:0≤d.2
 p3:d.2≤3
 val:d.1*10 ^ (3 - d.2).toNat=n
 bd:n.natAbs≤2000000000000000
theorem NX.unit {d:ah} {n:Int} (h:NX d n):d.1.natAbs≤n.natAbs:=by
 have:=h.val
 have h1:(1:Nat)≤10 ^ (3 - d.2).toNat:=Nat.one_le_pow _ _ (by omega)
 rw[← h.val,aaq,Int.natAbs_pow]
 exact Nat.le_mul_of_pos_right _ h1
theorem NX.neg {d:ah} {n:Int} (h:NX d n):NX (-d.1,d.2) (-n):=⟨h.p0,h.p3,by show -d.1*10 ^ (3 - d.2).toNat= -n;rw[Int.neg_mul,h.val],by rw[Int.natAbs_neg];exact h.bd⟩
theorem Ir {n:Int} (h:n.natAbs≤1000000000000000):fq (Cj n)∧nx (Cj n)=n*1000000:=by
 obtain⟨h1,h2,h3⟩:=HL 3 n
 refine⟨⟨by show (few 3 n).1.natAbs≤_;omega,by show (0:Int)≤((few 3 n).2:Int);omega,by show ((few 3 n).2:Int)≤9;omega⟩, ?_⟩
 show (few 3 n).1*10 ^ (9 - ((few 3 n).2:Int)).toNat=n*1000000
 rw[show (9 - ((few 3 n).2:Int)).toNat=(3 - (few 3 n).2)+6 by omega,Int.pow_add, ← aam,h2]
 rfl
end Go.Md
namespace Go.Md
open Go.Dn
structure FOk (o:ai) (l:List aa) (x:ak):Prop where
 art:cz x.art=true
 unit:cz x.unit=true
 pr:inR x.price 0 1000000000 4=true
 due:iR o≤x.due∧x.due≤3652059
 wish:0≤x.wish→bN (mW l x)=3→iR o≤qX (mW l x)
 off:x.ono≠0→iR o≤x.ount∧x.ount≤3652059
theorem FOk.clr {o:ai} {l:List aa} {x:ak} (h:FOk o l x):FOk o l x.clr:=⟨h.art,h.unit,h.pr,h.due,h.wish,fun e=>absurd rfl e⟩
def AZ:ai:=([],[],[],0,0,[])
end Go.Md
namespace Go.Md
open Go.Dn
end Go.Md
namespace Go.Md
open Go.Dn
def d0:aa:=(0,0,0,0,0,[],(0,0),[],(0,0),0,0)
end Go.Md
set_option linter.all false
namespace Go.Md
open Go.Dn
section merge
variable (x y:List aa) (hx:x.length≤2000) (hy:y.length≤2000)
end merge
end Go.Md
set_option linter.all false
namespace Go.Md
open Go.Dn
end Go.Md
