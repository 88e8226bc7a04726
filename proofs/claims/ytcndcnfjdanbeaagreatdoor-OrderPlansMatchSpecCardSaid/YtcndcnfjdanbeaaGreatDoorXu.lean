/-
  Plain facts: the lines by their numbers; quantities. No condition.
-/
import Derived.Test.YtcndcnfjdanbeaaGreatDoorXt
import Derived.Test.YtcndcnfjdanbeaaGreatDoorXx
set_option linter.all false
namespace Go.Md
open Go.Dn
structure Ids (A:List ai):Prop where
 nd:(A.map ai.no).Nodup
 rg:∀ x,x∈A→1≤x.no∧x.no≤99999
 len:A.length≤500
 ne:A≠[]
theorem Hv {n:Int}:∀ {A:List ai} {i:Nat},cm n i A=none→n∉A.map ai.no
 | [],_,_=>by simp
 | x::r,i,h=>by
  simp only[cm] at h
  by_cases hx:n=x.no
  ·rw[ajp hx] at h;cases h
  ·rw[ajo hx] at h
   have:=Hv h
   simp only[ahU,ah0,aju]
   exact⟨hx,this⟩
theorem S7 {A:List ai} {k:Nat} {y x:ai} (hx:A[k]? =some x) (h:y.no=x.no):(A.set k y).map ai.no=A.map ai.no:=by
 rw[List.map_set]
 refine ahk fun i=> ?_
 rw[ahA]
 split
 ·rename_i e
  subst e
  have hl:=(ahx.1 hx).1
  simp only[ahL,hl,ajq,ahy,hx,ai7,h]
 ·rfl
theorem Vh {o:aj} {l:List aa} {i:Nat} {d:aa} {A:List ai} (hA:Good l A) (hI:Ids A) (hl:∀ d,d∈l→br d=0) (hd:l[i]? =some d):Ids (cg o l i d A).2:=by
 unfold cg
 by_cases k1:aI d=1
 ·rw[ajp k1]
  split
  ·exact hI
  ·rename_i hf
   split
   ·exact hI
   ·split
    ·exact hI
    ·rename_i h5 _
     obtain⟨_,_,_,_,_,hln,_⟩:=bJ (hl d (ah7 hd))
     refine⟨?_,fun x hx=> ?_, ?_,by simp⟩
     ·rw[ahS,List.nodup_append]
      refine⟨hI.nd,by simp,fun a ha b hb e=> ?_⟩
      simp only[ahU,ahW,aib] at hb
      subst hb;subst e
      exact Hv hf ha
     ·rcases ahX.1 hx with hx | hx
      ·exact hI.rg x hx
      ·simp only[aib] at hx
       subst hx
       exact hln
     ·rw[ahH]
      show A.length+1≤500
      omega
 ·rw[ajo k1]
  split
  ·exact hI
  ·rename_i k hk
   split
   ·rename_i x hx
    obtain⟨h1,h2⟩:=hA.sound.line x (ah7 hx)
    obtain⟨_,_,a3,_⟩:=EZ (o:=o) h1 h2 hl hd
    refine⟨by rw[S7 hx a3];exact hI.nd,fun y hy=> ?_,by rw[ahQ];exact hI.len,fun e=>hI.ne (by simpa using e)⟩
    rcases ah9 hy with hy | hy
    ·exact hI.rg y hy
    ·subst hy;rw[a3];exact hI.rg x (ah7 hx)
   ·exact hI
theorem ad5 {o:aj} {l:List aa} {wt day:Int} (hl:∀ d,d∈l→br d=0):∀ (r:List aa) (i:Nat) (A:List ai) (ref:List (Int×Int)) (pts:List ay),l.drop i=r→Good l A→Ids A→
 Good l (iB o l wt day r i A ref pts).1∧Ids (iB o l wt day r i A ref pts).1:=by
 intro r
 induction r with
 | nil=>intro i A ref pts _ hA hI;exact⟨hA,hI⟩
 | cons d r ih=>
  intro i A ref pts hdr hA hI
  have hd:l[i]? =some d:=by
   have:=congrArg (·[0]?) hdr
   simpa [ahu] using this
  have hr':l.drop (i+1)=r:=by
   have:=congrArg List.tail hdr
   simpa [ain] using this
  have hgood:=Al (o:=o) hA hl hd
  have hids:=Vh (o:=o) hA hI hl hd
  simp only[iB]
  split
  ·exact⟨hA,hI⟩
  ·split
   ·exact ih (i+1) _ _ _ hr' hgood hids
   ·exact ih (i+1) _ _ _ hr' hgood hids
theorem N6 {o:aj} (ho:lT o=0):Ids (jl o):=by
 obtain⟨_,_,hlen,hne,hgo,_⟩:=qa ho
 obtain⟨hln,_,hpw⟩:=mS hgo
 refine⟨?_,fun x hx=> ?_,by rw[ahL];exact hlen,fun e=>hne (by simpa using e)⟩
 ·rw[ahV]
  exact List.Pairwise.map _ (fun a b (h:a.1<b.1) e=>by
   have e':a.1=b.1:=e
   omega) hpw
 ·obtain⟨q,hq,rfl⟩:=ah6.1 hx
  exact (hln q hq).2.2.2.2.1
theorem QK {o:aj} {l:List aa} (h:mO o l=0) (wt day:Int):Good l (nX o l wt day).1∧Ids (nX o l wt day).1:=by
 obtain⟨h1,h2⟩:=CS h
 obtain⟨h3,h4⟩:=xM h2
 exact ad5 h4 l 0 _ [] [] rfl (Aw h1 l) (N6 h1)
def bA (A:List ai):List ai:=A.mergeSort fun x y=>decide (x.no≤y.no)
theorem dn (A:List ai):(bA A).Perm A:=List.mergeSort_perm A _
theorem RG (A:List ai):(bA A).Pairwise fun x y=>x.no≤y.no:=by
 have:=List.pairwise_mergeSort (le:=fun x y:ai=>decide (x.no≤y.no)) (fun a b c h1 h2=>by
  simp only[aji] at *;omega) (fun a b=>by simp only[agK,aji];omega) A
 exact this.imp fun h=>by simpa using h
theorem UQ {A:List ai} (hI:Ids A):(bA A).Pairwise fun x y=>x.no<y.no:=by
 have h1:=RG A
 have h2:((bA A).map ai.no).Nodup:=((dn A).map _).nodup_iff.2 hI.nd
 have h3:(bA A).Pairwise fun x y=>x.no≠y.no:=aih.1 h2
 exact (h1.and h3).imp fun ⟨a,b⟩=>by omega
theorem HF:∀ (A:List ai) (i:Nat),(sK i A).map (·.1)=A.map ai.no
 | [],_=>rfl
 | x::r,i=>by simp only[sK,ahU,HF r]
theorem XN {A:List ai} (hI:Ids A):NW (mapOf A)=true:=by
 unfold NW
 rw[HF,Dm]
 have:=hI.len
 simp only[agx,aji,ag4]
 refine⟨by omega,fun p hp=> ?_,hI.nd⟩
 have hm:p.1∈(mapOf A).map (·.1):=ah6.2 ⟨p,hp,rfl⟩
 rw[HF] at hm
 obtain⟨x,hx,e⟩:=ah6.1 hm
 have:=hI.rg x hx
 omega
theorem Qt (A:List ai):wK (mapOf A)=(bA A).map ai.no:=by
 unfold wK
 rw[HF]
 refine List.Perm.eq_of_pairwise (le:=fun a b:Int=>decide (a≤b)=true) (fun a b _ _ h1 h2=> ?_) ?_ ?_ ?_
 ·simp only[aji] at h1 h2;omega
 ·exact List.pairwise_mergeSort (le:=fun x y:Int=>decide (x≤y)) (fun a b c h1 h2=>by simp only[aji] at *;omega) (fun a b=>by simp only[agK,aji];omega) _
 ·exact aih.2 ((RG A).imp fun h=>by simpa using h)
 ·exact (List.mergeSort_perm _ _).trans ((dn A).map _).symm
theorem SB {n:Int}:∀ {A:List ai} {i k:Nat} {x:ai},(A.map ai.no).Nodup→A[k]? =some x→x.no=n→cm n i A=some (i+k)
 | [],_,_,_,_,h,_=>by simp at h
 | y::r,i,0,x,_,h,hn=>by
  have e:y=x:=by simpa using h
  subst e
  simp only[cm,ajp hn.symm,aiz]
 | y::r,i,k+1,x,hnd,h,hn=>by
  have h':r[k]? =some x:=by simpa using h
  rw[ahU,List.nodup_cons] at hnd
  have hne:¬n=y.no:=fun e=>hnd.1 (by
   rw[← e, ← hn]
   exact ah6.2 ⟨x,ah7 h',rfl⟩)
  simp only[cm,ajo hne]
  rw[SB hnd.2 h' hn,show i+1+k=i+(k+1) by omega]
theorem OI {A:List ai} (hI:Ids A) {x:ai} (hx:x∈bA A):∃ k,eU x.no A=some k∧A[k]? =some x:=by
 obtain⟨k,hk⟩:=List.getElem?_of_mem ((dn A).mem_iff.1 hx)
 exact⟨k,by have:=SB (i:=0) hI.nd hk rfl;rwa [aiX] at this,hk⟩
def FW (A:List ai):List (Option Nat):=(bA A).map fun x=>eU x.no A
end Go.Md
namespace Go.Md
open Go.Dn
theorem aeK (A:List ai):FW A=(wK (mapOf A)).map fun k=>eU k A:=by
 rw[Qt,ahV];rfl
theorem Gl {A:List ai} (hI:Ids A) (o:aj) (l:List aa) (ref:List ah) (pts:List ay) (wt:Int):
 mF (o,l,mapOf A,ref,pts,wt,())=some (FW A,(o,l,mapOf A,ref,pts,wt,()),()):=by
 obtain⟨onum,obuy,osel,oday,oext,olns⟩:=o
 have sI:maxLen=9223372036854775807:=rfl
 unfold mF
 dsimp only
 rw[cw (XN hI)]
 have hkl:(wK (mapOf A)).length≤500:=by
  rw[Qt,ahL,(dn A).length_eq];exact hI.len
 rw[aeK]
 generalize wK (mapOf A)=ks at hkl
 have loop:∀ n,ks.length<n→iter (X:=gR) (β:=jS) n ([],(ks.length:Int),0,onum,obuy,osel,oday,oext,olns,l,wt,ks,ref,pts,mapOf A,()) jR=some (Sum.inr (ks.map (fun k=>eU k A),onum,obuy,osel,oday,oext,olns,l,wt,ref,pts,mapOf A,())):=by
  intro n hn
  refine cO (Inv:=fun i X=>X=(((ks.map (fun k=>eU k A)).take i,(ks.length:Int),(i:Int),onum,obuy,osel,oday,oext,olns,l,wt,ks,ref,pts,mapOf A,()):gR)) ks.length (fun z=>z=some (Sum.inr (ks.map (fun k=>eU k A),onum,obuy,osel,oday,oext,olns,l,wt,ref,pts,mapOf A,()))) ?_ ?_ n 0 _ rfl (aiY _) (by omega)
  ·rintro i X again hi rfl hag
   unfold jR
   dsimp only
   obtain⟨y,hy⟩:∃ y,ks[i]? =some y:=⟨ks[i],ahv hi⟩
   have hlen:((ks.map (fun k=>eU k A)).take i).length=i:=by rw[ahR,ahL];omega
   rw[ajh (show (i:Int)<(ks.length:Int) by omega),ajd,cw (by simp),ag2,hy,ai1,hlen,cw (by
    rw[agx];exact⟨ajh (by omega),ajh (by omega)⟩),av (n:=(i:Int)+1) (by omega) (by omega),je]
   have e:(ks.map (fun k=>eU k A)).take i++[cm y 0 A]=(ks.map (fun k=>eU k A)).take (i+1):=by
    rw[List.take_add_one,ahy,hy];rfl
   rw[e]
   exact hag _ rfl
  ·rintro X again rfl
   unfold jR
   dsimp only
   rw[ajf (show ¬(ks.length:Int)<(ks.length:Int) by omega),ajc,ais (by rw[ahL];exact aiF _)]
 have h2:=Dm A 0
 rw[loop _ (by
  simp only[ahM,Int.natAbs_natCast]
  omega)]
 rfl
theorem aco {l:List aa} {A:List ai} (hA:Good l A) (hI:Ids A) {i:Nat} {x:ai} (hx:(bA A)[i]? =some x):∃ k,(FW A)[i]? =some (some k)∧A[k]? =some x∧ot (some k) (A.map ai.tup)=some (aW x,())∧x∈A:=by
 obtain⟨k,hk,hxk⟩:=OI hI (ah7 hx)
 have hm:=ah7 hxk
 refine⟨k, ?_,hxk,Bz hxk (hA.sound.line x hm).1 (hA.pr x hm),hm⟩
 unfold FW
 rw[ahy,hx,ai7,hk]
def lnF (o:aj) (l:List aa) (day:Int):Int:=if mO o l≠0 then mO o l else if 1≤day∧day≤3652059 then 0 else 1
theorem XV {o:aj} {l:List aa} {day:Int} (h:lnF o l day=0):mO o l=0∧1≤day∧day≤3652059:=by
 unfold lnF at h
 split at h
 ·rename_i h1;exact absurd h h1
 ·rename_i h1
  split at h
  ·rename_i h2;exact⟨agM.1 h1,h2⟩
  ·cases h
end Go.Md
namespace Go.Md
open Go.Dn
theorem Ml (z:Int) (hz:z.natAbs≤9000000000000000000) (p:Nat) (hp:p≤1000):fZ (z,(p:Int))=some (((few p z).1,((few p z).2:Int)),()):=by
 have loop:∀ (n:Nat) (z:Int) (p:Nat),z.natAbs≤9000000000000000000→p≤1000→p<n→iter (X:=AJ) (β:=AI) n (z,(p:Int),0,0,()) AG=some (Sum.inr ((few p z).1,((few p z).2:Int),0,0,())):=by
  intro n
  induction n with
  | zero=>intro z p _ _ h;omega
  | succ n ih=>
   intro z p hz hp hn
   rw[bH]
   generalize hag:(fun y=>iter n y AG)=again
   unfold AG
   dsimp only
   cases p with
   | zero=>rw[bh (by omega)];rfl
   | succ p=>
    rw[aY (by omega)]
    by_cases hm:z % 10=0
    ·have h1:Int.tmod z 10=0:=Int.tmod_eq_zero_of_dvd (Int.dvd_of_emod_eq_zero hm)
     have h2:Int.tdiv z 10=z / 10:=Int.tdiv_eq_ediv_of_dvd (Int.dvd_of_emod_eq_zero hm)
     have e:few (p+1) z=few p (z / 10):=by simp[few,hm]
     rw[h1,h2,show ((0:Int)==0)=true from rfl,ajd,av (by omega) (by omega),av (by omega) (by omega),e, ← hag,show ((p+1:Nat):Int) - 1=(p:Int) by omega]
     exact ih (z / 10) p (by omega) (by omega) (by omega)
    ·have h1:(Int.tmod z 10==0)=false:=by
      simp only[ai9,ne_eq]
      intro h
      exact hm (Int.emod_eq_zero_of_dvd (Int.dvd_of_tmod_eq_zero h))
     have e:few (p+1) z=(z,p+1):=by simp[few,hm]
     rw[h1,ajc,e]
 unfold fZ
 dsimp only
 rw[loop _ z p hz hp (by omega),aM]
structure jB (d:ah) (n:Int):Prop where
 p0:0≤d.2
 p3:d.2≤3
 val:d.1*10 ^ (3 - d.2).toNat=n
 bd:n.natAbs≤2000000000000000
theorem jB.unit {d:ah} {n:Int} (h:jB d n):d.1.natAbs≤n.natAbs:=by
 have:=h.val
 have h1:(1:Nat)≤10 ^ (3 - d.2).toNat:=Nat.one_le_pow _ _ (by omega)
 rw[← h.val,agU,agV]
 exact Nat.le_mul_of_pos_right _ h1
theorem ug {d:ah} {n:Int} (h:jB d n):qE d=some (n,()):=by
 obtain⟨u,p⟩:=d
 have hu:=h.unit
 have hb:=h.bd
 have p0:=h.p0
 have p3:=h.p3
 obtain⟨k,hk⟩:∃ k:Nat,(3 - p:Int)=(k:Int):=⟨(3 - p).toNat,by dsimp only at p3;omega⟩
 have hk3:k≤3:=by dsimp only at p0;omega
 have hv:u*10 ^ k=n:=by
  have:=h.val
  dsimp only at this
  rwa [hk,ag2] at this
 dsimp only at hu
 unfold qE
 dsimp only
 rw[hk,av (n:=(k:Int)) (by omega) (by omega)]
 have hm:∀ i,i≤k→(u*10 ^ i).natAbs≤n.natAbs:=fun i hi=>by
  rw[← hv,agU,agU,agV,agV]
  exact Nat.mul_le_mul_left _ (aiV (by decide) hi)
 have loop:∀ m,k<m→iter (X:=x9) (β:=CE) m (u,(k:Int),0,()) CD=some (Sum.inr (n,())):=by
  intro m hm'
  refine cO (Inv:=fun i X=>X=((u*10 ^ i,(k:Int),(i:Int),()):x9)) k (fun z=>z=some (Sum.inr (n,()))) ?_ ?_ m 0 _ (by simp) (aiY _) (by omega)
  ·rintro i X again hi rfl hag
   unfold CD
   dsimp only
   have h1:=hm (i+1) (by omega)
   have e:u*10 ^ i*10=u*10 ^ (i+1):=by rw[agX,agQ]
   rw[ajh (show (i:Int)<(k:Int) by omega),ajd,e,av (n:=u*10 ^ (i+1)) (by omega) (by omega),av (n:=(i:Int)+1) (by omega) (by omega)]
   exact hag _ rfl
  ·rintro X again rfl
   unfold CD
   dsimp only
   rw[ajf (show ¬(k:Int)<(k:Int) by omega),ajc,hv]
 rw[loop _ (by simp only[Int.natAbs_natCast];omega)]
 rfl
theorem cq {n:Int} (h:n.natAbs≤2000000000000000):jB (bq n) n:=by
 obtain⟨h1,h2,h3⟩:=OY 3 n
 refine⟨by show (0:Int)≤((few 3 n).2:Int);omega,by show ((few 3 n).2:Int)≤3;omega, ?_,h⟩
 show (few 3 n).1*10 ^ (3 - ((few 3 n).2:Int)).toNat=n
 rw[show (3 - ((few 3 n).2:Int)).toNat=3 - (few 3 n).2 by omega]
 exact h2
theorem sU {a b:ah} {m n:Int} (ha:jB a m) (hb:jB b n):mH a b=some (bq (m+n),()):=by
 have h1:=ha.bd
 have h2:=hb.bd
 unfold mH
 rw[ug ha,ai1,ug hb,ai1]
 dsimp only
 rw[av (by omega) (by omega)]
 have:=Ml (m+n) (by omega) 3 (by omega)
 rw[show ((3:Nat):Int)=3 from rfl] at this
 rw[this]
 rfl
theorem jB.neg {d:ah} {n:Int} (h:jB d n):jB (-d.1,d.2) (-n):=⟨h.p0,h.p3,by show -d.1*10 ^ (3 - d.2).toNat= -n;rw[Int.neg_mul,h.val],by rw[Int.natAbs_neg];exact h.bd⟩
theorem IL {a b:ah} {m n:Int} (ha:jB a m) (hb:jB b n):zh a b=some (bq (m - n),()):=by
 have h2:=hb.unit
 have h3:=hb.bd
 unfold zh
 rw[Int.zero_sub,av (n:= -b.1) (by omega) (by omega),sU ha hb.neg,ai1,Int.sub_eq_add_neg]
theorem KC (p:Nat) (n:Int):((few p n).1<0↔n<0)∧((few p n).1=0↔n=0):=by
 obtain⟨_,h2,_⟩:=OY p n
 have hp:(0:Int)<10 ^ (p - (few p n).2):=Int.pow_pos (by decide)
 generalize (few p n).1=u at h2
 generalize (10:Int) ^ (p - (few p n).2)=q at h2 hp
 subst h2
 refine⟨⟨fun h=>Int.mul_neg_of_neg_of_pos h hp,fun h=> ?_⟩,⟨fun h=>by rw[h,Int.zero_mul],fun h=> ?_⟩⟩
 ·rcases Classical.em (u<0) with h1 | h1
  ·exact h1
  ·have:=agS (show 0≤u by omega) (Int.le_of_lt hp);omega
 ·rcases Int.mul_eq_zero.1 h with h1 | h1
  ·exact h1
  ·omega
theorem Tu {s:aT} {m n:Int} (h1:jB s.2.2.2.2.2.2.1 m) (h2:jB s.2.2.2.2.2.2.2.2.1 n):zP s=some (bq (m - n),()):=by
 unfold zP
 rw[IL h1 h2];rfl
theorem UK {s:aT} {c m n:Int} (h0:jB s.2.2.2.1 c) (h1:jB s.2.2.2.2.2.2.1 m) (h2:jB s.2.2.2.2.2.2.2.2.1 n) (hb:(m - n).natAbs≤2000000000000000):
 qF s=some ((s.1,s.2.1,s.2.2.1,s.2.2.2.1,s.2.2.2.2.1,s.2.2.2.2.2.1,s.2.2.2.2.2.2.1,s.2.2.2.2.2.2.2.1,s.2.2.2.2.2.2.2.2.1,bq (if c - m+n>0 then c - m+n else 0)),()):=by
 unfold qF
 rw[Tu h1 h2,ai1,IL h0 (cq hb),ai1]
 dsimp only
 have e:c - (m - n)=c - m+n:=by omega
 rw[e]
 by_cases h:c - m+n<0
 ·rw[ajh (show (bq (c - m+n)).1<0 from (KC 3 _).1.2 h),ajd,ajo (by omega)]
  unfold bq
  rw[Q7]
  rfl
 ·rw[ajf (show ¬(bq (c - m+n)).1<0 from fun h'=>h ((KC 3 _).1.1 h')),ajc]
  by_cases h0:c - m+n>0
  ·rw[ajp h0]
  ·rw[ajo h0,show c - m+n=0 by omega]
end Go.Md
namespace Go.Md
open Go.Dn
structure FOk (o:aj) (l:List aa) (x:ai):Prop where
 art:cM x.art=true
 unit:cM x.unit=true
 pr:inR x.price 0 1000000000 4=true
 due:cN o≤x.due∧x.due≤3652059
 wish:0≤x.wish→aI (gZ l x)=3→cN o≤fU (gZ l x)
 off:x.ono≠0→cN o≤x.ount∧x.ount≤3652059
theorem NS {n:Int} (h:yB n=true):1≤n∧n≤3652059:=ajv h
theorem FOk.clr {o:aj} {l:List aa} {x:ai} (h:FOk o l x):FOk o l x.clr:=⟨h.art,h.unit,h.pr,h.due,h.wish,fun e=>absurd rfl e⟩
theorem abL {o:aj} {l:List aa} {d:aa} {x:ai} (hw:WOk l x) (hl:∀ d,d∈l→br d=0) (hf:FOk o l x):FOk o l (bN l d x).2:=by
 have nw:∀ {y:ai},y.wish= -1→(0≤y.wish→aI (gZ l y)=3→cN o≤fU (gZ l y)):=fun e h=>by rw[e] at h;omega
 unfold bN
 by_cases h1:x.wish<0
 ·rw[ajp h1];exact hf
 rw[ajo h1]
 obtain⟨w,hw1,hw2⟩:=hw.kind (by omega)
 have hwe:=lN hw1
 have hfw:=hf.wish (by omega)
 rw[hwe] at hfw
 rw[hwe]
 obtain⟨_,_,_,hk,_,_,hu⟩:=bJ (hl w (ah7 hw1))
 obtain⟨_,up,uu,_⟩:=cZ hu
 by_cases h2:dNo w≠dTo d
 ·rw[ajp h2];exact hf
 rw[ajo h2]
 by_cases h3:aI d=5
 ·rw[ajp h3]
  by_cases k2:aI w=2
  ·rw[ajp k2]
   split
   ·exact hf
   ·exact⟨hf.art,hf.unit,hf.pr,hf.due,nw rfl,hf.off⟩
  ·rw[ajo k2]
   by_cases k1:aI w=1
   ·rw[ajp k1];exact⟨hf.art,hf.unit,hf.pr,hf.due,nw rfl,hf.off⟩
   ·rw[ajo k1]
    by_cases k3:aI w=3
    ·rw[ajp k3]
     have hd:=NS (uu (by unfold usU;exact ajh (.inr (.inl k3))))
     exact⟨hf.art,hf.unit,hf.pr,⟨hfw k3,hd.2⟩,nw rfl,hf.off⟩
    ·rw[ajo k3]
     have hk':1≤aI w∧aI w≤11:=hk
     exact⟨hf.art,hf.unit,up (by unfold usP;exact ajh (.inr (by omega))),hf.due,nw rfl,hf.off⟩
 ·rw[ajo h3];exact⟨hf.art,hf.unit,hf.pr,hf.due,nw rfl,hf.off⟩
theorem aeX {o:aj} {l:List aa} {ext:Int} {d:aa} {x:ai} (hf:FOk o l x):FOk o l (cy ext d x).2:=by
 unfold cy
 split
 ·split
  ·exact hf
  ·split
   ·exact hf
   ·exact⟨hf.art,hf.unit,hf.pr,hf.due,hf.wish,hf.off⟩
 ·split
  ·split
   ·exact hf
   ·exact⟨hf.art,hf.unit,hf.pr,hf.due,hf.wish,hf.off⟩
  ·split
   ·exact hf
   ·exact⟨hf.art,hf.unit,hf.pr,hf.due,hf.wish,hf.off⟩
theorem afh {o:aj} {l:List aa} {i:Nat} {d:aa} {x:ai} (hw:WOk l x) (hl:∀ d,d∈l→br d=0) (hd:l[i]? =some d) (hf:FOk o l x):FOk o l (bn o l i d x).2:=by
 have ha:=abL (d:=d) hw hl hf
 have hm:=aeX (ext:=b8 o) (d:=d) hf
 obtain⟨_,_,_,hk,_,_,hu⟩:=bJ (hl d (ah7 hd))
 obtain⟨_,_,uu,_⟩:=cZ hu
 unfold bn
 split
 ·unfold td
  split
  ·exact hf
  ·rename_i h1
   split
   ·exact hf
   ·refine⟨hf.art,hf.unit,hf.pr,hf.due,fun _ h3=> ?_,hf.off⟩
    have e:gZ l { x with wish:=(i:Int) }=d:=lN (x:={ x with wish:=(i:Int) }) (by show l[((i:Int)).toNat]? =some d;simpa using hd)
    rw[e] at h3 ⊢
    rcases Int.lt_or_le (fU d) (cN o) with h | h
    ·exact absurd ⟨h3,h⟩ h1
    ·exact h
 ·split
  ·split
   ·exact ha.clr
   ·exact ha
  ·split
   ·rename_i k7
    split
    ·rename_i h0
     have hd:=NS (uu (by unfold usU;exact ajh (.inr (.inr k7))))
     refine⟨hf.art,hf.unit,hf.pr,hf.due,hf.wish,fun _=>⟨?_,hd.2⟩⟩
     unfold kU at h0
     split at h0
     ·cases h0
     ·show cN o≤fU d
      omega
    ·exact hf
   ·split
    ·unfold CG
     split
     ·exact hf
     ·split
      ·exact hf
      ·rename_i h0
       have:=hf.off (fun e=>h0 (.inl e))
       exact⟨hf.art,hf.unit,hf.pr,this,hf.wish,fun e=>absurd rfl e⟩
    ·split
     ·split
      ·exact hm.clr
      ·exact hm
     ·exact hm
theorem aez {o:aj} {l:List aa} {i:Nat} {d:aa} {A:List ai} (hA:Good l A) (hF:∀ x,x∈A→FOk o l x) (hl:∀ d,d∈l→br d=0) (hd:l[i]? =some d):∀ x,x∈(cg o l i d A).2→FOk o l x:=by
 unfold cg
 by_cases k1:aI d=1
 ·rw[ajp k1]
  split
  ·exact hF
  ·split
   ·exact hF
   ·split
    ·exact hF
    ·rename_i h5 h6
     intro x hx
     rcases ahX.1 hx with hx | hx
     ·exact hF x hx
     ·simp only[aib] at hx
      subst hx
      obtain⟨_,_,_,_,_,_,hu⟩:=bJ (hl d (ah7 hd))
      obtain⟨_,up,uu,ua,_⟩:=cZ hu
      have hdy:=NS (uu (by unfold usU;exact ajh (.inl k1)))
      obtain⟨a1,a2⟩:=ua (by unfold usA;exact ajh k1)
      refine⟨a1,a2,up (by unfold usP;exact ajh (.inl k1)),⟨by show cN o≤fU d;omega,hdy.2⟩,fun _ h3=> ?_,fun e=>absurd rfl e⟩
      have e:gZ l (gf i d)=d:=lN (x:=gf i d) (by show l[((i:Int)).toNat]? =some d;simpa using hd)
      rw[e,k1] at h3;cases h3
 ·rw[ajo k1]
  split
  ·exact hF
  ·split
   ·rename_i y hy
    intro x hx
    rcases ah9 hx with hx | hx
    ·exact hF x hx
    ·subst hx
     have hm:=ah7 hy
     exact afh (hA.sound.line y hm).2 hl hd (hF y hm)
   ·exact hF
theorem afK {o:aj} {l:List aa} {wt day:Int} (hl:∀ d,d∈l→br d=0):∀ (r:List aa) (i:Nat) (A:List ai) (ref:List (Int×Int)) (pts:List ay),l.drop i=r→Good l A→(∀ x,x∈A→FOk o l x)→
 ∀ x,x∈(iB o l wt day r i A ref pts).1→FOk o l x:=by
 intro r
 induction r with
 | nil=>intro i A ref pts _ hA hI;exact hI
 | cons d r ih=>
  intro i A ref pts hdr hA hI
  have hd:l[i]? =some d:=by
   have:=congrArg (·[0]?) hdr
   simpa [ahu] using this
  have hr':l.drop (i+1)=r:=by
   have:=congrArg List.tail hdr
   simpa [ain] using this
  have hgood:=Al (o:=o) hA hl hd
  have hids:=aez (o:=o) hA hI hl hd
  simp only[iB]
  split
  ·exact hI
  ·split
   ·exact ih (i+1) _ _ _ hr' hgood hids
   ·exact ih (i+1) _ _ _ hr' hgood hids
theorem aeW {o:aj} (ho:lT o=0) (l:List aa):∀ x,x∈jl o→FOk o l x:=by
 obtain⟨_,_,_,_,hgo,_⟩:=qa ho
 obtain⟨hln,_,_⟩:=mS hgo
 intro x hx
 obtain⟨q,hq,rfl⟩:=ah6.1 hx
 obtain⟨h1,_,h3,h4,_,h6⟩:=hln q hq
 exact⟨h1,h3,h4,h6,fun h=>by have:(0:Int)≤ -1:=h;omega,fun e=>absurd rfl e⟩
theorem afk {o:aj} {l:List aa} (h:mO o l=0) (wt day:Int):∀ x,x∈(nX o l wt day).1→FOk o l x:=by
 obtain⟨h1,h2⟩:=CS h
 obtain⟨h3,h4⟩:=xM h2
 exact afK h4 l 0 _ [] [] rfl (Aw h1 l) (aeW h1 l)
def uz:aj:=([],[],[],0,0,[])
end Go.Md
namespace Go.Md
open Go.Dn
end Go.Md
namespace Go.Md
open Go.Dn
def d0:aa:=(0,0,0,0,0,[],(0,0),[],(0,0),0,0)
end Go.Md
set_option linter.all false
namespace Go.Md
open Go.Dn
theorem afI (b:Bool):((if b=true then (0:Int) else 1) != 0)= !b:=by cases b<;>rfl
theorem Tv (o:aj) (i:Nat) (x:aK) (hi:(jf o)[i]? =some x) (hl:(jf o).length≤500):AR o (i:Int)=some (dz (cN o) (bT (jf o) i) x,()):=by
 have hlt:i<(jf o).length:=(ahx.1 hi).1
 unfold AR
 rw[bZ hi,ai1]
 simp only[oB,vP,uB,Gs,ai1,afI]
 have tail:∀ (p:Option aK) (hp:(p.any fun q=>decide (x.1≤q.1))=false) (h1:1≤x.1∧x.1≤99999),
  (bif !cM x.2.1 then some (5,()) else bif !qOk x.2.2.1 false then some (1,()) else bif !cM x.2.2.2.1 then some (5,()) else
    bif !inR x.2.2.2.2.1 0 1000000000 4 then some (1,()) else bif !decide (cN o≤x.2.2.2.2.2∧x.2.2.2.2.2≤3652059) then some (1,()) else some (0,()))=some (dz (cN o) p x,()):=fun p hp h1=>by
  unfold dz
  rw[ajo (show ¬¬(1≤x.1∧x.1≤99999) from fun h=>h h1),ajo (show ¬(p.any fun q=>decide (x.1≤q.1))=true by rw[hp];exact agC)]
  cases cM x.2.1
  ·rfl
  ·cases qOk x.2.2.1 false
   ·rfl
   ·cases cM x.2.2.2.1
    ·rfl
    ·cases inR x.2.2.2.2.1 0 1000000000 4
     ·rfl
     ·by_cases hd:cN o≤x.2.2.2.2.2∧x.2.2.2.2.2≤3652059
      ·simp[hd]
      ·simp[hd]
 by_cases h1:1≤x.1∧x.1≤99999
 ·rw[ajh h1,agI,ajc]
  cases i with
  | zero=>
   rw[ajf (show ¬((0:Nat):Int)>0 by omega),ajc]
   exact tail none rfl h1
  | succ j=>
   have hq:(jf o)[j]? =some (jf o)[j]:=ahv (by omega)
   have e:w64 (((j+1:Nat):Int) - 1)=(j:Int):=by rw[av (by omega) (by omega)];omega
   rw[ajh (show ((j+1:Nat):Int)>0 by omega),ajd,e,bZ hq,ai1]
   simp only[bT,hq]
   by_cases h2:x.1≤(jf o)[j].1
   ·rw[ajh h2,ai1]
    have:dz (cN o) (some (jf o)[j]) x=8:=by
     unfold dz
     rw[ajo (show ¬¬(1≤x.1∧x.1≤99999) from fun h=>h h1),ajp (show (Option.any (fun q=>decide (x.1≤q.1)) (some (jf o)[j]))=true from ajh h2)]
    rw[this]
    rfl
   ·rw[ajf h2,ai1]
    exact tail (some (jf o)[j]) (by simp[h2]) h1
 ·rw[ajf h1,agH,ajd]
  unfold dz
  rw[ajp h1]
theorem RA (o:aj):yO o=some (lT o,()):=by
 unfold yO lT
 simp only[vP,Cl,oB,ai1]
 cases h1:cM o.1
 ·simp[Ga,h1]
 cases h2:cM o.2.1
 ·simp[Ga,F9,h1,h2]
 cases h3:cM o.2.2.1
 ·simp[Ga,F9,KZ,h1,h2,h3]
 rw[ajo (by simp[Ga,F9,KZ,h1,h2,h3])]
 simp only[agI,ajc]
 by_cases h4:o.2.1=o.2.2.1
 ·rw[ajp h4,show (o.2.1==o.2.2.1)=true by simp[h4],ajd]
 rw[ajo h4,show (o.2.1==o.2.2.1)=false by simp[h4],ajc]
 by_cases h5:1≤o.2.2.2.1∧o.2.2.2.1≤3652059
 ·rw[ajo (by simp[cN,h5]),ajh h5,agI,ajc]
  by_cases h6:0≤o.2.2.2.2.1∧o.2.2.2.2.1≤1000
  ·rw[ajo (by simp[b8,h6]),ajh h6,agI,ajc]
   by_cases h7:o.2.2.2.2.2=[]
   ·rw[ajp h7,h7];rfl
   ·have h7':o.2.2.2.2.2.length≠0:=fun e=>h7 (ahj e)
    rw[ajo h7,cJ (show (o.2.2.2.2.2.length:Int)≠0 by omega),ajc]
    by_cases h8:500<o.2.2.2.2.2.length
    ·rw[ajp h8,ajh (by omega),ajd]
    ·rw[ajo h8,ajf (by omega),ajc]
     have:=KS (f:=qT) (fun (_:Unit) (i:Nat)=>(((o.2.2.2.2.2.length:Int),(i:Int),o.1,o.2.1,o.2.2.1,o.2.2.2.1,o.2.2.2.2.1,o.2.2.2.2.2,()):qU)) o.2.2.2.2.2
      (fun (_:Unit) i y k=>if dz (cN o) (bT o.2.2.2.2.2 i) y≠0 then some (Sum.inl (dz (cN o) (bT o.2.2.2.2.2 i) y,())) else k ()) (fun _=>some (Sum.inr ()))
      (fun s i y again hy=>by
        have hlt:i<o.2.2.2.2.2.length:=(ahx.1 hy).1
        unfold qT
        dsimp only
        rw[ajh (by omega),ajd]
        have:=Tv o i y hy (by show o.2.2.2.2.2.length≤500;omega)
        rw[show ((o.1,o.2.1,o.2.2.1,o.2.2.2.1,o.2.2.2.2.1,o.2.2.2.2.2):aj)=o from rfl,this,ai1]
        dsimp only
        by_cases hf:dz (cN o) (bT o.2.2.2.2.2 i) y=0
        ·rw[ajo (by simp[hf]),show (dz (cN o) (bT (jf o) i) y != 0)=false by simp[hf],ajc,av (by omega) (by omega)]
         rfl
        ·rw[ajp hf,show (dz (cN o) (bT (jf o) i) y != 0)=true by simp[hf],ajd]) (fun s again=>by
        unfold qT
        dsimp only
        rw[ajf (show ¬((o.2.2.2.2.2.length:Int)<(o.2.2.2.2.2.length:Int)) by omega)];rfl) ()
     refine (congrArg (fun z=>aH (β:=(Int×Unit)) (γ:=Unit) z fun _=>some (0,())) (this _ (by omega))).trans ?_
     have e:=DT o.2.2.2.2.2 (cN o) o.2.2.2.2.2 0 () rfl
     change FL _ _ _ 0 ()=_ at e
     refine (congrArg (fun z=>aH (β:=(Int×Unit)) (γ:=Unit) z fun _=>some (0,())) e).trans ?_
     simp only[bT]
     by_cases h:jQ (cN o) o.2.2.2.2.2 none=0
     ·rw[NB h,h];rfl
     ·rw[JD h];rfl
  ·rw[ajp h6,ajf h6];rfl
 ·rw[ajp h5,ajf h5];rfl
section merge
variable (x y:List aa) (hx:x.length≤2000) (hy:y.length≤2000)
end merge
end Go.Md
set_option linter.all false
namespace Go.Md
open Go.Dn
theorem Sg {d:ah} {n:Int} (h:jB d n):nA d=n*1000000:=by
 have h0:=h.p0;have h3:=h.p3
 unfold nA
 rw[show (9 - d.2).toNat=(3 - d.2).toNat+6 by omega,Int.pow_add, ← agQ,h.val]
 rfl
theorem Tr {d:ah} (h1:d.1.natAbs≤4000000000000000) (h2:0≤d.2) (h3:d.2≤9):EP d 9=some (N (nA d),()):=by
 unfold EP
 rw[Ll _ (by omega) (by omega),ai1,av (by omega) (by omega)]
 dsimp only
 obtain⟨m,hm⟩:∃ m:Nat,9 - d.2=m:=⟨(9 - d.2).toNat,by omega⟩
 rw[hm,Qy m (by omega),ai1]
 dsimp only
 have hl1:(dg6 d.1.natAbs).length≤10:=Ir (by omega)
 have hl2:(dg6 ((10:Int) ^ m).natAbs).length≤10:=by
  refine Ir ?_
  have h1:((10:Int) ^ m).natAbs=10 ^ m:=by rw[agV];rfl
  have h2:=aiV (n:=10) (by omega) (show m≤9 by omega)
  omega
 rw[DW _ _ (by omega) (by omega),ai1]
 unfold nA
 rw[hm];rfl
theorem vQ {a b:ah} {m n:Int} (ha:jB a m) (hb:jB b n):tM a b=some ((m - n).sign,()):=by
 have a1:=ha.unit;have a2:=ha.bd;have a3:=ha.p0;have a4:=ha.p3
 have b1:=hb.unit;have b2:=hb.bd;have b3:=hb.p0;have b4:=hb.p3
 have e1:=Sg ha
 have e2:=Sg hb
 have m1:=Ir (z:=nA a) (by omega)
 have m2:=Ir (z:=nA b) (by omega)
 unfold tM
 rw[Tr (by omega) a3 (by omega),ai1,Tr (by omega) b3 (by omega),ai1,VF _ _ (by omega) (by omega),e1,e2]
 have:m*1000000 - n*1000000=(m - n)*1000000:=by omega
 rw[this,Int.sign_mul,show Int.sign 1000000=1 from rfl,agT]
 rfl
theorem pg {d:ah} {z:Bool} (h:qOk d z=true):jB d (aD d):=by
 obtain⟨⟨h1,h2⟩,h3,h4,_⟩:=DA h
 obtain⟨u1,u2,_⟩:=iF h
 exact⟨h1,h2,rfl,by omega⟩
theorem Nz:∀ (k p:Nat) (z:Int),few (p+k) (z*10 ^ k)=few p z
 | 0,p,z=>by simp
 | k+1,p,z=>by
  rw[← aiw,few,ajp (by rw[agX, ← agQ];omega)]
  rw[show z*10 ^ (k+1) / 10=z*10 ^ k by rw[agX, ← agQ];omega]
  exact Nz k p z
theorem abE {d:ah} {z:Bool} (h:qOk d z=true):bq (aD d)=mX d:=by
 obtain⟨⟨h1,h2⟩,_⟩:=DA h
 unfold bq mX aD
 have:=Nz (3 - d.2).toNat d.2.toNat d.1
 rw[show d.2.toNat+(3 - d.2).toNat=3 by omega] at this
 rw[this]
theorem AH {d:ah} (h:d.1.natAbs≤9000000000000000000) (h0:0≤d.2) (h1:d.2≤9):fZ d=some (mX d,()):=by
 have:=Ml d.1 h d.2.toNat (by omega)
 rw[show ((d.2.toNat:Nat):Int)=d.2 by omega] at this
 exact this
theorem II {d:ah} {z:Bool} (h:qOk d z=true):fZ d=some (bq (aD d),()):=by
 obtain⟨⟨h1,h2⟩,h3,h4,_⟩:=DA h
 have hm:=(pg h).unit
 have:=(pg h).bd
 rw[abE h]
 exact AH (by omega) h1 (by omega)
theorem IG {d:ah} (h:inR d 0 1000000000 4=true):fZ d=some (mX d,()):=by
 obtain⟨h1,h2,h3,h4⟩:=HC h
 exact AH (by omega) h3 h4
theorem adB {M:List ai} (hs:M.Pairwise fun x y=>x.no<y.no) {a b:ai} (ha:a∈M) (hb:b∈M) (h:a.no=b.no):a=b:=by
 obtain⟨i,hi,rfl⟩:=ah4.1 ha
 obtain⟨j,hj,rfl⟩:=ah4.1 hb
 rw[aif] at hs
 rcases aiM i j with c | c | c
 ·have:=hs i j hi hj c;omega
 ·subst c;rfl
 ·have:=hs j i hj hi c;omega
theorem UR {A M:List ai} (hp:M.Perm A) (hs:M.Pairwise fun x y=>x.no<y.no):bA A=M:=by
 refine List.Perm.eq_of_pairwise (le:=fun x y=>x.no≤y.no) ?_ (RG A) (hs.imp fun h=>Int.le_of_lt h) ((dn A).trans hp.symm)
 intro a b ha hb h1 h2
 exact adB hs (hp.mem_iff.2 ((dn A).mem_iff.1 ha)) hb (by omega)
theorem aaf {M:List ai}:(M.Pairwise fun x y=>x.no<y.no)↔(M.map ai.no).Pairwise (· < ·):=by rw[aih]
theorem RE {α:Type} {x y:α}:∀ {l:List α} {j:Nat},l[j]? =some x→(x::l.set j y).Perm (y::l)
 | [],_,h=>by simp at h
 | a::l,0,h=>by cases h;exact List.Perm.swap _ _ _
 | a::l,j+1,h=>by
  have ih:=RE (x:=x) (y:=y) (l:=l) (j:=j) (by simpa using h)
  exact ((List.Perm.swap a x _).trans (ih.cons a)).trans (List.Perm.swap y a l)
theorem aec {A:List ai} (hI:Ids A) {k j:Nat} {x y:ai} (hk:A[k]? =some x) (hj:(bA A)[j]? =some x) (hy:y.no=x.no):bA (A.set k y)=(bA A).set j y:=by
 refine UR ?_ ?_
 ·have h1:=RE (y:=y) hj
  have h2:=RE (y:=y) hk
  exact (h1.trans (((dn A).cons y).trans h2.symm)).cons_inv
 ·rw[aaf,S7 hj hy, ← aaf]
  exact UQ hI
def gT (n:Int):List ai→Nat
 | []=>0
 | x::r=>if x.no<n then gT n r+1 else 0
theorem Pk (n:Int):∀ l,gT n l≤l.length
 | []=>aiF _
 | x::r=>by
  have:=Pk n r
  simp only[gT,ahI]
  split<;>omega
theorem aaj (n:Int):∀ (l:List ai) (k:Nat) (x:ai),k<gT n l→l[k]? =some x→x.no<n
 | [],k,x,h,_=>by simp[gT] at h
 | y::r,k,x,h,hx=>by
  simp only[gT] at h
  split at h
  ·rename_i c
   cases k with
   | zero=>cases hx;exact c
   | succ k=>exact aaj n r k x (by omega) (by simpa using hx)
  ·omega
theorem aai (n:Int):∀ (l:List ai) (x:ai),l[gT n l]? =some x→¬x.no<n
 | [],x,h=>by simp[gT] at h
 | y::r,x,h=>by
  simp only[gT] at h
  split at h
  ·exact aai n r x (by simpa using h)
  ·rename_i c;cases h;exact c
theorem ZQ {n:Int} {y:ai} (hy:y.no=n):∀ {l:List ai},(l.Pairwise fun x y=>x.no<y.no)→(∀ x,x∈l→x.no≠n)→(l.take (gT n l)++y::l.drop (gT n l)).Pairwise fun x y=>x.no<y.no
 | [],_,_=>by simp[gT]
 | x::r,hs,hn=>by
  obtain⟨s1,s2⟩:=aie.1 hs
  simp only[gT]
  split
  ·rename_i c
   rw[ait,List.drop_succ_cons,aha]
   refine List.Pairwise.cons (fun z hz=> ?_) (ZQ hy s2 (fun z hz=>hn z (by simp[hz])))
   rcases ahX.1 hz with hz | hz
   ·exact s1 z (List.mem_of_mem_take hz)
   ·rcases ah0.1 hz with rfl | hz
    ·omega
    ·exact s1 z (ah8 hz)
  ·rename_i c
   have hx:=hn x (by simp)
   rw[aiv,ahh,aic]
   refine List.Pairwise.cons (fun z hz=> ?_) hs
   rcases ah0.1 hz with rfl | hz
   ·omega
   ·have:=s1 z hz;omega
theorem aeb {A:List ai} (hI:Ids A) {y:ai} (hn:∀ x,x∈A→x.no≠y.no):bA (A++[y])=(bA A).take (gT y.no (bA A))++y::(bA A).drop (gT y.no (bA A)):=by
 refine UR ?_ (ZQ rfl (UQ hI) fun x hx=>hn x ((dn A).mem_iff.1 hx))
 refine List.perm_middle.trans ?_
 rw[aio]
 exact ((dn A).cons y).trans (List.perm_append_singleton y A).symm
end Go.Md
