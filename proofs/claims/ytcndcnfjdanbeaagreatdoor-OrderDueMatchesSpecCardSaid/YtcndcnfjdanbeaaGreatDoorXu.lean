/-
  Plain facts: the lines by their numbers; quantities. No condition.
-/
import Derived.Test.YtcndcnfjdanbeaaGreatDoorXt
import Derived.Test.YtcndcnfjdanbeaaGreatDoorXx
set_option linter.all false
namespace Go.Md
open Go.Dn
structure Ids (A:List ai):Prop where
 nd:(A.map ai.no).Nodup
 rg:∀ x,x∈A→1≤x.no∧x.no≤99999
 len:A.length≤500
 ne:A≠[]
theorem Ie {n:Int}:∀ {A:List ai} {i:Nat},bU n i A=none→n∉A.map ai.no
 | [],_,_=>by simp
 | x::r,i,h=>by
  simp only[bU] at h
  by_cases hx:n=x.no
  ·rw[ajO hx] at h;cases h
  ·rw[ajN hx] at h
   have:=Ie h
   simp only[ain,ais,ajT]
   exact⟨hx,this⟩
theorem TZ {A:List ai} {k:Nat} {y x:ai} (hx:A[k]? =some x) (h:y.no=x.no):(A.set k y).map ai.no=A.map ai.no:=by
 rw[List.map_set]
 refine ahJ fun i=> ?_
 rw[ah2]
 split
 ·rename_i e
  subst e
  have hl:=(ahZ.1 hx).1
  simp only[aid,hl,ajP,ah0,hx,ajw,h]
 ·rfl
theorem Wk {o:aj} {l:List aa} {i:Nat} {d:aa} {A:List ai} (hA:Good l A) (hI:Ids A) (hl:∀ d,d∈l→bf d=0) (hd:l[i]? =some d):Ids (bN o l i d A).2:=by
 unfold bN
 by_cases k1:aF d=1
 ·rw[ajO k1]
  split
  ·exact hI
  ·rename_i hf
   split
   ·exact hI
   ·split
    ·exact hI
    ·rename_i h5 _
     obtain⟨_,_,_,_,_,hln,_⟩:=bz (hl d (aiz hd))
     refine⟨?_,fun x hx=> ?_, ?_,by simp⟩
     ·rw[ail,List.nodup_append]
      refine⟨hI.nd,by simp,fun a ha b hb e=> ?_⟩
      simp only[ain,List.map_nil,aiD] at hb
      subst hb;subst e
      exact Ie hf ha
     ·rcases aip.1 hx with hx | hx
      ·exact hI.rg x hx
      ·simp only[aiD] at hx
       subst hx
       exact hln
     ·rw[ah9]
      show A.length+1≤500
      omega
 ·rw[ajN k1]
  split
  ·exact hI
  ·rename_i k hk
   split
   ·rename_i x hx
    obtain⟨h1,h2⟩:=hA.sound.line x (aiz hx)
    obtain⟨_,_,a3,_⟩:=BS (o:=o) h1 h2 hl hd
    refine⟨by rw[TZ hx a3];exact hI.nd,fun y hy=> ?_,by rw[aij];exact hI.len,fun e=>hI.ne (by simpa using e)⟩
    rcases aiB hy with hy | hy
    ·exact hI.rg y hy
    ·subst hy;rw[a3];exact hI.rg x (aiz hx)
   ·exact hI
theorem aeG {o:aj} {l:List aa} {wt day:Int} (hl:∀ d,d∈l→bf d=0):∀ (r:List aa) (i:Nat) (A:List ai) (ref:List (Int×Int)) (pts:List aC),l.drop i=r→Good l A→Ids A→
 Good l (gV o l wt day r i A ref pts).1∧Ids (gV o l wt day r i A ref pts).1:=by
 intro r
 induction r with
 | nil=>intro i A ref pts _ hA hI;exact⟨hA,hI⟩
 | cons d r ih=>
  intro i A ref pts hdr hA hI
  have hd:l[i]? =some d:=by
   have:=congrArg (·[0]?) hdr
   simpa [ahW] using this
  have hr':l.drop (i+1)=r:=by
   have:=congrArg List.tail hdr
   simpa [aiN] using this
  have hgood:=wL (o:=o) hA hl hd
  have hids:=Wk (o:=o) hA hI hl hd
  simp only[gV]
  split
  ·exact⟨hA,hI⟩
  ·split
   ·exact ih (i+1) _ _ _ hr' hgood hids
   ·exact ih (i+1) _ _ _ hr' hgood hids
theorem OR {o:aj} (ho:jI o=0):Ids (jm o):=by
 obtain⟨_,_,hlen,hne,hgo,_⟩:=nH ho
 obtain⟨hln,_,hpw⟩:=mL hgo
 refine⟨?_,fun x hx=> ?_,by rw[aid];exact hlen,fun e=>hne (by simpa using e)⟩
 ·rw[aio]
  exact List.Pairwise.map _ (fun a b (h:a.1<b.1) e=>by
   have e':a.1=b.1:=e
   omega) hpw
 ·obtain⟨q,hq,rfl⟩:=aiy.1 hx
  exact (hln q hq).2.2.2.2.1
theorem nQ {o:aj} {l:List aa} (h:dX o l=0) (wt day:Int):Good l (fe o l wt day).1∧Ids (fe o l wt day).1:=by
 obtain⟨h1,h2⟩:=pQ h
 obtain⟨h3,h4⟩:=iM h2
 exact aeG h4 l 0 _ [] [] rfl (wR h1 l) (OR h1)
def aH (A:List ai):List ai:=A.mergeSort fun x y=>decide (x.no≤y.no)
theorem bG (A:List ai):(aH A).Perm A:=List.mergeSort_perm A _
theorem SG (A:List ai):(aH A).Pairwise fun x y=>x.no≤y.no:=by
 have:=List.pairwise_mergeSort (le:=fun x y:ai=>decide (x.no≤y.no)) (fun a b c h1 h2=>by
  simp only[ajH] at *;omega) (fun a b=>by simp only[ag9,ajH];omega) A
 exact this.imp fun h=>by simpa using h
theorem VU {A:List ai} (hI:Ids A):(aH A).Pairwise fun x y=>x.no<y.no:=by
 have h1:=SG A
 have h2:((aH A).map ai.no).Nodup:=((bG A).map _).nodup_iff.2 hI.nd
 have h3:(aH A).Pairwise fun x y=>x.no≠y.no:=aiI.1 h2
 exact (h1.and h3).imp fun ⟨a,b⟩=>by omega
theorem Io:∀ (A:List ai) (i:Nat),(sW i A).map (·.1)=A.map ai.no
 | [],_=>rfl
 | x::r,i=>by simp only[sW,ain,Io r]
theorem YK {A:List ai} (hI:Ids A):OM (mapOf A)=true:=by
 unfold OM
 rw[Io,DI]
 have:=hI.len
 simp only[agW,ajH,ahu]
 refine⟨by omega,fun p hp=> ?_,hI.nd⟩
 have hm:p.1∈(mapOf A).map (·.1):=aiy.2 ⟨p,hp,rfl⟩
 rw[Io] at hm
 obtain⟨x,hx,e⟩:=aiy.1 hm
 have:=hI.rg x hx
 omega
theorem Rr (A:List ai):wP (mapOf A)=(aH A).map ai.no:=by
 unfold wP
 rw[Io]
 refine List.Perm.eq_of_pairwise (le:=fun a b:Int=>decide (a≤b)=true) (fun a b _ _ h1 h2=> ?_) ?_ ?_ ?_
 ·simp only[ajH] at h1 h2;omega
 ·exact List.pairwise_mergeSort (le:=fun x y:Int=>decide (x≤y)) (fun a b c h1 h2=>by simp only[ajH] at *;omega) (fun a b=>by simp only[ag9,ajH];omega) _
 ·exact aiI.2 ((SG A).imp fun h=>by simpa using h)
 ·exact (List.mergeSort_perm _ _).trans ((bG A).map _).symm
theorem Tx {n:Int}:∀ {A:List ai} {i k:Nat} {x:ai},(A.map ai.no).Nodup→A[k]? =some x→x.no=n→bU n i A=some (i+k)
 | [],_,_,_,_,h,_=>by simp at h
 | y::r,i,0,x,_,h,hn=>by
  have e:y=x:=by simpa using h
  subst e
  simp only[bU,ajO hn.symm,aiY]
 | y::r,i,k+1,x,hnd,h,hn=>by
  have h':r[k]? =some x:=by simpa using h
  rw[ain,List.nodup_cons] at hnd
  have hne:¬n=y.no:=fun e=>hnd.1 (by
   rw[← e, ← hn]
   exact aiy.2 ⟨x,aiz h',rfl⟩)
  simp only[bU,ajN hne]
  rw[Tx hnd.2 h' hn,show i+1+k=i+(k+1) by omega]
theorem II {A:List ai} (hI:Ids A) {x:ai} (hx:x∈aH A):∃ k,dH x.no A=some k∧A[k]? =some x:=by
 obtain⟨k,hk⟩:=List.getElem?_of_mem ((bG A).mem_iff.1 hx)
 exact⟨k,by have:=Tx (i:=0) hI.nd hk rfl;rwa [ajn] at this,hk⟩
def o7 (A:List ai):List (Option Nat):=(aH A).map fun x=>dH x.no A
end Go.Md
namespace Go.Md
open Go.Dn
theorem afj (A:List ai):o7 A=(wP (mapOf A)).map fun k=>dH k A:=by
 rw[Rr,aio];rfl
theorem oa {A:List ai} (hI:Ids A) (o:aj) (l:List aa) (ref:List ah) (pts:List aC) (wt:Int):
 gI (o,l,mapOf A,ref,pts,wt,())=some (o7 A,(o,l,mapOf A,ref,pts,wt,()),()):=by
 obtain⟨onum,obuy,osel,oday,oext,olns⟩:=o
 have nq:maxLen=9223372036854775807:=rfl
 unfold gI
 dsimp only
 rw[bK (YK hI)]
 have hkl:(wP (mapOf A)).length≤500:=by
  rw[Rr,aid,(bG A).length_eq];exact hI.len
 rw[afj]
 generalize wP (mapOf A)=ks at hkl
 have loop:∀ n,ks.length<n→iter (X:=gR) (β:=jU) n ([],(ks.length:Int),0,onum,obuy,osel,oday,oext,olns,l,wt,ks,ref,pts,mapOf A,()) jT=some (Sum.inr (ks.map (fun k=>dH k A),onum,obuy,osel,oday,oext,olns,l,wt,ref,pts,mapOf A,())):=by
  intro n hn
  refine bS (Inv:=fun i X=>X=(((ks.map (fun k=>dH k A)).take i,(ks.length:Int),(i:Int),onum,obuy,osel,oday,oext,olns,l,wt,ks,ref,pts,mapOf A,()):gR)) ks.length (fun z=>z=some (Sum.inr (ks.map (fun k=>dH k A),onum,obuy,osel,oday,oext,olns,l,wt,ref,pts,mapOf A,()))) ?_ ?_ n 0 _ rfl (ajo _) (by omega)
  ·rintro i X again hi rfl hag
   unfold jT
   dsimp only
   obtain⟨y,hy⟩:∃ y,ks[i]? =some y:=⟨ks[i],ahX hi⟩
   have hlen:((ks.map (fun k=>dH k A)).take i).length=i:=by rw[aik,aid];omega
   rw[ajG (show (i:Int)<(ks.length:Int) by omega),ajC,bK (by simp),ahs,hy,ajq,hlen,bK (by
    rw[agW];exact⟨ajG (by omega),ajG (by omega)⟩),av (n:=(i:Int)+1) (by omega) (by omega),gv]
   have e:(ks.map (fun k=>dH k A)).take i++[bU y 0 A]=(ks.map (fun k=>dH k A)).take (i+1):=by
    rw[aiO,ah0,hy];rfl
   rw[e]
   exact hag _ rfl
  ·rintro X again rfl
   unfold jT
   dsimp only
   rw[ajE (show ¬(ks.length:Int)<(ks.length:Int) by omega),ajB,aiT (by rw[aid];exact ai5 _)]
 have h2:=DI A 0
 rw[loop _ (by
  simp only[aie,ahk]
  omega)]
 rfl
theorem OB {l:List aa} {A:List ai} (hA:Good l A) (hI:Ids A) {i:Nat} {x:ai} (hx:(aH A)[i]? =some x):∃ k,(o7 A)[i]? =some (some k)∧A[k]? =some x∧oc (some k) (A.map ai.tup)=some (aW x,())∧x∈A:=by
 obtain⟨k,hk,hxk⟩:=II hI (aiz hx)
 have hm:=aiz hxk
 refine⟨k, ?_,hxk,BN hxk (hA.sound.line x hm).1 (hA.pr x hm),hm⟩
 unfold o7
 rw[ah0,hx,ajw,hk]
def lnF (o:aj) (l:List aa) (day:Int):Int:=if dX o l≠0 then dX o l else if 1≤day∧day≤3652059 then 0 else 1
theorem Cd {o:aj} {l:List aa} {day:Int} (h:lnF o l day=0):dX o l=0∧1≤day∧day≤3652059:=by
 unfold lnF at h
 split at h
 ·rename_i h1;exact absurd h h1
 ·rename_i h1
  split at h
  ·rename_i h2;exact⟨ahb.1 h1,h2⟩
  ·cases h
end Go.Md
namespace Go.Md
open Go.Dn
theorem MZ (z:Int) (hz:z.natAbs≤9000000000000000000) (p:Nat) (hp:p≤1000):gU (z,(p:Int))=some (((few p z).1,((few p z).2:Int)),()):=by
 have loop:∀ (n:Nat) (z:Int) (p:Nat),z.natAbs≤9000000000000000000→p≤1000→p<n→iter (X:=AP) (β:=AO) n (z,(p:Int),0,0,()) AN=some (Sum.inr ((few p z).1,((few p z).2:Int),0,0,())):=by
  intro n
  induction n with
  | zero=>intro z p _ _ h;omega
  | succ n ih=>
   intro z p hz hp hn
   rw[cl]
   generalize hag:(fun y=>iter n y AN)=again
   unfold AN
   dsimp only
   cases p with
   | zero=>rw[bh (by omega)];rfl
   | succ p=>
    rw[aX (by omega)]
    by_cases hm:z % 10=0
    ·have h1:Int.tmod z 10=0:=Int.tmod_eq_zero_of_dvd (Int.dvd_of_emod_eq_zero hm)
     have h2:Int.tdiv z 10=z / 10:=Int.tdiv_eq_ediv_of_dvd (Int.dvd_of_emod_eq_zero hm)
     have e:few (p+1) z=few p (z / 10):=by simp[few,hm]
     rw[h1,h2,show ((0:Int)==0)=true from rfl,ajC,av (by omega) (by omega),av (by omega) (by omega),e, ← hag,show ((p+1:Nat):Int) - 1=(p:Int) by omega]
     exact ih (z / 10) p (by omega) (by omega) (by omega)
    ·have h1:(Int.tmod z 10==0)=false:=by
      simp only[ajy,ne_eq]
      intro h
      exact hm (Int.emod_eq_zero_of_dvd (Int.dvd_of_tmod_eq_zero h))
     have e:few (p+1) z=(z,p+1):=by simp[few,hm]
     rw[h1,ajB,e]
 unfold gU
 dsimp only
 rw[loop _ z p hz hp (by omega),aK]
structure l7 (d:ah) (n:Int):Prop where
 p0:0≤d.2
 p3:d.2≤3
 val:d.1*10 ^ (3 - d.2).toNat=n
 bd:n.natAbs≤2000000000000000
theorem l7.unit {d:ah} {n:Int} (h:l7 d n):d.1.natAbs≤n.natAbs:=by
 have:=h.val
 have h1:(1:Nat)≤10 ^ (3 - d.2).toNat:=Nat.one_le_pow _ _ (by omega)
 rw[← h.val,ahj,ahl]
 exact Nat.le_mul_of_pos_right _ h1
theorem uk {d:ah} {n:Int} (h:l7 d n):qG d=some (n,()):=by
 obtain⟨u,p⟩:=d
 have hu:=h.unit
 have hb:=h.bd
 have p0:=h.p0
 have p3:=h.p3
 obtain⟨k,hk⟩:∃ k:Nat,(3 - p:Int)=(k:Int):=⟨(3 - p).toNat,by dsimp only at p3;omega⟩
 have hk3:k≤3:=by dsimp only at p0;omega
 have hv:u*10 ^ k=n:=by
  have:=h.val
  dsimp only at this
  rwa [hk,ahs] at this
 dsimp only at hu
 unfold qG
 dsimp only
 rw[hk,av (n:=(k:Int)) (by omega) (by omega)]
 have hm:∀ i,i≤k→(u*10 ^ i).natAbs≤n.natAbs:=fun i hi=>by
  rw[← hv,ahj,ahj,ahl,ahl]
  exact Nat.mul_le_mul_left _ (ajl (by decide) hi)
 have loop:∀ m,k<m→iter (X:=yj) (β:=CZ) m (u,(k:Int),0,()) CY=some (Sum.inr (n,())):=by
  intro m hm'
  refine bS (Inv:=fun i X=>X=((u*10 ^ i,(k:Int),(i:Int),()):yj)) k (fun z=>z=some (Sum.inr (n,()))) ?_ ?_ m 0 _ (by simp) (ajo _) (by omega)
  ·rintro i X again hi rfl hag
   unfold CY
   dsimp only
   have h1:=hm (i+1) (by omega)
   have e:u*10 ^ i*10=u*10 ^ (i+1):=by rw[ahn,ahf]
   rw[ajG (show (i:Int)<(k:Int) by omega),ajC,e,av (n:=u*10 ^ (i+1)) (by omega) (by omega),av (n:=(i:Int)+1) (by omega) (by omega)]
   exact hag _ rfl
  ·rintro X again rfl
   unfold CY
   dsimp only
   rw[ajE (show ¬(k:Int)<(k:Int) by omega),ajB,hv]
 rw[loop _ (by simp only[ahk];omega)]
 rfl
theorem cW {n:Int} (h:n.natAbs≤2000000000000000):l7 (bM n) n:=by
 obtain⟨h1,h2,h3⟩:=PV 3 n
 refine⟨by show (0:Int)≤((few 3 n).2:Int);omega,by show ((few 3 n).2:Int)≤3;omega, ?_,h⟩
 show (few 3 n).1*10 ^ (3 - ((few 3 n).2:Int)).toNat=n
 rw[show (3 - ((few 3 n).2:Int)).toNat=3 - (few 3 n).2 by omega]
 exact h2
theorem s9 {a b:ah} {m n:Int} (ha:l7 a m) (hb:l7 b n):mA a b=some (bM (m+n),()):=by
 have h1:=ha.bd
 have h2:=hb.bd
 unfold mA
 rw[uk ha,ajq,uk hb,ajq]
 dsimp only
 rw[av (by omega) (by omega)]
 have:=MZ (m+n) (by omega) 3 (by omega)
 rw[show ((3:Nat):Int)=3 from rfl] at this
 rw[this]
 rfl
theorem l7.neg {d:ah} {n:Int} (h:l7 d n):l7 (-d.1,d.2) (-n):=⟨h.p0,h.p3,by show -d.1*10 ^ (3 - d.2).toNat= -n;rw[Int.neg_mul,h.val],by rw[Int.natAbs_neg];exact h.bd⟩
theorem Ry {a b:ah} {m n:Int} (ha:l7 a m) (hb:l7 b n):G7 a b=some (bM (m - n),()):=by
 have h2:=hb.unit
 have h3:=hb.bd
 unfold G7
 rw[Int.zero_sub,av (n:= -b.1) (by omega) (by omega),s9 ha hb.neg,ajq,Int.sub_eq_add_neg]
theorem Gp (p:Nat) (n:Int):((few p n).1<0↔n<0)∧((few p n).1=0↔n=0):=by
 obtain⟨_,h2,_⟩:=PV p n
 have hp:(0:Int)<10 ^ (p - (few p n).2):=Int.pow_pos (by decide)
 generalize (few p n).1=u at h2
 generalize (10:Int) ^ (p - (few p n).2)=q at h2 hp
 subst h2
 refine⟨⟨fun h=>Int.mul_neg_of_neg_of_pos h hp,fun h=> ?_⟩,⟨fun h=>by rw[h,Int.zero_mul],fun h=> ?_⟩⟩
 ·rcases Classical.em (u<0) with h1 | h1
  ·exact h1
  ·have:=ahh (show 0≤u by omega) (Int.le_of_lt hp);omega
 ·rcases Int.mul_eq_zero.1 h with h1 | h1
  ·exact h1
  ·omega
theorem Uv {s:bn} {m n:Int} (h1:l7 s.2.2.2.2.2.2.1 m) (h2:l7 s.2.2.2.2.2.2.2.2.1 n):zR s=some (bM (m - n),()):=by
 unfold zR
 rw[Ry h1 h2];rfl
theorem VM {s:bn} {c m n:Int} (h0:l7 s.2.2.2.1 c) (h1:l7 s.2.2.2.2.2.2.1 m) (h2:l7 s.2.2.2.2.2.2.2.2.1 n) (hb:(m - n).natAbs≤2000000000000000):
 qH s=some ((s.1,s.2.1,s.2.2.1,s.2.2.2.1,s.2.2.2.2.1,s.2.2.2.2.2.1,s.2.2.2.2.2.2.1,s.2.2.2.2.2.2.2.1,s.2.2.2.2.2.2.2.2.1,bM (if c - m+n>0 then c - m+n else 0)),()):=by
 unfold qH
 rw[Uv h1 h2,ajq,Ry h0 (cW hb),ajq]
 dsimp only
 have e:c - (m - n)=c - m+n:=by omega
 rw[e]
 by_cases h:c - m+n<0
 ·rw[ajG (show (bM (c - m+n)).1<0 from (Gp 3 _).1.2 h),ajC,ajN (by omega)]
  unfold bM
  rw[R6]
  rfl
 ·rw[ajE (show ¬(bM (c - m+n)).1<0 from fun h'=>h ((Gp 3 _).1.1 h')),ajB]
  by_cases h0:c - m+n>0
  ·rw[ajO h0]
  ·rw[ajN h0,show c - m+n=0 by omega]
end Go.Md
namespace Go.Md
open Go.Dn
structure FOk (o:aj) (l:List aa) (x:ai):Prop where
 art:c9 x.art=true
 unit:c9 x.unit=true
 pr:inR x.price 0 1000000000 4=true
 due:cG o≤x.due∧x.due≤3652059
 wish:0≤x.wish→aF (gd l x)=3→cG o≤cZ (gd l x)
 off:x.ono≠0→cG o≤x.ount∧x.ount≤3652059
theorem OH {n:Int} (h:yI n=true):1≤n∧n≤3652059:=ajU h
theorem FOk.clr {o:aj} {l:List aa} {x:ai} (h:FOk o l x):FOk o l x.clr:=⟨h.art,h.unit,h.pr,h.due,h.wish,fun e=>absurd rfl e⟩
theorem acr {o:aj} {l:List aa} {d:aa} {x:ai} (hw:WOk l x) (hl:∀ d,d∈l→bf d=0) (hf:FOk o l x):FOk o l (br l d x).2:=by
 have nw:∀ {y:ai},y.wish= -1→(0≤y.wish→aF (gd l y)=3→cG o≤cZ (gd l y)):=fun e h=>by rw[e] at h;omega
 unfold br
 by_cases h1:x.wish<0
 ·rw[ajO h1];exact hf
 rw[ajN h1]
 obtain⟨w,hw1,hw2⟩:=hw.kind (by omega)
 have hwe:=iZ hw1
 have hfw:=hf.wish (by omega)
 rw[hwe] at hfw
 rw[hwe]
 obtain⟨_,_,_,hk,_,_,hu⟩:=bz (hl w (aiz hw1))
 obtain⟨_,up,uu,_⟩:=cR hu
 by_cases h2:dNo w≠dTo d
 ·rw[ajO h2];exact hf
 rw[ajN h2]
 by_cases h3:aF d=5
 ·rw[ajO h3]
  by_cases k2:aF w=2
  ·rw[ajO k2]
   split
   ·exact hf
   ·exact⟨hf.art,hf.unit,hf.pr,hf.due,nw rfl,hf.off⟩
  ·rw[ajN k2]
   by_cases k1:aF w=1
   ·rw[ajO k1];exact⟨hf.art,hf.unit,hf.pr,hf.due,nw rfl,hf.off⟩
   ·rw[ajN k1]
    by_cases k3:aF w=3
    ·rw[ajO k3]
     have hd:=OH (uu (by unfold usU;exact ajG (.inr (.inl k3))))
     exact⟨hf.art,hf.unit,hf.pr,⟨hfw k3,hd.2⟩,nw rfl,hf.off⟩
    ·rw[ajN k3]
     have hk':1≤aF w∧aF w≤11:=hk
     exact⟨hf.art,hf.unit,up (by unfold usP;exact ajG (.inr (by omega))),hf.due,nw rfl,hf.off⟩
 ·rw[ajN h3];exact⟨hf.art,hf.unit,hf.pr,hf.due,nw rfl,hf.off⟩
theorem afx {o:aj} {l:List aa} {ext:Int} {d:aa} {x:ai} (hf:FOk o l x):FOk o l (cm ext d x).2:=by
 unfold cm
 split
 ·split
  ·exact hf
  ·split
   ·exact hf
   ·exact⟨hf.art,hf.unit,hf.pr,hf.due,hf.wish,hf.off⟩
 ·split
  ·split
   ·exact hf
   ·exact⟨hf.art,hf.unit,hf.pr,hf.due,hf.wish,hf.off⟩
  ·split
   ·exact hf
   ·exact⟨hf.art,hf.unit,hf.pr,hf.due,hf.wish,hf.off⟩
theorem afQ {o:aj} {l:List aa} {i:Nat} {d:aa} {x:ai} (hw:WOk l x) (hl:∀ d,d∈l→bf d=0) (hd:l[i]? =some d) (hf:FOk o l x):FOk o l (aV o l i d x).2:=by
 have ha:=acr (d:=d) hw hl hf
 have hm:=afx (ext:=bX o) (d:=d) hf
 obtain⟨_,_,_,hk,_,_,hu⟩:=bz (hl d (aiz hd))
 obtain⟨_,_,uu,_⟩:=cR hu
 unfold aV
 split
 ·unfold oV
  split
  ·exact hf
  ·rename_i h1
   split
   ·exact hf
   ·refine⟨hf.art,hf.unit,hf.pr,hf.due,fun _ h3=> ?_,hf.off⟩
    have e:gd l { x with wish:=(i:Int) }=d:=iZ (x:={ x with wish:=(i:Int) }) (by show l[((i:Int)).toNat]? =some d;simpa using hd)
    rw[e] at h3 ⊢
    rcases Int.lt_or_le (cZ d) (cG o) with h | h
    ·exact absurd ⟨h3,h⟩ h1
    ·exact h
 ·split
  ·split
   ·exact ha.clr
   ·exact ha
  ·split
   ·rename_i k7
    split
    ·rename_i h0
     have hd:=OH (uu (by unfold usU;exact ajG (.inr (.inr k7))))
     refine⟨hf.art,hf.unit,hf.pr,hf.due,hf.wish,fun _=>⟨?_,hd.2⟩⟩
     unfold kR at h0
     split at h0
     ·cases h0
     ·show cG o≤cZ d
      omega
    ·exact hf
   ·split
    ·unfold Bi
     split
     ·exact hf
     ·split
      ·exact hf
      ·rename_i h0
       have:=hf.off (fun e=>h0 (.inl e))
       exact⟨hf.art,hf.unit,hf.pr,this,hf.wish,fun e=>absurd rfl e⟩
    ·split
     ·split
      ·exact hm.clr
      ·exact hm
     ·exact hm
theorem ae8 {o:aj} {l:List aa} {i:Nat} {d:aa} {A:List ai} (hA:Good l A) (hF:∀ x,x∈A→FOk o l x) (hl:∀ d,d∈l→bf d=0) (hd:l[i]? =some d):∀ x,x∈(bN o l i d A).2→FOk o l x:=by
 unfold bN
 by_cases k1:aF d=1
 ·rw[ajO k1]
  split
  ·exact hF
  ·split
   ·exact hF
   ·split
    ·exact hF
    ·rename_i h5 h6
     intro x hx
     rcases aip.1 hx with hx | hx
     ·exact hF x hx
     ·simp only[aiD] at hx
      subst hx
      obtain⟨_,_,_,_,_,_,hu⟩:=bz (hl d (aiz hd))
      obtain⟨_,up,uu,ua,_⟩:=cR hu
      have hdy:=OH (uu (by unfold usU;exact ajG (.inl k1)))
      obtain⟨a1,a2⟩:=ua (by unfold usA;exact ajG k1)
      refine⟨a1,a2,up (by unfold usP;exact ajG (.inl k1)),⟨by show cG o≤cZ d;omega,hdy.2⟩,fun _ h3=> ?_,fun e=>absurd rfl e⟩
      have e:gd l (fY i d)=d:=iZ (x:=fY i d) (by show l[((i:Int)).toNat]? =some d;simpa using hd)
      rw[e,k1] at h3;cases h3
 ·rw[ajN k1]
  split
  ·exact hF
  ·split
   ·rename_i y hy
    intro x hx
    rcases aiB hx with hx | hx
    ·exact hF x hx
    ·subst hx
     have hm:=aiz hy
     exact afQ (hA.sound.line y hm).2 hl hd (hF y hm)
   ·exact hF
theorem agh {o:aj} {l:List aa} {wt day:Int} (hl:∀ d,d∈l→bf d=0):∀ (r:List aa) (i:Nat) (A:List ai) (ref:List (Int×Int)) (pts:List aC),l.drop i=r→Good l A→(∀ x,x∈A→FOk o l x)→
 ∀ x,x∈(gV o l wt day r i A ref pts).1→FOk o l x:=by
 intro r
 induction r with
 | nil=>intro i A ref pts _ hA hI;exact hI
 | cons d r ih=>
  intro i A ref pts hdr hA hI
  have hd:l[i]? =some d:=by
   have:=congrArg (·[0]?) hdr
   simpa [ahW] using this
  have hr':l.drop (i+1)=r:=by
   have:=congrArg List.tail hdr
   simpa [aiN] using this
  have hgood:=wL (o:=o) hA hl hd
  have hids:=ae8 (o:=o) hA hI hl hd
  simp only[gV]
  split
  ·exact hI
  ·split
   ·exact ih (i+1) _ _ _ hr' hgood hids
   ·exact ih (i+1) _ _ _ hr' hgood hids
theorem afv {o:aj} (ho:jI o=0) (l:List aa):∀ x,x∈jm o→FOk o l x:=by
 obtain⟨_,_,_,_,hgo,_⟩:=nH ho
 obtain⟨hln,_,_⟩:=mL hgo
 intro x hx
 obtain⟨q,hq,rfl⟩:=aiy.1 hx
 obtain⟨h1,_,h3,h4,_,h6⟩:=hln q hq
 exact⟨h1,h3,h4,h6,fun h=>by have:(0:Int)≤ -1:=h;omega,fun e=>absurd rfl e⟩
theorem afT {o:aj} {l:List aa} (h:dX o l=0) (wt day:Int):∀ x,x∈(fe o l wt day).1→FOk o l x:=by
 obtain⟨h1,h2⟩:=pQ h
 obtain⟨h3,h4⟩:=iM h2
 exact agh h4 l 0 _ [] [] rfl (wR h1 l) (afv h1 l)
def uA:aj:=([],[],[],0,0,[])
end Go.Md
namespace Go.Md
open Go.Dn
def nxt (l:List aa) (b n:Int):Int:=l.foldl (fun n d=>if d.2.1=b then w64 (d.2.2.1+1) else n) n
def wS (l:List aa) (b:Int):Int:=nxt l b 1
theorem YS (l:List aa) (b n:Int) (d:aa):nxt (l++[d]) b n=if d.2.1=b then w64 (d.2.2.1+1) else nxt l b n:=by
 unfold nxt
 rw[ahQ];rfl
theorem Ch (l:List aa) (b n:Int) (d:aa):nxt (d::l) b n=nxt l b (if d.2.1=b then w64 (d.2.2.1+1) else n):=rfl
theorem VC (l:List aa) (b:Int) (hl:l.length≤2000):AJ l b=some (wS l b,()):=by
 unfold AJ
 have:∀ n,l.length<n→iter (X:=qh) (β:=uS) n (b,1,l,(l.length:Int),0,()) uR=some (Sum.inr (wS l b,())):=by
  intro n hn
  refine bS (Inv:=fun i X=>X=((b,nxt (l.take i) b 1,l,(l.length:Int),(i:Int),()):qh)) l.length (fun z=>z=some (Sum.inr (wS l b,()))) ?_ ?_ n 0 _ rfl (ajo _) (by omega)
  ·rintro i X again hi rfl hag
   unfold uR
   dsimp only
   obtain⟨y,hy⟩:∃ y,l[i]? =some y:=⟨l[i],ahX hi⟩
   rw[ajG (show (i:Int)<(l.length:Int) by omega),ajC,bR hy,ajq,av (n:=(i:Int)+1) (by omega) (by omega)]
   have e:=YS (l.take i) b 1 y
   rw[← gG hy] at e
   by_cases h:y.2.1=b
   ·rw[show (y.2.1==b)=true by simpa using h,ajC]
    rw[ajO h] at e
    rw[← e]
    exact hag _ rfl
   ·rw[cr h,ajB]
    rw[ajN h] at e
    rw[← e]
    exact hag _ rfl
  ·rintro X again rfl
   unfold uR
   dsimp only
   rw[ajE (show ¬(l.length:Int)<(l.length:Int) by omega),ajB,aiS]
   rfl
 rw[this (Int.natAbs b+(Int.natAbs (1:Int)+(List.length l+(Int.natAbs ((List.length l:Int))+(Int.natAbs (0:Int)+2))))) (by omega)]
 rfl
theorem Gg {d':aa} (hd':bf d'=0):∀ (r:List aa) (p:Option aa) (nb ns:Int),cu r p nb ns=0→(∀ q,(r.getLast?.or p)=some q→dCw q d'<0)→
 (d'.2.1=1→d'.2.2.1=nxt r 1 (w64 (nb+1)))→(d'.2.1≠1→d'.2.2.1=nxt r 2 (w64 (ns+1)))→cu (r++[d']) p nb ns=0
 | [],p,nb,ns,_,hq,h1,h2=>by
  simp only[aiE,cu]
  rw[ajN (fun e=>e hd')]
  have hp:¬((p.any fun q=>decide (0≤dCw q d'))=true):=by
   cases p with
   | none=>simp
   | some q=>
    have:=hq q rfl
    intro e
    have:=ajU (p:=0≤dCw q d') e
    omega
  rw[ajN hp]
  split
  ·rename_i e;rw[ajN (fun h=>h (h1 e))]
  ·rename_i e;rw[ajN (fun h=>h (h2 e))]
 | d::r,p,nb,ns,h,hq,h1,h2=>by
  simp only[cu] at h
  simp only[ahz,cu]
  by_cases hf:bf d=0
  rotate_left
  ·rw[ajO hf] at h;exact absurd h hf
  rw[ajN (fun e=>e hf)] at h ⊢
  by_cases hpp:(p.any fun q=>decide (0≤dCw q d))=true
  ·rw[ajO hpp] at h;cases h
  rw[ajN hpp] at h ⊢
  have hq':∀ q,(r.getLast?.or (some d))=some q→dCw q d'<0:=fun q e=>hq q (by
   rw[List.getLast?_cons]
   cases hr:r.getLast? with
   | none=>rw[hr] at e;simpa using e
   | some z=>rw[hr] at e;simpa using e)
  obtain⟨_,d2,_⟩:=bz hf
  by_cases hb:d.2.1=1
  ·rw[ajO hb] at h ⊢
   by_cases hn:d.2.2.1=w64 (nb+1)
   ·rw[ajN (fun e=>e hn)] at h ⊢
    refine Gg hd' r (some d) _ _ h hq' (fun e=> ?_) (fun e=> ?_)
    ·rw[h1 e,Ch,ajO hb]
    ·rw[h2 e,Ch,ajN (by omega)]
   ·rw[ajO hn] at h;cases h
  ·rw[ajN hb] at h ⊢
   by_cases hn:d.2.2.1=w64 (ns+1)
   ·rw[ajN (fun e=>e hn)] at h ⊢
    refine Gg hd' r (some d) _ _ h hq' (fun e=> ?_) (fun e=> ?_)
    ·rw[h1 e,Ch,ajN hb]
    ·rw[h2 e,Ch,ajO (by omega)]
   ·rw[ajO hn] at h;cases h
theorem IT:∀ (r:List aa) (p:Option aa) (nb ns:Int),cu r p nb ns=0→0≤ns→ns≤2000→1≤nxt r 2 (w64 (ns+1))∧nxt r 2 (w64 (ns+1))≤ns+1+r.length
 | [],p,nb,ns,_,h0,h1=>by
  show 1≤w64 (ns+1)∧w64 (ns+1)≤ns+1+((0:Nat):Int)
  rw[av (by omega) (by omega)];omega
 | d::r,p,nb,ns,h,h0,h1=>by
  simp only[cu] at h
  by_cases hf:bf d=0
  rotate_left
  ·rw[ajO hf] at h;exact absurd h hf
  rw[ajN (fun e=>e hf)] at h
  by_cases hpp:(p.any fun q=>decide (0≤dCw q d))=true
  ·rw[ajO hpp] at h;cases h
  rw[ajN hpp] at h
  obtain⟨_,d2,d3,_⟩:=bz hf
  rw[Ch,aia]
  by_cases hb:d.2.1=1
  ·rw[ajO hb] at h
   rw[ajN (by omega)]
   by_cases hn:d.2.2.1=w64 (nb+1)
   ·rw[ajN (fun e=>e hn)] at h
    have:=IT r _ _ _ h h0 h1
    omega
   ·rw[ajO hn] at h;cases h
  ·rw[ajN hb] at h
   rw[ajO (by omega)]
   by_cases hn:d.2.2.1=w64 (ns+1)
   ·rw[ajN (fun e=>e hn)] at h
    have:=IT r _ _ _ h (by omega) (by omega)
    rw[av (n:=ns+1) (by omega) (by omega)] at hn
    omega
   ·rw[ajO hn] at h;cases h
theorem acP {day n k ln to:Int} (h1:1≤day∧day≤3652059) (h2:1≤n∧n≤2000) (h3:k=5∨k=6) (h4:1≤ln∧ln≤99999) (h5:1≤to∧to≤2000):bf (day,2,n,k,ln,[],(0,0),[],(0,0),0,to)=0:=by
 unfold bf
 dsimp only
 rw[ajN (fun e=>e h1),ajN (by omega),ajN (fun e=>e h2),ajN (by omega),ajN (fun e=>e ⟨fun _=>rfl,fun _=>by omega⟩),ajN (fun e=>e h4)]
 unfold C7
 dsimp only
 have hi:Cb to=true:=ajG h5
 rcases h3 with rfl | rfl<;>(unfold PD;rw[hi];rfl)
theorem abi {o:aj} {l:List aa} (h:dX o l=0) (hlen:l.length<2000) {day k ln to:Int} (h1:1≤day∧day≤3652059) (hlast:∀ q,l.getLast? =some q→q.1≤day) (h3:k=5∨k=6) (h4:1≤ln∧ln≤99999) (h5:1≤to∧to≤2000):
 gM (l++[(day,2,wS l 2,k,ln,[],(0,0),[],(0,0),0,to)])=0:=by
 obtain⟨_,g2⟩:=pQ h
 obtain⟨g3,g4⟩:=iM g2
 have hgo:cu l none 0 0=0:=by
  unfold gM at g2
  rwa [ajN (by omega)] at g2
 have hc:=IT l none 0 0 hgo (by omega) (by omega)
 have hz:wS l 2=nxt l 2 (w64 (0+1)):=rfl
 rw[← hz] at hc
 have hd':=acP (k:=k) h1 (show 1≤wS l 2∧wS l 2≤2000 by omega) h3 h4 h5
 unfold gM
 rw[ajN (by simp;omega)]
 refine Gg hd' l none 0 0 hgo (fun q hq=> ?_) (fun e=>absurd (show (2:Int)=1 from e) (by omega)) (fun _=>rfl)
 have hq':l.getLast? =some q:=by cases hl:l.getLast? <;>(rw[hl] at hq;first | (simp at hq;done) | simpa using hq)
 have hqm:=List.mem_of_getLast? hq'
 have hqf:=g4 q hqm
 obtain⟨q1,q2,q3,_⟩:=bz hqf
 have:=hlast q hq'
 rw[acN hqf hd']
 unfold Lex
 show ¬(day<q.1∨(day=q.1∧(2<q.2.1∨(2=q.2.1∧wS l 2≤q.2.2.1))))
 by_cases hb:q.2.1=2
 ·have e:wS l 2=w64 (q.2.2.1+1):=by
   obtain⟨ys,hys⟩:=List.getLast?_eq_some_iff.1 hq'
   have:=YS ys 2 1 q
   rw[ajO hb] at this
   rw[← this, ← hys];rfl
  rw[av (by omega) (by omega)] at e
  omega
 ·omega
def wsh (x:ai):Bool:=decide (0≤x.wish)
def oZ (A:List ai):List Int:=((aH A).filter wsh).map ai.wish
theorem ad4 (A:List ai):(oZ A).length=A.countP wsh:=by
 unfold oZ
 rw[aid, ← List.countP_eq_length_filter]
 exact (bG A).countP_eq wsh
def VT (l:List Int):List Int:=l.mergeSort fun x y=>decide (x≤y)
theorem VB (o:aj) (l:List aa) (day:Int):CG o l day=some (if lnF o l day=0 then VT (oZ (fe o l 0 day).1) else [],lnF o l day,()):=by
 have nq:maxLen=9223372036854775807:=rfl
 unfold CG
 rw[Ew]
 unfold lnF
 by_cases h:dX o l=0
 rotate_left
 ·rw[ajO (show dX o l≠0 from h),ajO (show dX o l≠0 from h)]
  show (bif dX o l != 0 then _ else _)=_
  rw[cI h,ajC,ajN h]
 rw[ajN (show ¬dX o l≠0 from fun e=>e h),ajN (show ¬dX o l≠0 from fun e=>e h)]
 by_cases hd:1≤day∧day≤3652059
 rotate_left
 ·rw[ajO hd,ajN hd];rfl
 rw[ajN (show ¬¬(1≤day∧day≤3652059) from fun e=>e hd),ajO hd,ajO rfl]
 refine Eq.trans LY ?_
 rw[Js h hd,ajq]
 dsimp only
 rw[zne,ajB]
 obtain⟨hg,hI⟩:=nQ h 0 day
 rw[oa hI o l,ajq]
 generalize (fe o l 0 day).1=A at hg hI
 have hSl:(aH A).length≤500:=by rw[(bG A).length_eq];exact hI.len
 have hHl:(o7 A).length=(aH A).length:=by unfold o7;rw[aid]
 dsimp only
 rw[hHl]
 have loop:∀ n,(aH A).length<n→iter (X:=rI) (β:=wX) n ([],((aH A).length:Int),0,o7 A,A.map ai.tup,()) wW=some (Sum.inr (oZ A,A.map ai.tup,())):=by
  intro n hn
  refine bS (Inv:=fun i X=>X=(((((aH A).take i).filter wsh).map ai.wish,((aH A).length:Int),(i:Int),o7 A,A.map ai.tup,()):rI)) (aH A).length (fun z=>z=some (Sum.inr (oZ A,A.map ai.tup,()))) ?_ ?_ n 0 _ rfl (ajo _) (by omega)
  ·rintro i X again hi rfl hag
   unfold wW
   dsimp only
   obtain⟨x,hx⟩:∃ y,(aH A)[i]? =some y:=⟨(aH A)[i],ahX hi⟩
   obtain⟨k,hk,hkx,_,_⟩:=OB hg hI hx
   have hlen:((((aH A).take i).filter wsh).map ai.wish).length≤i:=by
    rw[aid]
    have:=aic wsh ((aH A).take i)
    rw[aik] at this
    omega
   have e:(aH A).take (i+1)=(aH A).take i++[x]:=by rw[aiO,hx];rfl
   rw[ajG (show (i:Int)<((aH A).length:Int) by omega),ajC,hHl,bK (by simp;omega),ahs,hk,ajq,ajq,fV hkx,ajq]
   dsimp only
   by_cases h0:0≤x.wish
   ·rw[ajG (show x.wish≥0 from h0),ajC,ajq,fV hkx,ajq,bK (by
     rw[agW];exact⟨ajG (by omega),ajG (by omega)⟩),av (n:=(i:Int)+1) (by omega) (by omega)]
    have e2:(((aH A).take i).filter wsh).map ai.wish++[x.wish]=(((aH A).take (i+1)).filter wsh).map ai.wish:=by
     rw[e,ahK,ail,ahL,ajO (show wsh x=true from ajG h0)];rfl
    rw[e2]
    exact hag _ rfl
   ·rw[ajE (show ¬x.wish≥0 from h0),ajB,av (n:=(i:Int)+1) (by omega) (by omega)]
    have e2:(((aH A).take i).filter wsh).map ai.wish=(((aH A).take (i+1)).filter wsh).map ai.wish:=by
     rw[e,ahK,ahL,ajN (show ¬wsh x=true from fun h=>h0 (ajU h)),ahN,ahy]
    rw[e2]
    exact hag _ rfl
  ·rintro X again rfl
   unfold wW
   dsimp only
   rw[ajE (show ¬((aH A).length:Int)<((aH A).length:Int) by omega),ajB,aiT (ai5 _)]
   rfl
 rw[loop _ (by simp only[aie,ahk];omega),aK]
 dsimp only
 have hl:(oZ A).length<4294967296:=by
  have:=List.countP_le_length (p:=wsh) (l:=A)
  have:=hI.len
  rw[ad4];omega
 have hs:slices_Sort_int (oZ A)=some (VT (oZ A),()):=by
  show (bif decide ((oZ A).length<4294967296) then _ else _)=_
  rw[ajG hl];rfl
 rw[hs];rfl
end Go.Md
namespace Go.Md
open Go.Dn
abbrev isB (to:Int) (d:aa):Bool:=decide (d.2.1=1∧d.2.2.1=to)
def Ca (l:List aa) (to:Int):Option Nat:=l.findIdx? (isB to)
theorem Ij {l:List aa} {to:Int} {i:Nat} (h:Ca l to=some i):∃ w,l[i]? =some w∧w.2.1=1∧w.2.2.1=to:=by
 obtain⟨h1,h2,_⟩:=ahP.1 h
 exact⟨l[i],ahX h1,ajU h2⟩
theorem QJ (d:aa) (to:Int):wV d to=some (isB to d,()):=by
 unfold wV isB
 by_cases h1:d.2.1=1
 ·rw[show (d.2.1==1)=true by simpa using h1,ajC,ajq]
  by_cases h2:d.2.2.1=to
  ·rw[ajG ⟨h1,h2⟩,show (d.2.2.1==to)=true by simpa using h2]
  ·rw[ajE (fun h=>h2 h.2),cr h2]
 ·rw[cr h1,ajB,ajq,ajE (fun h=>h1 h.1)]
theorem Hl (l:List aa) (to:Int) (hl:l.length≤2000):jG l to=some (match Ca l to with | some i=>(i:Int) | none=> -1,()):=by
 unfold jG
 have:∀ n,l.length<n→iter (X:=fR) (β:=ir) n (l,to,(l.length:Int),0,()) iq=some (match Ca l to with | some i=>Sum.inl ((i:Int),()) | none=>Sum.inr ()):=by
  intro n hn
  refine bS (Inv:=fun i X=>X=((l,to,(l.length:Int),(i:Int),()):fR)∧∀ j,j<i→∀ w,l[j]? =some w→¬isB to w=true) l.length (fun z=>z=some (match Ca l to with | some i=>Sum.inl ((i:Int),()) | none=>Sum.inr ())) ?_ ?_ n 0 _ ⟨rfl,fun j hj=>absurd hj (aji _)⟩ (ajo _) (by omega)
  ·rintro i X again hi ⟨rfl,hno⟩ hag
   unfold iq
   dsimp only
   obtain⟨y,hy⟩:∃ y,l[i]? =some y:=⟨l[i],ahX hi⟩
   rw[ajG (show (i:Int)<(l.length:Int) by omega),ajC,bR hy,ajq,QJ,ajq]
   dsimp only
   cases hb:isB to y
   ·rw[ajB,av (n:=(i:Int)+1) (by omega) (by omega)]
    refine hag _ ⟨rfl,fun j hj w hw=> ?_⟩
    by_cases e:j=i
    ·subst e;rw[hy] at hw;cases hw;rw[hb];nofun
    ·exact hno j (by omega) w hw
   ·rw[ajC]
    have:Ca l to=some i:=ahP.2 ⟨hi,by
     have e:l[i]=y:=by have:=ahX hi;rw[hy] at this;exact (Option.some.inj this).symm
     rw[e];exact hb,fun j hj=>hno j hj _ (ahX (by omega))⟩
    rw[this]
  ·rintro X again ⟨rfl,hno⟩
   unfold iq
   dsimp only
   rw[ajE (show ¬(l.length:Int)<(l.length:Int) by omega),ajB]
   have:Ca l to=none:=ahO.2 fun w hw=>by
    obtain⟨j,hj⟩:=aix.1 hw
    exact Bool.eq_false_iff.2 (hno j (ahZ.1 hj).1 w hj)
   rw[this]
 rw[this _ (by omega)]
 cases Ca l to<;>rfl
def d0:aa:=(0,0,0,0,0,[],(0,0),[],(0,0),0,0)
abbrev mH (l:List aa) (day k ln to:Int):aa:=(day,2,wS l 2,k,ln,[],(0,0),[],(0,0),0,to)
def US (o:aj) (l:List aa) (day to:Int):aa×Int:=
 if dX o l≠0 then (d0,dX o l)
 else if ¬(1≤day∧day≤3652059) then (d0,1)
 else if (l.getLast?.any fun q=>decide (day<q.1))=true then (d0,8)
 else match Ca l to with
 | none=>(d0,5)
 | some i=>match l[i]? with
  | none=>(d0,5)
  | some w=>match jD (bA w) (fe o l 0 3652059).1 with
   | none=>(d0,5)
   | some x=>
    if x.wish≠(i:Int) then (d0,5)
    else if 2000≤l.length then (d0,2)
    else if usU (aF w)=true∧cZ w<day then (mH l day 6 (bA w) to,0)
    else if (br l (mH l day 5 (bA w) to) x).1≠0 then (mH l day 6 (bA w) to,0)
    else (mH l day 5 (bA w) to,0)
theorem aaN (l:List aa) (day:Int) (hl:l.length≤2000):(bif decide (((List.length l:Int))>0) then
 Option.bind (idx l (w64 (((List.length l:Int)) - 1))) fun y3=>
 some (decide (day<y3.1),())
 else
  some (false,()))=some (l.getLast?.any fun q=>decide (day<q.1),()):=by
 by_cases h:l=[]
 ·subst h;rfl
 ·have h0:0<l.length:=List.length_pos_iff.2 h
  obtain⟨q,hq⟩:∃ q,l[l.length - 1]? =some q:=⟨l[l.length - 1],ahX (by omega)⟩
  rw[ajG (show ((l.length:Int))>0 by omega),ajC,av (n:=(l.length:Int) - 1) (by omega) (by omega),show (l.length:Int) - 1=((l.length - 1:Nat):Int) by omega,bR hq,List.getLast?_eq_getElem?,hq]
  rfl
theorem Ui (o:aj) (l:List aa) (day to:Int):AF o l day to=some ((US o l day to).1,(US o l day to).2,()):=by
 unfold AF US
 rw[zh,ajq]
 dsimp only
 by_cases h:dX o l=0
 rotate_left
 ·rw[show ((if jI o≠0 then jI o else gM l) != 0)=true from cI h,ajC,ajO h];rfl
 rw[show (if jI o≠0 then jI o else gM l)=0 from h,zne,ajB,ajN (show ¬dX o l≠0 from fun e=>e h),rz,ajq]
 dsimp only
 obtain⟨h1,h2⟩:=pQ h
 obtain⟨h3,h4⟩:=iM h2
 by_cases hday:1≤day∧day≤3652059
 rotate_left
 ·rw[ajE hday,ag6,ajC,ajO hday];rfl
 rw[ajG hday,ag7,ajB,ajN (show ¬¬(1≤day∧day≤3652059) from fun e=>e hday),aaN l day h3,ajq]
 dsimp only
 cases hla:l.getLast?.any fun q=>decide (day<q.1)
 rotate_left
 ·rw[ajC,ajO rfl];rfl
 rw[ajB,ajN (show ¬false=true by nofun)]
 obtain⟨_,e1,e2,_⟩:=start_eq h 0 3652059
 rw[e1,ajq]
 dsimp only
 rw[e2,ajq,Hl l to h3,ajq]
 dsimp only
 obtain⟨hg,hI⟩:=nQ h 0 3652059
 generalize (fe o l 0 3652059).1=A at hg hI
 generalize (fe o l 0 3652059).2.1=ref
 generalize (fe o l 0 3652059).2.2=pts
 cases hix:Ca l to with
 | none=>rfl
 | some i=>
  obtain⟨w,hw,w1,w2⟩:=Ij hix
  dsimp only
  rw[ajE (show ¬(i:Int)<0 by omega),ajB,bR hw,ajq,hw]
  dsimp only
  rw[gv]
  unfold jD
  cases hf:dH (bA w) A with
  | none=>rw[show bU w.2.2.2.2.1 0 A=none from hf];rfl
  | some k=>
   obtain⟨x,hx,hxn⟩:=pU hf
   rw[show bU w.2.2.2.2.1 0 A=some k from hf,show Option.isNone (some k)=false from rfl,ajB,ajq,gv,show bU w.2.2.2.2.1 0 A=some k from hf,ajq,fV hx,ajq,ajq,show ((some k).bind fun k=>A[k]?)=some x from hx]
   dsimp only
   by_cases hwi:x.wish=(i:Int)
   rotate_left
   ·rw[cI hwi,ajC,ajO hwi];rfl
   rw[ajN (show ¬x.wish≠(i:Int) from fun e=>e hwi),show (x.wish != (i:Int))=false by rw[hwi];simp,ajB]
   by_cases hlen:2000≤l.length
   ·rw[ajO hlen,ajG (show (l.length:Int)≥2000 by omega),ajC];rfl
   rw[ajN hlen,ajE (show ¬(l.length:Int)≥2000 by omega),ajB,VC l 2 h3,ajq,It,ajq]
   dsimp only
   obtain⟨hx1,hx2⟩:=hg.sound.line x (aiz hx)
   have hv:(bif usU w.2.2.2.1 then some (decide (w.2.2.2.2.2.2.2.2.2.1<day),()) else some (false,()))=some (decide (usU (aF w)=true∧cZ w<day),()):=by
    show (bif usU (aF w) then some (decide (cZ w<day),()) else some (false,()))=_
    cases usU (aF w)
    ·simp
    ·simp
   rw[hv,ajq]
   by_cases hu:usU (aF w)=true∧cZ w<day
   ·rw[ajG hu,ajC,ajO hu]
   rw[ajE hu,ajB,ajN hu,gv,show bU w.2.2.2.2.1 0 A=some k from hf,nZ hx hx1 hx2 h4,ajq]
   dsimp only
   by_cases ha:(br l (mH l day 5 (bA w) to) x).1=0
   ·rw[ajN (fun e=>e ha),show ((br l (day,2,wS l 2,5,w.2.2.2.2.1,[],(0,0),[],(0,0),0,to) x).1 != 0)=false by
     show ((br l (mH l day 5 (bA w) to) x).1 != 0)=false
     rw[ha];rfl,ajB]
   ·rw[ajO ha,show ((br l (day,2,wS l 2,5,w.2.2.2.2.1,[],(0,0),[],(0,0),0,to) x).1 != 0)=true from cI ha,ajC]
end Go.Md
set_option linter.all false
namespace Go.Md
open Go.Dn
theorem age (b:Bool):((if b=true then (0:Int) else 1) != 0)= !b:=by cases b<;>rfl
theorem Uw (o:aj) (i:Nat) (x:aL) (hi:(je o)[i]? =some x) (hl:(je o).length≤500):A6 o (i:Int)=some (di (cG o) (bQ (je o) i) x,()):=by
 have hlt:i<(je o).length:=(ahZ.1 hi).1
 unfold A6
 rw[bR hi,ajq]
 simp only[ot,GS,BP,GZ,ajq,age]
 have tail:∀ (p:Option aL) (hp:(p.any fun q=>decide (x.1≤q.1))=false) (h1:1≤x.1∧x.1≤99999),
  (bif !c9 x.2.1 then some (5,()) else bif !qOk x.2.2.1 false then some (1,()) else bif !c9 x.2.2.2.1 then some (5,()) else
    bif !inR x.2.2.2.2.1 0 1000000000 4 then some (1,()) else bif !decide (cG o≤x.2.2.2.2.2∧x.2.2.2.2.2≤3652059) then some (1,()) else some (0,()))=some (di (cG o) p x,()):=fun p hp h1=>by
  unfold di
  rw[ajN (show ¬¬(1≤x.1∧x.1≤99999) from fun h=>h h1),ajN (show ¬(p.any fun q=>decide (x.1≤q.1))=true by rw[hp];exact ag1)]
  cases c9 x.2.1
  ·rfl
  ·cases qOk x.2.2.1 false
   ·rfl
   ·cases c9 x.2.2.2.1
    ·rfl
    ·cases inR x.2.2.2.2.1 0 1000000000 4
     ·rfl
     ·by_cases hd:cG o≤x.2.2.2.2.2∧x.2.2.2.2.2≤3652059
      ·simp[hd]
      ·simp[hd]
 by_cases h1:1≤x.1∧x.1≤99999
 ·rw[ajG h1,ag7,ajB]
  cases i with
  | zero=>
   rw[ajE (show ¬((0:Nat):Int)>0 by omega),ajB]
   exact tail none rfl h1
  | succ j=>
   have hq:(je o)[j]? =some (je o)[j]:=ahX (by omega)
   have e:w64 (((j+1:Nat):Int) - 1)=(j:Int):=by rw[av (by omega) (by omega)];omega
   rw[ajG (show ((j+1:Nat):Int)>0 by omega),ajC,e,bR hq,ajq]
   simp only[bQ,hq]
   by_cases h2:x.1≤(je o)[j].1
   ·rw[ajG h2,ajq]
    have:di (cG o) (some (je o)[j]) x=8:=by
     unfold di
     rw[ajN (show ¬¬(1≤x.1∧x.1≤99999) from fun h=>h h1),ajO (show (Option.any (fun q=>decide (x.1≤q.1)) (some (je o)[j]))=true from ajG h2)]
    rw[this]
    rfl
   ·rw[ajE h2,ajq]
    exact tail (some (je o)[j]) (by simp[h2]) h1
 ·rw[ajE h1,ag6,ajC]
  unfold di
  rw[ajO h1]
theorem SC (o:aj):yR o=some (jI o,()):=by
 unfold yR jI
 simp only[GS,CJ,ot,ajq]
 cases h1:c9 o.1
 ·simp[GK,h1]
 cases h2:c9 o.2.1
 ·simp[GK,GJ,h1,h2]
 cases h3:c9 o.2.2.1
 ·simp[GK,GJ,LR,h1,h2,h3]
 rw[ajN (by simp[GK,GJ,LR,h1,h2,h3])]
 simp only[ag7,ajB]
 by_cases h4:o.2.1=o.2.2.1
 ·rw[ajO h4,show (o.2.1==o.2.2.1)=true by simp[h4],ajC]
 rw[ajN h4,show (o.2.1==o.2.2.1)=false by simp[h4],ajB]
 by_cases h5:1≤o.2.2.2.1∧o.2.2.2.1≤3652059
 ·rw[ajN (by simp[cG,h5]),ajG h5,ag7,ajB]
  by_cases h6:0≤o.2.2.2.2.1∧o.2.2.2.2.1≤1000
  ·rw[ajN (by simp[bX,h6]),ajG h6,ag7,ajB]
   by_cases h7:o.2.2.2.2.2=[]
   ·rw[ajO h7,h7];rfl
   ·have h7':o.2.2.2.2.2.length≠0:=fun e=>h7 (ahI e)
    rw[ajN h7,cr (show (o.2.2.2.2.2.length:Int)≠0 by omega),ajB]
    by_cases h8:500<o.2.2.2.2.2.length
    ·rw[ajO h8,ajG (by omega),ajC]
    ·rw[ajN h8,ajE (by omega),ajB]
     have:=LJ (f:=qU) (fun (_:Unit) (i:Nat)=>(((o.2.2.2.2.2.length:Int),(i:Int),o.1,o.2.1,o.2.2.1,o.2.2.2.1,o.2.2.2.2.1,o.2.2.2.2.2,()):qV)) o.2.2.2.2.2
      (fun (_:Unit) i y k=>if di (cG o) (bQ o.2.2.2.2.2 i) y≠0 then some (Sum.inl (di (cG o) (bQ o.2.2.2.2.2 i) y,())) else k ()) (fun _=>some (Sum.inr ()))
      (fun s i y again hy=>by
        have hlt:i<o.2.2.2.2.2.length:=(ahZ.1 hy).1
        unfold qU
        dsimp only
        rw[ajG (by omega),ajC]
        have:=Uw o i y hy (by show o.2.2.2.2.2.length≤500;omega)
        rw[show ((o.1,o.2.1,o.2.2.1,o.2.2.2.1,o.2.2.2.2.1,o.2.2.2.2.2):aj)=o from rfl,this,ajq]
        dsimp only
        by_cases hf:di (cG o) (bQ o.2.2.2.2.2 i) y=0
        ·rw[ajN (by simp[hf]),show (di (cG o) (bQ (je o) i) y != 0)=false by simp[hf],ajB,av (by omega) (by omega)]
         rfl
        ·rw[ajO hf,show (di (cG o) (bQ (je o) i) y != 0)=true by simp[hf],ajC]) (fun s again=>by
        unfold qU
        dsimp only
        rw[ajE (show ¬((o.2.2.2.2.2.length:Int)<(o.2.2.2.2.2.length:Int)) by omega)];rfl) ()
     refine (congrArg (fun z=>aI (β:=(Int×Unit)) (γ:=Unit) z fun _=>some (0,())) (this _ (by omega))).trans ?_
     have e:=Et o.2.2.2.2.2 (cG o) o.2.2.2.2.2 0 () rfl
     change Gq _ _ _ 0 ()=_ at e
     refine (congrArg (fun z=>aI (β:=(Int×Unit)) (γ:=Unit) z fun _=>some (0,())) e).trans ?_
     simp only[bQ]
     by_cases h:jS (cG o) o.2.2.2.2.2 none=0
     ·rw[Om h,h];rfl
     ·rw[Ku h];rfl
  ·rw[ajO h6,ajE h6];rfl
 ·rw[ajO h5,ajE h5];rfl
section merge
variable (x y:List aa) (hx:x.length≤2000) (hy:y.length≤2000)
end merge
end Go.Md
set_option linter.all false
namespace Go.Md
open Go.Dn
theorem Td {d:ah} {n:Int} (h:l7 d n):nk d=n*1000000:=by
 have h0:=h.p0;have h3:=h.p3
 unfold nk
 rw[show (9 - d.2).toNat=(3 - d.2).toNat+6 by omega,Int.pow_add, ← ahf,h.val]
 rfl
theorem Us {d:ah} (h1:d.1.natAbs≤4000000000000000) (h2:0≤d.2) (h3:d.2≤9):Fv d 9=some (N (nk d),()):=by
 unfold Fv
 rw[Mb _ (by omega) (by omega),ajq,av (by omega) (by omega)]
 dsimp only
 obtain⟨m,hm⟩:∃ m:Nat,9 - d.2=m:=⟨(9 - d.2).toNat,by omega⟩
 rw[hm,Rx m (by omega),ajq]
 dsimp only
 have hl1:(dg6 d.1.natAbs).length≤10:=Jg (by omega)
 have hl2:(dg6 ((10:Int) ^ m).natAbs).length≤10:=by
  refine Jg ?_
  have h1:((10:Int) ^ m).natAbs=10 ^ m:=by rw[ahl];rfl
  have h2:=ajl (n:=10) (by omega) (show m≤9 by omega)
  omega
 rw[Ey _ _ (by omega) (by omega),ajq]
 unfold nk
 rw[hm];rfl
theorem A7 {a b:ah} {m n:Int} (ha:l7 a m) (hb:l7 b n):vR a b=some ((m - n).sign,()):=by
 have a1:=ha.unit;have a2:=ha.bd;have a3:=ha.p0;have a4:=ha.p3
 have b1:=hb.unit;have b2:=hb.bd;have b3:=hb.p0;have b4:=hb.p3
 have e1:=Td ha
 have e2:=Td hb
 have m1:=Jg (z:=nk a) (by omega)
 have m2:=Jg (z:=nk b) (by omega)
 unfold vR
 rw[Us (by omega) a3 (by omega),ajq,Us (by omega) b3 (by omega),ajq,WH _ _ (by omega) (by omega),e1,e2]
 have:m*1000000 - n*1000000=(m - n)*1000000:=by omega
 rw[this,Int.sign_mul,show Int.sign 1000000=1 from rfl,ahi]
 rfl
theorem rC {d:ah} {z:Bool} (h:qOk d z=true):l7 d (aR d):=by
 obtain⟨⟨h1,h2⟩,h3,h4,_⟩:=DW h
 obtain⟨u1,u2,_⟩:=l6 h
 exact⟨h1,h2,rfl,by omega⟩
theorem Wo:∀ (k p:Nat) (z:Int),few (p+k) (z*10 ^ k)=few p z
 | 0,p,z=>by simp
 | k+1,p,z=>by
  rw[← aiW,few,ajO (by rw[ahn, ← ahf];omega)]
  rw[show z*10 ^ (k+1) / 10=z*10 ^ k by rw[ahn, ← ahf];omega]
  exact Wo k p z
theorem acj {d:ah} {z:Bool} (h:qOk d z=true):bM (aR d)=qa d:=by
 obtain⟨⟨h1,h2⟩,_⟩:=DW h
 unfold bM qa aR
 have:=Wo (3 - d.2).toNat d.2.toNat d.1
 rw[show d.2.toNat+(3 - d.2).toNat=3 by omega] at this
 rw[this]
theorem Iu {d:ah} (h:d.1.natAbs≤9000000000000000000) (h0:0≤d.2) (h1:d.2≤9):gU d=some (qa d,()):=by
 have:=MZ d.1 h d.2.toNat (by omega)
 rw[show ((d.2.toNat:Nat):Int)=d.2 by omega] at this
 exact this
theorem Jx {d:ah} {z:Bool} (h:qOk d z=true):gU d=some (bM (aR d),()):=by
 obtain⟨⟨h1,h2⟩,h3,h4,_⟩:=DW h
 have hm:=(rC h).unit
 have:=(rC h).bd
 rw[acj h]
 exact Iu (by omega) h1 (by omega)
theorem Jw {d:ah} (h:inR d 0 1000000000 4=true):gU d=some (qa d,()):=by
 obtain⟨h1,h2,h3,h4⟩:=Ik h
 exact Iu (by omega) h3 h4
theorem aee {M:List ai} (hs:M.Pairwise fun x y=>x.no<y.no) {a b:ai} (ha:a∈M) (hb:b∈M) (h:a.no=b.no):a=b:=by
 obtain⟨i,hi,rfl⟩:=aiw.1 ha
 obtain⟨j,hj,rfl⟩:=aiw.1 hb
 rw[aiH] at hs
 rcases ajc i j with c | c | c
 ·have:=hs i j hi hj c;omega
 ·subst c;rfl
 ·have:=hs j i hj hi c;omega
theorem VV {A M:List ai} (hp:M.Perm A) (hs:M.Pairwise fun x y=>x.no<y.no):aH A=M:=by
 refine List.Perm.eq_of_pairwise (le:=fun x y=>x.no≤y.no) ?_ (SG A) (hs.imp fun h=>Int.le_of_lt h) ((bG A).trans hp.symm)
 intro a b ha hb h1 h2
 exact aee hs (hp.mem_iff.2 ((bG A).mem_iff.1 ha)) hb (by omega)
theorem aa1 {M:List ai}:(M.Pairwise fun x y=>x.no<y.no)↔(M.map ai.no).Pairwise (· < ·):=by rw[aiI]
theorem SE {α:Type} {x y:α}:∀ {l:List α} {j:Nat},l[j]? =some x→(x::l.set j y).Perm (y::l)
 | [],_,h=>by simp at h
 | a::l,0,h=>by cases h;exact List.Perm.swap _ _ _
 | a::l,j+1,h=>by
  have ih:=SE (x:=x) (y:=y) (l:=l) (j:=j) (by simpa using h)
  exact ((List.Perm.swap a x _).trans (ih.cons a)).trans (List.Perm.swap y a l)
theorem aeN {A:List ai} (hI:Ids A) {k j:Nat} {x y:ai} (hk:A[k]? =some x) (hj:(aH A)[j]? =some x) (hy:y.no=x.no):aH (A.set k y)=(aH A).set j y:=by
 refine VV ?_ ?_
 ·have h1:=SE (y:=y) hj
  have h2:=SE (y:=y) hk
  exact (h1.trans (((bG A).cons y).trans h2.symm)).cons_inv
 ·rw[aa1,TZ hj hy, ← aa1]
  exact VU hI
def gT (n:Int):List ai→Nat
 | []=>0
 | x::r=>if x.no<n then gT n r+1 else 0
theorem Qg (n:Int):∀ l,gT n l≤l.length
 | []=>ai5 _
 | x::r=>by
  have:=Qg n r
  simp only[gT,aia]
  split<;>omega
theorem aa5 (n:Int):∀ (l:List ai) (k:Nat) (x:ai),k<gT n l→l[k]? =some x→x.no<n
 | [],k,x,h,_=>by simp[gT] at h
 | y::r,k,x,h,hx=>by
  simp only[gT] at h
  split at h
  ·rename_i c
   cases k with
   | zero=>cases hx;exact c
   | succ k=>exact aa5 n r k x (by omega) (by simpa using hx)
  ·omega
theorem aa4 (n:Int):∀ (l:List ai) (x:ai),l[gT n l]? =some x→¬x.no<n
 | [],x,h=>by simp[gT] at h
 | y::r,x,h=>by
  simp only[gT] at h
  split at h
  ·exact aa4 n r x (by simpa using h)
  ·rename_i c;cases h;exact c
theorem aaJ {n:Int} {y:ai} (hy:y.no=n):∀ {l:List ai},(l.Pairwise fun x y=>x.no<y.no)→(∀ x,x∈l→x.no≠n)→(l.take (gT n l)++y::l.drop (gT n l)).Pairwise fun x y=>x.no<y.no
 | [],_,_=>by simp[gT]
 | x::r,hs,hn=>by
  obtain⟨s1,s2⟩:=aiG.1 hs
  simp only[gT]
  split
  ·rename_i c
   rw[aiU,List.drop_succ_cons,ahz]
   refine List.Pairwise.cons (fun z hz=> ?_) (aaJ hy s2 (fun z hz=>hn z (by simp[hz])))
   rcases aip.1 hz with hz | hz
   ·exact s1 z (List.mem_of_mem_take hz)
   ·rcases ais.1 hz with rfl | hz
    ·omega
    ·exact s1 z (aiA hz)
  ·rename_i c
   have hx:=hn x (by simp)
   rw[List.take_zero,ahG,aiE]
   refine List.Pairwise.cons (fun z hz=> ?_) hs
   rcases ais.1 hz with rfl | hz
   ·omega
   ·have:=s1 z hz;omega
theorem aeM {A:List ai} (hI:Ids A) {y:ai} (hn:∀ x,x∈A→x.no≠y.no):aH (A++[y])=(aH A).take (gT y.no (aH A))++y::(aH A).drop (gT y.no (aH A)):=by
 refine VV ?_ (aaJ rfl (VU hI) fun x hx=>hn x ((bG A).mem_iff.1 hx))
 refine List.perm_middle.trans ?_
 rw[aiP]
 exact ((bG A).cons y).trans (List.perm_append_singleton y A).symm
end Go.Md
