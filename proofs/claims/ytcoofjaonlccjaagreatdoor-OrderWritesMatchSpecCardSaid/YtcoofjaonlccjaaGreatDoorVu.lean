/-
  Plain facts: the lines by their numbers; quantities. No condition.
-/
import Derived.Test.YtcoofjaonlccjaaGreatDoorVt
import Derived.Test.YtcoofjaonlccjaaGreatDoorVx
set_option linter.all false
namespace Go.Md
open Go.Dn
structure Ids (A:List aj):Prop where
 nd:(A.map aj.no).Nodup
 rg:∀ x,x∈A→1≤x.no∧x.no≤99999
 len:A.length≤500
 ne:A≠[]
theorem DR {n:Int}:∀ {A:List aj} {i:Nat},bR n i A=none→n∉A.map aj.no
 | [],_,_=>by simp
 | x::r,i,h=>by
  simp only [bR] at h
  by_cases hx:n=x.no
  ·rw [if_pos hx] at h;cases h
  ·rw [if_neg hx] at h
   have:=DR h
   simp only [aaD,aaH,abT]
   exact ⟨hx,this⟩
theorem NY {A:List aj} {k:Nat} {y x:aj} (hx:A[k]? =some x) (h:y.no=x.no):(A.set k y).map aj.no=A.map aj.no:=by
 rw [List.map_set]
 refine aae fun i=> ?_
 rw [aan]
 split
 ·rename_i e
  subst e
  have hl:=(List.getElem?_eq_some_iff.1 hx).1
  simp only [aaw,hl,abP,List.getElem?_map,hx,abB,h]
 ·rfl
theorem VX {o:ai} {l:List aa} {i:Nat} {d:aa} {A:List aj} (hA:Good l A) (hI:Ids A) (hl:∀ d,d∈l→aY d=0) (hd:l[i]? =some d):Ids (bg o l i d A).2:=by
 unfold bg
 by_cases k1:aG d=1
 ·rw [if_pos k1]
  split
  ·exact hI
  ·rename_i hf
   split
   ·exact hI
   ·split
    ·exact hI
    ·rename_i h5 _
     obtain ⟨_,_,_,_,_,hln,_⟩:=bz (hl d (List.mem_of_getElem? hd))
     refine ⟨?_,fun x hx=> ?_, ?_,by simp⟩
     ·rw [aaB,List.nodup_append]
      refine ⟨hI.nd,by simp,fun a ha b hb e=> ?_⟩
      simp only [aaD,List.map_nil,aaP] at hb
      subst hb;subst e
      exact DR hf ha
     ·rcases aaE.1 hx with hx | hx
      ·exact hI.rg x hx
      ·simp only [aaP] at hx
       subst hx
       exact hln
     ·rw [aat]
      show A.length+1≤500
      omega
 ·rw [if_neg k1]
  split
  ·exact hI
  ·rename_i k hk
   split
   ·rename_i x hx
    obtain ⟨h1,h2⟩:=hA.sound.line x (List.mem_of_getElem? hx)
    obtain ⟨_,_,a3,_⟩:=BN (o:=o) h1 h2 hl hd
    refine ⟨by rw [NY hx a3];exact hI.nd,fun y hy=> ?_,by rw [aaz];exact hI.len,fun e=>hI.ne (by simpa using e)⟩
    rcases aaN hy with hy | hy
    ·exact hI.rg y hy
    ·subst hy;rw [a3];exact hI.rg x (List.mem_of_getElem? hx)
   ·exact hI
theorem Qi {o:ai} (ho:iu o=0):Ids (ef o):=by
 obtain ⟨_,_,hlen,hne,hgo,_⟩:=r0 ho
 obtain ⟨hln,_,hpw⟩:=mz hgo
 refine ⟨?_,fun x hx=> ?_,by rw [aaw];exact hlen,fun e=>hne (by simpa using e)⟩
 ·rw [List.map_map]
  exact List.Pairwise.map _ (fun a b (h:a.1<b.1) e=>by
   have e':a.1=b.1:=e
   omega) hpw
 ·obtain ⟨q,hq,rfl⟩:=aaL.1 hx
  exact (hln q hq).2.2.2.2.1
def cI (A:List aj):List aj:=A.mergeSort fun x y=>decide (x.no≤y.no)
theorem iK (A:List aj):(cI A).Perm A:=List.mergeSort_perm A _
theorem SR (A:List aj):(cI A).Pairwise fun x y=>x.no≤y.no:=by
 have:=List.pairwise_mergeSort (le:=fun x y:aj=>decide (x.no≤y.no)) (fun a b c h1 h2=>by
  simp only [abJ] at *;omega) (fun a b=>by simp only [ZH,abJ];omega) A
 exact this.imp fun h=>by simpa using h
theorem PD {A:List aj} (hI:Ids A):(cI A).Pairwise fun x y=>x.no<y.no:=by
 have h1:=SR A
 have h2:((cI A).map aj.no).Nodup:=((iK A).map _).nodup_iff.2 hI.nd
 have h3:(cI A).Pairwise fun x y=>x.no≠y.no:=List.pairwise_map.1 h2
 exact (h1.and h3).imp fun ⟨a,b⟩=>by omega
theorem NB {n:Int}:∀ {A:List aj} {i k:Nat} {x:aj},(A.map aj.no).Nodup→A[k]? =some x→x.no=n→bR n i A=some (i+k)
 | [],_,_,_,_,h,_=>by simp at h
 | y::r,i,0,x,_,h,hn=>by
  have e:y=x:=by simpa using h
  subst e
  simp only [bR,if_pos hn.symm,aa5]
 | y::r,i,k+1,x,hnd,h,hn=>by
  have h':r[k]? =some x:=by simpa using h
  rw [aaD,List.nodup_cons] at hnd
  have hne:¬n=y.no:=fun e=>hnd.1 (by
   rw [← e, ← hn]
   exact aaL.2 ⟨x,List.mem_of_getElem? h',rfl⟩)
  simp only [bR,if_neg hne]
  rw [NB hnd.2 h' hn,show i+1+k=i+(k+1) by omega]
theorem WN {A:List aj} (hI:Ids A) {x:aj} (hx:x∈cI A):∃ k,fD x.no A=some k∧A[k]? =some x:=by
 obtain ⟨k,hk⟩:=List.getElem?_of_mem ((iK A).mem_iff.1 hx)
 exact ⟨k,by have:=NB (i:=0) hI.nd hk rfl;rwa [abu] at this,hk⟩
end Go.Md
namespace Go.Md
open Go.Dn
end Go.Md
namespace Go.Md
open Go.Dn
theorem Il (z:Int) (hz:z.natAbs≤9000000000000000000) (p:Nat) (hp:p≤1000):ff (z,(p:Int))=some (((few p z).1,((few p z).2:Int)),()):=by
 have loop:∀ (n:Nat) (z:Int) (p:Nat),z.natAbs≤9000000000000000000→p≤1000→p<n→iter (X:=xu) (β:=xq) n (z,(p:Int),0,0,()) xo=some (Sum.inr ((few p z).1,((few p z).2:Int),0,0,())):=by
  intro n
  induction n with
  | zero=>intro z p _ _ h;omega
  | succ n ih=>
   intro z p hz hp hn
   rw [dK]
   generalize hag:(fun y=>iter n y xo)=again
   unfold xo
   dsimp only
   cases p with
   | zero=>rw [bP (by omega)];rfl
   | succ p=>
    rw [bG (by omega)]
    by_cases hm:z % 10=0
    ·have h1:Int.tmod z 10=0:=Int.tmod_eq_zero_of_dvd (Int.dvd_of_emod_eq_zero hm)
     have h2:Int.tdiv z 10=z / 10:=Int.tdiv_eq_ediv_of_dvd (Int.dvd_of_emod_eq_zero hm)
     have e:few (p+1) z=few p (z / 10):=by simp [few,hm]
     rw [h1,h2,show ((0:Int)==0)=true from rfl,cond_true,aD (by omega) (by omega),aD (by omega) (by omega),e, ← hag,show ((p+1:Nat):Int) - 1=(p:Int) by omega]
     exact ih (z / 10) p (by omega) (by omega) (by omega)
    ·have h1:(Int.tmod z 10==0)=false:=by
      simp only [abD,ne_eq]
      intro h
      exact hm (Int.emod_eq_zero_of_dvd (Int.dvd_of_tmod_eq_zero h))
     have e:few (p+1) z=(z,p+1):=by simp [few,hm]
     rw [h1,cond_false,e]
 unfold ff
 dsimp only
 rw [loop _ z p hz hp (by omega),aZ]
structure jE (d:ah) (n:Int):Prop where
 p0:0≤d.2
 p3:d.2≤3
 val:d.1*10 ^ (3 - d.2).toNat=n
 bd:n.natAbs≤2000000000000000
theorem jE.unit {d:ah} {n:Int} (h:jE d n):d.1.natAbs≤n.natAbs:=by
 have:=h.val
 have h1:(1:Nat)≤10 ^ (3 - d.2).toNat:=Nat.one_le_pow _ _ (by omega)
 rw [← h.val,ZQ,ZR]
 exact Nat.le_mul_of_pos_right _ h1
theorem qG {d:ah} {n:Int} (h:jE d n):nG d=some (n,()):=by
 obtain ⟨u,p⟩:=d
 have hu:=h.unit
 have hb:=h.bd
 have p0:=h.p0
 have p3:=h.p3
 obtain ⟨k,hk⟩:∃ k:Nat,(3 - p:Int)=(k:Int):=⟨(3 - p).toNat,by dsimp only at p3;omega⟩
 have hk3:k≤3:=by dsimp only at p0;omega
 have hv:u*10 ^ k=n:=by
  have:=h.val
  dsimp only at this
  rwa [hk,ZY] at this
 dsimp only at hu
 unfold nG
 dsimp only
 rw [hk,aD (n:=(k:Int)) (by omega) (by omega)]
 have hm:∀ i,i≤k→(u*10 ^ i).natAbs≤n.natAbs:=fun i hi=>by
  rw [← hv,ZQ,ZQ,ZR,ZR]
  exact Nat.mul_le_mul_left _ (abr (by decide) hi)
 have loop:∀ m,k<m→iter (X:=uJ) (β:=zz) m (u,(k:Int),0,()) zy=some (Sum.inr (n,())):=by
  intro m hm'
  refine de (Inv:=fun i X=>X=((u*10 ^ i,(k:Int),(i:Int),()):uJ)) k (fun z=>z=some (Sum.inr (n,()))) ?_ ?_ m 0 _ (by simp) (abv _) (by omega)
  ·rintro i X again hi rfl hag
   unfold zy
   dsimp only
   have h1:=hm (i+1) (by omega)
   have e:u*10 ^ i*10=u*10 ^ (i+1):=by rw [ZT,ZM]
   rw [decide_eq_true (show (i:Int)<(k:Int) by omega),cond_true,e,aD (n:=u*10 ^ (i+1)) (by omega) (by omega),aD (n:=(i:Int)+1) (by omega) (by omega)]
   exact hag _ rfl
  ·rintro X again rfl
   unfold zy
   dsimp only
   rw [abH (show ¬(k:Int)<(k:Int) by omega),cond_false,hv]
 rw [loop _ (by simp only [Int.natAbs_natCast];omega)]
 rfl
theorem cA {n:Int} (h:n.natAbs≤2000000000000000):jE (bF n) n:=by
 obtain ⟨h1,h2,h3⟩:=KH 3 n
 refine ⟨by show (0:Int)≤((few 3 n).2:Int);omega,by show ((few 3 n).2:Int)≤3;omega, ?_,h⟩
 show (few 3 n).1*10 ^ (3 - ((few 3 n).2:Int)).toNat=n
 rw [show (3 - ((few 3 n).2:Int)).toNat=3 - (few 3 n).2 by omega]
 exact h2
theorem pQ {a b:ah} {m n:Int} (ha:jE a m) (hb:jE b n):jU a b=some (bF (m+n),()):=by
 have h1:=ha.bd
 have h2:=hb.bd
 unfold jU
 rw [qG ha,Option.bind_some,qG hb,Option.bind_some]
 dsimp only
 rw [aD (by omega) (by omega)]
 have:=Il (m+n) (by omega) 3 (by omega)
 rw [show ((3:Nat):Int)=3 from rfl] at this
 rw [this]
 rfl
theorem jE.neg {d:ah} {n:Int} (h:jE d n):jE (-d.1,d.2) (-n):=⟨h.p0,h.p3,by show -d.1*10 ^ (3 - d.2).toNat= -n;rw [Int.neg_mul,h.val],by rw [Int.natAbs_neg];exact h.bd⟩
theorem L3 {a b:ah} {m n:Int} (ha:jE a m) (hb:jE b n):C2 a b=some (bF (m - n),()):=by
 have h2:=hb.unit
 have h3:=hb.bd
 unfold C2
 rw [Int.zero_sub,aD (n:= -b.1) (by omega) (by omega),pQ ha hb.neg,Option.bind_some,Int.sub_eq_add_neg]
theorem Ms (p:Nat) (n:Int):((few p n).1<0↔n<0)∧((few p n).1=0↔n=0):=by
 obtain ⟨_,h2,_⟩:=KH p n
 have hp:(0:Int)<10 ^ (p - (few p n).2):=Int.pow_pos (by decide)
 generalize (few p n).1=u at h2
 generalize (10:Int) ^ (p - (few p n).2)=q at h2 hp
 subst h2
 refine ⟨⟨fun h=>Int.mul_neg_of_neg_of_pos h hp,fun h=> ?_⟩,⟨fun h=>by rw [h,Int.zero_mul],fun h=> ?_⟩⟩
 ·rcases Classical.em (u<0) with h1 | h1
  ·exact h1
  ·have:=ZO (show 0≤u by omega) (Int.le_of_lt hp);omega
 ·rcases Int.mul_eq_zero.1 h with h1 | h1
  ·exact h1
  ·omega
theorem Oi {s:fU} {m n:Int} (h1:jE s.2.2.2.2.2.2.1 m) (h2:jE s.2.2.2.2.2.2.2.2.1 n):wk s=some (bF (m - n),()):=by
 unfold wk
 rw [L3 h1 h2];rfl
theorem Pw {s:fU} {c m n:Int} (h0:jE s.2.2.2.1 c) (h1:jE s.2.2.2.2.2.2.1 m) (h2:jE s.2.2.2.2.2.2.2.2.1 n) (hb:(m - n).natAbs≤2000000000000000):
 nH s=some ((s.1,s.2.1,s.2.2.1,s.2.2.2.1,s.2.2.2.2.1,s.2.2.2.2.2.1,s.2.2.2.2.2.2.1,s.2.2.2.2.2.2.2.1,s.2.2.2.2.2.2.2.2.1,bF (if c - m+n>0 then c - m+n else 0)),()):=by
 unfold nH
 rw [Oi h1 h2,Option.bind_some,L3 h0 (cA hb),Option.bind_some]
 dsimp only
 have e:c - (m - n)=c - m+n:=by omega
 rw [e]
 by_cases h:c - m+n<0
 ·rw [decide_eq_true (show (bF (c - m+n)).1<0 from (Ms 3 _).1.2 h),cond_true,if_neg (by omega)]
  unfold bF
  rw [Mt]
  rfl
 ·rw [abH (show ¬(bF (c - m+n)).1<0 from fun h'=>h ((Ms 3 _).1.1 h')),cond_false]
  by_cases h0:c - m+n>0
  ·rw [if_pos h0]
  ·rw [if_neg h0,show c - m+n=0 by omega]
end Go.Md
namespace Go.Md
open Go.Dn
structure FOk (o:ai) (l:List aa) (x:aj):Prop where
 art:cB x.art=true
 unit:cB x.unit=true
 pr:inR x.price 0 1000000000 4=true
 due:cu o≤x.due∧x.due≤3652059
 wish:0≤x.wish→aG (gF l x)=3→cu o≤eU (gF l x)
 off:x.ono≠0→cu o≤x.ount∧x.ount≤3652059
theorem FOk.clr {o:ai} {l:List aa} {x:aj} (h:FOk o l x):FOk o l x.clr:=⟨h.art,h.unit,h.pr,h.due,h.wish,fun e=>absurd rfl e⟩
def qO:ai:=([],[],[],0,0,[])
end Go.Md
namespace Go.Md
open Go.Dn
def BH (o:ai) (l:List aa) (wt:Int) (i:Nat) (d:aa) (R:List aj×List (Int×Int)×List aB):List aj×List (Int×Int)×List aB:=
 if (bg o l i d R.1).1≠0 then ((bg o l i d R.1).2,R.2.1++[((i:Int),(bg o l i d R.1).1)],R.2.2)
 else ((bg o l i d R.1).2,R.2.1,pN wt i d (bg o l i d R.1).2 R.2.2)
theorem WI {o:ai} {l:List aa} {wt day:Int} (d':aa) (hd':d'.1≤day) (hl:∀ d,d∈l→aY d=0):∀ (r:List aa) (i:Nat) (A:List aj) (ref:List (Int×Int)) (pts:List aB),l.drop i=r→i≤l.length→(∀ d,d∈r→d.1≤day)→Sound l A→
 eA o (l++[d']) wt day (r++[d']) i A ref pts=BH o (l++[d']) wt l.length d' (eA o l wt day r i A ref pts):=by
 intro r
 induction r with
 | nil=>
  intro i A ref pts hd hi _ hA
  have:i=l.length:=by
   have:=congrArg List.length hd
   simp at this;omega
  subst this
  simp only [aaQ,eA]
  rw [if_neg (by omega)]
  unfold BH
  rfl
 | cons d r ih=>
  intro i A ref pts hdr hi hday hA
  have hd:l[i]? =some d:=by
   have:=congrArg (·[0]?) hdr
   simpa [aal] using this
  have hr':l.drop (i+1)=r:=by
   have:=congrArg List.tail hdr
   simpa [aaW] using this
  have hlt:i<l.length:=(List.getElem?_eq_some_iff.1 hd).1
  have hs:=(Mg (o:=o) hA hl hd).1
  have hdd:¬day<d.1:=by
   have:=hday d (by simp)
   omega
  simp only [Z4,eA]
  rw [VW hA,if_neg hdd,if_neg hdd]
  split
  ·exact ih (i+1) _ _ _ hr' (by omega) (fun d hd=>hday d (by simp [hd])) hs
  ·exact ih (i+1) _ _ _ hr' (by omega) (fun d hd=>hday d (by simp [hd])) hs
theorem PT {o:ai} {l:List aa} (d':aa) (h:fI o l=0) (hd':d'.1≤3652059) (wt:Int):ew o (l++[d']) wt 3652059=BH o (l++[d']) wt l.length d' (ew o l wt 3652059):=by
 obtain ⟨h1,h2⟩:=vV h
 obtain ⟨_,h4⟩:=gW h2
 exact WI d' hd' h4 l 0 _ [] [] rfl (abv _) (fun d hd=>(bz (h4 d hd)).1.2) (By h1 l).sound
def nxt (l:List aa) (b n:Int):Int:=l.foldl (fun n d=>if d.2.1=b then w64 (d.2.2.1+1) else n) n
def G7 (l:List aa) (b:Int):Int:=nxt l b 1
theorem Xs (l:List aa) (b n:Int) (d:aa):nxt (l++[d]) b n=if d.2.1=b then w64 (d.2.2.1+1) else nxt l b n:=by
 unfold nxt
 rw [List.foldl_append];rfl
theorem Xq (l:List aa) (b n:Int) (d:aa):nxt (d::l) b n=nxt l b (if d.2.1=b then w64 (d.2.2.1+1) else n):=rfl
theorem Pk (l:List aa) (b:Int) (hl:l.length≤2000):xg l b=some (G7 l b,()):=by
 unfold xg
 have:∀ n,l.length<n→iter (X:=mY) (β:=q9) n (b,1,l,(l.length:Int),0,()) q8=some (Sum.inr (G7 l b,())):=by
  intro n hn
  refine de (Inv:=fun i X=>X=((b,nxt (l.take i) b 1,l,(l.length:Int),(i:Int),()):mY)) l.length (fun z=>z=some (Sum.inr (G7 l b,()))) ?_ ?_ n 0 _ rfl (abv _) (by omega)
  ·rintro i X again hi rfl hag
   unfold q8
   dsimp only
   obtain ⟨y,hy⟩:∃ y,l[i]? =some y:=⟨l[i],List.getElem?_eq_getElem hi⟩
   rw [decide_eq_true (show (i:Int)<(l.length:Int) by omega),cond_true,bQ hy,Option.bind_some,aD (n:=(i:Int)+1) (by omega) (by omega)]
   have e:=Xs (l.take i) b 1 y
   rw [← xS hy] at e
   by_cases h:y.2.1=b
   ·rw [show (y.2.1==b)=true by simpa using h,cond_true]
    rw [if_pos h] at e
    rw [← e]
    exact hag _ rfl
   ·rw [bU h,cond_false]
    rw [if_neg h] at e
    rw [← e]
    exact hag _ rfl
  ·rintro X again rfl
   unfold q8
   dsimp only
   rw [abH (show ¬(l.length:Int)<(l.length:Int) by omega),cond_false,aa0]
   rfl
 rw [this (Int.natAbs b+(Int.natAbs (1:Int)+(List.length l+(Int.natAbs ((List.length l:Int))+(Int.natAbs (0:Int)+2))))) (by omega)]
 rfl
end Go.Md
namespace Go.Md
open Go.Dn
theorem D9 {o:ai} {l:List aa} {wt day:Int}:∀ (r:List aa) (i:Nat) (A:List aj) (ref:List (Int×Int)) (pts:List aB),(∀ e,e∈ref→e.1<(i:Int))→
 ∀ e,e∈(eA o l wt day r i A ref pts).2.1→e.1<((i+r.length:Nat):Int)
 | [],i,A,ref,pts,h,e,he=>by
  have:=h e he
  simp only [aax];omega
 | d::r,i,A,ref,pts,h,e,he=>by
  simp only [eA] at he
  rw [aau]
  split at he
  ·have:=h e he;omega
  ·split at he
   ·have:=D9 r (i+1) _ _ _ (fun e he=>by
     rcases aaE.1 he with he | he
     ·have:=h e he;omega
     ·simp only [aaP] at he;subst he
      show (i:Int)<_;omega) e he
    omega
   ·have:=D9 r (i+1) _ _ _ (fun e he=>by have:=h e he;omega) e he
    omega
abbrev G6 (l:List aa) (d:aa):aa:=(d.1,d.2.1,G7 l d.2.1,d.2.2.2)
def wrF (o:ai) (l:List aa) (d:aa):List aa×Int:=
 if fI o l≠0 then ([],fI o l)
 else if d.2.2.1≠0 then ([],3)
 else if eV (l++[G6 l d])≠0 then ([],eV (l++[G6 l d]))
 else if (bg o (l++[G6 l d]) l.length (G6 l d) (ew o l 0 3652059).1).1≠0 then ([],(bg o (l++[G6 l d]) l.length (G6 l d) (ew o l 0 3652059).1).1)
 else (l++[G6 l d],0)
theorem Q9 (o:ai) (l:List aa) (d:aa):zh o l d=some ((wrF o l d).1,(wrF o l d).2,()):=by
 unfold zh wrF G6
 rw [vC,Option.bind_some]
 dsimp only
 by_cases h:fI o l=0
 rotate_left
 ·rw [show ((if iu o≠0 then iu o else eV l) != 0)=true from cR h,cond_true,if_pos h];rfl
 rw [show (if iu o≠0 then iu o else eV l)=0 from h,show ((0:Int) != 0)=false from rfl,cond_false,if_neg (show ¬fI o l≠0 from fun e=>e h)]
 obtain ⟨h1,h2⟩:=vV h
 obtain ⟨h3,h4⟩:=gW h2
 by_cases hno:d.2.2.1=0
 rotate_left
 ·rw [cR hno,cond_true,if_pos hno]
 rw [if_neg (show ¬d.2.2.1≠0 from fun e=>e hno),show (d.2.2.1 != 0)=false by rw [hno];rfl,cond_false]
 rw [Pk l d.2.1 h3,Option.bind_some,xN l h3,Option.bind_some]
 dsimp only
 have wZ:maxLen=9223372036854775807:=rfl
 rw [dA (by rw [Zv];exact ⟨decide_eq_true (by omega),decide_eq_true (by omega)⟩)]
 generalize hd':((d.1,d.2.1,G7 l d.2.1,d.2.2.2):aa)=d'
 rw [ym,Option.bind_some]
 dsimp only
 by_cases h5:eV (l++[d'])=0
 rotate_left
 ·rw [cR h5,cond_true,if_pos h5]
 rw [if_neg (show ¬eV (l++[d'])≠0 from fun e=>e h5),h5,show ((0:Int) != 0)=false from rfl,cond_false]
 have hc':fI o (l++[d'])=0:=by unfold fI;rw [if_neg (fun e=>e h1)];exact h5
 obtain ⟨_,e1,e2,_⟩:=start_eq hc' 0 3652059
 rw [e1,Option.bind_some]
 dsimp only
 rw [e2,Option.bind_some]
 dsimp only
 obtain ⟨h6,h7⟩:=gW h5
 have hsn:=PT d' h (bz (h7 d' (by simp))).1.2 0
 have hri:∀ e,e∈(ew o l 0 3652059).2.1→e.1<(l.length:Int):=fun e he=>by
  have:=D9 (o:=o) (l:=l) (wt:=0) (day:=3652059) l 0 (ef o) [] [] (fun e he=>(nomatch he)) e he
  rwa [abu] at this
 obtain ⟨r1,_⟩:=C6 (o:=o) (l:=l) (wt:=0) (day:=3652059) l 0 (ef o) [] [] (abv _) (fun e he=>by cases he)
 change (ew o l 0 3652059).2.1.length≤_ at r1
 generalize hR:(ew o (l++[d']) 0 3652059).2.1=ref at*
 have hR2:ref=(BH o (l++[d']) 0 l.length d' (ew o l 0 3652059)).2.1:=by rw [← hR,hsn]
 clear hR hsn
 by_cases hD:(bg o (l++[d']) l.length d' (ew o l 0 3652059).1).1=0
 ·rw [if_neg (fun e=>e hD)]
  unfold BH at hR2
  rw [if_neg (fun e=>e hD)] at hR2
  change ref=(ew o l 0 3652059).2.1 at hR2
  by_cases hr:ref=[]
  ·rw [hr];rfl
  have hlen:0<ref.length:=List.length_pos_iff.2 hr
  obtain ⟨p,hp⟩:∃ p,ref[ref.length - 1]? =some p:=⟨ref[ref.length - 1],List.getElem?_eq_getElem (by omega)⟩
  have hpl:=hri p (by rw [← hR2];exact List.mem_of_getElem? hp)
  have hrl:ref.length≤2000:=by rw [hR2];omega
  have hck:(decide (0≤(ref.length:Int) - 1)&&decide ((ref.length:Int) - 1<(ref.length:Int)))=true:=by
   rw [Zv];exact ⟨decide_eq_true (by omega),decide_eq_true (by omega)⟩
  rw [decide_eq_true (show (ref.length:Int)>0 by omega),cond_true,aD (n:=(ref.length:Int) - 1) (by omega) (by omega),dA hck,show ((ref.length:Int) - 1).toNat=ref.length - 1 by omega,hp,Option.bind_some,Option.bind_some]
  dsimp only
  rw [bU (show p.1≠(l.length:Int) by omega),cond_false]
 ·rw [if_pos hD]
  unfold BH at hR2
  rw [if_pos hD] at hR2
  dsimp only at hR2
  have hl1:ref.length=(ew o l 0 3652059).2.1.length+1:=by rw [hR2];simp
  have hp:ref[ref.length - 1]? =some ((l.length:Int),(bg o (l++[d']) l.length d' (ew o l 0 3652059).1).1):=by rw [hl1,hR2];simp
  have hck:(decide (0≤(ref.length:Int) - 1)&&decide ((ref.length:Int) - 1<(ref.length:Int)))=true:=by
   rw [Zv];exact ⟨decide_eq_true (by omega),decide_eq_true (by omega)⟩
  rw [decide_eq_true (show (ref.length:Int)>0 by omega),cond_true,aD (n:=(ref.length:Int) - 1) (by omega) (by omega),dA hck,show ((ref.length:Int) - 1).toNat=ref.length - 1 by omega,hp,Option.bind_some,Option.bind_some]
  dsimp only
  rw [show ((l.length:Int)==(l.length:Int))=true by simp,cond_true,dA hck,Option.bind_some]
def d0:aa:=(0,0,0,0,0,[],(0,0),[],(0,0),0,0)
end Go.Md
set_option linter.all false
namespace Go.Md
open Go.Dn
theorem YS (b:Bool):((if b=true then (0:Int) else 1) != 0)= !b:=by cases b<;>rfl
theorem Oj (o:ai) (i:Nat) (x:aI) (hi:(gB o)[i]? =some x) (hl:(gB o).length≤500):xG o (i:Int)=some (cF (cu o) (bE (gB o) i) x,()):=by
 have hlt:i<(gB o).length:=(List.getElem?_eq_some_iff.1 hi).1
 unfold xG
 rw [bQ hi,Option.bind_some]
 simp only [lM,CS,yt,C0,Option.bind_some,YS]
 have tail:∀ (p:Option aI) (hp:(p.any fun q=>decide (x.1≤q.1))=false) (h1:1≤x.1∧x.1≤99999),
  (bif !cB x.2.1 then some (5,()) else bif !qOk x.2.2.1 false then some (1,()) else bif !cB x.2.2.2.1 then some (5,()) else
    bif !inR x.2.2.2.2.1 0 1000000000 4 then some (1,()) else bif !decide (cu o≤x.2.2.2.2.2∧x.2.2.2.2.2≤3652059) then some (1,()) else some (0,()))=some (cF (cu o) p x,()):=fun p hp h1=>by
  unfold cF
  rw [if_neg (show ¬¬(1≤x.1∧x.1≤99999) from fun h=>h h1),if_neg (show ¬(p.any fun q=>decide (x.1≤q.1))=true by rw [hp];exact ZA)]
  cases cB x.2.1
  ·rfl
  ·cases qOk x.2.2.1 false
   ·rfl
   ·cases cB x.2.2.2.1
    ·rfl
    ·cases inR x.2.2.2.2.1 0 1000000000 4
     ·rfl
     ·by_cases hd:cu o≤x.2.2.2.2.2∧x.2.2.2.2.2≤3652059
      ·simp [hd]
      ·simp [hd]
 by_cases h1:1≤x.1∧x.1≤99999
 ·rw [decide_eq_true h1,Bool.not_true,cond_false]
  cases i with
  | zero=>
   rw [abH (show ¬((0:Nat):Int)>0 by omega),cond_false]
   exact tail none rfl h1
  | succ j=>
   have hq:(gB o)[j]? =some (gB o)[j]:=List.getElem?_eq_getElem (by omega)
   have e:w64 (((j+1:Nat):Int) - 1)=(j:Int):=by rw [aD (by omega) (by omega)];omega
   rw [decide_eq_true (show ((j+1:Nat):Int)>0 by omega),cond_true,e,bQ hq,Option.bind_some]
   simp only [bE,hq]
   by_cases h2:x.1≤(gB o)[j].1
   ·rw [decide_eq_true h2,Option.bind_some]
    have:cF (cu o) (some (gB o)[j]) x=8:=by
     unfold cF
     rw [if_neg (show ¬¬(1≤x.1∧x.1≤99999) from fun h=>h h1),if_pos (show (Option.any (fun q=>decide (x.1≤q.1)) (some (gB o)[j]))=true from decide_eq_true h2)]
    rw [this]
    rfl
   ·rw [abH h2,Option.bind_some]
    exact tail (some (gB o)[j]) (by simp [h2]) h1
 ·rw [abH h1,ZF,cond_true]
  unfold cF
  rw [if_pos h1]
theorem MQ (o:ai):vk o=some (iu o,()):=by
 unfold vk iu
 simp only [CS,EP,lM,Option.bind_some]
 cases h1:cB o.1
 ·simp [CJ,h1]
 cases h2:cB o.2.1
 ·simp [CJ,CI,h1,h2]
 cases h3:cB o.2.2.1
 ·simp [CJ,CI,G8,h1,h2,h3]
 rw [if_neg (by simp [CJ,CI,G8,h1,h2,h3])]
 simp only [Bool.not_true,cond_false]
 by_cases h4:o.2.1=o.2.2.1
 ·rw [if_pos h4,show (o.2.1==o.2.2.1)=true by simp [h4],cond_true]
 rw [if_neg h4,show (o.2.1==o.2.2.1)=false by simp [h4],cond_false]
 by_cases h5:1≤o.2.2.2.1∧o.2.2.2.1≤3652059
 ·rw [if_neg (by simp [cu,h5]),decide_eq_true h5,Bool.not_true,cond_false]
  by_cases h6:0≤o.2.2.2.2.1∧o.2.2.2.2.1≤1000
  ·rw [if_neg (by simp [bM,h6]),decide_eq_true h6,Bool.not_true,cond_false]
   by_cases h7:o.2.2.2.2.2=[]
   ·rw [if_pos h7,h7];rfl
   ·have h7':o.2.2.2.2.2.length≠0:=fun e=>h7 (aad e)
    rw [if_neg h7,bU (show (o.2.2.2.2.2.length:Int)≠0 by omega),cond_false]
    by_cases h8:500<o.2.2.2.2.2.length
    ·rw [if_pos h8,decide_eq_true (by omega),cond_true]
    ·rw [if_neg h8,abH (by omega),cond_false]
     have:=GU (f:=nT) (fun (_:Unit) (i:Nat)=>(((o.2.2.2.2.2.length:Int),(i:Int),o.1,o.2.1,o.2.2.1,o.2.2.2.1,o.2.2.2.2.1,o.2.2.2.2.2,()):nU)) o.2.2.2.2.2
      (fun (_:Unit) i y k=>if cF (cu o) (bE o.2.2.2.2.2 i) y≠0 then some (Sum.inl (cF (cu o) (bE o.2.2.2.2.2 i) y,())) else k ()) (fun _=>some (Sum.inr ()))
      (fun s i y again hy=>by
        have hlt:i<o.2.2.2.2.2.length:=(List.getElem?_eq_some_iff.1 hy).1
        unfold nT
        dsimp only
        rw [decide_eq_true (by omega),cond_true]
        have:=Oj o i y hy (by show o.2.2.2.2.2.length≤500;omega)
        rw [show ((o.1,o.2.1,o.2.2.1,o.2.2.2.1,o.2.2.2.2.1,o.2.2.2.2.2):ai)=o from rfl,this,Option.bind_some]
        dsimp only
        by_cases hf:cF (cu o) (bE o.2.2.2.2.2 i) y=0
        ·rw [if_neg (by simp [hf]),show (cF (cu o) (bE (gB o) i) y != 0)=false by simp [hf],cond_false,aD (by omega) (by omega)]
         rfl
        ·rw [if_pos hf,show (cF (cu o) (bE (gB o) i) y != 0)=true by simp [hf],cond_true]) (fun s again=>by
        unfold nT
        dsimp only
        rw [abH (show ¬((o.2.2.2.2.2.length:Int)<(o.2.2.2.2.2.length:Int)) by omega)];rfl) ()
     refine (congrArg (fun z=>aL (β:=(Int×Unit)) (γ:=Unit) z fun _=>some (0,())) (this _ (by omega))).trans ?_
     have e:=AQ o.2.2.2.2.2 (cu o) o.2.2.2.2.2 0 () rfl
     change Cr _ _ _ 0 ()=_ at e
     refine (congrArg (fun z=>aL (β:=(Int×Unit)) (γ:=Unit) z fun _=>some (0,())) e).trans ?_
     simp only [bE]
     by_cases h:ir (cu o) o.2.2.2.2.2 none=0
     ·rw [Jr h,h];rfl
     ·rw [FI h];rfl
  ·rw [if_pos h6,abH h6];rfl
 ·rw [if_pos h5,abH h5];rfl
section merge
variable (x y:List aa) (hx:x.length≤2000) (hy:y.length≤2000)
end merge
end Go.Md
set_option linter.all false
namespace Go.Md
open Go.Dn
theorem Nj {d:ah} {n:Int} (h:jE d n):kO d=n*1000000:=by
 have h0:=h.p0;have h3:=h.p3
 unfold kO
 rw [show (9 - d.2).toNat=(3 - d.2).toNat+6 by omega,Int.pow_add, ← ZM,h.val]
 rfl
theorem Og {d:ah} (h1:d.1.natAbs≤4000000000000000) (h2:0≤d.2) (h3:d.2≤9):BD d 9=some (N (kO d),()):=by
 unfold BD
 rw [Hs _ (by omega) (by omega),Option.bind_some,aD (by omega) (by omega)]
 dsimp only
 obtain ⟨m,hm⟩:∃ m:Nat,9 - d.2=m:=⟨(9 - d.2).toNat,by omega⟩
 rw [hm,L2 m (by omega),Option.bind_some]
 dsimp only
 have hl1:(dg6 d.1.natAbs).length≤10:=EA (by omega)
 have hl2:(dg6 ((10:Int) ^ m).natAbs).length≤10:=by
  refine EA ?_
  have h1:((10:Int) ^ m).natAbs=10 ^ m:=by rw [ZR];rfl
  have h2:=abr (n:=10) (by omega) (show m≤9 by omega)
  omega
 rw [AT _ _ (by omega) (by omega),Option.bind_some]
 unfold kO
 rw [hm];rfl
theorem xH {a b:ah} {m n:Int} (ha:jE a m) (hb:jE b n):sC a b=some ((m - n).sign,()):=by
 have a1:=ha.unit;have a2:=ha.bd;have a3:=ha.p0;have a4:=ha.p3
 have b1:=hb.unit;have b2:=hb.bd;have b3:=hb.p0;have b4:=hb.p3
 have e1:=Nj ha
 have e2:=Nj hb
 have m1:=EA (z:=kO a) (by omega)
 have m2:=EA (z:=kO b) (by omega)
 unfold sC
 rw [Og (by omega) a3 (by omega),Option.bind_some,Og (by omega) b3 (by omega),Option.bind_some,Qs _ _ (by omega) (by omega),e1,e2]
 have:m*1000000 - n*1000000=(m - n)*1000000:=by omega
 rw [this,Int.sign_mul,show Int.sign 1000000=1 from rfl,ZP]
 rfl
theorem ou {d:ah} {z:Bool} (h:qOk d z=true):jE d (aN d):=by
 obtain ⟨⟨h1,h2⟩,h3,h4,_⟩:=Aw h
 obtain ⟨u1,u2,_⟩:=jD h
 exact ⟨h1,h2,rfl,by omega⟩
theorem P7:∀ (k p:Nat) (z:Int),few (p+k) (z*10 ^ k)=few p z
 | 0,p,z=>by simp
 | k+1,p,z=>by
  rw [← aa3,few,if_pos (by rw [ZT, ← ZM];omega)]
  rw [show z*10 ^ (k+1) / 10=z*10 ^ k by rw [ZT, ← ZM];omega]
  exact P7 k p z
theorem VA {d:ah} {z:Bool} (h:qOk d z=true):bF (aN d)=mU d:=by
 obtain ⟨⟨h1,h2⟩,_⟩:=Aw h
 unfold bF mU aN
 have:=P7 (3 - d.2).toNat d.2.toNat d.1
 rw [show d.2.toNat+(3 - d.2).toNat=3 by omega] at this
 rw [this]
theorem D2 {d:ah} (h:d.1.natAbs≤9000000000000000000) (h0:0≤d.2) (h1:d.2≤9):ff d=some (mU d,()):=by
 have:=Il d.1 h d.2.toNat (by omega)
 rw [show ((d.2.toNat:Nat):Int)=d.2 by omega] at this
 exact this
theorem ES {d:ah} {z:Bool} (h:qOk d z=true):ff d=some (bF (aN d),()):=by
 obtain ⟨⟨h1,h2⟩,h3,h4,_⟩:=Aw h
 have hm:=(ou h).unit
 have:=(ou h).bd
 rw [VA h]
 exact D2 (by omega) h1 (by omega)
theorem ER {d:ah} (h:inR d 0 1000000000 4=true):ff d=some (mU d,()):=by
 obtain ⟨h1,h2,h3,h4⟩:=DV h
 exact D2 (by omega) h3 h4
theorem Xa {M:List aj} (hs:M.Pairwise fun x y=>x.no<y.no) {a b:aj} (ha:a∈M) (hb:b∈M) (h:a.no=b.no):a=b:=by
 obtain ⟨i,hi,rfl⟩:=List.mem_iff_getElem.1 ha
 obtain ⟨j,hj,rfl⟩:=List.mem_iff_getElem.1 hb
 rw [aaS] at hs
 rcases abi i j with c | c | c
 ·have:=hs i j hi hj c;omega
 ·subst c;rfl
 ·have:=hs j i hj hi c;omega
theorem PE {A M:List aj} (hp:M.Perm A) (hs:M.Pairwise fun x y=>x.no<y.no):cI A=M:=by
 refine List.Perm.eq_of_pairwise (le:=fun x y=>x.no≤y.no) ?_ (SR A) (hs.imp fun h=>Int.le_of_lt h) ((iK A).trans hp.symm)
 intro a b ha hb h1 h2
 exact Xa hs (hp.mem_iff.2 ((iK A).mem_iff.1 ha)) hb (by omega)
theorem Uq {M:List aj}:(M.Pairwise fun x y=>x.no<y.no)↔(M.map aj.no).Pairwise (· < ·):=by rw [List.pairwise_map]
theorem MS {α:Type} {x y:α}:∀ {l:List α} {j:Nat},l[j]? =some x→(x::l.set j y).Perm (y::l)
 | [],_,h=>by simp at h
 | a::l,0,h=>by cases h;exact List.Perm.swap _ _ _
 | a::l,j+1,h=>by
  have ih:=MS (x:=x) (y:=y) (l:=l) (j:=j) (by simpa using h)
  exact ((List.Perm.swap a x _).trans (ih.cons a)).trans (List.Perm.swap y a l)
theorem XG {A:List aj} (hI:Ids A) {k j:Nat} {x y:aj} (hk:A[k]? =some x) (hj:(cI A)[j]? =some x) (hy:y.no=x.no):cI (A.set k y)=(cI A).set j y:=by
 refine PE ?_ ?_
 ·have h1:=MS (y:=y) hj
  have h2:=MS (y:=y) hk
  exact (h1.trans (((iK A).cons y).trans h2.symm)).cons_inv
 ·rw [Uq,NY hj hy, ← Uq]
  exact PD hI
def fe (n:Int):List aj→Nat
 | []=>0
 | x::r=>if x.no<n then fe n r+1 else 0
theorem KS (n:Int):∀ l,fe n l≤l.length
 | []=>abb _
 | x::r=>by
  have:=KS n r
  simp only [fe,aau]
  split<;>omega
theorem Uu (n:Int):∀ (l:List aj) (k:Nat) (x:aj),k<fe n l→l[k]? =some x→x.no<n
 | [],k,x,h,_=>by simp [fe] at h
 | y::r,k,x,h,hx=>by
  simp only [fe] at h
  split at h
  ·rename_i c
   cases k with
   | zero=>cases hx;exact c
   | succ k=>exact Uu n r k x (by omega) (by simpa using hx)
  ·omega
theorem Ut (n:Int):∀ (l:List aj) (x:aj),l[fe n l]? =some x→¬x.no<n
 | [],x,h=>by simp [fe] at h
 | y::r,x,h=>by
  simp only [fe] at h
  split at h
  ·exact Ut n r x (by simpa using h)
  ·rename_i c;cases h;exact c
theorem T9 {n:Int} {y:aj} (hy:y.no=n):∀ {l:List aj},(l.Pairwise fun x y=>x.no<y.no)→(∀ x,x∈l→x.no≠n)→(l.take (fe n l)++y::l.drop (fe n l)).Pairwise fun x y=>x.no<y.no
 | [],_,_=>by simp [fe]
 | x::r,hs,hn=>by
  obtain ⟨s1,s2⟩:=List.pairwise_cons.1 hs
  simp only [fe]
  split
  ·rename_i c
   rw [List.take_succ_cons,List.drop_succ_cons,Z4]
   refine List.Pairwise.cons (fun z hz=> ?_) (T9 hy s2 (fun z hz=>hn z (by simp [hz])))
   rcases aaE.1 hz with hz | hz
   ·exact s1 z (List.mem_of_mem_take hz)
   ·rcases aaH.1 hz with rfl | hz
    ·omega
    ·exact s1 z (aaM hz)
  ·rename_i c
   have hx:=hn x (by simp)
   rw [List.take_zero,aab,aaQ]
   refine List.Pairwise.cons (fun z hz=> ?_) hs
   rcases aaH.1 hz with rfl | hz
   ·omega
   ·have:=s1 z hz;omega
theorem XF {A:List aj} (hI:Ids A) {y:aj} (hn:∀ x,x∈A→x.no≠y.no):cI (A++[y])=(cI A).take (fe y.no (cI A))++y::(cI A).drop (fe y.no (cI A)):=by
 refine PE ?_ (T9 rfl (PD hI) fun x hx=>hn x ((iK A).mem_iff.1 hx))
 refine List.perm_middle.trans ?_
 rw [aaX]
 exact ((iK A).cons y).trans (List.perm_append_singleton y A).symm
end Go.Md
