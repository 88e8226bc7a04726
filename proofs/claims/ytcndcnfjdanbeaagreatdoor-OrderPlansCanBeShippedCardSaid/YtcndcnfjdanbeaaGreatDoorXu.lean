/-
  Plain facts: the lines by their numbers; quantities. No condition.
-/
import Derived.Test.YtcndcnfjdanbeaaGreatDoorXt
import Derived.Test.YtcndcnfjdanbeaaGreatDoorXx
set_option linter.all false
namespace Go.Md
open Go.Dn
structure Ids (A:List ai):Prop where
 nd:(A.map ai.no).Nodup
 rg:∀ x,x∈A→1≤x.no∧x.no≤99999
 len:A.length≤500
 ne:A≠[]
theorem B6 {n:Int}:∀ {A:List ai} {i:Nat},bN n i A=none→n∉A.map ai.no
 | [],_,_=>by simp
 | x::r,i,h=>by
  simp only[bN] at h
  by_cases hx:n=x.no
  ·rw[YJ hx] at h;cases h
  ·rw[YI hx] at h
   have:=B6 h
   simp only[Xm,Xp,YO]
   exact⟨hx,this⟩
theorem QU {A:List ai} {k:Nat} {y x:ai} (hx:A[k]? =some x) (h:y.no=x.no):(A.set k y).map ai.no=A.map ai.no:=by
 rw[List.map_set]
 refine WK fun i=> ?_
 rw[W6]
 split
 ·rename_i e
  subst e
  have hl:=(WX.1 hx).1
  simp only[Xf,hl,YK,WY,hx,Yu,h]
 ·rfl
theorem RO {o:aj} {l:List aa} {i:Nat} {d:aa} {A:List ai} (hA:Good l A) (hI:Ids A) (hl:∀ d,d∈l→bX d=0) (hd:l[i]? =some d):Ids (bF o l i d A).2:=by
 unfold bF
 by_cases k1:aV d=1
 ·rw[YJ k1]
  split
  ·exact hI
  ·rename_i hf
   split
   ·exact hI
   ·split
    ·exact hI
    ·rename_i h5 _
     obtain⟨_,_,_,_,_,hln,_⟩:=bY (hl d (Xw hd))
     refine⟨?_,fun x hx=> ?_, ?_,by simp⟩
     ·rw[Xk,List.nodup_append]
      refine⟨hI.nd,by simp,fun a ha b hb e=> ?_⟩
      simp only[Xm,List.map_nil,Xz] at hb
      subst hb;subst e
      exact B6 hf ha
     ·rcases Xo.1 hx with hx | hx
      ·exact hI.rg x hx
      ·simp only[Xz] at hx
       subst hx
       exact hln
     ·rw[Xd]
      show A.length+1≤500
      omega
 ·rw[YI k1]
  split
  ·exact hI
  ·rename_i k hk
   split
   ·rename_i x hx
    obtain⟨h1,h2⟩:=hA.sound.line x (Xw hx)
    obtain⟨_,_,a3,_⟩:=CZ (o:=o) h1 h2 hl hd
    refine⟨by rw[QU hx a3];exact hI.nd,fun y hy=> ?_,by rw[Xi];exact hI.len,fun e=>hI.ne (by simpa using e)⟩
    rcases Xx hy with hy | hy
    ·exact hI.rg y hy
    ·subst hy;rw[a3];exact hI.rg x (Xw hx)
   ·exact hI
theorem TJ {o:aj} {l:List aa} {wt day:Int} (hl:∀ d,d∈l→bX d=0):∀ (r:List aa) (i:Nat) (A:List ai) (ref:List (Int×Int)) (pts:List au),l.drop i=r→Good l A→Ids A→
 Good l (kj o l wt day r i A ref pts).1∧Ids (kj o l wt day r i A ref pts).1:=by
 intro r
 induction r with
 | nil=>intro i A ref pts _ hA hI;exact⟨hA,hI⟩
 | cons d r ih=>
  intro i A ref pts hdr hA hI
  have hd:l[i]? =some d:=by
   have:=congrArg (·[0]?) hdr
   simpa [WU] using this
  have hr':l.drop (i+1)=r:=by
   have:=congrArg List.tail hdr
   simpa [XK] using this
  have hgood:=Eg (o:=o) hA hl hd
  have hids:=RO (o:=o) hA hI hl hd
  simp only[kj]
  split
  ·exact⟨hA,hI⟩
  ·split
   ·exact ih (i+1) _ _ _ hr' hgood hids
   ·exact ih (i+1) _ _ _ hr' hgood hids
theorem Sh {o:aj} (ho:mB o=0):Ids (nQ o):=by
 obtain⟨_,_,hlen,hne,hgo,_⟩:=qm ho
 obtain⟨hln,_,hpw⟩:=q7 hgo
 refine⟨?_,fun x hx=> ?_,by rw[Xf];exact hlen,fun e=>hne (by simpa using e)⟩
 ·rw[Xn]
  exact List.Pairwise.map _ (fun a b (h:a.1<b.1) e=>by
   have e':a.1=b.1:=e
   omega) hpw
 ·obtain⟨q,hq,rfl⟩:=Xv.1 hx
  exact (hln q hq).2.2.2.2.1
theorem Ec {o:aj} {l:List aa} (h:fN o l=0) (wt day:Int):Good l (dc o l wt day).1∧Ids (dc o l wt day).1:=by
 obtain⟨h1,h2⟩:=qd h
 obtain⟨h3,h4⟩:=mM h2
 exact TJ h4 l 0 _ [] [] rfl (z8 h1 l) (Sh h1)
def fJ (A:List ai):List ai:=A.mergeSort fun x y=>decide (x.no≤y.no)
theorem mN (A:List ai):(fJ A).Perm A:=List.mergeSort_perm A _
theorem TQ (A:List ai):(fJ A).Pairwise fun x y=>x.no≤y.no:=by
 have:=List.pairwise_mergeSort (le:=fun x y:ai=>decide (x.no≤y.no)) (fun a b c h1 h2=>by
  simp only[YC] at *;omega) (fun a b=>by simp only[Wj,YC];omega) A
 exact this.imp fun h=>by simpa using h
theorem Cd:∀ (A:List ai) (i:Nat),(qz i A).map (·.1)=A.map ai.no
 | [],_=>rfl
 | x::r,i=>by simp only[qz,Xm,Cd r]
theorem Ot {A:List ai} (hI:Ids A):GZ (mapOf A)=true:=by
 unfold GZ
 rw[Cd,ze]
 have:=hI.len
 simp only[V6,YC,Wu]
 refine⟨by omega,fun p hp=> ?_,hI.nd⟩
 have hm:p.1∈(mapOf A).map (·.1):=Xv.2 ⟨p,hp,rfl⟩
 rw[Cd] at hm
 obtain⟨x,hx,e⟩:=Xv.1 hm
 have:=hI.rg x hx
 omega
theorem IM (A:List ai):uc (mapOf A)=(fJ A).map ai.no:=by
 unfold uc
 rw[Cd]
 refine List.Perm.eq_of_pairwise (le:=fun a b:Int=>decide (a≤b)=true) (fun a b _ _ h1 h2=> ?_) ?_ ?_ ?_
 ·simp only[YC] at h1 h2;omega
 ·exact List.pairwise_mergeSort (le:=fun x y:Int=>decide (x≤y)) (fun a b c h1 h2=>by simp only[YC] at *;omega) (fun a b=>by simp only[Wj,YC];omega) _
 ·exact XE.2 ((TQ A).imp fun h=>by simpa using h)
 ·exact (List.mergeSort_perm _ _).trans ((mN A).map _).symm
theorem Kl {n:Int}:∀ {A:List ai} {i k:Nat} {x:ai},(A.map ai.no).Nodup→A[k]? =some x→x.no=n→bN n i A=some (i+k)
 | [],_,_,_,_,h,_=>by simp at h
 | y::r,i,0,x,_,h,hn=>by
  have e:y=x:=by simpa using h
  subst e
  simp only[bN,YJ hn.symm,XS]
 | y::r,i,k+1,x,hnd,h,hn=>by
  have h':r[k]? =some x:=by simpa using h
  rw[Xm,List.nodup_cons] at hnd
  have hne:¬n=y.no:=fun e=>hnd.1 (by
   rw[← e, ← hn]
   exact Xv.2 ⟨x,Xw h',rfl⟩)
  simp only[bN,YI hne]
  rw[Kl hnd.2 h' hn,show i+1+k=i+(k+1) by omega]
theorem MU {A:List ai} (hI:Ids A) {x:ai} (hx:x∈fJ A):∃ k,gq x.no A=some k∧A[k]? =some x:=by
 obtain⟨k,hk⟩:=List.getElem?_of_mem ((mN A).mem_iff.1 hx)
 exact⟨k,by have:=Kl (i:=0) hI.nd hk rfl;rwa [Yl] at this,hk⟩
def AX (A:List ai):List (Option Nat):=(fJ A).map fun x=>gq x.no A
end Go.Md
namespace Go.Md
open Go.Dn
theorem Ur (A:List ai):AX A=(uc (mapOf A)).map fun k=>gq k A:=by
 rw[IM,Xn];rfl
theorem Bi {A:List ai} (hI:Ids A) (o:aj) (l:List aa) (ref:List ah) (pts:List au) (wt:Int):
 lN (o,l,mapOf A,ref,pts,wt,())=some (AX A,(o,l,mapOf A,ref,pts,wt,()),()):=by
 obtain⟨onum,obuy,osel,oday,oext,olns⟩:=o
 have zB:maxLen=9223372036854775807:=rfl
 unfold lN
 dsimp only
 rw[gi (Ot hI)]
 have hkl:(uc (mapOf A)).length≤500:=by
  rw[IM,Xf,(mN A).length_eq];exact hI.len
 rw[Ur]
 generalize uc (mapOf A)=ks at hkl
 have loop:∀ n,ks.length<n→iter (X:=gE) (β:=jr) n ([],(ks.length:Int),0,onum,obuy,osel,oday,oext,olns,l,wt,ks,ref,pts,mapOf A,()) jq=some (Sum.inr (ks.map (fun k=>gq k A),onum,obuy,osel,oday,oext,olns,l,wt,ref,pts,mapOf A,())):=by
  intro n hn
  refine kO (Inv:=fun i X=>X=(((ks.map (fun k=>gq k A)).take i,(ks.length:Int),(i:Int),onum,obuy,osel,oday,oext,olns,l,wt,ks,ref,pts,mapOf A,()):gE)) ks.length (fun z=>z=some (Sum.inr (ks.map (fun k=>gq k A),onum,obuy,osel,oday,oext,olns,l,wt,ref,pts,mapOf A,()))) ?_ ?_ n 0 _ rfl (Ym _) (by omega)
  ·rintro i X again hi rfl hag
   unfold jq
   dsimp only
   obtain⟨y,hy⟩:∃ y,ks[i]? =some y:=⟨ks[i],WV hi⟩
   have hlen:((ks.map (fun k=>gq k A)).take i).length=i:=by rw[Xj,Xf];omega
   rw[YB (show (i:Int)<(ks.length:Int) by omega),Yz,gi (by simp),Ws,hy,Yo,hlen,gi (by
    rw[V6];exact⟨YB (by omega),YB (by omega)⟩),aC (n:=(i:Int)+1) (by omega) (by omega),iN]
   have e:(ks.map (fun k=>gq k A)).take i++[bN y 0 A]=(ks.map (fun k=>gq k A)).take (i+1):=by
    rw[List.take_add_one,WY,hy];rfl
   rw[e]
   exact hag _ rfl
  ·rintro X again rfl
   unfold jq
   dsimp only
   rw[YA (show ¬(ks.length:Int)<(ks.length:Int) by omega),Yy,XO (by rw[Xf];exact XZ _)]
 have h2:=ze A 0
 rw[loop _ (by
  simp only[Xg,Int.natAbs_natCast]
  omega)]
 rfl
theorem RY {l:List aa} {A:List ai} (hA:Good l A) (hI:Ids A) {i:Nat} {x:ai} (hx:(fJ A)[i]? =some x):∃ k,(AX A)[i]? =some (some k)∧A[k]? =some x∧nh (some k) (A.map ai.tup)=some (DZ x,())∧x∈A:=by
 obtain⟨k,hk,hxk⟩:=MU hI (Xw hx)
 have hm:=Xw hxk
 refine⟨k, ?_,hxk,xT hxk (hA.sound.line x hm).1 (hA.pr x hm),hm⟩
 unfold AX
 rw[WY,hx,Yu,hk]
def lnF (o:aj) (l:List aa) (day:Int):Int:=if fN o l≠0 then fN o l else if 1≤day∧day≤3652059 then 0 else 1
theorem Tr {o:aj} {l:List aa} {day:Int} (h:lnF o l day=0):fN o l=0∧1≤day∧day≤3652059:=by
 unfold lnF at h
 split at h
 ·rename_i h1;exact absurd h h1
 ·rename_i h1
  split at h
  ·rename_i h2;exact⟨Wk.1 h1,h2⟩
  ·cases h
end Go.Md
namespace Go.Md
open Go.Dn
structure HQ (d:ah) (n:Int):Prop where
 p0:0≤d.2
 p3:d.2≤3
 val:d.1*10 ^ (3 - d.2).toNat=n
 bd:n.natAbs≤2000000000000000
theorem HQ.unit {d:ah} {n:Int} (h:HQ d n):d.1.natAbs≤n.natAbs:=by
 have:=h.val
 have h1:(1:Nat)≤10 ^ (3 - d.2).toNat:=Nat.one_le_pow _ _ (by omega)
 rw[← h.val,Int.natAbs_mul,Int.natAbs_pow]
 exact Nat.le_mul_of_pos_right _ h1
theorem QV {n:Int} (h:n.natAbs≤2000000000000000):HQ (lU n) n:=by
 obtain⟨h1,h2,h3⟩:=DB 3 n
 refine⟨by show (0:Int)≤((few 3 n).2:Int);omega,by show ((few 3 n).2:Int)≤3;omega, ?_,h⟩
 show (few 3 n).1*10 ^ (3 - ((few 3 n).2:Int)).toNat=n
 rw[show (3 - ((few 3 n).2:Int)).toNat=3 - (few 3 n).2 by omega]
 exact h2
theorem HQ.neg {d:ah} {n:Int} (h:HQ d n):HQ (-d.1,d.2) (-n):=⟨h.p0,h.p3,by show -d.1*10 ^ (3 - d.2).toNat= -n;rw[Int.neg_mul,h.val],by rw[Int.natAbs_neg];exact h.bd⟩
theorem Tg (p:Nat) (n:Int):((few p n).1<0↔n<0)∧((few p n).1=0↔n=0):=by
 obtain⟨_,h2,_⟩:=DB p n
 have hp:(0:Int)<10 ^ (p - (few p n).2):=Int.pow_pos (by decide)
 generalize (few p n).1=u at h2
 generalize (10:Int) ^ (p - (few p n).2)=q at h2 hp
 subst h2
 refine⟨⟨fun h=>Int.mul_neg_of_neg_of_pos h hp,fun h=> ?_⟩,⟨fun h=>by rw[h,Int.zero_mul],fun h=> ?_⟩⟩
 ·rcases Classical.em (u<0) with h1 | h1
  ·exact h1
  ·have:=Int.mul_nonneg (show 0≤u by omega) (Int.le_of_lt hp);omega
 ·rcases Int.mul_eq_zero.1 h with h1 | h1
  ·exact h1
  ·omega
end Go.Md
namespace Go.Md
open Go.Dn
structure FOk (o:aj) (l:List aa) (x:ai):Prop where
 art:ef x.art=true
 unit:ef x.unit=true
 pr:inR x.price 0 1000000000 4=true
 due:fQ o≤x.due∧x.due≤3652059
 wish:0≤x.wish→aV (fT l x)=3→fQ o≤jO (fT l x)
 off:x.ono≠0→fQ o≤x.ount∧x.ount≤3652059
theorem GX {n:Int} (h:yA n=true):1≤n∧n≤3652059:=YP h
theorem FOk.clr {o:aj} {l:List aa} {x:ai} (h:FOk o l x):FOk o l x.clr:=⟨h.art,h.unit,h.pr,h.due,h.wish,fun e=>absurd rfl e⟩
theorem Rt {o:aj} {l:List aa} {d:aa} {x:ai} (hw:WOk l x) (hl:∀ d,d∈l→bX d=0) (hf:FOk o l x):FOk o l (bT l d x).2:=by
 have nw:∀ {y:ai},y.wish= -1→(0≤y.wish→aV (fT l y)=3→fQ o≤jO (fT l y)):=fun e h=>by rw[e] at h;omega
 unfold bT
 by_cases h1:x.wish<0
 ·rw[YJ h1];exact hf
 rw[YI h1]
 obtain⟨w,hw1,hw2⟩:=hw.kind (by omega)
 have hwe:=mP hw1
 have hfw:=hf.wish (by omega)
 rw[hwe] at hfw
 rw[hwe]
 obtain⟨_,_,_,hk,_,_,hu⟩:=bY (hl w (Xw hw1))
 obtain⟨_,up,uu,_⟩:=fE hu
 by_cases h2:dNo w≠dTo d
 ·rw[YJ h2];exact hf
 rw[YI h2]
 by_cases h3:aV d=5
 ·rw[YJ h3]
  by_cases k2:aV w=2
  ·rw[YJ k2]
   split
   ·exact hf
   ·exact⟨hf.art,hf.unit,hf.pr,hf.due,nw rfl,hf.off⟩
  ·rw[YI k2]
   by_cases k1:aV w=1
   ·rw[YJ k1];exact⟨hf.art,hf.unit,hf.pr,hf.due,nw rfl,hf.off⟩
   ·rw[YI k1]
    by_cases k3:aV w=3
    ·rw[YJ k3]
     have hd:=GX (uu (by unfold usU;exact YB (.inr (.inl k3))))
     exact⟨hf.art,hf.unit,hf.pr,⟨hfw k3,hd.2⟩,nw rfl,hf.off⟩
    ·rw[YI k3]
     have hk':1≤aV w∧aV w≤11:=hk
     exact⟨hf.art,hf.unit,up (by unfold usP;exact YB (.inr (by omega))),hf.due,nw rfl,hf.off⟩
 ·rw[YI h3];exact⟨hf.art,hf.unit,hf.pr,hf.due,nw rfl,hf.off⟩
theorem UB {o:aj} {l:List aa} {ext:Int} {d:aa} {x:ai} (hf:FOk o l x):FOk o l (cC ext d x).2:=by
 unfold cC
 split
 ·split
  ·exact hf
  ·split
   ·exact hf
   ·exact⟨hf.art,hf.unit,hf.pr,hf.due,hf.wish,hf.off⟩
 ·split
  ·split
   ·exact hf
   ·exact⟨hf.art,hf.unit,hf.pr,hf.due,hf.wish,hf.off⟩
  ·split
   ·exact hf
   ·exact⟨hf.art,hf.unit,hf.pr,hf.due,hf.wish,hf.off⟩
theorem UT {o:aj} {l:List aa} {i:Nat} {d:aa} {x:ai} (hw:WOk l x) (hl:∀ d,d∈l→bX d=0) (hd:l[i]? =some d) (hf:FOk o l x):FOk o l (dw o l i d x).2:=by
 have ha:=Rt (d:=d) hw hl hf
 have hm:=UB (ext:=dJ o) (d:=d) hf
 obtain⟨_,_,_,hk,_,_,hu⟩:=bY (hl d (Xw hd))
 obtain⟨_,_,uu,_⟩:=fE hu
 unfold dw
 split
 ·unfold Fk
  split
  ·exact hf
  ·rename_i h1
   split
   ·exact hf
   ·refine⟨hf.art,hf.unit,hf.pr,hf.due,fun _ h3=> ?_,hf.off⟩
    have e:fT l { x with wish:=(i:Int) }=d:=mP (x:={ x with wish:=(i:Int) }) (by show l[((i:Int)).toNat]? =some d;simpa using hd)
    rw[e] at h3 ⊢
    rcases Int.lt_or_le (jO d) (fQ o) with h | h
    ·exact absurd ⟨h3,h⟩ h1
    ·exact h
 ·split
  ·split
   ·exact ha.clr
   ·exact ha
  ·split
   ·rename_i k7
    split
    ·rename_i h0
     have hd:=GX (uu (by unfold usU;exact YB (.inr (.inr k7))))
     refine⟨hf.art,hf.unit,hf.pr,hf.due,hf.wish,fun _=>⟨?_,hd.2⟩⟩
     unfold nc at h0
     split at h0
     ·cases h0
     ·show fQ o≤jO d
      omega
    ·exact hf
   ·split
    ·unfold Fb
     split
     ·exact hf
     ·split
      ·exact hf
      ·rename_i h0
       have:=hf.off (fun e=>h0 (.inl e))
       exact⟨hf.art,hf.unit,hf.pr,this,hf.wish,fun e=>absurd rfl e⟩
    ·split
     ·split
      ·exact hm.clr
      ·exact hm
     ·exact hm
theorem Uf {o:aj} {l:List aa} {i:Nat} {d:aa} {A:List ai} (hA:Good l A) (hF:∀ x,x∈A→FOk o l x) (hl:∀ d,d∈l→bX d=0) (hd:l[i]? =some d):∀ x,x∈(bF o l i d A).2→FOk o l x:=by
 unfold bF
 by_cases k1:aV d=1
 ·rw[YJ k1]
  split
  ·exact hF
  ·split
   ·exact hF
   ·split
    ·exact hF
    ·rename_i h5 h6
     intro x hx
     rcases Xo.1 hx with hx | hx
     ·exact hF x hx
     ·simp only[Xz] at hx
      subst hx
      obtain⟨_,_,_,_,_,_,hu⟩:=bY (hl d (Xw hd))
      obtain⟨_,up,uu,ua,_⟩:=fE hu
      have hdy:=GX (uu (by unfold usU;exact YB (.inl k1)))
      obtain⟨a1,a2⟩:=ua (by unfold usA;exact YB k1)
      refine⟨a1,a2,up (by unfold usP;exact YB (.inl k1)),⟨by show fQ o≤jO d;omega,hdy.2⟩,fun _ h3=> ?_,fun e=>absurd rfl e⟩
      have e:fT l (wD i d)=d:=mP (x:=wD i d) (by show l[((i:Int)).toNat]? =some d;simpa using hd)
      rw[e,k1] at h3;cases h3
 ·rw[YI k1]
  split
  ·exact hF
  ·split
   ·rename_i y hy
    intro x hx
    rcases Xx hx with hx | hx
    ·exact hF x hx
    ·subst hx
     have hm:=Xw hy
     exact UT (hA.sound.line y hm).2 hl hd (hF y hm)
   ·exact hF
theorem Vm {o:aj} {l:List aa} {wt day:Int} (hl:∀ d,d∈l→bX d=0):∀ (r:List aa) (i:Nat) (A:List ai) (ref:List (Int×Int)) (pts:List au),l.drop i=r→Good l A→(∀ x,x∈A→FOk o l x)→
 ∀ x,x∈(kj o l wt day r i A ref pts).1→FOk o l x:=by
 intro r
 induction r with
 | nil=>intro i A ref pts _ hA hI;exact hI
 | cons d r ih=>
  intro i A ref pts hdr hA hI
  have hd:l[i]? =some d:=by
   have:=congrArg (·[0]?) hdr
   simpa [WU] using this
  have hr':l.drop (i+1)=r:=by
   have:=congrArg List.tail hdr
   simpa [XK] using this
  have hgood:=Eg (o:=o) hA hl hd
  have hids:=Uf (o:=o) hA hI hl hd
  simp only[kj]
  split
  ·exact hI
  ·split
   ·exact ih (i+1) _ _ _ hr' hgood hids
   ·exact ih (i+1) _ _ _ hr' hgood hids
theorem UA {o:aj} (ho:mB o=0) (l:List aa):∀ x,x∈nQ o→FOk o l x:=by
 obtain⟨_,_,_,_,hgo,_⟩:=qm ho
 obtain⟨hln,_,_⟩:=q7 hgo
 intro x hx
 obtain⟨q,hq,rfl⟩:=Xv.1 hx
 obtain⟨h1,_,h3,h4,_,h6⟩:=hln q hq
 exact⟨h1,h3,h4,h6,fun h=>by have:(0:Int)≤ -1:=h;omega,fun e=>absurd rfl e⟩
theorem Rq {o:aj} {l:List aa} (h:fN o l=0) (wt day:Int):∀ x,x∈(dc o l wt day).1→FOk o l x:=by
 obtain⟨h1,h2⟩:=qd h
 obtain⟨h3,h4⟩:=mM h2
 exact Vm h4 l 0 _ [] [] rfl (z8 h1 l) (UA h1 l)
def vN:aj:=([],[],[],0,0,[])
theorem SZ {n:Int} (h0:0<n) (h1:n≤1000000000000):qOk (lU n) false=true:=by
 obtain⟨f1,f2,f3⟩:=DB 3 n
 have hs:=Tg 3 n
 have e1:(lU n).1=(few 3 n).1:=rfl
 have e2:(lU n).2=((few 3 n).2:Int):=rfl
 unfold qOk inR
 rw[V6]
 refine⟨YB ⟨⟨by rw[e1];omega,by rw[e2];omega,by rw[e2];omega⟩,by rw[e2];omega, ?_, ?_⟩, ?_⟩
 ·rw[e1,Int.zero_mul];omega
 ·rw[e1,e2,Ws]
  have hp:(0:Int)<10 ^ (3 - (few 3 n).2):=Int.pow_pos (by decide)
  have e3:(1000000000:Int)*10 ^ (few 3 n).2*10 ^ (3 - (few 3 n).2)=1000000000000:=by
   rw[Wn, ← Int.pow_add,show (few 3 n).2+(3 - (few 3 n).2)=3 by omega];rfl
  refine Int.le_of_mul_le_mul_right ?_ hp
  rw[f2,e3];exact h1
 ·rw[e1,Bool.or_false,We,Yw]
  intro h;have:=hs.2.1 h;omega
end Go.Md
namespace Go.Md
open Go.Dn
def E9 (o:aj) (l:List aa) (wt:Int) (i:Nat) (d:aa) (R:List ai×List (Int×Int)×List au):List ai×List (Int×Int)×List au:=
 if (bF o l i d R.1).1≠0 then ((bF o l i d R.1).2,R.2.1++[((i:Int),(bF o l i d R.1).1)],R.2.2)
 else ((bF o l i d R.1).2,R.2.1,JE wt i d (bF o l i d R.1).2 R.2.2)
theorem SK {o:aj} {l:List aa} {wt day:Int} (d':aa) (hd':d'.1≤day) (hl:∀ d,d∈l→bX d=0):∀ (r:List aa) (i:Nat) (A:List ai) (ref:List (Int×Int)) (pts:List au),l.drop i=r→i≤l.length→(∀ d,d∈r→d.1≤day)→Sound l A→
 kj o (l++[d']) wt day (r++[d']) i A ref pts=E9 o (l++[d']) wt l.length d' (kj o l wt day r i A ref pts):=by
 intro r
 induction r with
 | nil=>
  intro i A ref pts hd hi _ hA
  have:i=l.length:=by
   have:=congrArg List.length hd
   simp at this;omega
  subst this
  simp only[XA,kj]
  rw[YI (by omega)]
  unfold E9
  rfl
 | cons d r ih=>
  intro i A ref pts hdr hi hday hA
  have hd:l[i]? =some d:=by
   have:=congrArg (·[0]?) hdr
   simpa [WU] using this
  have hr':l.drop (i+1)=r:=by
   have:=congrArg List.tail hdr
   simpa [XK] using this
  have hlt:i<l.length:=(WX.1 hd).1
  have hs:=(NY (o:=o) hA hl hd).1
  have hdd:¬day<d.1:=by
   have:=hday d (by simp)
   omega
  simp only[WA,kj]
  rw[RN hA,YI hdd,YI hdd]
  split
  ·exact ih (i+1) _ _ _ hr' (by omega) (fun d hd=>hday d (by simp[hd])) hs
  ·exact ih (i+1) _ _ _ hr' (by omega) (fun d hd=>hday d (by simp[hd])) hs
theorem Mk {o:aj} {l:List aa} (d':aa) (h:fN o l=0) (hd':d'.1≤3652059) (wt:Int):dc o (l++[d']) wt 3652059=E9 o (l++[d']) wt l.length d' (dc o l wt 3652059):=by
 obtain⟨h1,h2⟩:=qd h
 obtain⟨_,h4⟩:=mM h2
 exact SK d' hd' h4 l 0 _ [] [] rfl (Ym _) (fun d hd=>(bY (h4 d hd)).1.2) (z8 h1 l).sound
def nxt (l:List aa) (b n:Int):Int:=l.foldl (fun n d=>if d.2.1=b then w64 (d.2.2.1+1) else n) n
def xe (l:List aa) (b:Int):Int:=nxt l b 1
theorem TA (l:List aa) (b n:Int) (d:aa):nxt (l++[d]) b n=if d.2.1=b then w64 (d.2.2.1+1) else nxt l b n:=by
 unfold nxt
 rw[List.foldl_append];rfl
theorem EK (l:List aa) (b n:Int) (d:aa):nxt (d::l) b n=nxt l b (if d.2.1=b then w64 (d.2.2.1+1) else n):=rfl
theorem LV (l:List aa) (b:Int) (hl:l.length≤2000):xo l b=some (xe l b,()):=by
 unfold xo
 have:∀ n,l.length<n→iter (X:=oz) (β:=si) n (b,1,l,(l.length:Int),0,()) sg=some (Sum.inr (xe l b,())):=by
  intro n hn
  refine kO (Inv:=fun i X=>X=((b,nxt (l.take i) b 1,l,(l.length:Int),(i:Int),()):oz)) l.length (fun z=>z=some (Sum.inr (xe l b,()))) ?_ ?_ n 0 _ rfl (Ym _) (by omega)
  ·rintro i X again hi rfl hag
   unfold sg
   dsimp only
   obtain⟨y,hy⟩:∃ y,l[i]? =some y:=⟨l[i],WV hi⟩
   rw[YB (show (i:Int)<(l.length:Int) by omega),Yz,eS hy,Yo,aC (n:=(i:Int)+1) (by omega) (by omega)]
   have e:=TA (l.take i) b 1 y
   rw[← oF hy] at e
   by_cases h:y.2.1=b
   ·rw[show (y.2.1==b)=true by simpa using h,Yz]
    rw[YJ h] at e
    rw[← e]
    exact hag _ rfl
   ·rw[jE h,Yy]
    rw[YI h] at e
    rw[← e]
    exact hag _ rfl
  ·rintro X again rfl
   unfold sg
   dsimp only
   rw[YA (show ¬(l.length:Int)<(l.length:Int) by omega),Yy,XN]
   rfl
 rw[this (Int.natAbs b+(Int.natAbs (1:Int)+(List.length l+(Int.natAbs ((List.length l:Int))+(Int.natAbs (0:Int)+2))))) (by omega)]
 rfl
end Go.Md
namespace Go.Md
open Go.Dn
theorem HE {o:aj} {l:List aa} {wt day:Int}:∀ (r:List aa) (i:Nat) (A:List ai) (ref:List (Int×Int)) (pts:List au),(∀ e,e∈ref→e.1<(i:Int))→
 ∀ e,e∈(kj o l wt day r i A ref pts).2.1→e.1<((i+r.length:Nat):Int)
 | [],i,A,ref,pts,h,e,he=>by
  have:=h e he
  simp only[Xg];omega
 | d::r,i,A,ref,pts,h,e,he=>by
  simp only[kj] at he
  rw[Xe]
  split at he
  ·have:=h e he;omega
  ·split at he
   ·have:=HE r (i+1) _ _ _ (fun e he=>by
     rcases Xo.1 he with he | he
     ·have:=h e he;omega
     ·simp only[Xz] at he;subst he
      show (i:Int)<_;omega) e he
    omega
   ·have:=HE r (i+1) _ _ _ (fun e he=>by have:=h e he;omega) e he
    omega
abbrev cD (l:List aa) (d:aa):aa:=(d.1,d.2.1,xe l d.2.1,d.2.2.2)
def wrF (o:aj) (l:List aa) (d:aa):List aa×Int:=
 if fN o l≠0 then ([],fN o l)
 else if d.2.2.1≠0 then ([],3)
 else if fL (l++[cD l d])≠0 then ([],fL (l++[cD l d]))
 else if (bF o (l++[cD l d]) l.length (cD l d) (dc o l 0 3652059).1).1≠0 then ([],(bF o (l++[cD l d]) l.length (cD l d) (dc o l 0 3652059).1).1)
 else (l++[cD l d],0)
theorem Np (o:aj) (l:List aa) (d:aa):yB o l d=some ((wrF o l d).1,(wrF o l d).2,()):=by
 unfold yB wrF cD
 rw[vO,Yo]
 dsimp only
 by_cases h:fN o l=0
 rotate_left
 ·rw[show ((if mB o≠0 then mB o else fL l) != 0)=true from iS h,Yz,YJ h];rfl
 rw[show (if mB o≠0 then mB o else fL l)=0 from h,zne,Yy,YI (show ¬fN o l≠0 from fun e=>e h)]
 obtain⟨h1,h2⟩:=qd h
 obtain⟨h3,h4⟩:=mM h2
 by_cases hno:d.2.2.1=0
 rotate_left
 ·rw[iS hno,Yz,YJ hno]
 rw[YI (show ¬d.2.2.1≠0 from fun e=>e hno),show (d.2.2.1 != 0)=false by rw[hno];rfl,Yy]
 rw[LV l d.2.1 h3,Yo,E7 l h3,Yo]
 dsimp only
 have zB:maxLen=9223372036854775807:=rfl
 rw[gi (by rw[V6];exact⟨YB (by omega),YB (by omega)⟩)]
 generalize hd':((d.1,d.2.1,xe l d.2.1,d.2.2.2):aa)=d'
 rw[xR,Yo]
 dsimp only
 by_cases h5:fL (l++[d'])=0
 rotate_left
 ·rw[iS h5,Yz,YJ h5]
 rw[YI (show ¬fL (l++[d'])≠0 from fun e=>e h5),h5,zne,Yy]
 have hc':fN o (l++[d'])=0:=by unfold fN;rw[YI (fun e=>e h1)];exact h5
 obtain⟨_,e1,e2,_⟩:=start_eq hc' 0 3652059
 rw[e1,Yo]
 dsimp only
 rw[e2,Yo]
 dsimp only
 obtain⟨h6,h7⟩:=mM h5
 have hsn:=Mk d' h (bY (h7 d' (by simp))).1.2 0
 have hri:∀ e,e∈(dc o l 0 3652059).2.1→e.1<(l.length:Int):=fun e he=>by
  have:=HE (o:=o) (l:=l) (wt:=0) (day:=3652059) l 0 (nQ o) [] [] (fun e he=>(nomatch he)) e he
  rwa [Yl] at this
 obtain⟨r1,_⟩:=JI (o:=o) (l:=l) (wt:=0) (day:=3652059) l 0 (nQ o) [] [] (Ym _) (fun e he=>by cases he)
 change (dc o l 0 3652059).2.1.length≤_ at r1
 generalize hR:(dc o (l++[d']) 0 3652059).2.1=ref at*
 have hR2:ref=(E9 o (l++[d']) 0 l.length d' (dc o l 0 3652059)).2.1:=by rw[← hR,hsn]
 clear hR hsn
 by_cases hD:(bF o (l++[d']) l.length d' (dc o l 0 3652059).1).1=0
 ·rw[YI (fun e=>e hD)]
  unfold E9 at hR2
  rw[YI (fun e=>e hD)] at hR2
  change ref=(dc o l 0 3652059).2.1 at hR2
  by_cases hr:ref=[]
  ·rw[hr];rfl
  have hlen:0<ref.length:=List.length_pos_iff.2 hr
  obtain⟨p,hp⟩:∃ p,ref[ref.length - 1]? =some p:=⟨ref[ref.length - 1],WV (by omega)⟩
  have hpl:=hri p (by rw[← hR2];exact Xw hp)
  have hrl:ref.length≤2000:=by rw[hR2];omega
  have hck:(decide (0≤(ref.length:Int) - 1)&&decide ((ref.length:Int) - 1<(ref.length:Int)))=true:=by
   rw[V6];exact⟨YB (by omega),YB (by omega)⟩
  rw[YB (show (ref.length:Int)>0 by omega),Yz,aC (n:=(ref.length:Int) - 1) (by omega) (by omega),gi hck,show ((ref.length:Int) - 1).toNat=ref.length - 1 by omega,hp,Yo,Yo]
  dsimp only
  rw[jE (show p.1≠(l.length:Int) by omega),Yy]
 ·rw[YJ hD]
  unfold E9 at hR2
  rw[YJ hD] at hR2
  dsimp only at hR2
  have hl1:ref.length=(dc o l 0 3652059).2.1.length+1:=by rw[hR2];simp
  have hp:ref[ref.length - 1]? =some ((l.length:Int),(bF o (l++[d']) l.length d' (dc o l 0 3652059).1).1):=by rw[hl1,hR2];simp
  have hck:(decide (0≤(ref.length:Int) - 1)&&decide ((ref.length:Int) - 1<(ref.length:Int)))=true:=by
   rw[V6];exact⟨YB (by omega),YB (by omega)⟩
  rw[YB (show (ref.length:Int)>0 by omega),Yz,aC (n:=(ref.length:Int) - 1) (by omega) (by omega),gi hck,show ((ref.length:Int) - 1).toNat=ref.length - 1 by omega,hp,Yo,Yo]
  dsimp only
  rw[show ((l.length:Int)==(l.length:Int))=true by simp,Yz,gi hck,Yo]
def d0:aa:=(0,0,0,0,0,[],(0,0),[],(0,0),0,0)
end Go.Md
set_option linter.all false
namespace Go.Md
open Go.Dn
section merge
variable (x y:List aa) (hx:x.length≤2000) (hy:y.length≤2000)
end merge
end Go.Md
set_option linter.all false
namespace Go.Md
open Go.Dn
end Go.Md
