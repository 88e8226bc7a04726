/-
  Plain facts: numbers, words, decimals, as both sides read them. No condition.
-/
import Derived.Test.YtjlkkapojeldlaaGreatDoorYo
import Derived.Test.YtjlkkapojeldlaaGreatDoorYr
import Derived.Test.YtjlkkapojeldlaaGreatDoorYq
import Derived.Test.YtjlkkapojeldlaaGreatDoorYs
set_option linter.all false
namespace Go.Md
open Go.Dn
def eg (s:List UInt8):Nat:=s.foldl (fun n b=>n*10+(b.toNat - 48)) 0
theorem Dh (s:List UInt8) (b:UInt8):eg (s++[b])=eg s*10+(b.toNat - 48):=by
 simp[eg,List.foldl_append]
theorem tU {c:UInt8}:bO c=true↔48<=c.toNat/\c.toNat<=57:=by
 simp[bO]
theorem HE:∀ (s:List UInt8) (a:Nat),s.all bO=true->s.foldl (fun n b=>n*10+(b.toNat - 48)) a<(a+1)*10 ^ s.length
 | [],a,_=>by simp
 | b::r,a,h=>by
  simp only[Wu,VZ] at h
  have h1:=HE r (a*10+(b.toNat - 48)) h.2
  have h2:=tU.1 h.1
  simp only[WR,Xm]
  refine Ye h1 ?_
  rw[Yq,show (a+1)*(10 ^ r.length*10)=(10*(a+1))*10 ^ r.length by rw[Nat.mul_comm (10 ^ r.length) 10, <- Nat.mul_assoc,Nat.mul_comm (a+1) 10]]
  exact Ym _ (by omega)
theorem T9 {s:List UInt8} (h:s.all bO=true):eg s<10 ^ s.length:=by
 have:=HE s 0 h
 simpa [eg] using this
theorem M1 {s:List UInt8} {n:Nat} (h:s.all bO=true) (hl:s.length<=n):eg s<10 ^ n:=
 Ye (T9 h) (Yp (by omega) hl)
theorem Ft:∀ (s:List UInt8) (a:Nat),s.all bO=true->Lib.decFrom a s=some (s.foldl (fun n b=>n*10+(b.toNat - 48)) a)
 | [],a,_=>rfl
 | b::r,a,h=>by
  simp only[Wu,VZ] at h
  have h2:=tU.1 h.1
  simp only[Lib.decFrom,Lib.digitVal,YR h2,WR]
  exact Ft r _ h.2
theorem Ta {s:List UInt8} (h:s.all bO=true) (h0:s≠[]):Lib.atoi s=some (eg s:Int):=by
 cases s with
 | nil=>exact absurd rfl h0
 | cons b r=>
  have h2:48<=b.toNat/\b.toNat<=57:=by
   simp only[Wu,VZ] at h
   exact tU.1 h.1
  have e1:(b==45)=false:=by
   cases e:b==45 with
   | false=>rfl
   | true=>have:=eq_of_beq e;subst this;exact absurd h2.1 (by decide)
  have e2:(b==43)=false:=by
   cases e:b==43 with
   | false=>rfl
   | true=>have:=eq_of_beq e;subst this;exact absurd h2.1 (by decide)
  simp only[Lib.atoi,e1,e2,V4,YP,Lib.decNat,List.isEmpty_cons]
  rw[Ft _ _ h]
  rfl
def wO (s:List UInt8):Bool:= !(s==[])&&(decide (s.length<=16)&&(!(decide (1<s.length)&&s.head? ==some 48)&&s.all bO))
def GH (s:List UInt8):Int:=bif wO s then (eg s:Int) else 0
theorem Qz:Qy=bO:=rfl
theorem LY (s:List UInt8):jK s 16=some (GH s,wO s,()):=by
 unfold jK GH wO
 rw[Qz]
 by_cases h16:s.length<=16
 ·rw[aI (by omega),YJ (show s.length<=18 by omega),YG,YJ h16,Wg]
  cases h0:(s==[]) with
  | true=>rfl
  | false=>
   cases hd:s.all bO with
   | false=>simp
   | true=>
    cases hz:(decide (1<s.length)&&s.head? ==some 48) with
    | true=>rfl
    | false=>
     rw[Ta hd (by intro e;rw[e] at h0;cases h0)]
     rfl
 ·rw[aF (by omega),YI h16]
  cases (s==[])<;>rfl
theorem UH {c:UInt8} (h:bO c=true):w64 (wu8 ((c.toNat:Int) - 48))=((c.toNat - 48:Nat):Int):=by
 have h2:=tU.1 h
 have:wu8 ((c.toNat:Int) - 48)=(c.toNat:Int) - 48:=AP (by simp[IntKind.min,IntKind.bits,IntKind.signed];omega) (by simp[IntKind.max,IntKind.bits,IntKind.signed];omega)
 rw[this,aD (by omega) (by omega)]
 omega
end Go.Md
namespace Go.Md
open Go.Dn
def dz (c:UInt8):List UInt8->List UInt8×List UInt8×Bool
 | []=>([],[],false)
 | b::r=>bif b==c then ([],r,true) else (b::(dz c r).1,(dz c r).2.1,(dz c r).2.2)
theorem Hv (c:UInt8):∀ s:List UInt8,Lib.indexByte s c=(bif (dz c s).2.2 then (((dz c s).1.length:Nat):Int) else -1)
 | []=>rfl
 | b::r=>by
  simp only[Lib.indexByte,dz]
  cases hb:(b==c) with
  | true=>rfl
  | false=>
   rw[Hv c r]
   simp only[V4,YP,YF]
   cases (dz c r).2.2 with
   | true=>
    simp only[YG,Xm]
    have hne:((((dz c r).1.length:Nat):Int)== -1)=false:=by
     cases h:((((dz c r).1.length:Nat):Int)== -1) with
     | false=>rfl
     | true=>have:=eq_of_beq h;omega
    rw[hne]
    simp
   | false=>rfl
theorem r0 (c:UInt8):∀ s:List UInt8,s=(dz c s).1++(bif (dz c s).2.2 then c::(dz c s).2.1 else [])/\((dz c s).2.2=false->(dz c s).2.1=[])
 | []=>⟨rfl,fun _=>rfl⟩
 | b::r=>by
  obtain⟨h1,h2⟩:=r0 c r
  simp only[dz]
  cases hb:(b==c) with
  | true=>exact⟨by rw[eq_of_beq hb];rfl,fun h=>by cases h⟩
  | false=>
   simp only[YF]
   exact⟨by rw[WB, <- h1],h2⟩
theorem Tq (s:List UInt8) (c:UInt8):eV s [c]=some (Lib.indexByte s c,()):=by
 unfold eV
 have e0:((([c]:List UInt8).length:Int)==0)=false:=rfl
 have e1:((([c]:List UInt8).length:Int)==1)=true:=rfl
 have e2:eN [c] 0=some c:=rfl
 have e3:cw s (c.toNat:Int)=some (Lib.indexByte s c,()):=by
  unfold cw
  have:((c.toNat:Int).toNat).toUInt8=c:=by
   rw[Ws]
   exact UInt8.toNat_inj.1 (by simp)
  rw[this]
 rw[e0,YF,e1,YG,e2,Yt,e3,Yt]
 cases h:([c]==s) with
 | false=>rfl
 | true=>
  have:=eq_of_beq h
  subst this
  simp[Lib.indexByte]
theorem KA (s:List UInt8) (c:UInt8) (hs:s.length<=1000000):qu s [c]=some ((dz c s).1,(dz c s).2.1,(dz c s).2.2,()):=by
 unfold qu iR
 rw[Tq,Yt,Hv]
 obtain⟨h1,h2⟩:=r0 c s
 generalize dz c s=q at h1 h2
 obtain⟨a,r,f⟩:=q
 simp only at h1 h2 ⊢
 cases f with
 | false=>
  simp only[YF] at h1 ⊢
  rw[aI (by omega),h2 rfl,Yt]
  rw[WA] at h1
  rw[<- h1]
 | true=>
  simp only[YG] at h1 ⊢
  have hl:s.length=a.length+(r.length+1):=by rw[h1];simp
  have ew:w64 ((a.length:Int)+(([c]:List UInt8).length:Int))=(a.length:Int)+(([c]:List UInt8).length:Int):=aD (by simp;omega) (by simp;omega)
  simp only[ew]
  rw[aF (by omega),aJ (by simp<;>omega),aJ (by simp<;>omega),Yt]
  have t1:List.drop 0 (List.take (Int.toNat (a.length:Int)) s)=a:=by
   rw[h1];simp
  have t2:List.drop (Int.toNat ((a.length:Int)+(([c]:List UInt8).length:Int))) (List.take (Int.toNat (s.length:Int)) s)=r:=by
   rw[show Int.toNat ((a.length:Int)+(([c]:List UInt8).length:Int))=a.length+1 by simp<;>omega,Ws,X0 (Yc _),h1, <- WE,WH]
   rfl
  rw[t1,t2]
theorem Ei (c:UInt8):∀ s:List UInt8,aS c s=(bif (dz c s).2.2 then (dz c s).1::aS c (dz c s).2.1 else [s])
 | []=>rfl
 | b::r=>by
  simp only[aS,dz]
  cases hb:(b==c) with
  | true=>rfl
  | false=>
   simp only[YF]
   rw[Ei c r]
   obtain⟨h1,h2⟩:=r0 c r
   cases hf:(dz c r).2.2 with
   | true=>rfl
   | false=>rfl
theorem F1 (c:UInt8) (s:List UInt8):aS c s≠[]:=by
 rw[Ei]
 cases (dz c s).2.2<;>simp
theorem ov (c:UInt8):∀ s:List UInt8,(aS c s).length<=s.length+1/\∀ w,w∈aS c s->w.length<=s.length
 | []=>⟨Yc _,fun w hw=>by simp[aS] at hw;simp[hw]⟩
 | b::r=>by
  obtain⟨h1,h2⟩:=ov c r
  simp only[aS]
  cases hb:(b==c) with
  | true=>
   simp only[YG,Xm]
   refine⟨by omega,fun w hw=> ?_⟩
   rcases XB.1 hw with rfl | hw
   ·simp
   ·have:=h2 w hw;omega
  | false=>
   simp only[YF]
   split
   ·rename_i h t he
    rw[he] at h1 h2
    refine⟨by simp at h1 ⊢;omega,fun w hw=> ?_⟩
    rcases XB.1 hw with rfl | hw
    ·have:=h2 h (by simp);simp;omega
    ·have:=h2 w (by simp[hw]);simp;omega
   ·exact⟨by simp,fun w hw=>by simp at hw;subst hw;simp⟩
theorem rq (s:List UInt8) (c:UInt8) (hs:s.length<=1000000):strings_Split s [c]=some (aS c s,()):=by
 simp only[strings_Split]
 rw[YJ (by omega)];rfl
def nA (l:List (List UInt8)):Bool:=l.all fun w=> !(w==[])
theorem NB (s:List UInt8) (hs:s.length<=1000000):iJ s=some (bif nA (aS 32 s) then aS 32 s else [],nA (aS 32 s),()):=by
 unfold iJ
 rw[rq s 32 hs,Yt]
 have hlen:=(ov 32 s).1
 generalize aS 32 s=l at hlen
 dsimp only
 have loop:∀ f,l.length<f->iter f (((l.length:Int),(0:Int),l,()):nU) sB=(if nA l=true then some (Sum.inr (l,())) else some (Sum.inl ([],false,()))):=by
  intro f hf
  refine b8 (Inv:=fun i X=>X=(((l.length:Int),(i:Int),l,()):nU)/\nA (l.take i)=true) l.length
   (fun r=>r=(if nA l=true then some (Sum.inr (l,())) else some (Sum.inl ([],false,())))) ?_ ?_ f 0 _ ⟨rfl,rfl⟩ (by omega) (by omega)
  ·rintro i _ again hi ⟨rfl,hb⟩ ih
   unfold sB
   dsimp only
   have hy:l[i]? =some l[i]:=aK hi
   have hym:l[i]∈l:=Xj hi
   generalize l[i]=y at hy hym
   rw[aF (by omega),aJ (by simp;omega),Ws,hy,Yt,aD (by omega) (by omega)]
   cases he:(y==[]) with
   | true=>
    have:nA l=false:=by
     simp only[nA,List.all_eq_false]
     exact⟨y,hym,by rw[he];simp⟩
    rw[this];rfl
   | false=>
    rw[YF]
    refine ih _ ⟨rfl, ?_⟩
    simp only[nA] at hb ⊢
    rw[fV hy,Wt,hb]
    simpa using he
  ·rintro _ again ⟨rfl,hb⟩
   unfold sB
   dsimp only
   rw[aI (by omega)]
   rw[X0 (Yc _)] at hb
   rw[YR hb]
 rw[loop _ (by omega)]
 cases nA l<;>rfl
end Go.Md
namespace Go.Md
open Go.Dn
def uB (s:List UInt8):Bool:=(decide (s≠[])&&s.all bO)&& !(decide (1<s.length)&&s.head? ==some 48)
def Mj (q:List UInt8×List UInt8×Bool):Bool:=uB q.1&&(bif q.2.2 then (decide (q.2.1≠[])&&q.2.1.all bO)&&decide (q.2.1.length<=9) else true)
def kj:List UInt8->Bool×List UInt8
 | b::r=>bif b==45 then (true,r) else (false,b::r)
 | []=>(false,[])
def Im (neg:Bool) (q:List UInt8×List UInt8×Bool):ah×Int:=
 let v:=eg (q.1++q.2.1)
 bif neg&&decide (v=0) then ((0,0),10) else bif decide (v<=1000000000000000) then ((bif neg then -(v:Int) else (v:Int),(q.2.1.length:Int)),0) else ((0,0),1)
def kU (s:List UInt8):ah×Int:=
 bif decide (40<s.length) then ((0,0),10) else
  bif Mj (dz 46 (kj s).2) then Im (kj s).1 (dz 46 (kj s).2) else ((0,0),10)
theorem MO (s:List UInt8) (hs:s.length<=1000000):iq s [45]=some ((kj s).2,(kj s).1,()):=by
 unfold iq fF fH
 cases s with
 | nil=>rfl
 | cons b r=>
  have hl:r.length+1<=1000000:=hs
  rw[aF (by simp;omega),aJ (by simp<;>omega),Yt]
  have e1:(List.drop 0 (List.take (Int.toNat (([45]:List UInt8).length:Int)) (b::r))==[45])=(b==45):=by
   simp
  dsimp only
  rw[e1]
  cases hb:(b==45) with
  | false=>simp[kj,hb]
  | true=>
   rw[Wd,YF,aJ (by simp<;>omega),Yt]
   simp[kj,hb]
theorem Vz {s:List UInt8} (h:s≠[]):∃ b,eN s 0=some b/\((b.toNat:Int)==48)=(s.head? ==some 48):=by
 cases s with
 | nil=>exact absurd rfl h
 | cons b r=>
  refine⟨b,rfl, ?_⟩
  by_cases e:b=48
  ·subst e;rfl
  ·have h1:((b::r:List UInt8).head? ==some 48)=false:=by simpa using e
   have h2:((b.toNat:Int)==48)=false:=by
    cases hh:((b.toNat:Int)==48) with
    | false=>rfl
    | true=>
     have h3:(b.toNat:Int)=48:=eq_of_beq hh
     exact absurd (UInt8.toNat_inj.1 (show b.toNat=(48:UInt8).toNat from by show b.toNat=48;omega)) e
   rw[h1,h2]
theorem QA (s:List UInt8) (hs:s.length<=1000000):oJ s=some (uB s,()):=by
 unfold oJ uB
 rw[nD s (by omega),Yt]
 dsimp only
 cases hd:(decide (s≠[])&&s.all bO) with
 | false=>rfl
 | true=>
  have hne:s≠[]:=by
   intro e;subst e;cases hd
  obtain⟨b,h1,h2⟩:=Vz hne
  rw[YG]
  cases hl:((s.length:Int)==1) with
  | true=>
   have:=eq_of_beq hl
   rw[YG,Yt,YI (show ¬ 1<s.length by omega)]
   rfl
  | false=>
   have hgt:1<s.length:=by
    have h0:0<s.length:=Xq.2 hne
    have hn:(s.length:Int)≠1:=fun e=>by rw[e] at hl;cases hl
    omega
   rw[YF,h1,Yt,Yt,YJ hgt,Wg,Wg, <- h2]
   rfl
theorem Te (c:UInt8) (s:List UInt8):(dz c s).1.length+(dz c s).2.1.length<=s.length:=by
 obtain⟨h1,h2⟩:=r0 c s
 generalize hq:dz c s=q at h1 h2
 have:=congrArg List.length h1
 cases hf:q.2.2 with
 | true=>rw[hf] at this;simp at this;omega
 | false=>rw[hf] at this;rw[h2 hf];simp at this;simp;omega
theorem SU (s:List UInt8):(kj s).2.length<=s.length:=by
 cases s with
 | nil=>simp[kj]
 | cons b r=>
  simp only[kj]
  cases (b==45)<;>simp
theorem zL (neg:Bool) (a b:List UInt8) (f:Bool) (ha:a.all bO=true) (hb:b.all bO=true) (hl:a.length+b.length<=40):uH neg a b=some ((Im neg (a,b,f)).1,(Im neg (a,b,f)).2,()):=by
 unfold uH
 rw[u6 0 (by omega) (by omega),Yt,aJ (by rw[cE];simp;omega)]
 have hall:(a++b).all bO=true:=by rw[Wt,ha,hb];rfl
 have hlen:(a++b).length<=40:=by simp;omega
 have loop:∀ n,(a++b).length<n->iter n ((neg,a,b,((a++b).length:Int),(0:Int),0,0,(W 0).1,(W 0).2,()):kY) oL=some (Sum.inr (neg,b,0,0,(W (eg (a++b):Int)).1,(W (eg (a++b):Int)).2,())):=by
  intro n hn
  refine b8 (Inv:=fun i X=>X=((neg,a,b,((a++b).length:Int),(i:Int),0,0,(W (eg ((a++b).take i):Int)).1,(W (eg ((a++b).take i):Int)).2,()):kY)) (a++b).length
   (fun r=>r=some (Sum.inr (neg,b,0,0,(W (eg (a++b):Int)).1,(W (eg (a++b):Int)).2,()))) ?_ ?_ n 0 _ (by simp[eg]) (by omega) (by omega)
  ·rintro i _ again hi rfl ih
   unfold oL
   dsimp only
   have hy:(a++b)[i]? =some (a++b)[i]:=aK hi
   have hd:bO (a++b)[i]=true:=Wv.1 hall _ (Xj hi)
   generalize (a++b)[i]=y at hy hd
   have ht:((a++b).take i).all bO=true:=Wv.2 fun c hc=>Wv.1 hall c (XI hc)
   have hlt:=M1 (n:=40) ht (by simp;omega)
   have hd2:=tU.1 hd
   have h99:∀ k:Nat,k<10 ^ 42->((k:Nat):Int).natAbs<4294967296 ^ 99:=fun k hk=>by
    rw[Wn];exact Yj hk (by decide)
   have e1:kr ((W (eg ((a++b).take i):Int)).1,(W (eg ((a++b).take i):Int)).2) (W 10)=some (W ((eg ((a++b).take i):Int)*10),()):=Er _ _ (h99 _ (by omega)) (by decide)
   have e2:lH (W ((eg ((a++b).take i):Int)*10)) (W ((y.toNat - 48:Nat):Int))=some (W ((eg ((a++b).take i):Int)*10+((y.toNat - 48:Nat):Int)),()):=
    Fk _ _ (by have:=h99 (eg ((a++b).take i)*10) (by omega);simpa using this) (h99 _ (by omega))
   rw[aF (by omega),u6 10 (by omega) (by omega),Yt,e1,Yt,aJ (by rw[cE];simp;omega),ux hy,Yt,UH hd,u6 _ (by omega) (by omega),Yt,e2,Yt,aD (by omega) (by omega)]
   refine ih _ ?_
   rw[fV hy,Dh]
   have e3:(((eg ((a++b).take i)*10+(y.toNat - 48):Nat)):Int)=(eg ((a++b).take i):Int)*10+((y.toNat - 48:Nat):Int):=by omega
   rw[e3]
   rfl
  ·rintro _ again rfl
   unfold oL
   dsimp only
   rw[aI (by omega),X0 (Yc _)]
 dsimp only
 rw[loop _ (by simp;omega),bg]
 dsimp only
 have hv:=M1 (n:=40) hall hlen
 have h99:((eg (a++b):Nat):Int).natAbs<4294967296 ^ 99:=by rw[Wn];exact Yj hv (by decide)
 unfold Im
 dsimp only
 generalize eg (a++b)=v at hv h99
 cases neg with
 | false=>
  rw[YF,show mR ((W (v:Int)).1,(W (v:Int)).2) (b.length:Int)=_ from zJ (v:Int) (b.length:Int),Wn]
  rw[V3,YF,YF]
  by_cases h:v<=1000000000000000
  ·rw[YR h,YJ h];rfl
  ·rw[YQ h,YI h];rfl
 | true=>
  rw[YG,show lI ((W (v:Int)).1,(W (v:Int)).2)=_ from Fl (v:Int),Yt]
  dsimp only
  by_cases h0:v=0
  ·subst h0;rfl
  ·have hs:((v:Int).sign==0)=false:=by
    cases hh:((v:Int).sign==0) with
    | false=>rfl
    | true=>have:=Int.sign_eq_zero_iff_zero.1 (eq_of_beq hh);omega
   rw[hs,YF,YI h0,V0,YF,show ko ((W (v:Int)).1,(W (v:Int)).2)=_ from Ep (v:Int) h99,Yt,zJ,Int.natAbs_neg,Wn]
   by_cases h:v<=1000000000000000
   ·rw[YR h,YJ h];rfl
   ·rw[YQ h,YI h];rfl
theorem vf (s:List UInt8) (hs:s.length<=1000000):fC s=some ((kU s).1,(kU s).2,()):=by
 have hs2:=SU s
 have hc:=Te 46 (kj s).2
 unfold fC kU
 rw[MO s hs,Yt]
 dsimp only
 rw[KA _ 46 (by omega),Yt]
 dsimp only
 by_cases h40:40<s.length
 ·rw[aF (by omega),YJ h40];rfl
 ·rw[aI (by omega),YI h40,YF]
  rw[QA _ (by omega),Yt]
  dsimp only
  unfold Mj
  generalize hq:dz 46 (kj s).2=q at hc
  obtain⟨a,b,f⟩:=q
  dsimp only at hc ⊢
  cases hw:uB a with
  | false=>rfl
  | true=>
   have ha:a.all bO=true:=by
    simp only[uB,VZ] at hw
    exact hw.1.2
   rw[Wd,YF,Wg]
   cases f with
   | false=>
    have hb:b=[]:=by
     have:=(r0 46 (kj s).2).2
     rw[hq] at this
     exact this rfl
    subst hb
    rw[YF,Yt]
    dsimp only
    rw[YF,zL (kj s).1 a [] false ha rfl (by simp at hc ⊢;omega),Yt]
    rfl
   | true=>
    rw[YG,nD b (by omega),Yt,YG]
    dsimp only
    cases hd:(decide (b≠[])&&b.all bO) with
    | false=>rfl
    | true=>
     have hb:b.all bO=true:=by simp only[VZ] at hd;exact hd.2
     rw[Wd,YF,Yt,Wg]
     dsimp only
     by_cases h9:b.length<=9
     ·rw[aI (by omega),YJ h9,zL (kj s).1 a b true ha hb (by omega),Yt]
      rfl
     ·rw[aF (by omega),YI h9]
      rfl
end Go.Md
