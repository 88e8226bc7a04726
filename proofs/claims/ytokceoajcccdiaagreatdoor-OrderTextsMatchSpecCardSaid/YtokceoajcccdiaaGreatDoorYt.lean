/-
  Plain facts: numbers, words, decimals, as both sides read them. No condition.
-/
import Derived.Test.YtokceoajcccdiaaGreatDoorYo
import Derived.Test.YtokceoajcccdiaaGreatDoorYr
import Derived.Test.YtokceoajcccdiaaGreatDoorYq
import Derived.Test.YtokceoajcccdiaaGreatDoorYs
set_option linter.all false
namespace Go.Md
open Go.Dn
def bT (s:List UInt8):Nat:=s.foldl (fun n b=>n*10+(b.toNat - 48)) 0
theorem tH (s:List UInt8) (b:UInt8):bT (s++[b])=bT s*10+(b.toNat - 48):=by
 simp[bT,Uj]
theorem lC {c:UInt8}:bw c=true↔48<=c.toNat/\c.toNat<=57:=by
 simp[bw]
theorem FH:∀ (s:List UInt8) (a:Nat),s.all bw=true->s.foldl (fun n b=>n*10+(b.toNat - 48)) a<(a+1)*10 ^ s.length
 | [],a,_=>by simp
 | b::r,a,h=>by
  simp only[TX,Tr] at h
  have h1:=FH r (a*10+(b.toNat - 48)) h.2
  have h2:=lC.1 h.1
  simp only[Uk,UH]
  refine Vw h1 ?_
  rw[VG,show (a+1)*(10 ^ r.length*10)=(10*(a+1))*10 ^ r.length by rw[Nat.mul_comm (10 ^ r.length) 10, <- Nat.mul_assoc,Nat.mul_comm (a+1) 10]]
  exact VC _ (by omega)
theorem Rs {s:List UInt8} (h:s.all bw=true):bT s<10 ^ s.length:=by
 have:=FH s 0 h
 simpa [bT] using this
theorem zC {s:List UInt8} {n:Nat} (h:s.all bw=true) (hl:s.length<=n):bT s<10 ^ n:=
 Vw (Rs h) (VF (by omega) hl)
theorem DX:∀ (s:List UInt8) (a:Nat),s.all bw=true->Lib.decFrom a s=some (s.foldl (fun n b=>n*10+(b.toNat - 48)) a)
 | [],a,_=>rfl
 | b::r,a,h=>by
  simp only[TX,Tr] at h
  have h2:=lC.1 h.1
  simp only[Lib.decFrom,Lib.digitVal,V7 h2,Uk]
  exact DX r _ h.2
theorem Qn {s:List UInt8} (h:s.all bw=true) (h0:s≠[]):Lib.atoi s=some (bT s:Int):=by
 cases s with
 | nil=>exact absurd rfl h0
 | cons b r=>
  have h2:48<=b.toNat/\b.toNat<=57:=by
   simp only[TX,Tr] at h
   exact lC.1 h.1
  have e1:(b==45)=false:=by
   cases e:b==45 with
   | false=>rfl
   | true=>have:=eq_of_beq e;subst this;exact absurd h2.1 (by decide)
  have e2:(b==43)=false:=by
   cases e:b==43 with
   | false=>rfl
   | true=>have:=eq_of_beq e;subst this;exact absurd h2.1 (by decide)
  simp only[Lib.atoi,e1,e2,Tz,V5,Lib.decNat,UF]
  rw[DX _ _ h]
  rfl
def av (s:List UInt8):Bool:= !(s==[])&&(decide (s.length<=16)&&(!(decide (1<s.length)&&s.head? ==some 48)&&s.all bw))
def bX (s:List UInt8):Int:=bif av s then (bT s:Int) else 0
theorem NW:NV=bw:=rfl
theorem JI (s:List UInt8):nW s 16=some (bX s,av s,()):=by
 unfold nW bX av
 rw[NW]
 by_cases h16:s.length<=16
 ·rw[aK (by omega),VZ (show s.length<=18 by omega),VW,VZ h16,TJ]
  cases h0:(s==[]) with
  | true=>rfl
  | false=>
   cases hd:s.all bw with
   | false=>simp
   | true=>
    cases hz:(decide (1<s.length)&&s.head? ==some 48) with
    | true=>rfl
    | false=>
     rw[Qn hd (by intro e;rw[e] at h0;cases h0)]
     rfl
 ·rw[aE (by omega),VY h16]
  cases (s==[])<;>rfl
theorem IB {c:UInt8} (h:bw c=true):w64 (wu8 ((c.toNat:Int) - 48))=((c.toNat - 48:Nat):Int):=by
 have h2:=lC.1 h
 have:wu8 ((c.toNat:Int) - 48)=(c.toNat:Int) - 48:=zj (by simp[IntKind.min,IntKind.bits,IntKind.signed];omega) (by simp[IntKind.max,IntKind.bits,IntKind.signed];omega)
 rw[this,az (by omega) (by omega)]
 omega
theorem Lw (s:List UInt8):CA s=some (bX s,av s,()):=by
 unfold CA bX av
 cases h0:(s==[]) with
 | true=>rfl
 | false=>
  rw[VV]
  by_cases h16:s.length<=16
  ·rw[aK (by omega),VZ h16,TJ,TF,TJ]
   have hne:s≠[]:=by intro e;rw[e] at h0;cases h0
   obtain⟨b,r,rfl⟩:∃ b r,s=b::r:=by cases s with | nil=>exact absurd rfl hne | cons b r=>exact⟨b,r,rfl⟩
   have hb:((b::r:List UInt8).head? ==some 48)=((b.toNat:Int)==48):=by
    by_cases e:b=48
    ·subst e;rfl
    ·have h1:((b::r:List UInt8).head? ==some 48)=false:=by simpa using e
     have h2:((b.toNat:Int)==48)=false:=by
      cases hh:((b.toNat:Int)==48) with
      | false=>rfl
      | true=>
       have h3:(b.toNat:Int)=48:=eq_of_beq hh
       exact absurd (VP.1 (show b.toNat=(48:UInt8).toNat from by show b.toNat=48;omega)) e
     rw[h1,h2]
   have hz:(bif decide ((((b::r).length:Nat):Int)>1) then (Option.bind (fP (b::r) 0) fun c1=>some ((c1.toNat:Int)==48,())) else some (false,()))=some ((decide (1<(b::r).length)&&(b::r:List UInt8).head? ==some 48),()):=by
    by_cases h1:1<(b::r).length
    ·rw[aE (by omega),VZ h1,TJ,hb];rfl
    ·rw[aK (by omega),VY h1];rfl
   rw[hz,VJ]
   generalize hs:b::r=s at*
   cases hzz:(decide (1<s.length)&&s.head? ==some 48) with
   | true=>rfl
   | false=>
    rw[VV,TF,TJ]
    have loop:∀ f,s.length<f->iter f ((s,(0:Int),(s.length:Int),(0:Int),()):nw) rA=(if s.all bw=true then some (Sum.inr ((bT s:Int),())) else some (Sum.inl (0,false,()))):=by
     intro f hf
     refine b9 (Inv:=fun i X=>X=((s,(bT (s.take i):Int),(s.length:Int),(i:Int),()):nw)/\(s.take i).all bw=true) s.length
      (fun r=>r=(if s.all bw=true then some (Sum.inr ((bT s:Int),())) else some (Sum.inl (0,false,())))) ?_ ?_ f 0 _ ⟨by simp[bT],by simp⟩ (by omega) (by omega)
     ·rintro i _ again hi ⟨rfl,hb⟩ ih
      unfold rA
      dsimp only
      have hy:s[i]? =some s[i]:=aT hi
      have hym:s[i]∈s:=UC hi
      generalize s[i]=y at hy hym
      have hlt:=zC (n:=16) hb (by simp;omega)
      rw[aE (by omega),qa hy,VJ,VJ,VJ,az (n:=(i:Int)+1) (by omega) (by omega)]
      cases hd:bw y with
      | true=>
       obtain⟨h1,h2⟩:=r0.2 hd
       have h3:=lC.1 hd
       rw[h1,h2,VV,VV,IB hd,az (n:=10*_) (by omega) (by omega),az (by omega) (by omega)]
       refine ih _ ⟨?_, ?_⟩
       ·rw[dU hy,tH]
        congr 2
        omega
       ·rw[dU hy]
        simp[hb,hd]
      | false=>
       have hall:s.all bw=false:=by
        rw[TY]
        exact⟨y,hym,by simp[hd]⟩
       rw[hall]
       cases h1:decide ((y.toNat:Int)<48) with
       | true=>rfl
       | false=>
        cases h2:decide ((y.toNat:Int)>57) with
        | true=>rfl
        | false=>have:=r0.1 ⟨h1,h2⟩;rw[hd] at this;cases this
     ·rintro _ again ⟨rfl,hb⟩
      unfold rA
      dsimp only
      rw[aK (by omega)]
      rw[Vj (Vu _)] at hb ⊢
      rw[V7 hb]
    rw[loop _ (by omega)]
    cases s.all bw<;>rfl
  ·rw[aE (by omega),VY h16]
   rfl
theorem aN (b:Bool) (s:List UInt8):eV (b,()) s=some (bX s,(b&&av s,()),()):=by
 unfold eV
 rw[Lw,VJ]
 cases b<;>rfl
end Go.Md
namespace Go.Md
open Go.Dn
def dM (c:UInt8):List UInt8->List UInt8×List UInt8×Bool
 | []=>([],[],false)
 | b::r=>bif b==c then ([],r,true) else (b::(dM c r).1,(dM c r).2.1,(dM c r).2.2)
theorem Fy (c:UInt8):∀ s:List UInt8,Lib.indexByte s c=(bif (dM c s).2.2 then (((dM c s).1.length:Nat):Int) else -1)
 | []=>rfl
 | b::r=>by
  simp only[Lib.indexByte,dM]
  cases hb:(b==c) with
  | true=>rfl
  | false=>
   rw[Fy c r]
   simp only[Tz,V5,VV]
   cases (dM c r).2.2 with
   | true=>
    simp only[VW,UH]
    have hne:((((dM c r).1.length:Nat):Int)== -1)=false:=by
     cases h:((((dM c r).1.length:Nat):Int)== -1) with
     | false=>rfl
     | true=>have:=eq_of_beq h;omega
    rw[hne]
    simp
   | false=>rfl
theorem nT (c:UInt8):∀ s:List UInt8,s=(dM c s).1++(bif (dM c s).2.2 then c::(dM c s).2.1 else [])/\((dM c s).2.2=false->(dM c s).2.1=[])
 | []=>⟨rfl,fun _=>rfl⟩
 | b::r=>by
  obtain⟨h1,h2⟩:=nT c r
  simp only[dM]
  cases hb:(b==c) with
  | true=>exact⟨by rw[eq_of_beq hb];rfl,fun h=>by cases h⟩
  | false=>
   simp only[VV]
   exact⟨by rw[T7, <- h1],h2⟩
theorem QD (s:List UInt8) (c:UInt8):fB s [c]=some (Lib.indexByte s c,()):=by
 unfold fB
 have e0:((([c]:List UInt8).length:Int)==0)=false:=rfl
 have e1:((([c]:List UInt8).length:Int)==1)=true:=rfl
 have e2:fP [c] 0=some c:=rfl
 have e3:cF s (c.toNat:Int)=some (Lib.indexByte s c,()):=by
  unfold cF
  have:((c.toNat:Int).toNat).toUInt8=c:=by
   rw[TV]
   exact VP.1 (by simp)
  rw[this]
 rw[e0,VV,e1,VW,e2,VJ,e3,VJ]
 cases h:([c]==s) with
 | false=>rfl
 | true=>
  have:=eq_of_beq h
  subst this
  simp[Lib.indexByte]
theorem zf (s:List UInt8) (c:UInt8) (hs:s.length<=1000000):oZ s [c]=some ((dM c s).1,(dM c s).2.1,(dM c s).2.2,()):=by
 unfold oZ iT
 rw[QD,VJ,Fy]
 obtain⟨h1,h2⟩:=nT c s
 generalize dM c s=q at h1 h2
 obtain⟨a,r,f⟩:=q
 simp only at h1 h2 ⊢
 cases f with
 | false=>
  simp only[VV] at h1 ⊢
  rw[aK (by omega),h2 rfl,VJ]
  rw[T6] at h1
  rw[<- h1]
 | true=>
  simp only[VW] at h1 ⊢
  have hl:s.length=a.length+(r.length+1):=by rw[h1];simp
  have ew:w64 ((a.length:Int)+(([c]:List UInt8).length:Int))=(a.length:Int)+(([c]:List UInt8).length:Int):=az (by simp;omega) (by simp;omega)
  simp only[ew]
  rw[aE (by omega),aC (by simp<;>omega),aC (by simp<;>omega),VJ]
  have t1:List.drop 0 (List.take (Int.toNat (a.length:Int)) s)=a:=by
   rw[h1];simp
  have t2:List.drop (Int.toNat ((a.length:Int)+(([c]:List UInt8).length:Int))) (List.take (Int.toNat (s.length:Int)) s)=r:=by
   rw[show Int.toNat ((a.length:Int)+(([c]:List UInt8).length:Int))=a.length+1 by simp<;>omega,TV,Vj (Vu _),h1, <- Ua,Uc]
   rfl
  rw[t1,t2]
theorem CQ (c:UInt8):∀ s:List UInt8,aA c s=(bif (dM c s).2.2 then (dM c s).1::aA c (dM c s).2.1 else [s])
 | []=>rfl
 | b::r=>by
  simp only[aA,dM]
  cases hb:(b==c) with
  | true=>rfl
  | false=>
   simp only[VV]
   rw[CQ c r]
   obtain⟨h1,h2⟩:=nT c r
   cases hf:(dM c r).2.2 with
   | true=>rfl
   | false=>rfl
theorem MM (c:UInt8) (s:List UInt8):aA c s≠[]:=by
 rw[CQ]
 cases (dM c s).2.2<;>simp
theorem bU (c:UInt8):∀ s:List UInt8,(aA c s).length<=s.length+1/\∀ w,w∈aA c s->w.length<=s.length
 | []=>⟨Vu _,fun w hw=>by simp[aA] at hw;simp[hw]⟩
 | b::r=>by
  obtain⟨h1,h2⟩:=bU c r
  simp only[aA]
  cases hb:(b==c) with
  | true=>
   simp only[VW,UH]
   refine⟨by omega,fun w hw=> ?_⟩
   rcases UX.1 hw with rfl | hw
   ·simp
   ·have:=h2 w hw;omega
  | false=>
   simp only[VV]
   split
   ·rename_i h t he
    rw[he] at h1 h2
    refine⟨by simp at h1 ⊢;omega,fun w hw=> ?_⟩
    rcases UX.1 hw with rfl | hw
    ·have:=h2 h (by simp);simp;omega
    ·have:=h2 w (by simp[hw]);simp;omega
   ·exact⟨by simp,fun w hw=>by simp at hw;subst hw;simp⟩
theorem bu (s:List UInt8) (c:UInt8) (hs:s.length<=1000000):strings_Split s [c]=some (aA c s,()):=by
 simp only[strings_Split]
 rw[VZ (by omega)];rfl
def cK (l:List (List UInt8)):Bool:=l.all fun w=> !(w==[])
theorem iV (s:List UInt8) (hs:s.length<=1000000):wX s=some (bif cK (aA 32 s) then aA 32 s else [],cK (aA 32 s),()):=by
 unfold wX
 rw[bu s 32 hs,VJ]
 have hlen:=(bU 32 s).1
 generalize aA 32 s=l at hlen
 dsimp only
 have loop:∀ f,l.length<f->iter f (((l.length:Int),(0:Int),l,()):ni) qR=(if cK l=true then some (Sum.inr (l,())) else some (Sum.inl ([],false,()))):=by
  intro f hf
  refine b9 (Inv:=fun i X=>X=(((l.length:Int),(i:Int),l,()):ni)/\cK (l.take i)=true) l.length
   (fun r=>r=(if cK l=true then some (Sum.inr (l,())) else some (Sum.inl ([],false,())))) ?_ ?_ f 0 _ ⟨rfl,rfl⟩ (by omega) (by omega)
  ·rintro i _ again hi ⟨rfl,hb⟩ ih
   unfold qR
   dsimp only
   have hy:l[i]? =some l[i]:=aT hi
   have hym:l[i]∈l:=UC hi
   generalize l[i]=y at hy hym
   rw[aE (by omega),aC (by simp;omega),TV,hy,VJ,az (by omega) (by omega)]
   cases he:(y==[]) with
   | true=>
    have:cK l=false:=by
     simp only[cK,TY]
     exact⟨y,hym,by rw[he];simp⟩
    rw[this];rfl
   | false=>
    rw[VV]
    refine ih _ ⟨rfl, ?_⟩
    simp only[cK] at hb ⊢
    rw[dU hy,TW,hb]
    simpa using he
  ·rintro _ again ⟨rfl,hb⟩
   unfold qR
   dsimp only
   rw[aK (by omega)]
   rw[Vj (Vu _)] at hb
   rw[V7 hb]
 rw[loop _ (by omega)]
 cases cK l<;>rfl
theorem nX (w:List (List UInt8)) (b:Bool):eI (w,b,())=some (w.headD [],(w.tail,b||w.isEmpty,()),()):=by
 unfold eI
 cases w with
 | nil=>simp
 | cons a r=>
  have e:((((a::r).length:Nat):Int)==0)=false:=by
   cases h:((((a::r).length:Nat):Int)==0) with
   | false=>rfl
   | true=>have:=eq_of_beq h;simp at this;omega
  dsimp only
  rw[e,VV,show idx (a::r) 0=some a from rfl,VJ,aC (by simp;omega),TV,Vj (Vu _)]
  simp
theorem cc (w:List (List UInt8)) (b:Bool):dN (w,b,())=some (bX (w.headD []),(w.tail,b|| !av (w.headD []),()),()):=by
 unfold dN
 dsimp only
 rw[nX,VJ]
 dsimp only
 rw[JI,VJ]
 cases w with
 | nil=>cases b<;>rfl
 | cons a r=>
  cases b with
  | true=>rfl
  | false=>cases av a<;>rfl
def aY (y:List UInt8):List (List UInt8)->Int->Int
 | [],_=> -1
 | o::r,i=>bif y==o then i else aY y r (i+1)
theorem bh (l:List (List UInt8)) (y:List UInt8) (hl:l.length<=1000000):eg l y=some (aY y l 0,()):=by
 unfold eg
 have loop:∀ f,l.length<f->∃ r:Option dA,iter f ((l,y,(l.length:Int),(0:Int),()):dB) cM=r/\(aF (β:=(Int×Unit)) (γ:=Unit) r fun _=>some ((-1),()))=some (aY y l 0,()):=by
  intro f hf
  refine b9 (Inv:=fun i X=>X=((l,y,(l.length:Int),(i:Int),()):dB)/\aY y l 0=aY y (l.drop i) (i:Int)) l.length
   (fun q=>∃ r:Option dA,q=r/\(aF (β:=(Int×Unit)) (γ:=Unit) r fun _=>some ((-1),()))=some (aY y l 0,())) ?_ ?_ f 0 _ ⟨rfl,by simp⟩ (by omega) (by omega)
  ·rintro i _ again hi ⟨rfl,hb⟩ ih
   unfold cM
   dsimp only
   have hy:l[i]? =some l[i]:=aT hi
   rw[Ub hi] at hb
   generalize l[i]=o at hy hb
   rw[aE (by omega),cN,hy,VJ,az (by omega) (by omega)]
   simp only[aY] at hb
   cases he:(y==o) with
   | true=>
    rw[he] at hb
    exact⟨_,rfl,by rw[hb];rfl⟩
   | false=>
    rw[he] at hb
    exact ih _ ⟨rfl,by rw[hb];simp⟩
  ·rintro _ again ⟨rfl,hb⟩
   unfold cM
   dsimp only
   rw[aK (by omega)]
   rw[Ud] at hb
   exact⟨_,rfl,by rw[hb];rfl⟩
 obtain⟨r,h1,h2⟩:=loop (List.length l+(List.length y+(Int.natAbs ((List.length l:Int))+(Int.natAbs (0:Int)+2)))) (by omega)
 rw[h1]
 exact h2
theorem gx (w:List (List UInt8)) (b:Bool) (ws:List (List UInt8)) (hl:ws.length<=1000000):iy (w,b,()) ws=some (aY (w.headD []) ws 0,(w.tail,b||(w.isEmpty||decide (aY (w.headD []) ws 0<1)),()),()):=by
 unfold iy
 dsimp only
 rw[nX,VJ]
 dsimp only
 rw[bh _ _ hl,VJ]
 cases b with
 | true=>rfl
 | false=>cases w<;>rfl
end Go.Md
namespace Go.Md
open Go.Dn
def kT (s:List UInt8):Bool:=(decide (s≠[])&&s.all bw)&& !(decide (1<s.length)&&s.head? ==some 48)
def FI (q:List UInt8×List UInt8×Bool):Bool:=kT q.1&&(bif q.2.2 then (decide (q.2.1≠[])&&q.2.1.all bw)&&decide (q.2.1.length<=9) else true)
def gP:List UInt8->Bool×List UInt8
 | b::r=>bif b==45 then (true,r) else (false,b::r)
 | []=>(false,[])
def De (neg:Bool) (q:List UInt8×List UInt8×Bool):ah×Int:=
 let v:=bT (q.1++q.2.1)
 bif neg&&decide (v=0) then ((0,0),10) else bif decide (v<=1000000000000000) then ((bif neg then -(v:Int) else (v:Int),(q.2.1.length:Int)),0) else ((0,0),1)
def bG (s:List UInt8):ah×Int:=
 bif decide (40<s.length) then ((0,0),10) else
  bif FI (dM 46 (gP s).2) then De (gP s).1 (dM 46 (gP s).2) else ((0,0),10)
theorem Bz (s:List UInt8) (hs:s.length<=1000000):iC s [45]=some ((gP s).2,(gP s).1,()):=by
 unfold iC fU fW
 cases s with
 | nil=>rfl
 | cons b r=>
  have hl:r.length+1<=1000000:=hs
  rw[aE (by simp;omega),aC (by simp<;>omega),VJ]
  have e1:(List.drop 0 (List.take (Int.toNat (([45]:List UInt8).length:Int)) (b::r))==[45])=(b==45):=by
   simp
  dsimp only
  rw[e1]
  cases hb:(b==45) with
  | false=>simp[gP,hb]
  | true=>
   rw[TG,VV,aC (by simp<;>omega),VJ]
   simp[gP,hb]
theorem Rk {s:List UInt8} (h:s≠[]):∃ b,fP s 0=some b/\((b.toNat:Int)==48)=(s.head? ==some 48):=by
 cases s with
 | nil=>exact absurd rfl h
 | cons b r=>
  refine⟨b,rfl, ?_⟩
  by_cases e:b=48
  ·subst e;rfl
  ·have h1:((b::r:List UInt8).head? ==some 48)=false:=by simpa using e
   have h2:((b.toNat:Int)==48)=false:=by
    cases hh:((b.toNat:Int)==48) with
    | false=>rfl
    | true=>
     have h3:(b.toNat:Int)=48:=eq_of_beq hh
     exact absurd (VP.1 (show b.toNat=(48:UInt8).toNat from by show b.toNat=48;omega)) e
   rw[h1,h2]
theorem NX (s:List UInt8) (hs:s.length<=1000000):nO s=some (kT s,()):=by
 unfold nO kT
 rw[qQ s (by omega),VJ]
 dsimp only
 cases hd:(decide (s≠[])&&s.all bw) with
 | false=>rfl
 | true=>
  have hne:s≠[]:=by
   intro e;subst e;cases hd
  obtain⟨b,h1,h2⟩:=Rk hne
  rw[VW]
  cases hl:((s.length:Int)==1) with
  | true=>
   have:=eq_of_beq hl
   rw[VW,VJ,VY (show ¬ 1<s.length by omega)]
   rfl
  | false=>
   have hgt:1<s.length:=by
    have h0:0<s.length:=UM.2 hne
    have hn:(s.length:Int)≠1:=fun e=>by rw[e] at hl;cases hl
    omega
   rw[VV,h1,VJ,VJ,VZ hgt,TJ,TJ, <- h2]
   rfl
theorem Ku (c:UInt8) (s:List UInt8):(dM c s).1.length+(dM c s).2.1.length<=s.length:=by
 obtain⟨h1,h2⟩:=nT c s
 generalize hq:dM c s=q at h1 h2
 have:=congrArg List.length h1
 cases hf:q.2.2 with
 | true=>rw[hf] at this;simp at this;omega
 | false=>rw[hf] at this;rw[h2 hf];simp at this;simp;omega
theorem Jc (s:List UInt8):(gP s).2.length<=s.length:=by
 cases s with
 | nil=>simp[gP]
 | cons b r=>
  simp only[gP]
  cases (b==45)<;>simp
theorem yc (neg:Bool) (a b:List UInt8) (f:Bool) (ha:a.all bw=true) (hb:b.all bw=true) (hl:a.length+b.length<=40):sS neg a b=some ((De neg (a,b,f)).1,(De neg (a,b,f)).2,()):=by
 unfold sS
 rw[tD 0 (by omega) (by omega),VJ,aC (by rw[bS];simp;omega)]
 have hall:(a++b).all bw=true:=by rw[TW,ha,hb];rfl
 have hlen:(a++b).length<=40:=by simp;omega
 have loop:∀ n,(a++b).length<n->iter n ((neg,a,b,((a++b).length:Int),(0:Int),0,0,(W 0).1,(W 0).2,()):kE) nQ=some (Sum.inr (neg,b,0,0,(W (bT (a++b):Int)).1,(W (bT (a++b):Int)).2,())):=by
  intro n hn
  refine b9 (Inv:=fun i X=>X=((neg,a,b,((a++b).length:Int),(i:Int),0,0,(W (bT ((a++b).take i):Int)).1,(W (bT ((a++b).take i):Int)).2,()):kE)) (a++b).length
   (fun r=>r=some (Sum.inr (neg,b,0,0,(W (bT (a++b):Int)).1,(W (bT (a++b):Int)).2,()))) ?_ ?_ n 0 _ (by simp[bT]) (by omega) (by omega)
  ·rintro i _ again hi rfl ih
   unfold nQ
   dsimp only
   have hy:(a++b)[i]? =some (a++b)[i]:=aT hi
   have hd:bw (a++b)[i]=true:=TZ.1 hall _ (UC hi)
   generalize (a++b)[i]=y at hy hd
   have ht:((a++b).take i).all bw=true:=TZ.2 fun c hc=>TZ.1 hall c (U4 hc)
   have hlt:=zC (n:=40) ht (by simp;omega)
   have hd2:=lC.1 hd
   have h99:∀ k:Nat,k<10 ^ 42->((k:Nat):Int).natAbs<4294967296 ^ 99:=fun k hk=>by
    rw[TQ];exact Nat.lt_trans hk (by decide)
   have e1:jR ((W (bT ((a++b).take i):Int)).1,(W (bT ((a++b).take i):Int)).2) (W 10)=some (W ((bT ((a++b).take i):Int)*10),()):=CY _ _ (h99 _ (by omega)) (by decide)
   have e2:kU (W ((bT ((a++b).take i):Int)*10)) (W ((y.toNat - 48:Nat):Int))=some (W ((bT ((a++b).take i):Int)*10+((y.toNat - 48:Nat):Int)),()):=
    DP _ _ (by have:=h99 (bT ((a++b).take i)*10) (by omega);simpa using this) (h99 _ (by omega))
   rw[aE (by omega),tD 10 (by omega) (by omega),VJ,e1,VJ,aC (by rw[bS];simp;omega),qa hy,VJ,IB hd,tD _ (by omega) (by omega),VJ,e2,VJ,az (by omega) (by omega)]
   refine ih _ ?_
   rw[dU hy,tH]
   have e3:(((bT ((a++b).take i)*10+(y.toNat - 48):Nat)):Int)=(bT ((a++b).take i):Int)*10+((y.toNat - 48:Nat):Int):=by omega
   rw[e3]
   rfl
  ·rintro _ again rfl
   unfold nQ
   dsimp only
   rw[aK (by omega),Vj (Vu _)]
 dsimp only
 rw[loop _ (by simp;omega),au]
 dsimp only
 have hv:=zC (n:=40) hall hlen
 have h99:((bT (a++b):Nat):Int).natAbs<4294967296 ^ 99:=by rw[TQ];exact Nat.lt_trans hv (by decide)
 unfold De
 dsimp only
 generalize bT (a++b)=v at hv h99
 cases neg with
 | false=>
  rw[VV,show mj ((W (v:Int)).1,(W (v:Int)).2) (b.length:Int)=_ from ya (v:Int) (b.length:Int),TQ]
  rw[Tx,VV,VV]
  by_cases h:v<=1000000000000000
  ·rw[V7 h,VZ h];rfl
  ·rw[V6 h,VY h];rfl
 | true=>
  rw[VW,show kV ((W (v:Int)).1,(W (v:Int)).2)=_ from DQ (v:Int),VJ]
  dsimp only
  by_cases h0:v=0
  ·subst h0;rfl
  ·have hs:((v:Int).sign==0)=false:=by
    cases hh:((v:Int).sign==0) with
    | false=>rfl
    | true=>have:=Int.sign_eq_zero_iff_zero.1 (eq_of_beq hh);omega
   rw[hs,VV,VY h0,Tt,VV,show jQ ((W (v:Int)).1,(W (v:Int)).2)=_ from CX (v:Int) h99,VJ,ya,Int.natAbs_neg,TQ]
   by_cases h:v<=1000000000000000
   ·rw[V7 h,VZ h];rfl
   ·rw[V6 h,VY h];rfl
theorem Bg (s:List UInt8) (hs:s.length<=1000000):mJ s=some ((bG s).1,(bG s).2,()):=by
 have hs2:=Jc s
 have hc:=Ku 46 (gP s).2
 unfold mJ bG
 rw[Bz s hs,VJ]
 dsimp only
 rw[zf _ 46 (by omega),VJ]
 dsimp only
 by_cases h40:40<s.length
 ·rw[aE (by omega),VZ h40];rfl
 ·rw[aK (by omega),VY h40,VV]
  rw[NX _ (by omega),VJ]
  dsimp only
  unfold FI
  generalize hq:dM 46 (gP s).2=q at hc
  obtain⟨a,b,f⟩:=q
  dsimp only at hc ⊢
  cases hw:kT a with
  | false=>rfl
  | true=>
   have ha:a.all bw=true:=by
    simp only[kT,Tr] at hw
    exact hw.1.2
   rw[TG,VV,TJ]
   cases f with
   | false=>
    have hb:b=[]:=by
     have:=(nT 46 (gP s).2).2
     rw[hq] at this
     exact this rfl
    subst hb
    rw[VV,VJ]
    dsimp only
    rw[VV,yc (gP s).1 a [] false ha rfl (by simp at hc ⊢;omega),VJ]
    rfl
   | true=>
    rw[VW,qQ b (by omega),VJ,VW]
    dsimp only
    cases hd:(decide (b≠[])&&b.all bw) with
    | false=>rfl
    | true=>
     have hb:b.all bw=true:=by simp only[Tr] at hd;exact hd.2
     rw[TG,VV,VJ,TJ]
     dsimp only
     by_cases h9:b.length<=9
     ·rw[aK (by omega),VZ h9,yc (gP s).1 a b true ha hb (by omega),VJ]
      rfl
     ·rw[aE (by omega),VY h9]
      rfl
theorem Mv (s:List UInt8) (h:s.all bw=true) (hl:s.length<=40):xP s=some (bif decide (bT s<=1000000000000000) then (bT s:Int) else 0,decide (bT s<=1000000000000000),()):=by
 unfold xP
 have mono:∀ i,bT (s.take i)<=bT s:=fun i=>by
  have hf:∀ (r:List UInt8) (a:Nat),a<=r.foldl (fun n b=>n*10+(b.toNat - 48)) a:=by
   intro r
   induction r with
   | nil=>intro a;exact Vu _
   | cons b r ih=>
    intro a
    simp only[Uk]
    exact Vv (by omega) (ih _)
  conv=>rhs;rw[<- Vg i s]
  simp only[bT,Uj]
  exact hf _ _
 have loop:∀ f,s.length<f->iter f ((s,(0:Int),(s.length:Int),(0:Int),()):kP) oc=(if bT s<=1000000000000000 then some (Sum.inr ((bT s:Int),())) else some (Sum.inl (0,false,()))):=by
  intro f hf
  refine b9 (Inv:=fun i X=>X=((s,(bT (s.take i):Int),(s.length:Int),(i:Int),()):kP)/\bT (s.take i)<=1000000000000000) s.length
   (fun r=>r=(if bT s<=1000000000000000 then some (Sum.inr ((bT s:Int),())) else some (Sum.inl (0,false,())))) ?_ ?_ f 0 _ ⟨by simp[bT],by simp[bT]⟩ (by omega) (by omega)
  ·rintro i _ again hi ⟨rfl,hb⟩ ih
   unfold oc
   dsimp only
   have hy:s[i]? =some s[i]:=aT hi
   have hd:bw s[i]=true:=TZ.1 h _ (UC hi)
   generalize s[i]=y at hy hd
   have hd2:=lC.1 hd
   have hsn:bT (s.take (i+1))=bT (s.take i)*10+(y.toNat - 48):=by rw[dU hy,tH]
   have hm:=mono (i+1)
   rw[aE (by omega),qa hy,VJ,IB hd,az (n:=10*_) (by omega) (by omega),az (by omega) (by omega),az (n:=(i:Int)+1) (by omega) (by omega)]
   by_cases hc:bT (s.take (i+1))<=1000000000000000
   ·rw[aK (by omega)]
    refine ih _ ⟨?_,hc⟩
    rw[hsn]
    congr 2
    omega
   ·rw[aE (by omega),V6 (by omega)]
  ·rintro _ again ⟨rfl,hb⟩
   unfold oc
   dsimp only
   rw[aK (by omega)]
   rw[Vj (Vu _)] at hb ⊢
   rw[V7 hb]
 rw[loop _ (by omega)]
 by_cases hc:bT s<=1000000000000000
 ·rw[V7 hc,VZ hc];rfl
 ·rw[V6 hc,VY hc];rfl
theorem BK:∀ (s:List UInt8) (a:Nat),s.all bw=true->(s.foldl (fun n b=>n*10+(b.toNat - 48)) a=0↔a=0/\s.all (fun b=>b==48)=true)
 | [],a,_=>by simp
 | b::r,a,h=>by
  simp only[TX,Tr] at h
  have h2:=lC.1 h.1
  simp only[Uk,TX,Tr]
  rw[BK r _ h.2]
  have e:(b==48)=true↔b.toNat=48:=by
   rw[beq_iff_eq]
   exact⟨fun e=>by rw[e];rfl,fun e=>VP.1 (by rw[e];rfl)⟩
  rw[e]
  constructor
  ·rintro⟨h3,h4⟩;exact⟨by omega,by omega,h4⟩
  ·rintro⟨h3,h4,h5⟩;exact⟨by omega,h5⟩
theorem dropWhile_nil {α:Type} (p:α->Bool):∀ l:List α,l.dropWhile p=[]↔l.all p=true
 | []=>by simp
 | a::r=>by
  rw[List.dropWhile_cons,TX]
  cases h:p a with
  | true=>simp only[V8,TJ];exact dropWhile_nil p r
  | false=>simp
theorem Qf (s:List UInt8) (hs:s.length<=1000000) (h:s.all bw=true):∃ r,dJ s [48]=some (r,())/\(r==[])=decide (bT s=0):=by
 unfold dJ
 rw[show (decide (s.length<=9223372036854775807)&&(decide (([48]:List UInt8).length<4294967281)&&([48]:List UInt8).all fun b=>decide (b.toNat<128)))=true by
  rw[VZ (by omega)];rfl,VW]
 refine⟨_,rfl, ?_⟩
 have hp:(fun b=>([48]:List UInt8).contains b)=(fun b:UInt8=>b==48):=by
  funext b
  simp[List.contains,List.elem]
  cases h:(b==48)<;>simp_all
 have key:Lib.trimS s [48]=[]↔bT s=0:=by
  unfold Lib.trimS Lib.trimLeftS Lib.trimRightS
  rw[hp,dropWhile_nil]
  unfold bT
  rw[BK s 0 h]
  constructor
  ·intro hall
   refine⟨rfl, ?_⟩
   have hr:s.reverse.dropWhile (fun b=>b==48)=[]:=by
    cases hd:s.reverse.dropWhile (fun b=>b==48) with
    | nil=>rfl
    | cons b r=>
     exfalso
     have h1:(b==48)=false:=by
      have:=List.head?_dropWhile_not (fun b:UInt8=>b==48) s.reverse
      rw[hd] at this
      simpa using this
     rw[hd] at hall
     have:=TZ.1 hall b (by simp)
     rw[h1] at this;cases this
   have:=(dropWhile_nil _ _).1 hr
   rw[List.all_reverse] at this
   exact this
  ·rintro⟨_,hall⟩
   have:s.reverse.dropWhile (fun b=>b==48)=[]:=(dropWhile_nil _ _).2 (by rw[List.all_reverse];exact hall)
   rw[this];rfl
 by_cases h0:bT s=0
 ·rw[key.2 h0,VZ h0];rfl
 ·rw[VY h0]
  cases hh:Lib.trimS s [48] with
  | nil=>exact absurd (key.1 hh) h0
  | cons a b=>rfl
theorem Ij (s:List UInt8) (hs:s.length<=1000000):xN s=some ((bG s).1,(bG s).2,()):=by
 have hs2:=Jc s
 have hc:=Ku 46 (gP s).2
 unfold xN bG
 by_cases h40:40<s.length
 ·rw[aE (by omega),VZ h40];rfl
 ·rw[aK (by omega),VY h40,VV,Bz s hs,VJ]
  dsimp only
  rw[zf _ 46 (by omega),VJ]
  dsimp only
  unfold FI
  generalize hq:dM 46 (gP s).2=q at hc
  obtain⟨a,b,f⟩:=q
  dsimp only at hc ⊢
  have hbn:f=false->b=[]:=fun e=>by
   have:=(nT 46 (gP s).2).2
   rw[hq] at this
   exact this e
  rw[yN a (by omega),VJ]
  dsimp only
  have hform:∀ (K:Bool×Unit->Option (ah×Int×Unit)),(Option.bind (bif f then (Option.bind (iK b) fun r5=>bif !r5.1 then some (true,()) else some (decide (((b.length:Nat):Int)>9),())) else some (decide (((b.length:Nat):Int)>9),())) K)=
   K (!(bif f then (decide (b≠[])&&b.all bw)&&decide (b.length<=9) else true),()):=fun K=>by
   cases f with
   | false=>
    have:=hbn rfl
    subst this
    rfl
   | true=>
    rw[VW,yN b (by omega),VJ,VW]
    dsimp only
    cases (decide (b≠[])&&b.all bw) with
    | false=>rfl
    | true=>
     rw[TG,VV,VJ,TJ]
     have:decide (((b.length:Nat):Int)>9)= !decide (b.length<=9):=by
      by_cases h9:b.length<=9
      ·rw[VZ h9];exact VY (by omega)
      ·rw[VY h9];exact VZ (by omega)
     rw[this]
  have hfm:∀ (K:Bool×Unit->Option (ah×Int×Unit)),(Option.bind (bif !(decide (a≠[])&&a.all bw) then some (true,()) else bif decide (((a.length:Nat):Int)>1) then (Option.bind (fP a 0) fun c4=>bif (c4.toNat:Int)==48 then some (true,()) else
   bif f then (Option.bind (iK b) fun r5=>bif !r5.1 then some (true,()) else some (decide (((b.length:Nat):Int)>9),())) else some (decide (((b.length:Nat):Int)>9),())) else
   bif f then (Option.bind (iK b) fun r5=>bif !r5.1 then some (true,()) else some (decide (((b.length:Nat):Int)>9),())) else some (decide (((b.length:Nat):Int)>9),())) K)=
   K (!(kT a&&(bif f then (decide (b≠[])&&b.all bw)&&decide (b.length<=9) else true)),()):=fun K=>by
   unfold kT
   cases hd:(decide (a≠[])&&a.all bw) with
   | false=>rfl
   | true=>
    have hne:a≠[]:=by intro e;subst e;cases hd
    obtain⟨c,h1,h2⟩:=Rk hne
    rw[TG,VV,TJ]
    by_cases hgt:1<a.length
    ·rw[aE (by omega),h1,VJ,h2,VZ hgt,TJ]
     cases (a.head? ==some 48) with
     | true=>rfl
     | false=>rw[VV,hform];rfl
    ·rw[aK (by omega),VY hgt,hform];rfl
  rw[hfm]
  dsimp only
  cases hok:(kT a&&(bif f then (decide (b≠[])&&b.all bw)&&decide (b.length<=9) else true)) with
  | false=>rfl
  | true=>
   simp only[Tr] at hok
   have ha:a.all bw=true:=by
    have:=hok.1
    simp only[kT,Tr] at this
    exact this.1.2
   have hb:b.all bw=true:=by
    cases f with
    | false=>rw[hbn rfl];rfl
    | true=>
     have:=hok.2
     simp only[VW,Tr] at this
     exact this.1.2
   have hall:(a++b).all bw=true:=by rw[TW,ha,hb];rfl
   rw[TG,VV]
   obtain⟨r,ht1,ht2⟩:=Qf (a++b) (by simp;omega) hall
   have hch:(decide (a.length+b.length<=maxLen))=true:=VZ (by rw[bS];omega)
   rw[aC hch,aC hch,ht1,VJ]
   dsimp only
   rw[ht2,Mv _ hall (by simp;omega),VW]
   unfold De
   dsimp only
   have hv:=zC (n:=40) hall (by simp;omega)
   generalize bT (a++b)=v at hv
   cases (gP s).1 with
   | false=>
    rw[VV,VJ,VJ,Tx,VV]
    dsimp only
    by_cases hm:v<=1000000000000000
    ·rw[VZ hm];rfl
    ·rw[VY hm];rfl
   | true=>
    rw[VW,VJ,TJ]
    dsimp only
    by_cases h0:v=0
    ·rw[VZ h0];rfl
    ·rw[VY h0,VV,VV,VJ]
     dsimp only
     by_cases hm:v<=1000000000000000
     ·rw[VZ hm,VW,TG,VV,VW,VW,az (by omega) (by omega),Int.zero_sub]
      rfl
     ·rw[VY hm];rfl
end Go.Md
