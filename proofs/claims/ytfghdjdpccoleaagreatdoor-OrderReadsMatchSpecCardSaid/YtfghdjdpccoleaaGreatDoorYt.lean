/-
  Plain facts: numbers, words, decimals, as both sides read them. No condition.
-/
import Derived.Test.YtfghdjdpccoleaaGreatDoorYo
import Derived.Test.YtfghdjdpccoleaaGreatDoorYr
import Derived.Test.YtfghdjdpccoleaaGreatDoorYq
import Derived.Test.YtfghdjdpccoleaaGreatDoorYs
set_option linter.all false
namespace Go.Md
open Go.Dn
def cg (s:List UInt8):Nat:=s.foldl (fun n b=>n*10+(b.toNat - 48)) 0
theorem zk (s:List UInt8) (b:UInt8):cg (s++[b])=cg s*10+(b.toNat - 48):=by
 simp[cg,Pd]
theorem lU {c:UInt8}:bM c=true↔48<=c.toNat/\c.toNat<=57:=by
 simp[bM]
theorem CU:∀ (s:List UInt8) (a:Nat),s.all bM=true->s.foldl (fun n b=>n*10+(b.toNat - 48)) a<(a+1)*10 ^ s.length
 | [],a,_=>by simp
 | b::r,a,h=>by
  simp only[OU,Oo] at h
  have h1:=CU r (a*10+(b.toNat - 48)) h.2
  have h2:=lU.1 h.1
  simp only[Pe,PE]
  refine Qo h1 ?_
  rw[Nat.pow_succ,show (a+1)*(10 ^ r.length*10)=(10*(a+1))*10 ^ r.length by rw[Nat.mul_comm (10 ^ r.length) 10, <- Nat.mul_assoc,Nat.mul_comm (a+1) 10]]
  exact Qt _ (by omega)
theorem MH {s:List UInt8} (h:s.all bM=true):cg s<10 ^ s.length:=by
 have:=CU s 0 h
 simpa [cg] using this
theorem xg {s:List UInt8} {n:Nat} (h:s.all bM=true) (hl:s.length<=n):cg s<10 ^ n:=
 Qo (MH h) (Qv (by omega) hl)
theorem Bn:∀ (s:List UInt8) (a:Nat),s.all bM=true->Lib.decFrom a s=some (s.foldl (fun n b=>n*10+(b.toNat - 48)) a)
 | [],a,_=>rfl
 | b::r,a,h=>by
  simp only[OU,Oo] at h
  have h2:=lU.1 h.1
  simp only[Lib.decFrom,Lib.digitVal,QX h2,Pe]
  exact Bn r _ h.2
theorem LL {s:List UInt8} (h:s.all bM=true) (h0:s≠[]):Lib.atoi s=some (cg s:Int):=by
 cases s with
 | nil=>exact absurd rfl h0
 | cons b r=>
  have h2:48<=b.toNat/\b.toNat<=57:=by
   simp only[OU,Oo] at h
   exact lU.1 h.1
  have e1:(b==45)=false:=by
   cases e:b==45 with
   | false=>rfl
   | true=>have:=eq_of_beq e;subst this;exact absurd h2.1 (by decide)
  have e2:(b==43)=false:=by
   cases e:b==43 with
   | false=>rfl
   | true=>have:=eq_of_beq e;subst this;exact absurd h2.1 (by decide)
  simp only[Lib.atoi,e1,e2,Ow,QV,Lib.decNat,PC]
  rw[Bn _ _ h]
  rfl
def ax (s:List UInt8):Bool:= !(s==[])&&(decide (s.length<=16)&&(!(decide (1<s.length)&&s.head? ==some 48)&&s.all bM))
def cC (s:List UInt8):Int:=bif ax s then (cg s:Int) else 0
theorem J2:J1=bM:=rfl
theorem F3 (s:List UInt8):mP s 16=some (cC s,ax s,()):=by
 unfold mP cC ax
 rw[J2]
 by_cases h16:s.length<=16
 ·rw[aN (by omega),QM (show s.length<=18 by omega),QJ,QM h16,OG]
  cases h0:(s==[]) with
  | true=>rfl
  | false=>
   cases hd:s.all bM with
   | false=>simp
   | true=>
    cases hz:(decide (1<s.length)&&s.head? ==some 48) with
    | true=>rfl
    | false=>
     rw[LL hd (by intro e;rw[e] at h0;cases h0)]
     rfl
 ·rw[aJ (by omega),QL h16]
  cases (s==[])<;>rfl
theorem E2 {c:UInt8} (h:bM c=true):w64 (wu8 ((c.toNat:Int) - 48))=((c.toNat - 48:Nat):Int):=by
 have h2:=lU.1 h
 have:wu8 ((c.toNat:Int) - 48)=(c.toNat:Int) - 48:=DX (by simp[IntKind.min,IntKind.bits,IntKind.signed];omega) (by simp[IntKind.max,IntKind.bits,IntKind.signed];omega)
 rw[this,aA (by omega) (by omega)]
 omega
theorem HO (s:List UInt8):ve s=some (cC s,ax s,()):=by
 unfold ve cC ax
 cases h0:(s==[]) with
 | true=>rfl
 | false=>
  rw[QI]
  by_cases h16:s.length<=16
  ·rw[aN (by omega),QM h16,OG,OC,OG]
   have hne:s≠[]:=by intro e;rw[e] at h0;cases h0
   obtain⟨b,r,rfl⟩:∃ b r,s=b::r:=by cases s with | nil=>exact absurd rfl hne | cons b r=>exact⟨b,r,rfl⟩
   have hb:((b::r:List UInt8).head? ==some 48)=((b.toNat:Int)==48):=by
    by_cases e:b=48
    ·subst e;rfl
    ·have h1:((b::r:List UInt8).head? ==some 48)=false:=by simpa using e
     have h2:((b.toNat:Int)==48)=false:=by
      cases hh:((b.toNat:Int)==48) with
      | false=>rfl
      | true=>
       have h3:(b.toNat:Int)=48:=eq_of_beq hh
       exact absurd (QE.1 (show b.toNat=(48:UInt8).toNat from by show b.toNat=48;omega)) e
     rw[h1,h2]
   have hz:(bif decide ((((b::r).length:Nat):Int)>1) then (Option.bind (fJ (b::r) 0) fun c1=>some ((c1.toNat:Int)==48,())) else some (false,()))=some ((decide (1<(b::r).length)&&(b::r:List UInt8).head? ==some 48),()):=by
    by_cases h1:1<(b::r).length
    ·rw[aJ (by omega),QM h1,OG,hb];rfl
    ·rw[aN (by omega),QL h1];rfl
   rw[hz,Qy]
   generalize hs:b::r=s at*
   cases hzz:(decide (1<s.length)&&s.head? ==some 48) with
   | true=>rfl
   | false=>
    rw[QI,OC,OG]
    have loop:∀ f,s.length<f->iter f ((s,(0:Int),(s.length:Int),(0:Int),()):me) p4=(if s.all bM=true then some (Sum.inr ((cg s:Int),())) else some (Sum.inl (0,false,()))):=by
     intro f hf
     refine bT (Inv:=fun i X=>X=((s,(cg (s.take i):Int),(s.length:Int),(i:Int),()):me)/\(s.take i).all bM=true) s.length
      (fun r=>r=(if s.all bM=true then some (Sum.inr ((cg s:Int),())) else some (Sum.inl (0,false,())))) ?_ ?_ f 0 _ ⟨by simp[cg],by simp⟩ (by omega) (by omega)
     ·rintro i _ again hi ⟨rfl,hb⟩ ih
      unfold p4
      dsimp only
      have hy:s[i]? =some s[i]:=aP hi
      have hym:s[i]∈s:=Pz hi
      generalize s[i]=y at hy hym
      have hlt:=xg (n:=16) hb (by simp;omega)
      rw[aJ (by omega),oG hy,Qy,Qy,Qy,aA (n:=(i:Int)+1) (by omega) (by omega)]
      cases hd:bM y with
      | true=>
       obtain⟨h1,h2⟩:=qx.2 hd
       have h3:=lU.1 hd
       rw[h1,h2,QI,QI,E2 hd,aA (n:=10*_) (by omega) (by omega),aA (by omega) (by omega)]
       refine ih _ ⟨?_, ?_⟩
       ·rw[dD hy,zk]
        congr 2
        omega
       ·rw[dD hy]
        simp[hb,hd]
      | false=>
       have hall:s.all bM=false:=by
        rw[OV]
        exact⟨y,hym,by simp[hd]⟩
       rw[hall]
       cases h1:decide ((y.toNat:Int)<48) with
       | true=>rfl
       | false=>
        cases h2:decide ((y.toNat:Int)>57) with
        | true=>rfl
        | false=>have:=qx.1 ⟨h1,h2⟩;rw[hd] at this;cases this
     ·rintro _ again ⟨rfl,hb⟩
      unfold p4
      dsimp only
      rw[aN (by omega)]
      rw[Qa (Qm _)] at hb ⊢
      rw[QX hb]
    rw[loop _ (by omega)]
    cases s.all bM<;>rfl
  ·rw[aJ (by omega),QL h16]
   rfl
theorem aI (b:Bool) (s:List UInt8):dH (b,()) s=some (cC s,(b&&ax s,()),()):=by
 unfold dH
 rw[HO,Qy]
 cases b<;>rfl
end Go.Md
namespace Go.Md
open Go.Dn
def dB (c:UInt8):List UInt8->List UInt8×List UInt8×Bool
 | []=>([],[],false)
 | b::r=>bif b==c then ([],r,true) else (b::(dB c r).1,(dB c r).2.1,(dB c r).2.2)
theorem CP (c:UInt8):∀ s:List UInt8,Lib.indexByte s c=(bif (dB c s).2.2 then (((dB c s).1.length:Nat):Int) else -1)
 | []=>rfl
 | b::r=>by
  simp only[Lib.indexByte,dB]
  cases hb:(b==c) with
  | true=>rfl
  | false=>
   rw[CP c r]
   simp only[Ow,QV,QI]
   cases (dB c r).2.2 with
   | true=>
    simp only[QJ,PE]
    have hne:((((dB c r).1.length:Nat):Int)== -1)=false:=by
     cases h:((((dB c r).1.length:Nat):Int)== -1) with
     | false=>rfl
     | true=>have:=eq_of_beq h;omega
    rw[hne]
    simp
   | false=>rfl
theorem mM (c:UInt8):∀ s:List UInt8,s=(dB c s).1++(bif (dB c s).2.2 then c::(dB c s).2.1 else [])/\((dB c s).2.2=false->(dB c s).2.1=[])
 | []=>⟨rfl,fun _=>rfl⟩
 | b::r=>by
  obtain⟨h1,h2⟩:=mM c r
  simp only[dB]
  cases hb:(b==c) with
  | true=>exact⟨by rw[eq_of_beq hb];rfl,fun h=>by cases h⟩
  | false=>
   simp only[QI]
   exact⟨by rw[O1, <- h1],h2⟩
theorem LY (s:List UInt8) (c:UInt8):eS s [c]=some (Lib.indexByte s c,()):=by
 unfold eS
 have e0:((([c]:List UInt8).length:Int)==0)=false:=rfl
 have e1:((([c]:List UInt8).length:Int)==1)=true:=rfl
 have e2:fJ [c] 0=some c:=rfl
 have e3:cw s (c.toNat:Int)=some (Lib.indexByte s c,()):=by
  unfold cw
  have:((c.toNat:Int).toNat).toUInt8=c:=by
   rw[OS]
   exact QE.1 (by simp)
  rw[this]
 rw[e0,QI,e1,QJ,e2,Qy,e3,Qy]
 cases h:([c]==s) with
 | false=>rfl
 | true=>
  have:=eq_of_beq h
  subst this
  simp[Lib.indexByte]
theorem qR (s:List UInt8) (c:UInt8) (hs:s.length<=1000000):lD s [c]=some ((dB c s).1,(dB c s).2.1,(dB c s).2.2,()):=by
 unfold lD ic
 rw[LY,Qy,CP]
 obtain⟨h1,h2⟩:=mM c s
 generalize dB c s=q at h1 h2
 obtain⟨a,r,f⟩:=q
 simp only at h1 h2 ⊢
 cases f with
 | false=>
  simp only[QI] at h1 ⊢
  rw[aN (by omega),h2 rfl,Qy]
  rw[O0] at h1
  rw[<- h1]
 | true=>
  simp only[QJ] at h1 ⊢
  have hl:s.length=a.length+(r.length+1):=by rw[h1];simp
  have ew:w64 ((a.length:Int)+(([c]:List UInt8).length:Int))=(a.length:Int)+(([c]:List UInt8).length:Int):=aA (by simp;omega) (by simp;omega)
  simp only[ew]
  rw[aJ (by omega),aY (by simp<;>omega),aY (by simp<;>omega),Qy]
  have t1:List.drop 0 (List.take (Int.toNat (a.length:Int)) s)=a:=by
   rw[h1];simp
  have t2:List.drop (Int.toNat ((a.length:Int)+(([c]:List UInt8).length:Int))) (List.take (Int.toNat (s.length:Int)) s)=r:=by
   rw[show Int.toNat ((a.length:Int)+(([c]:List UInt8).length:Int))=a.length+1 by simp<;>omega,OS,Qa (Qm _),h1, <- O4,O6]
   rfl
  rw[t1,t2]
theorem Ao (c:UInt8):∀ s:List UInt8,aD c s=(bif (dB c s).2.2 then (dB c s).1::aD c (dB c s).2.1 else [s])
 | []=>rfl
 | b::r=>by
  simp only[aD,dB]
  cases hb:(b==c) with
  | true=>rfl
  | false=>
   simp only[QI]
   rw[Ao c r]
   obtain⟨h1,h2⟩:=mM c r
   cases hf:(dB c r).2.2 with
   | true=>rfl
   | false=>rfl
theorem I0 (c:UInt8) (s:List UInt8):aD c s≠[]:=by
 rw[Ao]
 cases (dB c s).2.2<;>simp
theorem bN (c:UInt8):∀ s:List UInt8,(aD c s).length<=s.length+1/\∀ w,w∈aD c s->w.length<=s.length
 | []=>⟨Qm _,fun w hw=>by simp[aD] at hw;simp[hw]⟩
 | b::r=>by
  obtain⟨h1,h2⟩:=bN c r
  simp only[aD]
  cases hb:(b==c) with
  | true=>
   simp only[QJ,PE]
   refine⟨by omega,fun w hw=> ?_⟩
   rcases PS.1 hw with rfl | hw
   ·simp
   ·have:=h2 w hw;omega
  | false=>
   simp only[QI]
   split
   ·rename_i h t he
    rw[he] at h1 h2
    refine⟨by simp at h1 ⊢;omega,fun w hw=> ?_⟩
    rcases PS.1 hw with rfl | hw
    ·have:=h2 h (by simp);simp;omega
    ·have:=h2 w (by simp[hw]);simp;omega
   ·exact⟨by simp,fun w hw=>by simp at hw;subst hw;simp⟩
theorem bp (s:List UInt8) (c:UInt8) (hs:s.length<=1000000):strings_Split s [c]=some (aD c s,()):=by
 simp only[strings_Split]
 rw[QM (by omega)];rfl
def cK (l:List (List UInt8)):Bool:=l.all fun w=> !(w==[])
theorem ig (s:List UInt8) (hs:s.length<=1000000):u5 s=some (bif cK (aD 32 s) then aD 32 s else [],cK (aD 32 s),()):=by
 unfold u5
 rw[bp s 32 hs,Qy]
 have hlen:=(bN 32 s).1
 generalize aD 32 s=l at hlen
 dsimp only
 have loop:∀ f,l.length<f->iter f (((l.length:Int),(0:Int),l,()):lX) pI=(if cK l=true then some (Sum.inr (l,())) else some (Sum.inl ([],false,()))):=by
  intro f hf
  refine bT (Inv:=fun i X=>X=(((l.length:Int),(i:Int),l,()):lX)/\cK (l.take i)=true) l.length
   (fun r=>r=(if cK l=true then some (Sum.inr (l,())) else some (Sum.inl ([],false,())))) ?_ ?_ f 0 _ ⟨rfl,rfl⟩ (by omega) (by omega)
  ·rintro i _ again hi ⟨rfl,hb⟩ ih
   unfold pI
   dsimp only
   have hy:l[i]? =some l[i]:=aP hi
   have hym:l[i]∈l:=Pz hi
   generalize l[i]=y at hy hym
   rw[aJ (by omega),aY (by simp;omega),OS,hy,Qy,aA (by omega) (by omega)]
   cases he:(y==[]) with
   | true=>
    have:cK l=false:=by
     simp only[cK,OV]
     exact⟨y,hym,by rw[he];simp⟩
    rw[this];rfl
   | false=>
    rw[QI]
    refine ih _ ⟨rfl, ?_⟩
    simp only[cK] at hb ⊢
    rw[dD hy,List.all_append,hb]
    simpa using he
  ·rintro _ again ⟨rfl,hb⟩
   unfold pI
   dsimp only
   rw[aN (by omega)]
   rw[Qa (Qm _)] at hb
   rw[QX hb]
 rw[loop _ (by omega)]
 cases cK l<;>rfl
theorem mQ (w:List (List UInt8)) (b:Bool):dV (w,b,())=some (w.headD [],(w.tail,b||w.isEmpty,()),()):=by
 unfold dV
 cases w with
 | nil=>simp
 | cons a r=>
  have e:((((a::r).length:Nat):Int)==0)=false:=by
   cases h:((((a::r).length:Nat):Int)==0) with
   | false=>rfl
   | true=>have:=eq_of_beq h;simp at this;omega
  dsimp only
  rw[e,QI,show idx (a::r) 0=some a from rfl,Qy,aY (by simp;omega),OS,Qa (Qm _)]
  simp
theorem bU (w:List (List UInt8)) (b:Bool):dn (w,b,())=some (cC (w.headD []),(w.tail,b|| !ax (w.headD []),()),()):=by
 unfold dn
 dsimp only
 rw[mQ,Qy]
 dsimp only
 rw[F3,Qy]
 cases w with
 | nil=>cases b<;>rfl
 | cons a r=>
  cases b with
  | true=>rfl
  | false=>cases ax a<;>rfl
def aZ (y:List UInt8):List (List UInt8)->Int->Int
 | [],_=> -1
 | o::r,i=>bif y==o then i else aZ y r (i+1)
theorem bf (l:List (List UInt8)) (y:List UInt8) (hl:l.length<=1000000):dM l y=some (aZ y l 0,()):=by
 unfold dM
 have loop:∀ f,l.length<f->∃ r:Option cX,iter f ((l,y,(l.length:Int),(0:Int),()):cY) cG=r/\(aR (β:=(Int×Unit)) (γ:=Unit) r fun _=>some ((-1),()))=some (aZ y l 0,()):=by
  intro f hf
  refine bT (Inv:=fun i X=>X=((l,y,(l.length:Int),(i:Int),()):cY)/\aZ y l 0=aZ y (l.drop i) (i:Int)) l.length
   (fun q=>∃ r:Option cX,q=r/\(aR (β:=(Int×Unit)) (γ:=Unit) r fun _=>some ((-1),()))=some (aZ y l 0,())) ?_ ?_ f 0 _ ⟨rfl,by simp⟩ (by omega) (by omega)
  ·rintro i _ again hi ⟨rfl,hb⟩ ih
   unfold cG
   dsimp only
   have hy:l[i]? =some l[i]:=aP hi
   rw[O5 hi] at hb
   generalize l[i]=o at hy hb
   rw[aJ (by omega),cM,hy,Qy,aA (by omega) (by omega)]
   simp only[aZ] at hb
   cases he:(y==o) with
   | true=>
    rw[he] at hb
    exact⟨_,rfl,by rw[hb];rfl⟩
   | false=>
    rw[he] at hb
    exact ih _ ⟨rfl,by rw[hb];simp⟩
  ·rintro _ again ⟨rfl,hb⟩
   unfold cG
   dsimp only
   rw[aN (by omega)]
   rw[List.drop_length] at hb
   exact⟨_,rfl,by rw[hb];rfl⟩
 obtain⟨r,h1,h2⟩:=loop (List.length l+(List.length y+(Int.natAbs ((List.length l:Int))+(Int.natAbs (0:Int)+2)))) (by omega)
 rw[h1]
 exact h2
theorem fP (w:List (List UInt8)) (b:Bool) (ws:List (List UInt8)) (hl:ws.length<=1000000):gI (w,b,()) ws=some (aZ (w.headD []) ws 0,(w.tail,b||(w.isEmpty||decide (aZ (w.headD []) ws 0<1)),()),()):=by
 unfold gI
 dsimp only
 rw[mQ,Qy]
 dsimp only
 rw[bf _ _ hl,Qy]
 cases b with
 | true=>rfl
 | false=>cases w<;>rfl
end Go.Md
namespace Go.Md
open Go.Dn
def ni (s:List UInt8):Bool:=(decide (s≠[])&&s.all bM)&& !(decide (1<s.length)&&s.head? ==some 48)
def JQ (q:List UInt8×List UInt8×Bool):Bool:=ni q.1&&(bif q.2.2 then (decide (q.2.1≠[])&&q.2.1.all bM)&&decide (q.2.1.length<=9) else true)
def gR:List UInt8->Bool×List UInt8
 | b::r=>bif b==45 then (true,r) else (false,b::r)
 | []=>(false,[])
def Di (neg:Bool) (q:List UInt8×List UInt8×Bool):aa×Int:=
 let v:=cg (q.1++q.2.1)
 bif neg&&decide (v=0) then ((0,0),10) else bif decide (v<=1000000000000000) then ((bif neg then -(v:Int) else (v:Int),(q.2.1.length:Int)),0) else ((0,0),1)
def bH (s:List UInt8):aa×Int:=
 bif decide (40<s.length) then ((0,0),10) else
  bif JQ (dB 46 (gR s).2) then Di (gR s).1 (dB 46 (gR s).2) else ((0,0),10)
theorem yW (s:List UInt8) (hs:s.length<=1000000):gL s [45]=some ((gR s).2,(gR s).1,()):=by
 unfold gL fC fE
 cases s with
 | nil=>rfl
 | cons b r=>
  have hl:r.length+1<=1000000:=hs
  rw[aJ (by simp;omega),aY (by simp<;>omega),Qy]
  have e1:(List.drop 0 (List.take (Int.toNat (([45]:List UInt8).length:Int)) (b::r))==[45])=(b==45):=by
   simp
  dsimp only
  rw[e1]
  cases hb:(b==45) with
  | false=>simp[gR,hb]
  | true=>
   rw[OD,QI,aY (by simp<;>omega),Qy]
   simp[gR,hb]
theorem MC {s:List UInt8} (h:s≠[]):∃ b,fJ s 0=some b/\((b.toNat:Int)==48)=(s.head? ==some 48):=by
 cases s with
 | nil=>exact absurd rfl h
 | cons b r=>
  refine⟨b,rfl, ?_⟩
  by_cases e:b=48
  ·subst e;rfl
  ·have h1:((b::r:List UInt8).head? ==some 48)=false:=by simpa using e
   have h2:((b.toNat:Int)==48)=false:=by
    cases hh:((b.toNat:Int)==48) with
    | false=>rfl
    | true=>
     have h3:(b.toNat:Int)=48:=eq_of_beq hh
     exact absurd (QE.1 (show b.toNat=(48:UInt8).toNat from by show b.toNat=48;omega)) e
   rw[h1,h2]
theorem J3 (s:List UInt8) (hs:s.length<=1000000):mI s=some (ni s,()):=by
 unfold mI ni
 rw[pH s (by omega),Qy]
 dsimp only
 cases hd:(decide (s≠[])&&s.all bM) with
 | false=>rfl
 | true=>
  have hne:s≠[]:=by
   intro e;subst e;cases hd
  obtain⟨b,h1,h2⟩:=MC hne
  rw[QJ]
  cases hl:((s.length:Int)==1) with
  | true=>
   have:=eq_of_beq hl
   rw[QJ,Qy,QL (show ¬ 1<s.length by omega)]
   rfl
  | false=>
   have hgt:1<s.length:=by
    have h0:0<s.length:=List.length_pos_iff.2 hne
    have hn:(s.length:Int)≠1:=fun e=>by rw[e] at hl;cases hl
    omega
   rw[QI,h1,Qy,Qy,QM hgt,OG,OG, <- h2]
   rfl
theorem GM (c:UInt8) (s:List UInt8):(dB c s).1.length+(dB c s).2.1.length<=s.length:=by
 obtain⟨h1,h2⟩:=mM c s
 generalize hq:dB c s=q at h1 h2
 have:=congrArg List.length h1
 cases hf:q.2.2 with
 | true=>rw[hf] at this;simp at this;omega
 | false=>rw[hf] at this;rw[h2 hf];simp at this;simp;omega
theorem FD (s:List UInt8):(gR s).2.length<=s.length:=by
 cases s with
 | nil=>simp[gR]
 | cons b r=>
  simp only[gR]
  cases (b==45)<;>simp
theorem vU (neg:Bool) (a b:List UInt8) (f:Bool) (ha:a.all bM=true) (hb:b.all bM=true) (hl:a.length+b.length<=40):q7 neg a b=some ((Di neg (a,b,f)).1,(Di neg (a,b,f)).2,()):=by
 unfold q7
 rw[vQ 0 (by omega) (by omega),Qy,aY (by rw[gS];simp;omega)]
 have hall:(a++b).all bM=true:=by rw[List.all_append,ha,hb];rfl
 have hlen:(a++b).length<=40:=by simp;omega
 have loop:∀ n,(a++b).length<n->iter n ((neg,a,b,((a++b).length:Int),(0:Int),0,0,(W 0).1,(W 0).2,()):jA) mJ=some (Sum.inr (neg,b,0,0,(W (cg (a++b):Int)).1,(W (cg (a++b):Int)).2,())):=by
  intro n hn
  refine bT (Inv:=fun i X=>X=((neg,a,b,((a++b).length:Int),(i:Int),0,0,(W (cg ((a++b).take i):Int)).1,(W (cg ((a++b).take i):Int)).2,()):jA)) (a++b).length
   (fun r=>r=some (Sum.inr (neg,b,0,0,(W (cg (a++b):Int)).1,(W (cg (a++b):Int)).2,()))) ?_ ?_ n 0 _ (by simp[cg]) (by omega) (by omega)
  ·rintro i _ again hi rfl ih
   unfold mJ
   dsimp only
   have hy:(a++b)[i]? =some (a++b)[i]:=aP hi
   have hd:bM (a++b)[i]=true:=OW.1 hall _ (Pz hi)
   generalize (a++b)[i]=y at hy hd
   have ht:((a++b).take i).all bM=true:=OW.2 fun c hc=>OW.1 hall c (List.mem_of_mem_take hc)
   have hlt:=xg (n:=40) ht (by simp;omega)
   have hd2:=lU.1 hd
   have h99:∀ k:Nat,k<10 ^ 42->((k:Nat):Int).natAbs<4294967296 ^ 99:=fun k hk=>by
    rw[ON];exact Nat.lt_trans hk (by decide)
   have e1:jf ((W (cg ((a++b).take i):Int)).1,(W (cg ((a++b).take i):Int)).2) (W 10)=some (W ((cg ((a++b).take i):Int)*10),()):=Av _ _ (h99 _ (by omega)) (by decide)
   have e2:jS (W ((cg ((a++b).take i):Int)*10)) (W ((y.toNat - 48:Nat):Int))=some (W ((cg ((a++b).take i):Int)*10+((y.toNat - 48:Nat):Int)),()):=
    Bf _ _ (by have:=h99 (cg ((a++b).take i)*10) (by omega);simpa using this) (h99 _ (by omega))
   rw[aJ (by omega),vQ 10 (by omega) (by omega),Qy,e1,Qy,aY (by rw[gS];simp;omega),oG hy,Qy,E2 hd,vQ _ (by omega) (by omega),Qy,e2,Qy,aA (by omega) (by omega)]
   refine ih _ ?_
   rw[dD hy,zk]
   have e3:(((cg ((a++b).take i)*10+(y.toNat - 48):Nat)):Int)=(cg ((a++b).take i):Int)*10+((y.toNat - 48:Nat):Int):=by omega
   rw[e3]
   rfl
  ·rintro _ again rfl
   unfold mJ
   dsimp only
   rw[aN (by omega),Qa (Qm _)]
 dsimp only
 rw[loop _ (by simp;omega),az]
 dsimp only
 have hv:=xg (n:=40) hall hlen
 have h99:((cg (a++b):Nat):Int).natAbs<4294967296 ^ 99:=by rw[ON];exact Nat.lt_trans hv (by decide)
 unfold Di
 dsimp only
 generalize cg (a++b)=v at hv h99
 cases neg with
 | false=>
  rw[QI,show lf ((W (v:Int)).1,(W (v:Int)).2) (b.length:Int)=_ from vT (v:Int) (b.length:Int),ON]
  rw[Bool.false_and,QI,QI]
  by_cases h:v<=1000000000000000
  ·rw[QX h,QM h];rfl
  ·rw[QW h,QL h];rfl
 | true=>
  rw[QJ,show jT ((W (v:Int)).1,(W (v:Int)).2)=_ from Bg (v:Int),Qy]
  dsimp only
  by_cases h0:v=0
  ·subst h0;rfl
  ·have hs:((v:Int).sign==0)=false:=by
    cases hh:((v:Int).sign==0) with
    | false=>rfl
    | true=>have:=Int.sign_eq_zero_iff_zero.1 (eq_of_beq hh);omega
   rw[hs,QI,QL h0,Oq,QI,show je ((W (v:Int)).1,(W (v:Int)).2)=_ from Au (v:Int) h99,Qy,vT,Int.natAbs_neg,ON]
   by_cases h:v<=1000000000000000
   ·rw[QX h,QM h];rfl
   ·rw[QW h,QL h];rfl
theorem yJ (s:List UInt8) (hs:s.length<=1000000):lG s=some ((bH s).1,(bH s).2,()):=by
 have hs2:=FD s
 have hc:=GM 46 (gR s).2
 unfold lG bH
 rw[yW s hs,Qy]
 dsimp only
 rw[qR _ 46 (by omega),Qy]
 dsimp only
 by_cases h40:40<s.length
 ·rw[aJ (by omega),QM h40];rfl
 ·rw[aN (by omega),QL h40,QI]
  rw[J3 _ (by omega),Qy]
  dsimp only
  unfold JQ
  generalize hq:dB 46 (gR s).2=q at hc
  obtain⟨a,b,f⟩:=q
  dsimp only at hc ⊢
  cases hw:ni a with
  | false=>rfl
  | true=>
   have ha:a.all bM=true:=by
    simp only[ni,Oo] at hw
    exact hw.1.2
   rw[OD,QI,OG]
   cases f with
   | false=>
    have hb:b=[]:=by
     have:=(mM 46 (gR s).2).2
     rw[hq] at this
     exact this rfl
    subst hb
    rw[QI,Qy]
    dsimp only
    rw[QI,vU (gR s).1 a [] false ha rfl (by simp at hc ⊢;omega),Qy]
    rfl
   | true=>
    rw[QJ,pH b (by omega),Qy,QJ]
    dsimp only
    cases hd:(decide (b≠[])&&b.all bM) with
    | false=>rfl
    | true=>
     have hb:b.all bM=true:=by simp only[Oo] at hd;exact hd.2
     rw[OD,QI,Qy,OG]
     dsimp only
     by_cases h9:b.length<=9
     ·rw[aN (by omega),QM h9,vU (gR s).1 a b true ha hb (by omega),Qy]
      rfl
     ·rw[aJ (by omega),QL h9]
      rfl
theorem IJ (s:List UInt8) (h:s.all bM=true) (hl:s.length<=40):rC s=some (bif decide (cg s<=1000000000000000) then (cg s:Int) else 0,decide (cg s<=1000000000000000),()):=by
 unfold rC
 have mono:∀ i,cg (s.take i)<=cg s:=fun i=>by
  have hf:∀ (r:List UInt8) (a:Nat),a<=r.foldl (fun n b=>n*10+(b.toNat - 48)) a:=by
   intro r
   induction r with
   | nil=>intro a;exact Qm _
   | cons b r ih=>
    intro a
    simp only[Pe]
    exact Qn (by omega) (ih _)
  conv=>rhs;rw[<- P8 i s]
  simp only[cg,Pd]
  exact hf _ _
 have loop:∀ f,s.length<f->iter f ((s,(0:Int),(s.length:Int),(0:Int),()):jO) mY=(if cg s<=1000000000000000 then some (Sum.inr ((cg s:Int),())) else some (Sum.inl (0,false,()))):=by
  intro f hf
  refine bT (Inv:=fun i X=>X=((s,(cg (s.take i):Int),(s.length:Int),(i:Int),()):jO)/\cg (s.take i)<=1000000000000000) s.length
   (fun r=>r=(if cg s<=1000000000000000 then some (Sum.inr ((cg s:Int),())) else some (Sum.inl (0,false,())))) ?_ ?_ f 0 _ ⟨by simp[cg],by simp[cg]⟩ (by omega) (by omega)
  ·rintro i _ again hi ⟨rfl,hb⟩ ih
   unfold mY
   dsimp only
   have hy:s[i]? =some s[i]:=aP hi
   have hd:bM s[i]=true:=OW.1 h _ (Pz hi)
   generalize s[i]=y at hy hd
   have hd2:=lU.1 hd
   have hsn:cg (s.take (i+1))=cg (s.take i)*10+(y.toNat - 48):=by rw[dD hy,zk]
   have hm:=mono (i+1)
   rw[aJ (by omega),oG hy,Qy,E2 hd,aA (n:=10*_) (by omega) (by omega),aA (by omega) (by omega),aA (n:=(i:Int)+1) (by omega) (by omega)]
   by_cases hc:cg (s.take (i+1))<=1000000000000000
   ·rw[aN (by omega)]
    refine ih _ ⟨?_,hc⟩
    rw[hsn]
    congr 2
    omega
   ·rw[aJ (by omega),QW (by omega)]
  ·rintro _ again ⟨rfl,hb⟩
   unfold mY
   dsimp only
   rw[aN (by omega)]
   rw[Qa (Qm _)] at hb ⊢
   rw[QX hb]
 rw[loop _ (by omega)]
 by_cases hc:cg s<=1000000000000000
 ·rw[QX hc,QM hc];rfl
 ·rw[QW hc,QL hc];rfl
theorem zj:∀ (s:List UInt8) (a:Nat),s.all bM=true->(s.foldl (fun n b=>n*10+(b.toNat - 48)) a=0↔a=0/\s.all (fun b=>b==48)=true)
 | [],a,_=>by simp
 | b::r,a,h=>by
  simp only[OU,Oo] at h
  have h2:=lU.1 h.1
  simp only[Pe,OU,Oo]
  rw[zj r _ h.2]
  have e:(b==48)=true↔b.toNat=48:=by
   rw[beq_iff_eq]
   exact⟨fun e=>by rw[e];rfl,fun e=>QE.1 (by rw[e];rfl)⟩
  rw[e]
  constructor
  ·rintro⟨h3,h4⟩;exact⟨by omega,by omega,h4⟩
  ·rintro⟨h3,h4,h5⟩;exact⟨by omega,h5⟩
theorem dropWhile_nil {α:Type} (p:α->Bool):∀ l:List α,l.dropWhile p=[]↔l.all p=true
 | []=>by simp
 | a::r=>by
  rw[List.dropWhile_cons,OU]
  cases h:p a with
  | true=>simp only[QY,OG];exact dropWhile_nil p r
  | false=>simp
theorem LG (s:List UInt8) (hs:s.length<=1000000) (h:s.all bM=true):∃ r,dY s [48]=some (r,())/\(r==[])=decide (cg s=0):=by
 unfold dY
 rw[show (decide (s.length<=9223372036854775807)&&(decide (([48]:List UInt8).length<4294967281)&&([48]:List UInt8).all fun b=>decide (b.toNat<128)))=true by
  rw[QM (by omega)];rfl,QJ]
 refine⟨_,rfl, ?_⟩
 have hp:(fun b=>([48]:List UInt8).contains b)=(fun b:UInt8=>b==48):=by
  funext b
  simp[List.contains,List.elem]
  cases h:(b==48)<;>simp_all
 have key:Lib.trimS s [48]=[]↔cg s=0:=by
  unfold Lib.trimS Lib.trimLeftS Lib.trimRightS
  rw[hp,dropWhile_nil]
  unfold cg
  rw[zj s 0 h]
  constructor
  ·intro hall
   refine⟨rfl, ?_⟩
   have hr:s.reverse.dropWhile (fun b=>b==48)=[]:=by
    cases hd:s.reverse.dropWhile (fun b=>b==48) with
    | nil=>rfl
    | cons b r=>
     exfalso
     have h1:(b==48)=false:=by
      have:=List.head?_dropWhile_not (fun b:UInt8=>b==48) s.reverse
      rw[hd] at this
      simpa using this
     rw[hd] at hall
     have:=OW.1 hall b (by simp)
     rw[h1] at this;cases this
   have:=(dropWhile_nil _ _).1 hr
   rw[List.all_reverse] at this
   exact this
  ·rintro⟨_,hall⟩
   have:s.reverse.dropWhile (fun b=>b==48)=[]:=(dropWhile_nil _ _).2 (by rw[List.all_reverse];exact hall)
   rw[this];rfl
 by_cases h0:cg s=0
 ·rw[key.2 h0,QM h0];rfl
 ·rw[QL h0]
  cases hh:Lib.trimS s [48] with
  | nil=>exact absurd (key.1 hh) h0
  | cons a b=>rfl
theorem EK (s:List UInt8) (hs:s.length<=1000000):rB s=some ((bH s).1,(bH s).2,()):=by
 have hs2:=FD s
 have hc:=GM 46 (gR s).2
 unfold rB bH
 by_cases h40:40<s.length
 ·rw[aJ (by omega),QM h40];rfl
 ·rw[aN (by omega),QL h40,QI,yW s hs,Qy]
  dsimp only
  rw[qR _ 46 (by omega),Qy]
  dsimp only
  unfold JQ
  generalize hq:dB 46 (gR s).2=q at hc
  obtain⟨a,b,f⟩:=q
  dsimp only at hc ⊢
  have hbn:f=false->b=[]:=fun e=>by
   have:=(mM 46 (gR s).2).2
   rw[hq] at this
   exact this e
  rw[wK a (by omega),Qy]
  dsimp only
  have hform:∀ (K:Bool×Unit->Option (aa×Int×Unit)),(Option.bind (bif f then (Option.bind (gj b) fun r5=>bif !r5.1 then some (true,()) else some (decide (((b.length:Nat):Int)>9),())) else some (decide (((b.length:Nat):Int)>9),())) K)=
   K (!(bif f then (decide (b≠[])&&b.all bM)&&decide (b.length<=9) else true),()):=fun K=>by
   cases f with
   | false=>
    have:=hbn rfl
    subst this
    rfl
   | true=>
    rw[QJ,wK b (by omega),Qy,QJ]
    dsimp only
    cases (decide (b≠[])&&b.all bM) with
    | false=>rfl
    | true=>
     rw[OD,QI,Qy,OG]
     have:decide (((b.length:Nat):Int)>9)= !decide (b.length<=9):=by
      by_cases h9:b.length<=9
      ·rw[QM h9];exact QL (by omega)
      ·rw[QL h9];exact QM (by omega)
     rw[this]
  have hfm:∀ (K:Bool×Unit->Option (aa×Int×Unit)),(Option.bind (bif !(decide (a≠[])&&a.all bM) then some (true,()) else bif decide (((a.length:Nat):Int)>1) then (Option.bind (fJ a 0) fun c4=>bif (c4.toNat:Int)==48 then some (true,()) else
   bif f then (Option.bind (gj b) fun r5=>bif !r5.1 then some (true,()) else some (decide (((b.length:Nat):Int)>9),())) else some (decide (((b.length:Nat):Int)>9),())) else
   bif f then (Option.bind (gj b) fun r5=>bif !r5.1 then some (true,()) else some (decide (((b.length:Nat):Int)>9),())) else some (decide (((b.length:Nat):Int)>9),())) K)=
   K (!(ni a&&(bif f then (decide (b≠[])&&b.all bM)&&decide (b.length<=9) else true)),()):=fun K=>by
   unfold ni
   cases hd:(decide (a≠[])&&a.all bM) with
   | false=>rfl
   | true=>
    have hne:a≠[]:=by intro e;subst e;cases hd
    obtain⟨c,h1,h2⟩:=MC hne
    rw[OD,QI,OG]
    by_cases hgt:1<a.length
    ·rw[aJ (by omega),h1,Qy,h2,QM hgt,OG]
     cases (a.head? ==some 48) with
     | true=>rfl
     | false=>rw[QI,hform];rfl
    ·rw[aN (by omega),QL hgt,hform];rfl
  rw[hfm]
  dsimp only
  cases hok:(ni a&&(bif f then (decide (b≠[])&&b.all bM)&&decide (b.length<=9) else true)) with
  | false=>rfl
  | true=>
   simp only[Oo] at hok
   have ha:a.all bM=true:=by
    have:=hok.1
    simp only[ni,Oo] at this
    exact this.1.2
   have hb:b.all bM=true:=by
    cases f with
    | false=>rw[hbn rfl];rfl
    | true=>
     have:=hok.2
     simp only[QJ,Oo] at this
     exact this.1.2
   have hall:(a++b).all bM=true:=by rw[List.all_append,ha,hb];rfl
   rw[OD,QI]
   obtain⟨r,ht1,ht2⟩:=LG (a++b) (by simp;omega) hall
   have hch:(decide (a.length+b.length<=maxLen))=true:=QM (by rw[gS];omega)
   rw[aY hch,aY hch,ht1,Qy]
   dsimp only
   rw[ht2,IJ _ hall (by simp;omega),QJ]
   unfold Di
   dsimp only
   have hv:=xg (n:=40) hall (by simp;omega)
   generalize cg (a++b)=v at hv
   cases (gR s).1 with
   | false=>
    rw[QI,Qy,Qy,Bool.false_and,QI]
    dsimp only
    by_cases hm:v<=1000000000000000
    ·rw[QM hm];rfl
    ·rw[QL hm];rfl
   | true=>
    rw[QJ,Qy,OG]
    dsimp only
    by_cases h0:v=0
    ·rw[QM h0];rfl
    ·rw[QL h0,QI,QI,Qy]
     dsimp only
     by_cases hm:v<=1000000000000000
     ·rw[QM hm,QJ,OD,QI,QJ,QJ,aA (by omega) (by omega),Int.zero_sub]
      rfl
     ·rw[QL hm];rfl
end Go.Md
