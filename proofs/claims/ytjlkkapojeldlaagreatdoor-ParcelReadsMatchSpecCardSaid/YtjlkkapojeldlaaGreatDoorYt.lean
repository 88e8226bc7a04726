/-
  Plain facts: numbers, words, decimals, as both sides read them. No condition.
-/
import Derived.Test.YtjlkkapojeldlaaGreatDoorYo
import Derived.Test.YtjlkkapojeldlaaGreatDoorYr
import Derived.Test.YtjlkkapojeldlaaGreatDoorYq
import Derived.Test.YtjlkkapojeldlaaGreatDoorYs
set_option linter.all false
namespace Go.Md
open Go.Dn
def b9 (s:List UInt8):Nat:=s.foldl (fun n b=>n*10+(b.toNat - 48)) 0
theorem Ce (s:List UInt8) (b:UInt8):b9 (s++[b])=b9 s*10+(b.toNat - 48):=by
 simp[b9,List.foldl_append]
theorem nw {c:UInt8}:bI c=true↔48<=c.toNat/\c.toNat<=57:=by
 simp[bI]
theorem Ge:∀ (s:List UInt8) (a:Nat),s.all bI=true->s.foldl (fun n b=>n*10+(b.toNat - 48)) a<(a+1)*10 ^ s.length
 | [],a,_=>by simp
 | b::r,a,h=>by
  simp only[TX,Tu] at h
  have h1:=Ge r (a*10+(b.toNat - 48)) h.2
  have h2:=nw.1 h.1
  simp only[Um,UK]
  refine Vw h1 ?_
  rw[Nat.pow_succ,show (a+1)*(10 ^ r.length*10)=(10*(a+1))*10 ^ r.length by rw[Nat.mul_comm (10 ^ r.length) 10, <- Nat.mul_assoc,Nat.mul_comm (a+1) 10]]
  exact VD _ (by omega)
theorem RC {s:List UInt8} (h:s.all bI=true):b9 s<10 ^ s.length:=by
 have:=Ge s 0 h
 simpa [b9] using this
theorem Al {s:List UInt8} {n:Nat} (h:s.all bI=true) (hl:s.length<=n):b9 s<10 ^ n:=
 Vw (RC h) (VG (by omega) hl)
theorem Eh:∀ (s:List UInt8) (a:Nat),s.all bI=true->Lib.decFrom a s=some (s.foldl (fun n b=>n*10+(b.toNat - 48)) a)
 | [],a,_=>rfl
 | b::r,a,h=>by
  simp only[TX,Tu] at h
  have h2:=nw.1 h.1
  simp only[Lib.decFrom,Lib.digitVal,V7 h2,Um]
  exact Eh r _ h.2
theorem QL {s:List UInt8} (h:s.all bI=true) (h0:s≠[]):Lib.atoi s=some (b9 s:Int):=by
 cases s with
 | nil=>exact absurd rfl h0
 | cons b r=>
  have h2:48<=b.toNat/\b.toNat<=57:=by
   simp only[TX,Tu] at h
   exact nw.1 h.1
  have e1:(b==45)=false:=by
   cases e:b==45 with
   | false=>rfl
   | true=>have:=eq_of_beq e;subst this;exact absurd h2.1 (by decide)
  have e2:(b==43)=false:=by
   cases e:b==43 with
   | false=>rfl
   | true=>have:=eq_of_beq e;subst this;exact absurd h2.1 (by decide)
  simp only[Lib.atoi,e1,e2,TA,V5,Lib.decNat,List.isEmpty_cons]
  rw[Eh _ _ h]
  rfl
def vN (s:List UInt8):Bool:= !(s==[])&&(decide (s.length<=16)&&(!(decide (1<s.length)&&s.head? ==some 48)&&s.all bI))
def Ft (s:List UInt8):Int:=bif vN s then (b9 s:Int) else 0
theorem OB:OA=bI:=rfl
theorem Kh (s:List UInt8):jv s 16=some (Ft s,vN s,()):=by
 unfold jv Ft vN
 rw[OB]
 by_cases h16:s.length<=16
 ·rw[aF (by omega),VZ (show s.length<=18 by omega),VW,VZ h16,TK]
  cases h0:(s==[]) with
  | true=>rfl
  | false=>
   cases hd:s.all bI with
   | false=>simp
   | true=>
    cases hz:(decide (1<s.length)&&s.head? ==some 48) with
    | true=>rfl
    | false=>
     rw[QL hd (by intro e;rw[e] at h0;cases h0)]
     rfl
 ·rw[aC (by omega),VY h16]
  cases (s==[])<;>rfl
theorem Jb {c:UInt8} (h:bI c=true):w64 (wu8 ((c.toNat:Int) - 48))=((c.toNat - 48:Nat):Int):=by
 have h2:=nw.1 h
 have:wu8 ((c.toNat:Int) - 48)=(c.toNat:Int) - 48:=HC (by simp[IntKind.min,IntKind.bits,IntKind.signed];omega) (by simp[IntKind.max,IntKind.bits,IntKind.signed];omega)
 rw[this,aE (by omega) (by omega)]
 omega
theorem Mi (s:List UInt8):xY s=some (Ft s,vN s,()):=by
 unfold xY Ft vN
 cases h0:(s==[]) with
 | true=>rfl
 | false=>
  rw[VV]
  by_cases h16:s.length<=16
  ·rw[aF (by omega),VZ h16,TK,TG,TK]
   have hne:s≠[]:=by intro e;rw[e] at h0;cases h0
   obtain⟨b,r,rfl⟩:∃ b r,s=b::r:=by cases s with | nil=>exact absurd rfl hne | cons b r=>exact⟨b,r,rfl⟩
   have hb:((b::r:List UInt8).head? ==some 48)=((b.toNat:Int)==48):=by
    by_cases e:b=48
    ·subst e;rfl
    ·have h1:((b::r:List UInt8).head? ==some 48)=false:=by simpa using e
     have h2:((b.toNat:Int)==48)=false:=by
      cases hh:((b.toNat:Int)==48) with
      | false=>rfl
      | true=>
       have h3:(b.toNat:Int)=48:=eq_of_beq hh
       exact absurd (VQ.1 (show b.toNat=(48:UInt8).toNat from by show b.toNat=48;omega)) e
     rw[h1,h2]
   have hz:(bif decide ((((b::r).length:Nat):Int)>1) then (Option.bind (dI (b::r) 0) fun c1=>some ((c1.toNat:Int)==48,())) else some (false,()))=some ((decide (1<(b::r).length)&&(b::r:List UInt8).head? ==some 48),()):=by
    by_cases h1:1<(b::r).length
    ·rw[aC (by omega),VZ h1,TK,hb];rfl
    ·rw[aF (by omega),VY h1];rfl
   rw[hz,VJ]
   generalize hs:b::r=s at*
   cases hzz:(decide (1<s.length)&&s.head? ==some 48) with
   | true=>rfl
   | false=>
    rw[VV,TG,TK]
    have loop:∀ f,s.length<f->iter f ((s,(0:Int),(s.length:Int),(0:Int),()):nO) sj=(if s.all bI=true then some (Sum.inr ((b9 s:Int),())) else some (Sum.inl (0,false,()))):=by
     intro f hf
     refine bN (Inv:=fun i X=>X=((s,(b9 (s.take i):Int),(s.length:Int),(i:Int),()):nO)/\(s.take i).all bI=true) s.length
      (fun r=>r=(if s.all bI=true then some (Sum.inr ((b9 s:Int),())) else some (Sum.inl (0,false,())))) ?_ ?_ f 0 _ ⟨by simp[b9],by simp⟩ (by omega) (by omega)
     ·rintro i _ again hi ⟨rfl,hb⟩ ih
      unfold sj
      dsimp only
      have hy:s[i]? =some s[i]:=aG hi
      have hym:s[i]∈s:=UH hi
      generalize s[i]=y at hy hym
      have hlt:=Al (n:=16) hb (by simp;omega)
      rw[aC (by omega),nR hy,VJ,VJ,VJ,aE (n:=(i:Int)+1) (by omega) (by omega)]
      cases hd:bI y with
      | true=>
       obtain⟨h1,h2⟩:=sV.2 hd
       have h3:=nw.1 hd
       rw[h1,h2,VV,VV,Jb hd,aE (n:=10*_) (by omega) (by omega),aE (by omega) (by omega)]
       refine ih _ ⟨?_, ?_⟩
       ·rw[dD hy,Ce]
        congr 2
        omega
       ·rw[dD hy]
        simp[hb,hd]
      | false=>
       have hall:s.all bI=false:=by
        rw[TY]
        exact⟨y,hym,by simp[hd]⟩
       rw[hall]
       cases h1:decide ((y.toNat:Int)<48) with
       | true=>rfl
       | false=>
        cases h2:decide ((y.toNat:Int)>57) with
        | true=>rfl
        | false=>have:=sV.1 ⟨h1,h2⟩;rw[hd] at this;cases this
     ·rintro _ again ⟨rfl,hb⟩
      unfold sj
      dsimp only
      rw[aF (by omega)]
      rw[Vh (Vu _)] at hb ⊢
      rw[V7 hb]
    rw[loop _ (by omega)]
    cases s.all bI<;>rfl
  ·rw[aC (by omega),VY h16]
   rfl
end Go.Md
namespace Go.Md
open Go.Dn
def cW (c:UInt8):List UInt8->List UInt8×List UInt8×Bool
 | []=>([],[],false)
 | b::r=>bif b==c then ([],r,true) else (b::(cW c r).1,(cW c r).2.1,(cW c r).2.2)
theorem F8 (c:UInt8):∀ s:List UInt8,Lib.indexByte s c=(bif (cW c s).2.2 then (((cW c s).1.length:Nat):Int) else -1)
 | []=>rfl
 | b::r=>by
  simp only[Lib.indexByte,cW]
  cases hb:(b==c) with
  | true=>rfl
  | false=>
   rw[F8 c r]
   simp only[TA,V5,VV]
   cases (cW c r).2.2 with
   | true=>
    simp only[VW,UK]
    have hne:((((cW c r).1.length:Nat):Int)== -1)=false:=by
     cases h:((((cW c r).1.length:Nat):Int)== -1) with
     | false=>rfl
     | true=>have:=eq_of_beq h;omega
    rw[hne]
    simp
   | false=>rfl
theorem lQ (c:UInt8):∀ s:List UInt8,s=(cW c s).1++(bif (cW c s).2.2 then c::(cW c s).2.1 else [])/\((cW c s).2.2=false->(cW c s).2.1=[])
 | []=>⟨rfl,fun _=>rfl⟩
 | b::r=>by
  obtain⟨h1,h2⟩:=lQ c r
  simp only[cW]
  cases hb:(b==c) with
  | true=>exact⟨by rw[eq_of_beq hb];rfl,fun h=>by cases h⟩
  | false=>
   simp only[VV]
   exact⟨by rw[T7, <- h1],h2⟩
theorem Q0 (s:List UInt8) (c:UInt8):eP s [c]=some (Lib.indexByte s c,()):=by
 unfold eP
 have e0:((([c]:List UInt8).length:Int)==0)=false:=rfl
 have e1:((([c]:List UInt8).length:Int)==1)=true:=rfl
 have e2:dI [c] 0=some c:=rfl
 have e3:cm s (c.toNat:Int)=some (Lib.indexByte s c,()):=by
  unfold cm
  have:((c.toNat:Int).toNat).toUInt8=c:=by
   rw[TW]
   exact VQ.1 (by simp)
  rw[this]
 rw[e0,VV,e1,VW,e2,VJ,e3,VJ]
 cases h:([c]==s) with
 | false=>rfl
 | true=>
  have:=eq_of_beq h
  subst this
  simp[Lib.indexByte]
theorem tJ (s:List UInt8) (c:UInt8) (hs:s.length<=1000000):mN s [c]=some ((cW c s).1,(cW c s).2.1,(cW c s).2.2,()):=by
 unfold mN iH
 rw[Q0,VJ,F8]
 obtain⟨h1,h2⟩:=lQ c s
 generalize cW c s=q at h1 h2
 obtain⟨a,r,f⟩:=q
 simp only at h1 h2 ⊢
 cases f with
 | false=>
  simp only[VV] at h1 ⊢
  rw[aF (by omega),h2 rfl,VJ]
  rw[T6] at h1
  rw[<- h1]
 | true=>
  simp only[VW] at h1 ⊢
  have hl:s.length=a.length+(r.length+1):=by rw[h1];simp
  have ew:w64 ((a.length:Int)+(([c]:List UInt8).length:Int))=(a.length:Int)+(([c]:List UInt8).length:Int):=aE (by simp;omega) (by simp;omega)
  simp only[ew]
  rw[aC (by omega),bn (by simp<;>omega),bn (by simp<;>omega),VJ]
  have t1:List.drop 0 (List.take (Int.toNat (a.length:Int)) s)=a:=by
   rw[h1];simp
  have t2:List.drop (Int.toNat ((a.length:Int)+(([c]:List UInt8).length:Int))) (List.take (Int.toNat (s.length:Int)) s)=r:=by
   rw[show Int.toNat ((a.length:Int)+(([c]:List UInt8).length:Int))=a.length+1 by simp<;>omega,TW,Vh (Vu _),h1, <- Ub,Ud]
   rfl
  rw[t1,t2]
theorem Dh (c:UInt8):∀ s:List UInt8,aR c s=(bif (cW c s).2.2 then (cW c s).1::aR c (cW c s).2.1 else [s])
 | []=>rfl
 | b::r=>by
  simp only[aR,cW]
  cases hb:(b==c) with
  | true=>rfl
  | false=>
   simp only[VV]
   rw[Dh c r]
   obtain⟨h1,h2⟩:=lQ c r
   cases hf:(cW c r).2.2 with
   | true=>rfl
   | false=>rfl
theorem yF (c:UInt8) (s:List UInt8):aR c s≠[]:=by
 rw[Dh]
 cases (cW c s).2.2<;>simp
theorem iP (c:UInt8):∀ s:List UInt8,(aR c s).length<=s.length+1/\∀ w,w∈aR c s->w.length<=s.length
 | []=>⟨Vu _,fun w hw=>by simp[aR] at hw;simp[hw]⟩
 | b::r=>by
  obtain⟨h1,h2⟩:=iP c r
  simp only[aR]
  cases hb:(b==c) with
  | true=>
   simp only[VW,UK]
   refine⟨by omega,fun w hw=> ?_⟩
   rcases UX.1 hw with rfl | hw
   ·simp
   ·have:=h2 w hw;omega
  | false=>
   simp only[VV]
   split
   ·rename_i h t he
    rw[he] at h1 h2
    refine⟨by simp at h1 ⊢;omega,fun w hw=> ?_⟩
    rcases UX.1 hw with rfl | hw
    ·have:=h2 h (by simp);simp;omega
    ·have:=h2 w (by simp[hw]);simp;omega
   ·exact⟨by simp,fun w hw=>by simp at hw;subst hw;simp⟩
theorem l8 (s:List UInt8) (c:UInt8) (hs:s.length<=1000000):strings_Split s [c]=some (aR c s,()):=by
 simp only[strings_Split]
 rw[VZ (by omega)];rfl
def kD (l:List (List UInt8)):Bool:=l.all fun w=> !(w==[])
theorem LL (s:List UInt8) (hs:s.length<=1000000):iy s=some (bif kD (aR 32 s) then aR 32 s else [],kD (aR 32 s),()):=by
 unfold iy
 rw[l8 s 32 hs,VJ]
 have hlen:=(iP 32 s).1
 generalize aR 32 s=l at hlen
 dsimp only
 have loop:∀ f,l.length<f->iter f (((l.length:Int),(0:Int),l,()):nC) rG=(if kD l=true then some (Sum.inr (l,())) else some (Sum.inl ([],false,()))):=by
  intro f hf
  refine bN (Inv:=fun i X=>X=(((l.length:Int),(i:Int),l,()):nC)/\kD (l.take i)=true) l.length
   (fun r=>r=(if kD l=true then some (Sum.inr (l,())) else some (Sum.inl ([],false,())))) ?_ ?_ f 0 _ ⟨rfl,rfl⟩ (by omega) (by omega)
  ·rintro i _ again hi ⟨rfl,hb⟩ ih
   unfold rG
   dsimp only
   have hy:l[i]? =some l[i]:=aG hi
   have hym:l[i]∈l:=UH hi
   generalize l[i]=y at hy hym
   rw[aC (by omega),bn (by simp;omega),TW,hy,VJ,aE (by omega) (by omega)]
   cases he:(y==[]) with
   | true=>
    have:kD l=false:=by
     simp only[kD,TY]
     exact⟨y,hym,by rw[he];simp⟩
    rw[this];rfl
   | false=>
    rw[VV]
    refine ih _ ⟨rfl, ?_⟩
    simp only[kD] at hb ⊢
    rw[dD hy,List.all_append,hb]
    simpa using he
  ·rintro _ again ⟨rfl,hb⟩
   unfold rG
   dsimp only
   rw[aF (by omega)]
   rw[Vh (Vu _)] at hb
   rw[V7 hb]
 rw[loop _ (by omega)]
 cases kD l<;>rfl
end Go.Md
namespace Go.Md
open Go.Dn
def oN (s:List UInt8):Bool:=(decide (s≠[])&&s.all bI)&& !(decide (1<s.length)&&s.head? ==some 48)
def Om (q:List UInt8×List UInt8×Bool):Bool:=oN q.1&&(bif q.2.2 then (decide (q.2.1≠[])&&q.2.1.all bI)&&decide (q.2.1.length<=9) else true)
def ir:List UInt8->Bool×List UInt8
 | b::r=>bif b==45 then (true,r) else (false,b::r)
 | []=>(false,[])
def GJ (neg:Bool) (q:List UInt8×List UInt8×Bool):ah×Int:=
 let v:=b9 (q.1++q.2.1)
 bif neg&&decide (v=0) then ((0,0),10) else bif decide (v<=1000000000000000) then ((bif neg then -(v:Int) else (v:Int),(q.2.1.length:Int)),0) else ((0,0),1)
def kF (s:List UInt8):ah×Int:=
 bif decide (40<s.length) then ((0,0),10) else
  bif Om (cW 46 (ir s).2) then GJ (ir s).1 (cW 46 (ir s).2) else ((0,0),10)
theorem B2 (s:List UInt8) (hs:s.length<=1000000):gV s [45]=some ((ir s).2,(ir s).1,()):=by
 unfold gV fE fG
 cases s with
 | nil=>rfl
 | cons b r=>
  have hl:r.length+1<=1000000:=hs
  rw[aC (by simp;omega),bn (by simp<;>omega),VJ]
  have e1:(List.drop 0 (List.take (Int.toNat (([45]:List UInt8).length:Int)) (b::r))==[45])=(b==45):=by
   simp
  dsimp only
  rw[e1]
  cases hb:(b==45) with
  | false=>simp[ir,hb]
  | true=>
   rw[TH,VV,bn (by simp<;>omega),VJ]
   simp[ir,hb]
theorem Rw {s:List UInt8} (h:s≠[]):∃ b,dI s 0=some b/\((b.toNat:Int)==48)=(s.head? ==some 48):=by
 cases s with
 | nil=>exact absurd rfl h
 | cons b r=>
  refine⟨b,rfl, ?_⟩
  by_cases e:b=48
  ·subst e;rfl
  ·have h1:((b::r:List UInt8).head? ==some 48)=false:=by simpa using e
   have h2:((b.toNat:Int)==48)=false:=by
    cases hh:((b.toNat:Int)==48) with
    | false=>rfl
    | true=>
     have h3:(b.toNat:Int)=48:=eq_of_beq hh
     exact absurd (VQ.1 (show b.toNat=(48:UInt8).toNat from by show b.toNat=48;omega)) e
   rw[h1,h2]
theorem OC (s:List UInt8) (hs:s.length<=1000000):oo s=some (oN s,()):=by
 unfold oo oN
 rw[mW s (by omega),VJ]
 dsimp only
 cases hd:(decide (s≠[])&&s.all bI) with
 | false=>rfl
 | true=>
  have hne:s≠[]:=by
   intro e;subst e;cases hd
  obtain⟨b,h1,h2⟩:=Rw hne
  rw[VW]
  cases hl:((s.length:Int)==1) with
  | true=>
   have:=eq_of_beq hl
   rw[VW,VJ,VY (show ¬ 1<s.length by omega)]
   rfl
  | false=>
   have hgt:1<s.length:=by
    have h0:0<s.length:=List.length_pos_iff.2 hne
    have hn:(s.length:Int)≠1:=fun e=>by rw[e] at hl;cases hl
    omega
   rw[VV,h1,VJ,VJ,VZ hgt,TK,TK, <- h2]
   rfl
theorem E7 (c:UInt8) (s:List UInt8):(cW c s).1.length+(cW c s).2.1.length<=s.length:=by
 obtain⟨h1,h2⟩:=lQ c s
 generalize hq:cW c s=q at h1 h2
 have:=congrArg List.length h1
 cases hf:q.2.2 with
 | true=>rw[hf] at this;simp at this;omega
 | false=>rw[hf] at this;rw[h2 hf];simp at this;simp;omega
theorem JN (s:List UInt8):(ir s).2.length<=s.length:=by
 cases s with
 | nil=>simp[ir]
 | cons b r=>
  simp only[ir]
  cases (b==45)<;>simp
theorem yM (neg:Bool) (a b:List UInt8) (f:Bool) (ha:a.all bI=true) (hb:b.all bI=true) (hl:a.length+b.length<=40):tV neg a b=some ((GJ neg (a,b,f)).1,(GJ neg (a,b,f)).2,()):=by
 unfold tV
 rw[yI 0 (by omega) (by omega),VJ,bn (by rw[xR];simp;omega)]
 have hall:(a++b).all bI=true:=by rw[List.all_append,ha,hb];rfl
 have hlen:(a++b).length<=40:=by simp;omega
 have loop:∀ n,(a++b).length<n->iter n ((neg,a,b,((a++b).length:Int),(0:Int),0,0,(W 0).1,(W 0).2,()):kI) ot=some (Sum.inr (neg,b,0,0,(W (b9 (a++b):Int)).1,(W (b9 (a++b):Int)).2,())):=by
  intro n hn
  refine bN (Inv:=fun i X=>X=((neg,a,b,((a++b).length:Int),(i:Int),0,0,(W (b9 ((a++b).take i):Int)).1,(W (b9 ((a++b).take i):Int)).2,()):kI)) (a++b).length
   (fun r=>r=some (Sum.inr (neg,b,0,0,(W (b9 (a++b):Int)).1,(W (b9 (a++b):Int)).2,()))) ?_ ?_ n 0 _ (by simp[b9]) (by omega) (by omega)
  ·rintro i _ again hi rfl ih
   unfold ot
   dsimp only
   have hy:(a++b)[i]? =some (a++b)[i]:=aG hi
   have hd:bI (a++b)[i]=true:=TZ.1 hall _ (UH hi)
   generalize (a++b)[i]=y at hy hd
   have ht:((a++b).take i).all bI=true:=TZ.2 fun c hc=>TZ.1 hall c (List.mem_of_mem_take hc)
   have hlt:=Al (n:=40) ht (by simp;omega)
   have hd2:=nw.1 hd
   have h99:∀ k:Nat,k<10 ^ 42->((k:Nat):Int).natAbs<4294967296 ^ 99:=fun k hk=>by
    rw[TR];exact Nat.lt_trans hk (by decide)
   have e1:jQ ((W (b9 ((a++b).take i):Int)).1,(W (b9 ((a++b).take i):Int)).2) (W 10)=some (W ((b9 ((a++b).take i):Int)*10),()):=Dq _ _ (h99 _ (by omega)) (by decide)
   have e2:k9 (W ((b9 ((a++b).take i):Int)*10)) (W ((y.toNat - 48:Nat):Int))=some (W ((b9 ((a++b).take i):Int)*10+((y.toNat - 48:Nat):Int)),()):=
    Ea _ _ (by have:=h99 (b9 ((a++b).take i)*10) (by omega);simpa using this) (h99 _ (by omega))
   rw[aC (by omega),yI 10 (by omega) (by omega),VJ,e1,VJ,bn (by rw[xR];simp;omega),nR hy,VJ,Jb hd,yI _ (by omega) (by omega),VJ,e2,VJ,aE (by omega) (by omega)]
   refine ih _ ?_
   rw[dD hy,Ce]
   have e3:(((b9 ((a++b).take i)*10+(y.toNat - 48):Nat)):Int)=(b9 ((a++b).take i):Int)*10+((y.toNat - 48:Nat):Int):=by omega
   rw[e3]
   rfl
  ·rintro _ again rfl
   unfold ot
   dsimp only
   rw[aF (by omega),Vh (Vu _)]
 dsimp only
 rw[loop _ (by simp;omega),bp]
 dsimp only
 have hv:=Al (n:=40) hall hlen
 have h99:((b9 (a++b):Nat):Int).natAbs<4294967296 ^ 99:=by rw[TR];exact Nat.lt_trans hv (by decide)
 unfold GJ
 dsimp only
 generalize b9 (a++b)=v at hv h99
 cases neg with
 | false=>
  rw[VV,show mD ((W (v:Int)).1,(W (v:Int)).2) (b.length:Int)=_ from yL (v:Int) (b.length:Int),TR]
  rw[Tz,VV,VV]
  by_cases h:v<=1000000000000000
  ·rw[V7 h,VZ h];rfl
  ·rw[V6 h,VY h];rfl
 | true=>
  rw[VW,show ld ((W (v:Int)).1,(W (v:Int)).2)=_ from Eb (v:Int),VJ]
  dsimp only
  by_cases h0:v=0
  ·subst h0;rfl
  ·have hs:((v:Int).sign==0)=false:=by
    cases hh:((v:Int).sign==0) with
    | false=>rfl
    | true=>have:=Int.sign_eq_zero_iff_zero.1 (eq_of_beq hh);omega
   rw[hs,VV,VY h0,Tv,VV,show jP ((W (v:Int)).1,(W (v:Int)).2)=_ from Dp (v:Int) h99,VJ,yL,Int.natAbs_neg,TR]
   by_cases h:v<=1000000000000000
   ·rw[V7 h,VZ h];rfl
   ·rw[V6 h,VY h];rfl
theorem ux (s:List UInt8) (hs:s.length<=1000000):fA s=some ((kF s).1,(kF s).2,()):=by
 have hs2:=JN s
 have hc:=E7 46 (ir s).2
 unfold fA kF
 rw[B2 s hs,VJ]
 dsimp only
 rw[tJ _ 46 (by omega),VJ]
 dsimp only
 by_cases h40:40<s.length
 ·rw[aC (by omega),VZ h40];rfl
 ·rw[aF (by omega),VY h40,VV]
  rw[OC _ (by omega),VJ]
  dsimp only
  unfold Om
  generalize hq:cW 46 (ir s).2=q at hc
  obtain⟨a,b,f⟩:=q
  dsimp only at hc ⊢
  cases hw:oN a with
  | false=>rfl
  | true=>
   have ha:a.all bI=true:=by
    simp only[oN,Tu] at hw
    exact hw.1.2
   rw[TH,VV,TK]
   cases f with
   | false=>
    have hb:b=[]:=by
     have:=(lQ 46 (ir s).2).2
     rw[hq] at this
     exact this rfl
    subst hb
    rw[VV,VJ]
    dsimp only
    rw[VV,yM (ir s).1 a [] false ha rfl (by simp at hc ⊢;omega),VJ]
    rfl
   | true=>
    rw[VW,mW b (by omega),VJ,VW]
    dsimp only
    cases hd:(decide (b≠[])&&b.all bI) with
    | false=>rfl
    | true=>
     have hb:b.all bI=true:=by simp only[Tu] at hd;exact hd.2
     rw[TH,VV,VJ,TK]
     dsimp only
     by_cases h9:b.length<=9
     ·rw[aF (by omega),VZ h9,yM (ir s).1 a b true ha hb (by omega),VJ]
      rfl
     ·rw[aC (by omega),VY h9]
      rfl
theorem M6 (s:List UInt8) (h:s.all bI=true) (hl:s.length<=40):uo s=some (bif decide (b9 s<=1000000000000000) then (b9 s:Int) else 0,decide (b9 s<=1000000000000000),()):=by
 unfold uo
 have mono:∀ i,b9 (s.take i)<=b9 s:=fun i=>by
  have hf:∀ (r:List UInt8) (a:Nat),a<=r.foldl (fun n b=>n*10+(b.toNat - 48)) a:=by
   intro r
   induction r with
   | nil=>intro a;exact Vu _
   | cons b r ih=>
    intro a
    simp only[Um]
    exact Vv (by omega) (ih _)
  conv=>rhs;rw[<- Vf i s]
  simp only[b9,List.foldl_append]
  exact hf _ _
 have loop:∀ f,s.length<f->iter f ((s,(0:Int),(s.length:Int),(0:Int),()):kX) oJ=(if b9 s<=1000000000000000 then some (Sum.inr ((b9 s:Int),())) else some (Sum.inl (0,false,()))):=by
  intro f hf
  refine bN (Inv:=fun i X=>X=((s,(b9 (s.take i):Int),(s.length:Int),(i:Int),()):kX)/\b9 (s.take i)<=1000000000000000) s.length
   (fun r=>r=(if b9 s<=1000000000000000 then some (Sum.inr ((b9 s:Int),())) else some (Sum.inl (0,false,())))) ?_ ?_ f 0 _ ⟨by simp[b9],by simp[b9]⟩ (by omega) (by omega)
  ·rintro i _ again hi ⟨rfl,hb⟩ ih
   unfold oJ
   dsimp only
   have hy:s[i]? =some s[i]:=aG hi
   have hd:bI s[i]=true:=TZ.1 h _ (UH hi)
   generalize s[i]=y at hy hd
   have hd2:=nw.1 hd
   have hsn:b9 (s.take (i+1))=b9 (s.take i)*10+(y.toNat - 48):=by rw[dD hy,Ce]
   have hm:=mono (i+1)
   rw[aC (by omega),nR hy,VJ,Jb hd,aE (n:=10*_) (by omega) (by omega),aE (by omega) (by omega),aE (n:=(i:Int)+1) (by omega) (by omega)]
   by_cases hc:b9 (s.take (i+1))<=1000000000000000
   ·rw[aF (by omega)]
    refine ih _ ⟨?_,hc⟩
    rw[hsn]
    congr 2
    omega
   ·rw[aC (by omega),V6 (by omega)]
  ·rintro _ again ⟨rfl,hb⟩
   unfold oJ
   dsimp only
   rw[aF (by omega)]
   rw[Vh (Vu _)] at hb ⊢
   rw[V7 hb]
 rw[loop _ (by omega)]
 by_cases hc:b9 s<=1000000000000000
 ·rw[V7 hc,VZ hc];rfl
 ·rw[V6 hc,VY hc];rfl
theorem Cd:∀ (s:List UInt8) (a:Nat),s.all bI=true->(s.foldl (fun n b=>n*10+(b.toNat - 48)) a=0↔a=0/\s.all (fun b=>b==48)=true)
 | [],a,_=>by simp
 | b::r,a,h=>by
  simp only[TX,Tu] at h
  have h2:=nw.1 h.1
  simp only[Um,TX,Tu]
  rw[Cd r _ h.2]
  have e:(b==48)=true↔b.toNat=48:=by
   rw[beq_iff_eq]
   exact⟨fun e=>by rw[e];rfl,fun e=>VQ.1 (by rw[e];rfl)⟩
  rw[e]
  constructor
  ·rintro⟨h3,h4⟩;exact⟨by omega,by omega,h4⟩
  ·rintro⟨h3,h4,h5⟩;exact⟨by omega,h5⟩
theorem dropWhile_nil {α:Type} (p:α->Bool):∀ l:List α,l.dropWhile p=[]↔l.all p=true
 | []=>by simp
 | a::r=>by
  rw[List.dropWhile_cons,TX]
  cases h:p a with
  | true=>simp only[V8,TK];exact dropWhile_nil p r
  | false=>simp
theorem QF (s:List UInt8) (hs:s.length<=1000000) (h:s.all bI=true):∃ r,dR s [48]=some (r,())/\(r==[])=decide (b9 s=0):=by
 unfold dR
 rw[show (decide (s.length<=9223372036854775807)&&(decide (([48]:List UInt8).length<4294967281)&&([48]:List UInt8).all fun b=>decide (b.toNat<128)))=true by
  rw[VZ (by omega)];rfl,VW]
 refine⟨_,rfl, ?_⟩
 have hp:(fun b=>([48]:List UInt8).contains b)=(fun b:UInt8=>b==48):=by
  funext b
  simp[List.contains,List.elem]
  cases h:(b==48)<;>simp_all
 have key:Lib.trimS s [48]=[]↔b9 s=0:=by
  unfold Lib.trimS Lib.trimLeftS Lib.trimRightS
  rw[hp,dropWhile_nil]
  unfold b9
  rw[Cd s 0 h]
  constructor
  ·intro hall
   refine⟨rfl, ?_⟩
   have hr:s.reverse.dropWhile (fun b=>b==48)=[]:=by
    cases hd:s.reverse.dropWhile (fun b=>b==48) with
    | nil=>rfl
    | cons b r=>
     exfalso
     have h1:(b==48)=false:=by
      have:=List.head?_dropWhile_not (fun b:UInt8=>b==48) s.reverse
      rw[hd] at this
      simpa using this
     rw[hd] at hall
     have:=TZ.1 hall b (by simp)
     rw[h1] at this;cases this
   have:=(dropWhile_nil _ _).1 hr
   rw[List.all_reverse] at this
   exact this
  ·rintro⟨_,hall⟩
   have:s.reverse.dropWhile (fun b=>b==48)=[]:=(dropWhile_nil _ _).2 (by rw[List.all_reverse];exact hall)
   rw[this];rfl
 by_cases h0:b9 s=0
 ·rw[key.2 h0,VZ h0];rfl
 ·rw[VY h0]
  cases hh:Lib.trimS s [48] with
  | nil=>exact absurd (key.1 hh) h0
  | cons a b=>rfl
theorem zB (s:List UInt8) (hs:s.length<=1000000):ke s=some ((kF s).1,(kF s).2,()):=by
 have hs2:=JN s
 have hc:=E7 46 (ir s).2
 unfold ke kF
 by_cases h40:40<s.length
 ·rw[aC (by omega),VZ h40];rfl
 ·rw[aF (by omega),VY h40,VV,B2 s hs,VJ]
  dsimp only
  rw[tJ _ 46 (by omega),VJ]
  dsimp only
  unfold Om
  generalize hq:cW 46 (ir s).2=q at hc
  obtain⟨a,b,f⟩:=q
  dsimp only at hc ⊢
  have hbn:f=false->b=[]:=fun e=>by
   have:=(lQ 46 (ir s).2).2
   rw[hq] at this
   exact this e
  rw[tw a (by omega),VJ]
  dsimp only
  have hform:∀ (K:Bool×Unit->Option (ah×Int×Unit)),(Option.bind (bif f then (Option.bind (dw b) fun r5=>bif !r5.1 then some (true,()) else some (decide (((b.length:Nat):Int)>9),())) else some (decide (((b.length:Nat):Int)>9),())) K)=
   K (!(bif f then (decide (b≠[])&&b.all bI)&&decide (b.length<=9) else true),()):=fun K=>by
   cases f with
   | false=>
    have:=hbn rfl
    subst this
    rfl
   | true=>
    rw[VW,tw b (by omega),VJ,VW]
    dsimp only
    cases (decide (b≠[])&&b.all bI) with
    | false=>rfl
    | true=>
     rw[TH,VV,VJ,TK]
     have:decide (((b.length:Nat):Int)>9)= !decide (b.length<=9):=by
      by_cases h9:b.length<=9
      ·rw[VZ h9];exact VY (by omega)
      ·rw[VY h9];exact VZ (by omega)
     rw[this]
  have hfm:∀ (K:Bool×Unit->Option (ah×Int×Unit)),(Option.bind (bif !(decide (a≠[])&&a.all bI) then some (true,()) else bif decide (((a.length:Nat):Int)>1) then (Option.bind (dI a 0) fun c4=>bif (c4.toNat:Int)==48 then some (true,()) else
   bif f then (Option.bind (dw b) fun r5=>bif !r5.1 then some (true,()) else some (decide (((b.length:Nat):Int)>9),())) else some (decide (((b.length:Nat):Int)>9),())) else
   bif f then (Option.bind (dw b) fun r5=>bif !r5.1 then some (true,()) else some (decide (((b.length:Nat):Int)>9),())) else some (decide (((b.length:Nat):Int)>9),())) K)=
   K (!(oN a&&(bif f then (decide (b≠[])&&b.all bI)&&decide (b.length<=9) else true)),()):=fun K=>by
   unfold oN
   cases hd:(decide (a≠[])&&a.all bI) with
   | false=>rfl
   | true=>
    have hne:a≠[]:=by intro e;subst e;cases hd
    obtain⟨c,h1,h2⟩:=Rw hne
    rw[TH,VV,TK]
    by_cases hgt:1<a.length
    ·rw[aC (by omega),h1,VJ,h2,VZ hgt,TK]
     cases (a.head? ==some 48) with
     | true=>rfl
     | false=>rw[VV,hform];rfl
    ·rw[aF (by omega),VY hgt,hform];rfl
  rw[hfm]
  dsimp only
  cases hok:(oN a&&(bif f then (decide (b≠[])&&b.all bI)&&decide (b.length<=9) else true)) with
  | false=>rfl
  | true=>
   simp only[Tu] at hok
   have ha:a.all bI=true:=by
    have:=hok.1
    simp only[oN,Tu] at this
    exact this.1.2
   have hb:b.all bI=true:=by
    cases f with
    | false=>rw[hbn rfl];rfl
    | true=>
     have:=hok.2
     simp only[VW,Tu] at this
     exact this.1.2
   have hall:(a++b).all bI=true:=by rw[List.all_append,ha,hb];rfl
   rw[TH,VV]
   obtain⟨r,ht1,ht2⟩:=QF (a++b) (by simp;omega) hall
   have hch:(decide (a.length+b.length<=maxLen))=true:=VZ (by rw[xR];omega)
   rw[bn hch,bn hch,ht1,VJ]
   dsimp only
   rw[ht2,M6 _ hall (by simp;omega),VW]
   unfold GJ
   dsimp only
   have hv:=Al (n:=40) hall (by simp;omega)
   generalize b9 (a++b)=v at hv
   cases (ir s).1 with
   | false=>
    rw[VV,VJ,VJ,Tz,VV]
    dsimp only
    by_cases hm:v<=1000000000000000
    ·rw[VZ hm];rfl
    ·rw[VY hm];rfl
   | true=>
    rw[VW,VJ,TK]
    dsimp only
    by_cases h0:v=0
    ·rw[VZ h0];rfl
    ·rw[VY h0,VV,VV,VJ]
     dsimp only
     by_cases hm:v<=1000000000000000
     ·rw[VZ hm,VW,TH,VV,VW,VW,aE (by omega) (by omega),Int.zero_sub]
      rfl
     ·rw[VY hm];rfl
end Go.Md
