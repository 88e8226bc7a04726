/-
  Plain facts: numbers, words, decimals, as both sides read them. No condition.
-/
import Derived.Test.YtjlkkapojeldlabGreatDoorYo
import Derived.Test.YtjlkkapojeldlabGreatDoorYr
import Derived.Test.YtjlkkapojeldlabGreatDoorYq
import Derived.Test.YtjlkkapojeldlabGreatDoorYs
set_option linter.all false
namespace Go.Md
open Go.Dn
def cU (s:Bys):Nat:=s.foldl (fun n b=>n*10+(b.toNat - 48)) 0
theorem FG (s:Bys) (b:UInt8):cU (s++[b])=cU s*10+(b.toNat - 48):=by
 simp[cU,List.foldl_append]
theorem oz {c:UInt8}:ck c=true↔48<=c.toNat/\c.toNat<=57:=by
 simp[ck]
theorem Ku:∀ (s:Bys) (a:Nat),s.all ck=true->s.foldl (fun n b=>n*10+(b.toNat - 48)) a<(a+1)*10 ^ s.length
 | [],a,_=>by simp
 | b::r,a,h=>by
  simp only[Zx,YX] at h
  have h1:=Ku r (a*10+(b.toNat - 48)) h.2
  have h2:=oz.1 h.1
  simp only[ZU,aal]
  refine abh h1 ?_
  rw[Nat.pow_succ,show (a+1)*(10 ^ r.length*10)=(10*(a+1))*10 ^ r.length by rw[Nat.mul_comm (10 ^ r.length) 10, <- Nat.mul_assoc,Nat.mul_comm (a+1) 10]]
  exact abo _ (by omega)
theorem WM {s:Bys} (h:s.all ck=true):cU s<10 ^ s.length:=by
 have:=Ku s 0 h
 simpa [cU] using this
theorem Dp {s:Bys} {n:Nat} (h:s.all ck=true) (hl:s.length<=n):cU s<10 ^ n:=
 abh (WM h) (abu (by omega) hl)
theorem Is:∀ (s:Bys) (a:Nat),s.all ck=true->Lib.decFrom a s=some (s.foldl (fun n b=>n*10+(b.toNat - 48)) a)
 | [],a,_=>rfl
 | b::r,a,h=>by
  simp only[Zx,YX] at h
  have h2:=oz.1 h.1
  simp only[Lib.decFrom,Lib.digitVal,abY h2,ZU]
  exact Is r _ h.2
theorem VH {s:Bys} (h:s.all ck=true) (h0:s≠[]):Lib.atoi s=some (cU s:Int):=by
 cases s with
 | nil=>exact absurd rfl h0
 | cons b r=>
  have h2:48<=b.toNat/\b.toNat<=57:=by
   simp only[Zx,YX] at h
   exact oz.1 h.1
  have e1:(b==45)=false:=by
   cases e:b==45 with
   | false=>rfl
   | true=>have:=eq_of_beq e;subst this;exact absurd h2.1 (by decide)
  have e2:(b==43)=false:=by
   cases e:b==43 with
   | false=>rfl
   | true=>have:=eq_of_beq e;subst this;exact absurd h2.1 (by decide)
  simp only[Lib.atoi,e1,e2,Y7,abW,Lib.decNat,List.isEmpty_cons]
  rw[Is _ _ h]
  rfl
def cD (s:Bys):Bool:= !(s==[])&&(decide (s.length<=16)&&(!(decide (1<s.length)&&s.head? ==some 48)&&s.all ck))
def bL (s:Bys):Int:=bif cD s then (cU s:Int) else 0
theorem To:Tn=ck:=rfl
theorem Ok (s:Bys):oC s 16=some (bL s,cD s,()):=by
 unfold oC bL cD
 rw[To]
 by_cases h16:s.length<=16
 ·rw[aP (by omega),abO (show s.length<=18 by omega),abL,abO h16,Zh]
  cases h0:(s==[]) with
  | true=>rfl
  | false=>
   cases hd:s.all ck with
   | false=>simp
   | true=>
    cases hz:(decide (1<s.length)&&s.head? ==some 48) with
    | true=>rfl
    | false=>
     rw[VH hd (by intro e;rw[e] at h0;cases h0)]
     rfl
 ·rw[aI (by omega),abN h16]
  cases (s==[])<;>rfl
theorem SO {c:UInt8} (h:ck c=true):w64 (wu8 ((c.toNat:Int) - 48))=((c.toNat - 48:Nat):Int):=by
 have h2:=oz.1 h
 have:wu8 ((c.toNat:Int) - 48)=(c.toNat:Int) - 48:=LL (by simp[IntKind.min,IntKind.bits,IntKind.signed];omega) (by simp[IntKind.max,IntKind.bits,IntKind.signed];omega)
 rw[this,aS (by omega) (by omega)]
 omega
end Go.Md
namespace Go.Md
open Go.Dn
def ef (c:UInt8):Bys->Bys×Bys×Bool
 | []=>([],[],false)
 | b::r=>bif b==c then ([],r,true) else (b::(ef c r).1,(ef c r).2.1,(ef c r).2.2)
theorem Kn (c:UInt8):∀ s:Bys,Lib.indexByte s c=(bif (ef c s).2.2 then (((ef c s).1.length:Nat):Int) else -1)
 | []=>rfl
 | b::r=>by
  simp only[Lib.indexByte,ef]
  cases hb:(b==c) with
  | true=>rfl
  | false=>
   rw[Kn c r]
   simp only[Y7,abW,abK]
   cases (ef c r).2.2 with
   | true=>
    simp only[abL,aal]
    have hne:((((ef c r).1.length:Nat):Int)== -1)=false:=by
     cases h:((((ef c r).1.length:Nat):Int)== -1) with
     | false=>rfl
     | true=>have:=eq_of_beq h;omega
    rw[hne]
    simp
   | false=>rfl
theorem oy (c:UInt8):∀ s:Bys,s=(ef c s).1++(bif (ef c s).2.2 then c::(ef c s).2.1 else [])/\((ef c s).2.2=false->(ef c s).2.1=[])
 | []=>⟨rfl,fun _=>rfl⟩
 | b::r=>by
  obtain⟨h1,h2⟩:=oy c r
  simp only[ef]
  cases hb:(b==c) with
  | true=>exact⟨by rw[eq_of_beq hb];rfl,fun h=>by cases h⟩
  | false=>
   simp only[abK]
   exact⟨by rw[ZE, <- h1],h2⟩
theorem VR (s:Bys) (c:UInt8):gO s [c]=some (Lib.indexByte s c,()):=by
 unfold gO
 have e0:((([c]:Bys).length:Int)==0)=false:=rfl
 have e1:((([c]:Bys).length:Int)==1)=true:=rfl
 have e2:iV [c] 0=some c:=rfl
 have e3:de s (c.toNat:Int)=some (Lib.indexByte s c,()):=by
  unfold de
  have:((c.toNat:Int).toNat).toUInt8=c:=by
   rw[Zw]
   exact abF.1 (by simp)
  rw[this]
 rw[e0,abK,e1,abL,e2,abx,e3,abx]
 cases h:([c]==s) with
 | false=>rfl
 | true=>
  have:=eq_of_beq h
  subst this
  simp[Lib.indexByte]
theorem xd (s:Bys) (c:UInt8) (hs:s.length<=1000000):pN s [c]=some ((ef c s).1,(ef c s).2.1,(ef c s).2.2,()):=by
 unfold pN kZ
 rw[VR,abx,Kn]
 obtain⟨h1,h2⟩:=oy c s
 generalize ef c s=q at h1 h2
 obtain⟨a,r,f⟩:=q
 simp only at h1 h2 ⊢
 cases f with
 | false=>
  simp only[abK] at h1 ⊢
  rw[aP (by omega),h2 rfl,abx]
  rw[ZD] at h1
  rw[<- h1]
 | true=>
  simp only[abL] at h1 ⊢
  have hl:s.length=a.length+(r.length+1):=by rw[h1];simp
  have ew:w64 ((a.length:Int)+(([c]:Bys).length:Int))=(a.length:Int)+(([c]:Bys).length:Int):=aS (by simp;omega) (by simp;omega)
  simp only[ew]
  rw[aI (by omega),bJ (by simp<;>omega),bJ (by simp<;>omega),abx]
  have t1:List.drop 0 (List.take (Int.toNat (a.length:Int)) s)=a:=by
   rw[h1];simp
  have t2:List.drop (Int.toNat ((a.length:Int)+(([c]:Bys).length:Int))) (List.take (Int.toNat (s.length:Int)) s)=r:=by
   rw[show Int.toNat ((a.length:Int)+(([c]:Bys).length:Int))=a.length+1 by simp<;>omega,Zw,aaQ (abd _),h1, <- ZI,ZK]
   rfl
  rw[t1,t2]
theorem GR (c:UInt8):∀ s:Bys,bp c s=(bif (ef c s).2.2 then (ef c s).1::bp c (ef c s).2.1 else [s])
 | []=>rfl
 | b::r=>by
  simp only[bp,ef]
  cases hb:(b==c) with
  | true=>rfl
  | false=>
   simp only[abK]
   rw[GR c r]
   obtain⟨h1,h2⟩:=oy c r
   cases hf:(ef c r).2.2 with
   | true=>rfl
   | false=>rfl
theorem BW (c:UInt8) (s:Bys):bp c s≠[]:=by
 rw[GR]
 cases (ef c s).2.2<;>simp
theorem nQ (c:UInt8):∀ s:Bys,(bp c s).length<=s.length+1/\∀ w,w∈bp c s->w.length<=s.length
 | []=>⟨abd _,fun w hw=>by simp[bp] at hw;simp[hw]⟩
 | b::r=>by
  obtain⟨h1,h2⟩:=nQ c r
  simp only[bp]
  cases hb:(b==c) with
  | true=>
   simp only[abL,aal]
   refine⟨by omega,fun w hw=> ?_⟩
   rcases aaw.1 hw with rfl | hw
   ·simp
   ·have:=h2 w hw;omega
  | false=>
   simp only[abK]
   split
   ·rename_i h t he
    rw[he] at h1 h2
    refine⟨by simp at h1 ⊢;omega,fun w hw=> ?_⟩
    rcases aaw.1 hw with rfl | hw
    ·have:=h2 h (by simp);simp;omega
    ·have:=h2 w (by simp[hw]);simp;omega
   ·exact⟨by simp,fun w hw=>by simp at hw;subst hw;simp⟩
theorem oN (s:Bys) (c:UInt8) (hs:s.length<=1000000):strings_Split s [c]=some (bp c s,()):=by
 simp only[strings_Split]
 rw[abO (by omega)];rfl
def pU (l:List Bys):Bool:=l.all fun w=> !(w==[])
theorem PO (s:Bys) (hs:s.length<=1000000):iU s=some (bif pU (bp 32 s) then bp 32 s else [],pU (bp 32 s),()):=by
 unfold iU
 rw[oN s 32 hs,abx]
 have hlen:=(nQ 32 s).1
 generalize bp 32 s=l at hlen
 dsimp only
 have loop:∀ f,l.length<f->iter f (((l.length:Int),(0:Int),l,()):qz) vu=(if pU l=true then some (Sum.inr (l,())) else some (Sum.inl ([],false,()))):=by
  intro f hf
  refine cV (Inv:=fun i X=>X=(((l.length:Int),(i:Int),l,()):qz)/\pU (l.take i)=true) l.length
   (fun r=>r=(if pU l=true then some (Sum.inr (l,())) else some (Sum.inl ([],false,())))) ?_ ?_ f 0 _ ⟨rfl,rfl⟩ (by omega) (by omega)
  ·rintro i _ again hi ⟨rfl,hb⟩ ih
   unfold vu
   dsimp only
   have hy:l[i]? =some l[i]:=aT hi
   have hym:l[i]∈l:=aai hi
   generalize l[i]=y at hy hym
   rw[aI (by omega),bJ (by simp;omega),Zw,hy,abx,aS (by omega) (by omega)]
   cases he:(y==[]) with
   | true=>
    have:pU l=false:=by
     simp only[pU,Zy]
     exact⟨y,hym,by rw[he];simp⟩
    rw[this];rfl
   | false=>
    rw[abK]
    refine ih _ ⟨rfl, ?_⟩
    simp only[pU] at hb ⊢
    rw[eX hy,List.all_append,hb]
    simpa using he
  ·rintro _ again ⟨rfl,hb⟩
   unfold vu
   dsimp only
   rw[aP (by omega)]
   rw[aaQ (abd _)] at hb
   rw[abY hb]
 rw[loop _ (by omega)]
 cases pU l<;>rfl
end Go.Md
namespace Go.Md
open Go.Dn
def si (s:Bys):Bool:=(decide (s≠[])&&s.all ck)&& !(decide (1<s.length)&&s.head? ==some 48)
def Tb (q:Bys×Bys×Bool):Bool:=si q.1&&(bif q.2.2 then (decide (q.2.1≠[])&&q.2.1.all ck)&&decide (q.2.1.length<=9) else true)
def kH:Bys->Bool×Bys
 | b::r=>bif b==45 then (true,r) else (false,b::r)
 | []=>(false,[])
def KV (neg:Bool) (q:Bys×Bys×Bool):ah×Int:=
 let v:=cU (q.1++q.2.1)
 bif neg&&decide (v=0) then ((0,0),10) else bif decide (v<=1000000000000000) then ((bif neg then -(v:Int) else (v:Int),(q.2.1.length:Int)),0) else ((0,0),1)
def fm (s:Bys):ah×Int:=
 bif decide (40<s.length) then ((0,0),10) else
  bif Tb (ef 46 (kH s).2) then KV (kH s).1 (ef 46 (kH s).2) else ((0,0),10)
theorem Fm (s:Bys) (hs:s.length<=1000000):kj s [45]=some ((kH s).2,(kH s).1,()):=by
 unfold kj iF iH
 cases s with
 | nil=>rfl
 | cons b r=>
  have hl:r.length+1<=1000000:=hs
  rw[aI (by simp;omega),bJ (by simp<;>omega),abx]
  have e1:(List.drop 0 (List.take (Int.toNat (([45]:Bys).length:Int)) (b::r))==[45])=(b==45):=by
   simp
  dsimp only
  rw[e1]
  cases hb:(b==45) with
  | false=>simp[kH,hb]
  | true=>
   rw[Ze,abK,bJ (by simp<;>omega),abx]
   simp[kH,hb]
theorem WJ {s:Bys} (h:s≠[]):∃ b,iV s 0=some b/\((b.toNat:Int)==48)=(s.head? ==some 48):=by
 cases s with
 | nil=>exact absurd rfl h
 | cons b r=>
  refine⟨b,rfl, ?_⟩
  by_cases e:b=48
  ·subst e;rfl
  ·have h1:((b::r:Bys).head? ==some 48)=false:=by simpa using e
   have h2:((b.toNat:Int)==48)=false:=by
    cases hh:((b.toNat:Int)==48) with
    | false=>rfl
    | true=>
     have h3:(b.toNat:Int)=48:=eq_of_beq hh
     exact absurd (abF.1 (show b.toNat=(48:UInt8).toNat from by show b.toNat=48;omega)) e
   rw[h1,h2]
theorem Tp (s:Bys) (hs:s.length<=1000000):rC s=some (si s,()):=by
 unfold rC si
 rw[vq s (by omega),abx]
 dsimp only
 cases hd:(decide (s≠[])&&s.all ck) with
 | false=>rfl
 | true=>
  have hne:s≠[]:=by
   intro e;subst e;cases hd
  obtain⟨b,h1,h2⟩:=WJ hne
  rw[abL]
  cases hl:((s.length:Int)==1) with
  | true=>
   have:=eq_of_beq hl
   rw[abL,abx,abN (show ¬ 1<s.length by omega)]
   rfl
  | false=>
   have hgt:1<s.length:=by
    have h0:0<s.length:=List.length_pos_iff.2 hne
    have hn:(s.length:Int)≠1:=fun e=>by rw[e] at hl;cases hl
    omega
   rw[abK,h1,abx,abx,abO hgt,Zh,Zh, <- h2]
   rfl
theorem Jf (c:UInt8) (s:Bys):(ef c s).1.length+(ef c s).2.1.length<=s.length:=by
 obtain⟨h1,h2⟩:=oy c s
 generalize hq:ef c s=q at h1 h2
 have:=congrArg List.length h1
 cases hf:q.2.2 with
 | true=>rw[hf] at this;simp at this;omega
 | false=>rw[hf] at this;rw[h2 hf];simp at this;simp;omega
theorem NJ (s:Bys):(kH s).2.length<=s.length:=by
 cases s with
 | nil=>simp[kH]
 | cons b r=>
  simp only[kH]
  cases (b==45)<;>simp
theorem B9 (neg:Bool) (a b:Bys) (f:Bool) (ha:a.all ck=true) (hb:b.all ck=true) (hl:a.length+b.length<=40):xq neg a b=some ((KV neg (a,b,f)).1,(KV neg (a,b,f)).2,()):=by
 unfold xq
 rw[BZ 0 (by omega) (by omega),abx,bJ (by rw[Bk];simp;omega)]
 have hall:(a++b).all ck=true:=by rw[List.all_append,ha,hb];rfl
 have hlen:(a++b).length<=40:=by simp;omega
 have loop:∀ n,(a++b).length<n->iter n ((neg,a,b,((a++b).length:Int),(0:Int),0,0,(W 0).1,(W 0).2,()):nu) rD=some (Sum.inr (neg,b,0,0,(W (cU (a++b):Int)).1,(W (cU (a++b):Int)).2,())):=by
  intro n hn
  refine cV (Inv:=fun i X=>X=((neg,a,b,((a++b).length:Int),(i:Int),0,0,(W (cU ((a++b).take i):Int)).1,(W (cU ((a++b).take i):Int)).2,()):nu)) (a++b).length
   (fun r=>r=some (Sum.inr (neg,b,0,0,(W (cU (a++b):Int)).1,(W (cU (a++b):Int)).2,()))) ?_ ?_ n 0 _ (by simp[cU]) (by omega) (by omega)
  ·rintro i _ again hi rfl ih
   unfold rD
   dsimp only
   have hy:(a++b)[i]? =some (a++b)[i]:=aT hi
   have hd:ck (a++b)[i]=true:=Zz.1 hall _ (aai hi)
   generalize (a++b)[i]=y at hy hd
   have ht:((a++b).take i).all ck=true:=Zz.2 fun c hc=>Zz.1 hall c (List.mem_of_mem_take hc)
   have hlt:=Dp (n:=40) ht (by simp;omega)
   have hd2:=oz.1 hd
   have h99:∀ k:Nat,k<10 ^ 42->((k:Nat):Int).natAbs<4294967296 ^ 99:=fun k hk=>by
    rw[Zr];exact Nat.lt_trans hk (by decide)
   have e1:mM ((W (cU ((a++b).take i):Int)).1,(W (cU ((a++b).take i):Int)).2) (W 10)=some (W ((cU ((a++b).take i):Int)*10),()):=GZ _ _ (h99 _ (by omega)) (by decide)
   have e2:nS (W ((cU ((a++b).take i):Int)*10)) (W ((y.toNat - 48:Nat):Int))=some (W ((cU ((a++b).take i):Int)*10+((y.toNat - 48:Nat):Int)),()):=
    Ik _ _ (by have:=h99 (cU ((a++b).take i)*10) (by omega);simpa using this) (h99 _ (by omega))
   rw[aI (by omega),BZ 10 (by omega) (by omega),abx,e1,abx,bJ (by rw[Bk];simp;omega),w6 hy,abx,SO hd,BZ _ (by omega) (by omega),abx,e2,abx,aS (by omega) (by omega)]
   refine ih _ ?_
   rw[eX hy,FG]
   have e3:(((cU ((a++b).take i)*10+(y.toNat - 48):Nat)):Int)=(cU ((a++b).take i):Int)*10+((y.toNat - 48:Nat):Int):=by omega
   rw[e3]
   rfl
  ·rintro _ again rfl
   unfold rD
   dsimp only
   rw[aP (by omega),aaQ (abd _)]
 dsimp only
 rw[loop _ (by simp;omega),bG]
 dsimp only
 have hv:=Dp (n:=40) hall hlen
 have h99:((cU (a++b):Nat):Int).natAbs<4294967296 ^ 99:=by rw[Zr];exact Nat.lt_trans hv (by decide)
 unfold KV
 dsimp only
 generalize cU (a++b)=v at hv h99
 cases neg with
 | false=>
  rw[abK,show mQ ((W (v:Int)).1,(W (v:Int)).2) (b.length:Int)=_ from B8 (v:Int) (b.length:Int),Zr]
  rw[Y6,abK,abK]
  by_cases h:v<=1000000000000000
  ·rw[abY h,abO h];rfl
  ·rw[abX h,abN h];rfl
 | true=>
  rw[abL,show jr ((W (v:Int)).1,(W (v:Int)).2)=_ from Il (v:Int),abx]
  dsimp only
  by_cases h0:v=0
  ·subst h0;rfl
  ·have hs:((v:Int).sign==0)=false:=by
    cases hh:((v:Int).sign==0) with
    | false=>rfl
    | true=>have:=Int.sign_eq_zero_iff_zero.1 (eq_of_beq hh);omega
   rw[hs,abK,abN h0,YY,abK,show jW ((W (v:Int)).1,(W (v:Int)).2)=_ from GY (v:Int) h99,abx,B8,Int.natAbs_neg,Zr]
   by_cases h:v<=1000000000000000
   ·rw[abY h,abO h];rfl
   ·rw[abX h,abN h];rfl
theorem EX (s:Bys) (hs:s.length<=1000000):l7 s=some ((fm s).1,(fm s).2,()):=by
 have hs2:=NJ s
 have hc:=Jf 46 (kH s).2
 unfold l7 fm
 rw[Fm s hs,abx]
 dsimp only
 rw[xd _ 46 (by omega),abx]
 dsimp only
 by_cases h40:40<s.length
 ·rw[aI (by omega),abO h40];rfl
 ·rw[aP (by omega),abN h40,abK]
  rw[Tp _ (by omega),abx]
  dsimp only
  unfold Tb
  generalize hq:ef 46 (kH s).2=q at hc
  obtain⟨a,b,f⟩:=q
  dsimp only at hc ⊢
  cases hw:si a with
  | false=>rfl
  | true=>
   have ha:a.all ck=true:=by
    simp only[si,YX] at hw
    exact hw.1.2
   rw[Ze,abK,Zh]
   cases f with
   | false=>
    have hb:b=[]:=by
     have:=(oy 46 (kH s).2).2
     rw[hq] at this
     exact this rfl
    subst hb
    rw[abK,abx]
    dsimp only
    rw[abK,B9 (kH s).1 a [] false ha rfl (by simp at hc ⊢;omega),abx]
    rfl
   | true=>
    rw[abL,vq b (by omega),abx,abL]
    dsimp only
    cases hd:(decide (b≠[])&&b.all ck) with
    | false=>rfl
    | true=>
     have hb:b.all ck=true:=by simp only[YX] at hd;exact hd.2
     rw[Ze,abK,abx,Zh]
     dsimp only
     by_cases h9:b.length<=9
     ·rw[aP (by omega),abO h9,B9 (kH s).1 a b true ha hb (by omega),abx]
      rfl
     ·rw[aI (by omega),abN h9]
      rfl
theorem Rr (s:Bys) (h:s.all ck=true) (hl:s.length<=40):xL s=some (bif decide (cU s<=1000000000000000) then (cU s:Int) else 0,decide (cU s<=1000000000000000),()):=by
 unfold xL
 have mono:∀ i,cU (s.take i)<=cU s:=fun i=>by
  have hf:∀ (r:Bys) (a:Nat),a<=r.foldl (fun n b=>n*10+(b.toNat - 48)) a:=by
   intro r
   induction r with
   | nil=>intro a;exact abd _
   | cons b r ih=>
    intro a
    simp only[ZU]
    exact abf (by omega) (ih _)
  conv=>rhs;rw[<- aaO i s]
  simp only[cU,List.foldl_append]
  exact hf _ _
 have loop:∀ f,s.length<f->iter f ((s,(0:Int),(s.length:Int),(0:Int),()):nM) rZ=(if cU s<=1000000000000000 then some (Sum.inr ((cU s:Int),())) else some (Sum.inl (0,false,()))):=by
  intro f hf
  refine cV (Inv:=fun i X=>X=((s,(cU (s.take i):Int),(s.length:Int),(i:Int),()):nM)/\cU (s.take i)<=1000000000000000) s.length
   (fun r=>r=(if cU s<=1000000000000000 then some (Sum.inr ((cU s:Int),())) else some (Sum.inl (0,false,())))) ?_ ?_ f 0 _ ⟨by simp[cU],by simp[cU]⟩ (by omega) (by omega)
  ·rintro i _ again hi ⟨rfl,hb⟩ ih
   unfold rZ
   dsimp only
   have hy:s[i]? =some s[i]:=aT hi
   have hd:ck s[i]=true:=Zz.1 h _ (aai hi)
   generalize s[i]=y at hy hd
   have hd2:=oz.1 hd
   have hsn:cU (s.take (i+1))=cU (s.take i)*10+(y.toNat - 48):=by rw[eX hy,FG]
   have hm:=mono (i+1)
   rw[aI (by omega),w6 hy,abx,SO hd,aS (n:=10*_) (by omega) (by omega),aS (by omega) (by omega),aS (n:=(i:Int)+1) (by omega) (by omega)]
   by_cases hc:cU (s.take (i+1))<=1000000000000000
   ·rw[aP (by omega)]
    refine ih _ ⟨?_,hc⟩
    rw[hsn]
    congr 2
    omega
   ·rw[aI (by omega),abX (by omega)]
  ·rintro _ again ⟨rfl,hb⟩
   unfold rZ
   dsimp only
   rw[aP (by omega)]
   rw[aaQ (abd _)] at hb ⊢
   rw[abY hb]
 rw[loop _ (by omega)]
 by_cases hc:cU s<=1000000000000000
 ·rw[abY hc,abO hc];rfl
 ·rw[abX hc,abN hc];rfl
theorem FF:∀ (s:Bys) (a:Nat),s.all ck=true->(s.foldl (fun n b=>n*10+(b.toNat - 48)) a=0↔a=0/\s.all (fun b=>b==48)=true)
 | [],a,_=>by simp
 | b::r,a,h=>by
  simp only[Zx,YX] at h
  have h2:=oz.1 h.1
  simp only[ZU,Zx,YX]
  rw[FF r _ h.2]
  have e:(b==48)=true↔b.toNat=48:=by
   rw[beq_iff_eq]
   exact⟨fun e=>by rw[e];rfl,fun e=>abF.1 (by rw[e];rfl)⟩
  rw[e]
  constructor
  ·rintro⟨h3,h4⟩;exact⟨by omega,by omega,h4⟩
  ·rintro⟨h3,h4,h5⟩;exact⟨by omega,h5⟩
theorem dropWhile_nil {α:Type} (p:α->Bool):∀ l:List α,l.dropWhile p=[]↔l.all p=true
 | []=>by simp
 | a::r=>by
  rw[List.dropWhile_cons,Zx]
  cases h:p a with
  | true=>simp only[abZ,Zh];exact dropWhile_nil p r
  | false=>simp
theorem VB (s:Bys) (hs:s.length<=1000000) (h:s.all ck=true):∃ r,fQ s [48]=some (r,())/\(r==[])=decide (cU s=0):=by
 unfold fQ
 rw[show (decide (s.length<=9223372036854775807)&&(decide (([48]:Bys).length<4294967281)&&([48]:Bys).all fun b=>decide (b.toNat<128)))=true by
  rw[abO (by omega)];rfl,abL]
 refine⟨_,rfl, ?_⟩
 have hp:(fun b=>([48]:Bys).contains b)=(fun b:UInt8=>b==48):=by
  funext b
  simp[List.contains,List.elem]
  cases h:(b==48)<;>simp_all
 have key:Lib.trimS s [48]=[]↔cU s=0:=by
  unfold Lib.trimS Lib.trimLeftS Lib.trimRightS
  rw[hp,dropWhile_nil]
  unfold cU
  rw[FF s 0 h]
  constructor
  ·intro hall
   refine⟨rfl, ?_⟩
   have hr:s.reverse.dropWhile (fun b=>b==48)=[]:=by
    cases hd:s.reverse.dropWhile (fun b=>b==48) with
    | nil=>rfl
    | cons b r=>
     exfalso
     have h1:(b==48)=false:=by
      have:=List.head?_dropWhile_not (fun b:UInt8=>b==48) s.reverse
      rw[hd] at this
      simpa using this
     rw[hd] at hall
     have:=Zz.1 hall b (by simp)
     rw[h1] at this;cases this
   have:=(dropWhile_nil _ _).1 hr
   rw[List.all_reverse] at this
   exact this
  ·rintro⟨_,hall⟩
   have:s.reverse.dropWhile (fun b=>b==48)=[]:=(dropWhile_nil _ _).2 (by rw[List.all_reverse];exact hall)
   rw[this];rfl
 by_cases h0:cU s=0
 ·rw[key.2 h0,abO h0];rfl
 ·rw[abN h0]
  cases hh:Lib.trimS s [48] with
  | nil=>exact absurd (key.1 hh) h0
  | cons a b=>rfl
theorem MJ (s:Bys) (hs:s.length<=1000000):gF s=some ((fm s).1,(fm s).2,()):=by
 have hs2:=NJ s
 have hc:=Jf 46 (kH s).2
 unfold gF fm
 by_cases h40:40<s.length
 ·rw[aI (by omega),abO h40];rfl
 ·rw[aP (by omega),abN h40,abK,Fm s hs,abx]
  dsimp only
  rw[xd _ 46 (by omega),abx]
  dsimp only
  unfold Tb
  generalize hq:ef 46 (kH s).2=q at hc
  obtain⟨a,b,f⟩:=q
  dsimp only at hc ⊢
  have hbn:f=false->b=[]:=fun e=>by
   have:=(oy 46 (kH s).2).2
   rw[hq] at this
   exact this e
  rw[CG a (by omega),abx]
  dsimp only
  have hform:∀ (K:Bool×Unit->Option (ah×Int×Unit)),(Option.bind (bif f then (Option.bind (jB b) fun r5=>bif !r5.1 then some (true,()) else some (decide (((b.length:Nat):Int)>9),())) else some (decide (((b.length:Nat):Int)>9),())) K)=
   K (!(bif f then (decide (b≠[])&&b.all ck)&&decide (b.length<=9) else true),()):=fun K=>by
   cases f with
   | false=>
    have:=hbn rfl
    subst this
    rfl
   | true=>
    rw[abL,CG b (by omega),abx,abL]
    dsimp only
    cases (decide (b≠[])&&b.all ck) with
    | false=>rfl
    | true=>
     rw[Ze,abK,abx,Zh]
     have:decide (((b.length:Nat):Int)>9)= !decide (b.length<=9):=by
      by_cases h9:b.length<=9
      ·rw[abO h9];exact abN (by omega)
      ·rw[abN h9];exact abO (by omega)
     rw[this]
  have hfm:∀ (K:Bool×Unit->Option (ah×Int×Unit)),(Option.bind (bif !(decide (a≠[])&&a.all ck) then some (true,()) else bif decide (((a.length:Nat):Int)>1) then (Option.bind (iV a 0) fun c4=>bif (c4.toNat:Int)==48 then some (true,()) else
   bif f then (Option.bind (jB b) fun r5=>bif !r5.1 then some (true,()) else some (decide (((b.length:Nat):Int)>9),())) else some (decide (((b.length:Nat):Int)>9),())) else
   bif f then (Option.bind (jB b) fun r5=>bif !r5.1 then some (true,()) else some (decide (((b.length:Nat):Int)>9),())) else some (decide (((b.length:Nat):Int)>9),())) K)=
   K (!(si a&&(bif f then (decide (b≠[])&&b.all ck)&&decide (b.length<=9) else true)),()):=fun K=>by
   unfold si
   cases hd:(decide (a≠[])&&a.all ck) with
   | false=>rfl
   | true=>
    have hne:a≠[]:=by intro e;subst e;cases hd
    obtain⟨c,h1,h2⟩:=WJ hne
    rw[Ze,abK,Zh]
    by_cases hgt:1<a.length
    ·rw[aI (by omega),h1,abx,h2,abO hgt,Zh]
     cases (a.head? ==some 48) with
     | true=>rfl
     | false=>rw[abK,hform];rfl
    ·rw[aP (by omega),abN hgt,hform];rfl
  rw[hfm]
  dsimp only
  cases hok:(si a&&(bif f then (decide (b≠[])&&b.all ck)&&decide (b.length<=9) else true)) with
  | false=>rfl
  | true=>
   simp only[YX] at hok
   have ha:a.all ck=true:=by
    have:=hok.1
    simp only[si,YX] at this
    exact this.1.2
   have hb:b.all ck=true:=by
    cases f with
    | false=>rw[hbn rfl];rfl
    | true=>
     have:=hok.2
     simp only[abL,YX] at this
     exact this.1.2
   have hall:(a++b).all ck=true:=by rw[List.all_append,ha,hb];rfl
   rw[Ze,abK]
   obtain⟨r,ht1,ht2⟩:=VB (a++b) (by simp;omega) hall
   have hch:(decide (a.length+b.length<=maxLen))=true:=abO (by rw[Bk];omega)
   rw[bJ hch,bJ hch,ht1,abx]
   dsimp only
   rw[ht2,Rr _ hall (by simp;omega),abL]
   unfold KV
   dsimp only
   have hv:=Dp (n:=40) hall (by simp;omega)
   generalize cU (a++b)=v at hv
   cases (kH s).1 with
   | false=>
    rw[abK,abx,abx,Y6,abK]
    dsimp only
    by_cases hm:v<=1000000000000000
    ·rw[abO hm];rfl
    ·rw[abN hm];rfl
   | true=>
    rw[abL,abx,Zh]
    dsimp only
    by_cases h0:v=0
    ·rw[abO h0];rfl
    ·rw[abN h0,abK,abK,abx]
     dsimp only
     by_cases hm:v<=1000000000000000
     ·rw[abO hm,abL,Ze,abK,abL,abL,aS (by omega) (by omega),Int.zero_sub]
      rfl
     ·rw[abN hm];rfl
end Go.Md
