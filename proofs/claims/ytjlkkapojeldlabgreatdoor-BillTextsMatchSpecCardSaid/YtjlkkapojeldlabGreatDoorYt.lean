/-
  Plain facts: numbers, words, decimals, as both sides read them. No condition.
-/
import Derived.Test.YtjlkkapojeldlabGreatDoorYo
import Derived.Test.YtjlkkapojeldlabGreatDoorYr
import Derived.Test.YtjlkkapojeldlabGreatDoorYq
import Derived.Test.YtjlkkapojeldlabGreatDoorYs
set_option linter.all false
namespace Go.Md
open Go.Dn
def gp (s:Bys):Nat:=s.foldl (fun n b=>n*10+(b.toNat - 48)) 0
theorem Ib (s:Bys) (b:UInt8):gp (s++[b])=gp s*10+(b.toNat - 48):=by
 simp[gp,List.foldl_append]
theorem xM {c:UInt8}:dz c=true↔48<=c.toNat/\c.toNat<=57:=by
 simp[dz]
theorem MN:∀ (s:Bys) (a:Nat),s.all dz=true->s.foldl (fun n b=>n*10+(b.toNat - 48)) a<(a+1)*10 ^ s.length
 | [],a,_=>by simp
 | b::r,a,h=>by
  simp only[adP,adj] at h
  have h1:=MN r (a*10+(b.toNat - 48)) h.2
  have h2:=xM.1 h.1
  simp only[aed,aez]
  refine aft h1 ?_
  rw[afG,show (a+1)*(10 ^ r.length*10)=(10*(a+1))*10 ^ r.length by rw[Nat.mul_comm (10 ^ r.length) 10, <- Nat.mul_assoc,Nat.mul_comm (a+1) 10]]
  exact afB _ (by omega)
theorem aa1 {s:Bys} (h:s.all dz=true):gp s<10 ^ s.length:=by
 have:=MN s 0 h
 simpa [gp] using this
theorem Sq {s:Bys} {n:Nat} (h:s.all dz=true) (hl:s.length<=n):gp s<10 ^ n:=
 aft (aa1 h) (afF (by omega) hl)
theorem KA:∀ (s:Bys) (a:Nat),s.all dz=true->Lib.decFrom a s=some (s.foldl (fun n b=>n*10+(b.toNat - 48)) a)
 | [],a,_=>rfl
 | b::r,a,h=>by
  simp only[adP,adj] at h
  have h2:=xM.1 h.1
  simp only[Lib.decFrom,Lib.digitVal,af9 h2,aed]
  exact KA r _ h.2
theorem ZV {s:Bys} (h:s.all dz=true) (h0:s≠[]):Lib.atoi s=some (gp s:Int):=by
 cases s with
 | nil=>exact absurd rfl h0
 | cons b r=>
  have h2:48<=b.toNat/\b.toNat<=57:=by
   simp only[adP,adj] at h
   exact xM.1 h.1
  have e1:(b==45)=false:=by
   cases e:b==45 with
   | false=>rfl
   | true=>have:=eq_of_beq e;subst this;exact absurd h2.1 (by decide)
  have e2:(b==43)=false:=by
   cases e:b==43 with
   | false=>rfl
   | true=>have:=eq_of_beq e;subst this;exact absurd h2.1 (by decide)
  simp only[Lib.atoi,e1,e2,ado,af7,Lib.decNat,List.isEmpty_cons]
  rw[KA _ _ h]
  rfl
def iF (s:Bys):Bool:= !(s==[])&&(decide (s.length<=16)&&(!(decide (1<s.length)&&s.head? ==some 48)&&s.all dz))
def mX (s:Bys):Int:=bif iF s then (gp s:Int) else 0
theorem WS:WR=dz:=rfl
theorem Re (s:Bys):oG s 16=some (mX s,iF s,()):=by
 unfold oG mX iF
 rw[WS]
 by_cases h16:s.length<=16
 ·rw[aM (by omega),af0 (show s.length<=18 by omega),afX,af0 h16,ady]
  cases h0:(s==[]) with
  | true=>rfl
  | false=>
   cases hd:s.all dz with
   | false=>simp
   | true=>
    cases hz:(decide (1<s.length)&&s.head? ==some 48) with
    | true=>rfl
    | false=>
     rw[ZV hd (by intro e;rw[e] at h0;cases h0)]
     rfl
 ·rw[aI (by omega),afZ h16]
  cases (s==[])<;>rfl
theorem abL {c:UInt8} (h:dz c=true):w64 (wu8 ((c.toNat:Int) - 48))=((c.toNat - 48:Nat):Int):=by
 have h2:=xM.1 h
 have:wu8 ((c.toNat:Int) - 48)=(c.toNat:Int) - 48:=EM (by simp[IntKind.min,IntKind.bits,IntKind.signed];omega) (by simp[IntKind.max,IntKind.bits,IntKind.signed];omega)
 rw[this,aK (by omega) (by omega)]
 omega
end Go.Md
namespace Go.Md
open Go.Dn
def eV (c:UInt8):Bys->Bys×Bys×Bool
 | []=>([],[],false)
 | b::r=>bif b==c then ([],r,true) else (b::(eV c r).1,(eV c r).2.1,(eV c r).2.2)
theorem MG (c:UInt8):∀ s:Bys,Lib.indexByte s c=(bif (eV c s).2.2 then (((eV c s).1.length:Nat):Int) else -1)
 | []=>rfl
 | b::r=>by
  simp only[Lib.indexByte,eV]
  cases hb:(b==c) with
  | true=>rfl
  | false=>
   rw[MG c r]
   simp only[ado,af7,afW]
   cases (eV c r).2.2 with
   | true=>
    simp only[afX,aez]
    have hne:((((eV c r).1.length:Nat):Int)== -1)=false:=by
     cases h:((((eV c r).1.length:Nat):Int)== -1) with
     | false=>rfl
     | true=>have:=eq_of_beq h;omega
    rw[hne]
    simp
   | false=>rfl
theorem wj (c:UInt8):∀ s:Bys,s=(eV c s).1++(bif (eV c s).2.2 then c::(eV c s).2.1 else [])/\((eV c s).2.2=false->(eV c s).2.1=[])
 | []=>⟨rfl,fun _=>rfl⟩
 | b::r=>by
  obtain⟨h1,h2⟩:=wj c r
  simp only[eV]
  cases hb:(b==c) with
  | true=>exact⟨by rw[eq_of_beq hb];rfl,fun h=>by cases h⟩
  | false=>
   simp only[afW]
   exact⟨by rw[adV, <- h1],h2⟩
theorem aaf (s:Bys) (c:UInt8):gO s [c]=some (Lib.indexByte s c,()):=by
 unfold gO
 have e0:((([c]:Bys).length:Int)==0)=false:=rfl
 have e1:((([c]:Bys).length:Int)==1)=true:=rfl
 have e2:iS [c] 0=some c:=rfl
 have e3:cY s (c.toNat:Int)=some (Lib.indexByte s c,()):=by
  unfold cY
  have:((c.toNat:Int).toNat).toUInt8=c:=by
   rw[adN]
   exact UInt8.toNat_inj.1 (by simp)
  rw[this]
 rw[e0,afW,e1,afX,e2,afJ,e3,afJ]
 cases h:([c]==s) with
 | false=>rfl
 | true=>
  have:=eq_of_beq h
  subst this
  simp[Lib.indexByte]
theorem PC (s:Bys) (c:UInt8) (hs:s.length<=1000000):uo s [c]=some ((eV c s).1,(eV c s).2.1,(eV c s).2.2,()):=by
 unfold uo kT
 rw[aaf,afJ,MG]
 obtain⟨h1,h2⟩:=wj c s
 generalize eV c s=q at h1 h2
 obtain⟨a,r,f⟩:=q
 simp only at h1 h2 ⊢
 cases f with
 | false=>
  simp only[afW] at h1 ⊢
  rw[aM (by omega),h2 rfl,afJ]
  rw[adU] at h1
  rw[<- h1]
 | true=>
  simp only[afX] at h1 ⊢
  have hl:s.length=a.length+(r.length+1):=by rw[h1];simp
  have ew:w64 ((a.length:Int)+(([c]:Bys).length:Int))=(a.length:Int)+(([c]:Bys).length:Int):=aK (by simp;omega) (by simp;omega)
  simp only[ew]
  rw[aI (by omega),aC (by simp<;>omega),aC (by simp<;>omega),afJ]
  have t1:List.drop 0 (List.take (Int.toNat (a.length:Int)) s)=a:=by
   rw[h1];simp
  have t2:List.drop (Int.toNat ((a.length:Int)+(([c]:Bys).length:Int))) (List.take (Int.toNat (s.length:Int)) s)=r:=by
   rw[show Int.toNat ((a.length:Int)+(([c]:Bys).length:Int))=a.length+1 by simp<;>omega,adN,afd (afq _),h1, <- ad0,ad3]
   rfl
  rw[t1,t2]
theorem Jh (c:UInt8):∀ s:Bys,bh c s=(bif (eV c s).2.2 then (eV c s).1::bh c (eV c s).2.1 else [s])
 | []=>rfl
 | b::r=>by
  simp only[bh,eV]
  cases hb:(b==c) with
  | true=>rfl
  | false=>
   simp only[afW]
   rw[Jh c r]
   obtain⟨h1,h2⟩:=wj c r
   cases hf:(eV c r).2.2 with
   | true=>rfl
   | false=>rfl
theorem La (c:UInt8) (s:Bys):bh c s≠[]:=by
 rw[Jh]
 cases (eV c s).2.2<;>simp
theorem rF (c:UInt8):∀ s:Bys,(bh c s).length<=s.length+1/\∀ w,w∈bh c s->w.length<=s.length
 | []=>⟨afq _,fun w hw=>by simp[bh] at hw;simp[hw]⟩
 | b::r=>by
  obtain⟨h1,h2⟩:=rF c r
  simp only[bh]
  cases hb:(b==c) with
  | true=>
   simp only[afX,aez]
   refine⟨by omega,fun w hw=> ?_⟩
   rcases aeO.1 hw with rfl | hw
   ·simp
   ·have:=h2 w hw;omega
  | false=>
   simp only[afW]
   split
   ·rename_i h t he
    rw[he] at h1 h2
    refine⟨by simp at h1 ⊢;omega,fun w hw=> ?_⟩
    rcases aeO.1 hw with rfl | hw
    ·have:=h2 h (by simp);simp;omega
    ·have:=h2 w (by simp[hw]);simp;omega
   ·exact⟨by simp,fun w hw=>by simp at hw;subst hw;simp⟩
theorem vm (s:Bys) (c:UInt8) (hs:s.length<=1000000):strings_Split s [c]=some (bh c s,()):=by
 simp only[strings_Split]
 rw[af0 (by omega)];rfl
def su (l:List Bys):Bool:=l.all fun w=> !(w==[])
theorem SY (s:Bys) (hs:s.length<=1000000):iR s=some (bif su (bh 32 s) then bh 32 s else [],su (bh 32 s),()):=by
 unfold iR
 rw[vm s 32 hs,afJ]
 have hlen:=(rF 32 s).1
 generalize bh 32 s=l at hlen
 dsimp only
 have loop:∀ f,l.length<f->iter f (((l.length:Int),(0:Int),l,()):qL) wA=(if su l=true then some (Sum.inr (l,())) else some (Sum.inl ([],false,()))):=by
  intro f hf
  refine dG (Inv:=fun i X=>X=(((l.length:Int),(i:Int),l,()):qL)/\su (l.take i)=true) l.length
   (fun r=>r=(if su l=true then some (Sum.inr (l,())) else some (Sum.inl ([],false,())))) ?_ ?_ f 0 _ ⟨rfl,rfl⟩ (by omega) (by omega)
  ·rintro i _ again hi ⟨rfl,hb⟩ ih
   unfold wA
   dsimp only
   have hy:l[i]? =some l[i]:=aP hi
   have hym:l[i]∈l:=aew hi
   generalize l[i]=y at hy hym
   rw[aI (by omega),aC (by simp;omega),adN,hy,afJ,aK (by omega) (by omega)]
   cases he:(y==[]) with
   | true=>
    have:su l=false:=by
     simp only[su,List.all_eq_false]
     exact⟨y,hym,by rw[he];simp⟩
    rw[this];rfl
   | false=>
    rw[afW]
    refine ih _ ⟨rfl, ?_⟩
    simp only[su] at hb ⊢
    rw[jV hy,adO,hb]
    simpa using he
  ·rintro _ again ⟨rfl,hb⟩
   unfold wA
   dsimp only
   rw[aM (by omega)]
   rw[afd (afq _)] at hb
   rw[af9 hb]
 rw[loop _ (by omega)]
 cases su l<;>rfl
end Go.Md
namespace Go.Md
open Go.Dn
def yw (s:Bys):Bool:=(decide (s≠[])&&s.all dz)&& !(decide (1<s.length)&&s.head? ==some 48)
def Rv (q:Bys×Bys×Bool):Bool:=yw q.1&&(bif q.2.2 then (decide (q.2.1≠[])&&q.2.1.all dz)&&decide (q.2.1.length<=9) else true)
def mL:Bys->Bool×Bys
 | b::r=>bif b==45 then (true,r) else (false,b::r)
 | []=>(false,[])
def Nq (neg:Bool) (q:Bys×Bys×Bool):ah×Int:=
 let v:=gp (q.1++q.2.1)
 bif neg&&decide (v=0) then ((0,0),10) else bif decide (v<=1000000000000000) then ((bif neg then -(v:Int) else (v:Int),(q.2.1.length:Int)),0) else ((0,0),1)
def eK (s:Bys):ah×Int:=
 bif decide (40<s.length) then ((0,0),10) else
  bif Rv (eV 46 (mL s).2) then Nq (mL s).1 (eV 46 (mL s).2) else ((0,0),10)
theorem Se (s:Bys) (hs:s.length<=1000000):ki s [45]=some ((mL s).2,(mL s).1,()):=by
 unfold ki iB iD
 cases s with
 | nil=>rfl
 | cons b r=>
  have hl:r.length+1<=1000000:=hs
  rw[aI (by simp;omega),aC (by simp<;>omega),afJ]
  have e1:(List.drop 0 (List.take (Int.toNat (([45]:Bys).length:Int)) (b::r))==[45])=(b==45):=by
   simp
  dsimp only
  rw[e1]
  cases hb:(b==45) with
  | false=>simp[mL,hb]
  | true=>
   rw[adv,afW,aC (by simp<;>omega),afJ]
   simp[mL,hb]
theorem acQ {s:Bys} (h:s≠[]):∃ b,iS s 0=some b/\((b.toNat:Int)==48)=(s.head? ==some 48):=by
 cases s with
 | nil=>exact absurd rfl h
 | cons b r=>
  refine⟨b,rfl, ?_⟩
  by_cases e:b=48
  ·subst e;rfl
  ·have h1:((b::r:Bys).head? ==some 48)=false:=by simpa using e
   have h2:((b.toNat:Int)==48)=false:=by
    cases hh:((b.toNat:Int)==48) with
    | false=>rfl
    | true=>
     have h3:(b.toNat:Int)=48:=eq_of_beq hh
     exact absurd (UInt8.toNat_inj.1 (show b.toNat=(48:UInt8).toNat from by show b.toNat=48;omega)) e
   rw[h1,h2]
theorem WT (s:Bys) (hs:s.length<=1000000):rU s=some (yw s,()):=by
 unfold rU yw
 rw[wz s (by omega),afJ]
 dsimp only
 cases hd:(decide (s≠[])&&s.all dz) with
 | false=>rfl
 | true=>
  have hne:s≠[]:=by
   intro e;subst e;cases hd
  obtain⟨b,h1,h2⟩:=acQ hne
  rw[afX]
  cases hl:((s.length:Int)==1) with
  | true=>
   have:=eq_of_beq hl
   rw[afX,afJ,afZ (show ¬ 1<s.length by omega)]
   rfl
  | false=>
   have hgt:1<s.length:=by
    have h0:0<s.length:=aeD.2 hne
    have hn:(s.length:Int)≠1:=fun e=>by rw[e] at hl;cases hl
    omega
   rw[afW,h1,afJ,afJ,af0 hgt,ady,ady, <- h2]
   rfl
theorem ZZ (c:UInt8) (s:Bys):(eV c s).1.length+(eV c s).2.1.length<=s.length:=by
 obtain⟨h1,h2⟩:=wj c s
 generalize hq:eV c s=q at h1 h2
 have:=congrArg List.length h1
 cases hf:q.2.2 with
 | true=>rw[hf] at this;simp at this;omega
 | false=>rw[hf] at this;rw[h2 hf];simp at this;simp;omega
theorem ZF (s:Bys):(mL s).2.length<=s.length:=by
 cases s with
 | nil=>simp[mL]
 | cons b r=>
  simp only[mL]
  cases (b==45)<;>simp
theorem DN (neg:Bool) (a b:Bys) (f:Bool) (ha:a.all dz=true) (hb:b.all dz=true) (hl:a.length+b.length<=40):yC neg a b=some ((Nq neg (a,b,f)).1,(Nq neg (a,b,f)).2,()):=by
 unfold yC
 rw[yZ 0 (by omega) (by omega),afJ,aC (by rw[fo];simp;omega)]
 have hall:(a++b).all dz=true:=by rw[adO,ha,hb];rfl
 have hlen:(a++b).length<=40:=by simp;omega
 have loop:∀ n,(a++b).length<n->iter n ((neg,a,b,((a++b).length:Int),(0:Int),0,0,(W 0).1,(W 0).2,()):nE) rW=some (Sum.inr (neg,b,0,0,(W (gp (a++b):Int)).1,(W (gp (a++b):Int)).2,())):=by
  intro n hn
  refine dG (Inv:=fun i X=>X=((neg,a,b,((a++b).length:Int),(i:Int),0,0,(W (gp ((a++b).take i):Int)).1,(W (gp ((a++b).take i):Int)).2,()):nE)) (a++b).length
   (fun r=>r=some (Sum.inr (neg,b,0,0,(W (gp (a++b):Int)).1,(W (gp (a++b):Int)).2,()))) ?_ ?_ n 0 _ (by simp[gp]) (by omega) (by omega)
  ·rintro i _ again hi rfl ih
   unfold rW
   dsimp only
   have hy:(a++b)[i]? =some (a++b)[i]:=aP hi
   have hd:dz (a++b)[i]=true:=adQ.1 hall _ (aew hi)
   generalize (a++b)[i]=y at hy hd
   have ht:((a++b).take i).all dz=true:=adQ.2 fun c hc=>adQ.1 hall c (aeV hc)
   have hlt:=Sq (n:=40) ht (by simp;omega)
   have hd2:=xM.1 hd
   have h99:∀ k:Nat,k<10 ^ 42->((k:Nat):Int).natAbs<4294967296 ^ 99:=fun k hk=>by
    rw[adI];exact afy hk (by decide)
   have e1:mP ((W (gp ((a++b).take i):Int)).1,(W (gp ((a++b).take i):Int)).2) (W 10)=some (W ((gp ((a++b).take i):Int)*10),()):=Jq _ _ (h99 _ (by omega)) (by decide)
   have e2:nY (W ((gp ((a++b).take i):Int)*10)) (W ((y.toNat - 48:Nat):Int))=some (W ((gp ((a++b).take i):Int)*10+((y.toNat - 48:Nat):Int)),()):=
    Kt _ _ (by have:=h99 (gp ((a++b).take i)*10) (by omega);simpa using this) (h99 _ (by omega))
   rw[aI (by omega),yZ 10 (by omega) (by omega),afJ,e1,afJ,aC (by rw[fo];simp;omega),F6 hy,afJ,abL hd,yZ _ (by omega) (by omega),afJ,e2,afJ,aK (by omega) (by omega)]
   refine ih _ ?_
   rw[jV hy,Ib]
   have e3:(((gp ((a++b).take i)*10+(y.toNat - 48):Nat)):Int)=(gp ((a++b).take i):Int)*10+((y.toNat - 48:Nat):Int):=by omega
   rw[e3]
   rfl
  ·rintro _ again rfl
   unfold rW
   dsimp only
   rw[aM (by omega),afd (afq _)]
 dsimp only
 rw[loop _ (by simp;omega),aU]
 dsimp only
 have hv:=Sq (n:=40) hall hlen
 have h99:((gp (a++b):Nat):Int).natAbs<4294967296 ^ 99:=by rw[adI];exact afy hv (by decide)
 unfold Nq
 dsimp only
 generalize gp (a++b)=v at hv h99
 cases neg with
 | false=>
  rw[afW,show mT ((W (v:Int)).1,(W (v:Int)).2) (b.length:Int)=_ from DM (v:Int) (b.length:Int),adI]
  rw[adn,afW,afW]
  by_cases h:v<=1000000000000000
  ·rw[af9 h,af0 h];rfl
  ·rw[af8 h,afZ h];rfl
 | true=>
  rw[afX,show jf ((W (v:Int)).1,(W (v:Int)).2)=_ from Ku (v:Int),afJ]
  dsimp only
  by_cases h0:v=0
  ·subst h0;rfl
  ·have hs:((v:Int).sign==0)=false:=by
    cases hh:((v:Int).sign==0) with
    | false=>rfl
    | true=>have:=Int.sign_eq_zero_iff_zero.1 (eq_of_beq hh);omega
   rw[hs,afW,afZ h0,adk,afW,show jQ ((W (v:Int)).1,(W (v:Int)).2)=_ from Jp (v:Int) h99,afJ,DM,Int.natAbs_neg,adI]
   by_cases h:v<=1000000000000000
   ·rw[af9 h,af0 h];rfl
   ·rw[af8 h,afZ h];rfl
theorem Hi (s:Bys) (hs:s.length<=1000000):l7 s=some ((eK s).1,(eK s).2,()):=by
 have hs2:=ZF s
 have hc:=ZZ 46 (mL s).2
 unfold l7 eK
 rw[Se s hs,afJ]
 dsimp only
 rw[PC _ 46 (by omega),afJ]
 dsimp only
 by_cases h40:40<s.length
 ·rw[aI (by omega),af0 h40];rfl
 ·rw[aM (by omega),afZ h40,afW]
  rw[WT _ (by omega),afJ]
  dsimp only
  unfold Rv
  generalize hq:eV 46 (mL s).2=q at hc
  obtain⟨a,b,f⟩:=q
  dsimp only at hc ⊢
  cases hw:yw a with
  | false=>rfl
  | true=>
   have ha:a.all dz=true:=by
    simp only[yw,adj] at hw
    exact hw.1.2
   rw[adv,afW,ady]
   cases f with
   | false=>
    have hb:b=[]:=by
     have:=(wj 46 (mL s).2).2
     rw[hq] at this
     exact this rfl
    subst hb
    rw[afW,afJ]
    dsimp only
    rw[afW,DN (mL s).1 a [] false ha rfl (by simp at hc ⊢;omega),afJ]
    rfl
   | true=>
    rw[afX,wz b (by omega),afJ,afX]
    dsimp only
    cases hd:(decide (b≠[])&&b.all dz) with
    | false=>rfl
    | true=>
     have hb:b.all dz=true:=by simp only[adj] at hd;exact hd.2
     rw[adv,afW,afJ,ady]
     dsimp only
     by_cases h9:b.length<=9
     ·rw[aM (by omega),af0 h9,DN (mL s).1 a b true ha hb (by omega),afJ]
      rfl
     ·rw[aI (by omega),afZ h9]
      rfl
end Go.Md
